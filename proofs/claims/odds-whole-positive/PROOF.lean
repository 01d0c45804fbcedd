import PyProof.Rows.All
import Wide.All
import OpenK.AllK
import Wide.FinOn
import KE.KStateDown
import HandS.ForMost
import HandS.Conv
import HandS.Deep
import HandS.IsInst
import HandS.Defaults
import HandS.MakeKwOnly
import HandS.Gcd
import HandS.Wide
import HandS.TupSets
import HandS.DictComp
import HandS.More
import HandS.Walk
import HandS.Head0
import HandS.Head1
import HandS.Head2
import HandS.HeadEnd
import HandS.HeadHook1
import HandS.HeadHook2
import HandS.HeadHook3
import HandS.HeadHook4
import HandS.HeadWalk
import KE.GoesEnum
import PySem.Challenge.RW_oddscall_k30_whole_positive_by_runs
set_option Elab.async false
set_option linter.all false
set_option maxRecDepth 100000
set_option maxHeartbeats 4000000
/-! Part 1: data in the heap, evaluation to data. -/
namespace Odd
open PySem PySem.Spec PyProof.Rows L2

/-! ### data -/
/-- what a value stands for: t a tuple that is tracked, c a tuple tracked or written, l a list that is tracked, o an object -/
inductive D where
  | i (n : Int) | s (x : Str) | b (k : Bool) | n
  | t (l : List D) | c (l : List D) | l (l : List D) | o (a : Addr)

mutual
def Dn (K : PySem.W.Frag) (H : Hp) : D → V → Prop
  | .i n, v => v = .int n
  | .s x, v => v = .str x
  | .b k, v => v = .bl k
  | .n, v => v = .non
  | .t l, v => ∃ a vs, v = .ref a ∧ H a = some (.tup vs) ∧ DnL K H l vs
  | .c l, v => ∃ a vs, v = .ref a ∧ SqT K H a vs ∧ DnL K H l vs
  | .l l, v => ∃ a vs, v = .ref a ∧ H a = some (.lst vs) ∧ DnL K H l vs
  | .o a, v => v = .ref a
def DnL (K : PySem.W.Frag) (H : Hp) : List D → List V → Prop
  | [], vs => vs = []
  | d :: ds, vs => ∃ v r, vs = v :: r ∧ Dn K H d v ∧ DnL K H ds r
end

mutual
/-- no list within -/
def nol : D → Bool
  | .t l => nolL l
  | .c l => nolL l
  | .l _ => false
  | _ => true
def nolL : List D → Bool
  | [] => true
  | d :: ds => nol d && nolL ds
end

/-- the tuples and the instances are kept -/
def Tk (H H' : Hp) : Prop := (∀ a xs, H a = some (.tup xs) → H' a = some (.tup xs)) ∧ (∀ a o xs, H a = some (.frz o (.tup xs)) → H' a = some (.frz o (.tup xs))) ∧ ∀ a C dx fs, H a = some (.ins C dx fs) → H' a = some (.ins C dx fs)
theorem Tk.refl (H : Hp) : Tk H H := ⟨fun _ _ h => h, fun _ _ _ h => h, fun _ _ _ _ h => h⟩
theorem Tk.trans {H H1 H2 : Hp} (a : Tk H H1) (b : Tk H1 H2) : Tk H H2 := ⟨fun _ _ h => b.1 _ _ (a.1 _ _ h), fun _ _ _ h => b.2.1 _ _ _ (a.2.1 _ _ _ h), fun _ _ _ _ h => b.2.2 _ _ _ _ (a.2.2 _ _ _ _ h)⟩
theorem Tk.of {H H' : Hp} (s : Same H H') : Tk H H' := ⟨fun _ _ h => s _ _ h, fun _ _ _ h => s _ _ h, fun _ _ _ _ h => s _ _ h⟩
theorem Tk.wr {H : Hp} {l : Addr} {u o : HO} (e : H l = some u) (h1 : ∀ xs, u ≠ .tup xs) (h2 : ∀ ob xs, u ≠ .frz ob (.tup xs)) (h3 : ∀ C dx fs, u ≠ .ins C dx fs) : Tk H (upd H l o) :=
  ⟨fun a xs h => by rw [upd_ne (fun q => by subst q; rw [e] at h; exact h1 xs (Option.some.inj h))]; exact h,
   fun a ob xs h => by rw [upd_ne (fun q => by subst q; rw [e] at h; exact h2 ob xs (Option.some.inj h))]; exact h,
   fun a C dx fs h => by rw [upd_ne (fun q => by subst q; rw [e] at h; exact h3 C dx fs (Option.some.inj h))]; exact h⟩
theorem Tk.lst {H : Hp} {l : Addr} {xs : List V} {o : HO} (e : H l = some (.lst xs)) : Tk H (upd H l o) := Tk.wr e (fun _ h => nomatch h) (fun _ _ h => nomatch h) fun _ _ _ h => nomatch h
theorem Tk.dT {H : Hp} {l : Addr} {xs : List (List Key × V)} {o : HO} (e : H l = some (.dT xs)) : Tk H (upd H l o) := Tk.wr e (fun _ h => nomatch h) (fun _ _ h => nomatch h) fun _ _ _ h => nomatch h
theorem Tk.frzD {H : Hp} {l : Addr} {xs : List (List Key × V)} {o : HO} {ob : Obj} (e : H l = some (.frz ob (.dT xs))) : Tk H (upd H l o) := Tk.wr e (fun _ h => nomatch h) (fun _ _ h => nomatch h) fun _ _ _ h => nomatch h
theorem Same.new {H : Hp} {p : Addr} {o : HO} (h : H p = none) : Same H (upd H p o) := fun a u e => by
  rw [upd_ne (ne_of_none e h)]
  exact e
theorem Tk.new {H : Hp} {p : Addr} {o : HO} (h : H p = none) : Tk H (upd H p o) := Tk.of (Same.new h)
/-- an object that H does not know may change -/
theorem Same.mut {H H' : Hp} {p : Addr} {o : HO} (e : Same H H') (h : H p = none) : Same H (upd H' p o) := fun a u ha => by
  rw [upd_ne (ne_of_none ha h)]
  exact e a u ha
theorem tk_sqT {K : PySem.W.Frag} {H H' : Hp} {a : Addr} {xs : List V} (e : Tk H H') (h : SqT K H a xs) : SqT K H' a xs := by
  rcases h with (h | ⟨o, h⟩) | h
  · exact .inl (.inl (e.1 _ _ h))
  · exact .inl (.inr ⟨o, e.2.1 _ _ _ h⟩)
  · exact .inr h
theorem same_sqT {K : PySem.W.Frag} {H H' : Hp} {a : Addr} {xs : List V} (e : Same H H') (h : SqT K H a xs) : SqT K H' a xs := tk_sqT (Tk.of e) h
theorem same_sqL {K : PySem.W.Frag} {H H' : Hp} {a : Addr} {xs : List V} (e : Same H H') (h : SqL K H a xs) : SqL K H' a xs := e.seq h

variable {K : PySem.W.Frag}
mutual
theorem Dn.tk {H H' : Hp} (e : Tk H H') : ∀ (d : D) {v : V}, nol d = true → Dn K H d v → Dn K H' d v
  | .i _, _, _, h => h
  | .s _, _, _, h => h
  | .b _, _, _, h => h
  | .n, _, _, h => h
  | .t l, _, q, h => by
    obtain ⟨a, vs, h1, h2, h3⟩ := h
    exact ⟨a, vs, h1, e.1 _ _ h2, DnL.tk e l q h3⟩
  | .c l, _, q, h => by
    obtain ⟨a, vs, h1, h2, h3⟩ := h
    exact ⟨a, vs, h1, tk_sqT e h2, DnL.tk e l q h3⟩
  | .l _, _, q, _ => by cases q
  | .o _, _, _, h => h
theorem DnL.tk {H H' : Hp} (e : Tk H H') : ∀ (l : List D) {vs : List V}, nolL l = true → DnL K H l vs → DnL K H' l vs
  | [], _, _, h => h
  | d :: ds, _, q, h => by
    obtain ⟨v, r, h1, h2, h3⟩ := h
    have q' : (nol d && nolL ds) = true := q
    rw [Bool.and_eq_true] at q'
    exact ⟨v, r, h1, Dn.tk e d q'.1 h2, DnL.tk e ds q'.2 h3⟩
end
mutual
theorem Dn.same {H H' : Hp} (e : Same H H') : ∀ (d : D) {v : V}, Dn K H d v → Dn K H' d v
  | .i _, _, h => h
  | .s _, _, h => h
  | .b _, _, h => h
  | .n, _, h => h
  | .t l, _, h => by
    obtain ⟨a, vs, h1, h2, h3⟩ := h
    exact ⟨a, vs, h1, e _ _ h2, DnL.same e l h3⟩
  | .c l, _, h => by
    obtain ⟨a, vs, h1, h2, h3⟩ := h
    exact ⟨a, vs, h1, same_sqT e h2, DnL.same e l h3⟩
  | .l l, _, h => by
    obtain ⟨a, vs, h1, h2, h3⟩ := h
    exact ⟨a, vs, h1, e _ _ h2, DnL.same e l h3⟩
  | .o _, _, h => h
theorem DnL.same {H H' : Hp} (e : Same H H') : ∀ (l : List D) {vs : List V}, DnL K H l vs → DnL K H' l vs
  | [], _, h => h
  | d :: ds, _, h => by
    obtain ⟨v, r, h1, h2, h3⟩ := h
    exact ⟨v, r, h1, Dn.same e d h2, DnL.same e ds h3⟩
end
theorem DnL.nil {H : Hp} : DnL K H [] [] := rfl
theorem DnL.cons {H : Hp} {d : D} {ds : List D} {v : V} {vs : List V} (h : Dn K H d v) (t : DnL K H ds vs) : DnL K H (d :: ds) (v :: vs) := ⟨v, vs, rfl, h, t⟩
theorem DnL.length {H : Hp} : ∀ {l : List D} {vs : List V}, DnL K H l vs → vs.length = l.length
  | [], _, h => by cases h; rfl
  | _ :: _, _, h => by
    obtain ⟨v, r, h1, _, h3⟩ := h
    subst h1
    exact congrArg Nat.succ (DnL.length h3)
theorem DnL.get {H : Hp} : ∀ {l : List D} {vs : List V} {n : Nat} {d : D}, DnL K H l vs → l[n]? = some d → ∃ v, vs[n]? = some v ∧ Dn K H d v
  | [], _, _, _, _, e => by simp at e
  | _ :: _, _, 0, _, h, e => by
    obtain ⟨v, r, h1, h2, _⟩ := h
    subst h1
    simp at e
    subst e
    exact ⟨v, rfl, h2⟩
  | _ :: _, _, n + 1, _, h, e => by
    obtain ⟨v, r, h1, _, h3⟩ := h
    subst h1
    obtain ⟨u, q1, q2⟩ := DnL.get (n := n) h3 (by simpa using e)
    exact ⟨u, by simpa using q1, q2⟩
theorem DnL.get' {H : Hp} : ∀ {l : List D} {vs : List V} {n : Nat} {v : V}, DnL K H l vs → vs[n]? = some v → ∃ d, l[n]? = some d ∧ Dn K H d v := fun {l vs n v} h e => by
  have hl := h.length
  have hn : n < l.length := by rw [← hl]; exact (List.getElem?_eq_some_iff.mp e).1
  obtain ⟨u, q1, q2⟩ := h.get (List.getElem?_eq_getElem hn)
  rw [e] at q1
  cases q1
  exact ⟨_, List.getElem?_eq_getElem hn, q2⟩
theorem DnL.snoc {H : Hp} : ∀ {l : List D} {vs : List V} {d : D} {v : V}, DnL K H l vs → Dn K H d v → DnL K H (l ++ [d]) (vs ++ [v])
  | [], _, _, _, h, q => by cases h; exact ⟨_, _, rfl, q, rfl⟩
  | _ :: _, _, _, _, h, q => by
    obtain ⟨v, r, h1, h2, h3⟩ := h
    subst h1
    exact ⟨v, _, rfl, h2, DnL.snoc h3 q⟩
theorem DnL.append {H : Hp} : ∀ {l m : List D} {vs ws : List V}, DnL K H l vs → DnL K H m ws → DnL K H (l ++ m) (vs ++ ws)
  | [], _, _, _, h, q => by cases h; exact q
  | _ :: _, _, _, _, h, q => by
    obtain ⟨v, r, h1, h2, h3⟩ := h
    subst h1
    exact ⟨v, _, rfl, h2, DnL.append h3 q⟩
theorem Dn.tc {H : Hp} {l : List D} {v : V} (h : Dn K H (.t l) v) : Dn K H (.c l) v := by
  obtain ⟨a, vs, h1, h2, h3⟩ := h
  exact ⟨a, vs, h1, SqT.of h2, h3⟩
theorem dn_ints {H : Hp} : ∀ {ns : List Int} {vs : List V}, DnL K H (ns.map D.i) vs → vs = ns.map V.int
  | [], _, h => h
  | _ :: _, _, h => by
    obtain ⟨v, r, h1, h2, h3⟩ := h
    subst h1
    rw [show v = _ from h2, dn_ints h3]
    rfl
theorem dn_bls {H : Hp} : ∀ {ns : List Bool} {vs : List V}, DnL K H (ns.map D.b) vs → vs = ns.map V.bl
  | [], _, h => h
  | _ :: _, _, h => by
    obtain ⟨v, r, h1, h2, h3⟩ := h
    subst h1
    rw [show v = _ from h2, dn_bls h3]
    rfl

/-! ### evaluation to data -/
def EvD (K : PySem.W.Frag) (te : TE) (σ : L2.St) (H : Hp) (d : D) : Prop := ∀ H1, Same H H1 → ∀ Q : VK, (∀ v H2, Same H1 H2 → Dn K H2 d v → Q v H2) → te σ H1 Q
def EvA (K : PySem.W.Frag) (ta : TA) (σ : L2.St) (H : Hp) (ds : List D) : Prop := ∀ H1, Same H H1 → ∀ Q : List V → Hp → Prop, (∀ vs H2, Same H1 H2 → DnL K H2 ds vs → Q vs H2) → ta σ H1 Q
def EvT (tt : TT) (σ : L2.St) (H : Hp) (b : Bool) : Prop := ∀ H1, Same H H1 → ∀ Q : Bool → Hp → Prop, (∀ H2, Same H1 H2 → Q b H2) → tt σ H1 Q

section
variable {σ : L2.St} {H H' : Hp} {ta tb te tx : TE} {t u : TT} {d e f : D} {ds : List D}
theorem EvD.mono (s : Same H H') (h : EvD K te σ H d) : EvD K te σ H' d := fun H1 a Q q => h H1 (s.trans a) Q q
theorem EvA.mono {ta : TA} (s : Same H H') (h : EvA K ta σ H ds) : EvA K ta σ H' ds := fun H1 a Q q => h H1 (s.trans a) Q q
theorem EvT.mono {b : Bool} (s : Same H H') (h : EvT t σ H b) : EvT t σ H' b := fun H1 a Q q => h H1 (s.trans a) Q q
theorem EvD.run (h : EvD K te σ H d) {Q : VK} (q : ∀ v H2, Same H H2 → Dn K H2 d v → Q v H2) : te σ H Q := h H (Same.refl H) Q q
theorem EvA.run {ta : TA} (h : EvA K ta σ H ds) {Q : List V → Hp → Prop} (q : ∀ v H2, Same H H2 → DnL K H2 ds v → Q v H2) : ta σ H Q := h H (Same.refl H) Q q
theorem EvT.run {b : Bool} (h : EvT t σ H b) {Q : Bool → Hp → Prop} (q : ∀ H2, Same H H2 → Q b H2) : t σ H Q := h H (Same.refl H) Q q
theorem EvD.to (h : EvD K te σ H d) (e : d = f) : EvD K te σ H f := by rw [← e]; exact h
theorem EvT.to {b c : Bool} (h : EvT t σ H b) (e : b = c) : EvT t σ H c := by rw [← e]; exact h
theorem EvD.tc {l : List D} (h : EvD K te σ H (.t l)) : EvD K te σ H (.c l) := fun H1 a Q q => h H1 a Q fun v H2 s hv => q v H2 s hv.tc
theorem ev_var {i : Nat} {v : V} (h : σ[i]? = some (some v)) (hd : Dn K H d v) : EvD K (tVar i) σ H d := fun H1 a Q q => ⟨v, h, q v H1 (Same.refl H1) (Dn.same a d hd)⟩
theorem ev_i {i : Nat} {z : Int} (h : σ[i]? = some (some (.int z))) : EvD K (tVar i) σ H (.i z) := ev_var h rfl
theorem ev_c {v : V} (hd : Dn K H d v) : EvD K (tC v) σ H d := fun H1 a Q q => q v H1 (Same.refl H1) (Dn.same a d hd)
theorem ev_int {z : Int} : EvD K (tC (.int z)) σ H (.i z) := ev_c rfl
theorem ev_str {z : Str} : EvD K (tC (.str z)) σ H (.s z) := ev_c rfl
theorem ev_bl {z : Bool} : EvD K (tC (.bl z)) σ H (.b z) := ev_c rfl
theorem ev_non : EvD K (tC .non) σ H .n := ev_c rfl
theorem ea_nil : EvA K tNil σ H [] := fun H1 _ Q q => q [] H1 (Same.refl H1) rfl
theorem ea_cons {ta : TA} (h : EvD K te σ H d) (t : EvA K ta σ H ds) : EvA K (tCons te ta) σ H (d :: ds) := fun H1 a Q q =>
  h H1 a _ fun v H2 s2 hv => t H2 (a.trans s2) _ fun vs H3 s3 hvs => q _ H3 (s2.trans s3) ⟨v, vs, rfl, Dn.same s3 d hv, hvs⟩
theorem ea_1 (h : EvD K te σ H d) : EvA K (tCons te tNil) σ H [d] := ea_cons h ea_nil
theorem ea_2 (h : EvD K ta σ H d) (h' : EvD K tb σ H e) : EvA K (tCons ta (tCons tb tNil)) σ H [d, e] := ea_cons h (ea_1 h')
theorem ea_3 (h : EvD K ta σ H d) (h' : EvD K tb σ H e) (h'' : EvD K te σ H f) : EvA K (tCons ta (tCons tb (tCons te tNil))) σ H [d, e, f] := ea_cons h (ea_2 h' h'')
theorem small_le {n : Nat} (h : n ≤ 100000) : n ≤ sizeLine := Nat.le_trans h (by decide)
theorem small_lt {n : Nat} (h : n < 100000) : n < sizeLine := Nat.lt_of_lt_of_le h (by decide)
theorem ev_tup {ta : TA} (h : EvA K ta σ H ds) (hl : ds.length ≤ 100000 := by exact Nat.le_of_ble_eq_true rfl) : EvD K (tTup ta) σ H (.t ds) := fun H1 a Q q =>
  h H1 a _ fun vs H2 s2 hv => ⟨small_le (by rw [hv.length]; exact hl), fun p hp => q _ _ (s2.trans (Same.new hp)) ⟨p, vs, rfl, upd_same, DnL.same (Same.new hp) ds hv⟩⟩
theorem ev_lst {ta : TA} (h : EvA K ta σ H ds) (hl : ds.length ≤ 100000 := by exact Nat.le_of_ble_eq_true rfl) : EvD K (tLst ta) σ H (.l ds) := fun H1 a Q q =>
  h H1 a _ fun vs H2 s2 hv => ⟨small_le (by rw [hv.length]; exact hl), fun p hp => q _ _ (s2.trans (Same.new hp)) ⟨p, vs, rfl, upd_same, DnL.same (Same.new hp) ds hv⟩⟩
/-- ints in, an int, a bool out -/
theorem ev_op0 {g : Int → Int → Int} {x y : Int} (ha : EvD K ta σ H (.i x)) (hb : EvD K tb σ H (.i y)) : EvD K (tOp (rI0 fun i j => .int (g i j)) ta tb) σ H (.i (g x y)) := fun H1 a Q q =>
  ha H1 a _ fun v H2 s2 hv => hb H2 (a.trans s2) _ fun w H3 s3 hw => ⟨x, y, hv, hw, q _ H3 (s2.trans s3) rfl⟩
theorem ev_opC {C : Int → Int → Prop} {g : Int → Int → Int} {x y : Int} (ha : EvD K ta σ H (.i x)) (hb : EvD K tb σ H (.i y)) (hc : C x y) : EvD K (tOp (rI C fun i j => .int (g i j)) ta tb) σ H (.i (g x y)) := fun H1 a Q q =>
  ha H1 a _ fun v H2 s2 hv => hb H2 (a.trans s2) _ fun w H3 s3 hw => ⟨x, y, hv, hw, hc, q _ H3 (s2.trans s3) rfl⟩
theorem ev_cmp0 {g : Int → Int → Bool} {x y : Int} (ha : EvD K ta σ H (.i x)) (hb : EvD K tb σ H (.i y)) : EvD K (tOp (rI0 fun i j => .bl (g i j)) ta tb) σ H (.b (g x y)) := fun H1 a Q q =>
  ha H1 a _ fun v H2 s2 hv => hb H2 (a.trans s2) _ fun w H3 s3 hw => ⟨x, y, hv, hw, q _ H3 (s2.trans s3) rfl⟩
/-- == of ints, texts -/
theorem decV_int {x y : Int} : decide (V.int x = V.int y) = decide (x = y) := by
  by_cases z : x = y
  · subst z; simp
  · rw [decide_eq_false z, decide_eq_false (fun q => z (V.int.inj q))]
theorem decV_str {x y : Str} : decide (V.str x = V.str y) = decide (x = y) := by
  by_cases z : x = y
  · subst z; simp
  · rw [decide_eq_false z, decide_eq_false (fun q => z (V.str.inj q))]
theorem ev_eqI {x y : Int} (ha : EvD K ta σ H (.i x)) (hb : EvD K tb σ H (.i y)) : EvD K (tOp rEq ta tb) σ H (.b (decide (x = y))) := fun H1 a Q q =>
  ha H1 a _ fun v H2 s2 hv => hb H2 (a.trans s2) _ fun w H3 s3 hw => by
    rw [show v = .int x from hv, show w = .int y from hw]
    refine ⟨rfl, q _ H3 (s2.trans s3) ?_⟩
    show V.bl _ = V.bl _
    rw [decV_int]
theorem ev_neI {x y : Int} (ha : EvD K ta σ H (.i x)) (hb : EvD K tb σ H (.i y)) : EvD K (tOp rNe ta tb) σ H (.b (!decide (x = y))) := fun H1 a Q q =>
  ha H1 a _ fun v H2 s2 hv => hb H2 (a.trans s2) _ fun w H3 s3 hw => by
    rw [show v = .int x from hv, show w = .int y from hw]
    refine ⟨rfl, q _ H3 (s2.trans s3) ?_⟩
    show V.bl _ = V.bl _
    rw [decV_int]
theorem ev_eqS {x y : Str} (ha : EvD K ta σ H (.s x)) (hb : EvD K tb σ H (.s y)) : EvD K (tOp rEq ta tb) σ H (.b (decide (x = y))) := fun H1 a Q q =>
  ha H1 a _ fun v H2 s2 hv => hb H2 (a.trans s2) _ fun w H3 s3 hw => by
    rw [show v = .str x from hv, show w = .str y from hw]
    refine ⟨rfl, q _ H3 (s2.trans s3) ?_⟩
    show V.bl _ = V.bl _
    rw [decV_str]
theorem ev_neB {x y : Bool} (ha : EvD K ta σ H (.b x)) (hb : EvD K tb σ H (.b y)) : EvD K (tOp rNe ta tb) σ H (.b (!decide (x = y))) := fun H1 a Q q =>
  ha H1 a _ fun v H2 s2 hv => hb H2 (a.trans s2) _ fun w H3 s3 hw => by
    rw [show v = .bl x from hv, show w = .bl y from hw]
    refine ⟨rfl, q _ H3 (s2.trans s3) ?_⟩
    cases x <;> cases y <;> rfl
/-- an item -/
theorem ev_ix {l : List D} {z : Int} {n : Nat} (ha : EvD K ta σ H (.c l)) (hb : EvD K tb σ H (.i z)) (hz : z = (n : Int)) (hn : l[n]? = some d) : EvD K (tOp (rIxT K) ta tb) σ H d := fun H1 a Q q =>
  ha H1 a _ fun v H2 s2 hv => hb H2 (a.trans s2) _ fun w H3 s3 hw => by
    obtain ⟨p, vs, h1, h2, h3⟩ := hv
    obtain ⟨v', q1, q2⟩ := h3.get hn
    subst hz
    exact ⟨p, vs, n, v', h1, hw, same_sqT s3 h2, atI_nat q1, q _ H3 (s2.trans s3) (Dn.same s3 d q2)⟩
theorem ev_ixL {l : List D} {z : Int} {n : Nat} (ha : EvD K ta σ H (.l l)) (hb : EvD K tb σ H (.i z)) (hz : z = (n : Int)) (hn : l[n]? = some d) : EvD K (tOp (rIxL K) ta tb) σ H d := fun H1 a Q q =>
  ha H1 a _ fun v H2 s2 hv => hb H2 (a.trans s2) _ fun w H3 s3 hw => by
    obtain ⟨p, vs, h1, h2, h3⟩ := hv
    obtain ⟨v', q1, q2⟩ := h3.get hn
    subst hz
    exact ⟨p, vs, n, v', h1, hw, SqL.of (s3 _ _ h2), atI_nat q1, q _ H3 (s2.trans s3) (Dn.same s3 d q2)⟩
/-- len of a tuple, a list -/
theorem ev_lenT {l : List D} (ha : EvD K ta σ H (.c l)) : EvD K (tCB (rLen K) (tCons ta tNil)) σ H (.i (l.length : Int)) := fun H1 a Q q =>
  ha H1 a _ fun v H2 s2 hv => by
    obtain ⟨p, vs, h1, h2, h3⟩ := hv
    subst h1
    refine ⟨_, vs.length, rfl, .inr ⟨_, h2, rfl⟩, q _ H2 s2 ?_⟩
    rw [h3.length]; rfl
theorem ev_lenL {l : List D} (ha : EvD K ta σ H (.l l)) : EvD K (tCB (rLen K) (tCons ta tNil)) σ H (.i (l.length : Int)) := fun H1 a Q q =>
  ha H1 a _ fun v H2 s2 hv => by
    obtain ⟨p, vs, h1, h2, h3⟩ := hv
    subst h1
    refine ⟨_, vs.length, rfl, .inl ⟨_, SqL.of h2, rfl⟩, q _ H2 s2 ?_⟩
    rw [h3.length]; rfl
/-! tests -/
theorem et_cmp {b : Bool} (h : EvD K te σ H (.b b)) : EvT (tTest te) σ H b := fun H1 a Q q => h H1 a _ fun v H2 s2 hv => ⟨b, hv, q H2 s2⟩
theorem et_B {b : Bool} (h : EvD K te σ H (.b b)) : EvT (tB te) σ H b := fun H1 a Q q => h H1 a _ fun v H2 s2 hv => ⟨b, hv, q H2 s2⟩
theorem et_and {a b : Bool} (h1 : EvT t σ H a) (h2 : a = true → EvT u σ H b) : EvT (tAnd t u) σ H (a && b) := fun H1 e Q q => h1 H1 e _ fun H2 e2 => by
  cases a with
  | true =>
    show u σ H2 Q
    exact h2 rfl H2 (e.trans e2) Q fun H3 e3 => q H3 (e2.trans e3)
  | false =>
    show Q false H2
    exact q H2 e2
theorem et_or {a b : Bool} (h1 : EvT t σ H a) (h2 : a = false → EvT u σ H b) : EvT (tOr t u) σ H (a || b) := fun H1 e Q q => h1 H1 e _ fun H2 e2 => by
  cases a with
  | true =>
    show Q true H2
    exact q H2 e2
  | false =>
    show u σ H2 Q
    exact h2 rfl H2 (e.trans e2) Q fun H3 e3 => q H3 (e2.trans e3)
theorem et_not {a : Bool} (h1 : EvT t σ H a) : EvT (tNot t) σ H (!a) := fun H1 e _ q => h1 H1 e _ fun H2 e2 => q H2 e2
theorem ev_and {a b : Bool} (h1 : EvD K ta σ H (.b a)) (h2 : a = true → EvD K tb σ H (.b b)) : EvD K (tAndV ta tb) σ H (.b (a && b)) := fun H1 e Q q => h1 H1 e _ fun v H2 e2 hv => by
  refine ⟨a, hv, ?_⟩
  cases a with
  | true => exact iteT (h2 rfl H2 (e.trans e2) Q fun v H3 e3 h3 => q v H3 (e2.trans e3) h3)
  | false => exact iteF (q _ H2 e2 rfl)
theorem ev_or {a b : Bool} (h1 : EvD K ta σ H (.b a)) (h2 : a = false → EvD K tb σ H (.b b)) : EvD K (tOrV ta tb) σ H (.b (a || b)) := fun H1 e Q q => h1 H1 e _ fun v H2 e2 hv => by
  refine ⟨a, hv, ?_⟩
  cases a with
  | true => exact iteT (q _ H2 e2 rfl)
  | false => exact iteF (h2 rfl H2 (e.trans e2) Q fun v H3 e3 h3 => q v H3 (e2.trans e3) h3)
theorem ev_not {a : Bool} (h1 : EvD K ta σ H (.b a)) : EvD K (tNotV ta) σ H (.b (!a)) := fun H1 e _ q => h1 H1 e _ fun v H2 e2 hv => ⟨a, hv, q _ H2 e2 rfl⟩
theorem ev_if {b : Bool} (ht : EvT t σ H b) (h1 : b = true → EvD K ta σ H d) (h2 : b = false → EvD K tb σ H d) : EvD K (tIf t ta tb) σ H d := fun H1 e Q q => ht H1 e _ fun H2 e2 => by
  cases b with
  | true => exact iteT (h1 rfl H2 (e.trans e2) Q fun v H3 e3 h3 => q v H3 (e2.trans e3) h3)
  | false => exact iteF (h2 rfl H2 (e.trans e2) Q fun v H3 e3 h3 => q v H3 (e2.trans e3) h3)
/-- a op b op c -/
theorem ev_chain {r r' : R2} {k1 k2 : Bool} {tc : TE} (h1 : EvD K (tOp r ta tb) σ H (.b k1)) (h : ∀ H1, Same H H1 → ∀ Q : VK, (∀ v H2, Same H1 H2 → Dn K H2 (.b (k1 && k2)) v → Q v H2) → tChain r r' ta tb tc σ H1 Q) : EvD K (tChain r r' ta tb tc) σ H (.b (k1 && k2)) := h
theorem ev_chainI {g g' : Int → Int → Bool} {x y z : Int} {tc : TE} (ha : EvD K ta σ H (.i x)) (hb : EvD K tb σ H (.i y)) (hc : EvD K tc σ H (.i z)) :
    EvD K (tChain (rI0 fun i j => .bl (g i j)) (rI0 fun i j => .bl (g' i j)) ta tb tc) σ H (.b (g x y && g' y z)) := fun H1 a Q q =>
  ha H1 a _ fun v H2 s2 hv => hb H2 (a.trans s2) _ fun w H3 s3 hw => ⟨x, y, hv, hw, g x y, rfl, by
    cases e : g x y with
    | true =>
      refine iteT (hc H3 ((a.trans s2).trans s3) _ fun u H4 s4 hu => ⟨y, z, hw, hu, q _ H4 ((s2.trans s3).trans s4) ?_⟩)
      rw [e]
      rfl
    | false =>
      refine iteF (q _ H3 (s2.trans s3) ?_)
      rw [e]
      rfl⟩
end

/-! ### == of tuples of ints -/
theorem dp_ints {H : Hp} : ∀ ns : List Int, DpAll K H (ns.map V.int) (ns.map PyData.int)
  | [] => .nil
  | n :: ns => .cons (.int n) (dp_ints ns)
theorem dp_c {H : Hp} {ns : List Int} {v : V} (h : Dn K H (.c (ns.map D.i)) v) : Dp K H v (.tuple (ns.map PyData.int)) := by
  obtain ⟨a, vs, h1, h2, h3⟩ := h
  subst h1
  rw [dn_ints h3] at h2
  exact .tup h2 (dp_ints ns)
theorem eqv_ints : ∀ ns ms : List Int, PyData.eqvAll (ns.map PyData.int) (ms.map PyData.int) = decide (ns = ms)
  | [], [] => rfl
  | [], _ :: _ => rfl
  | _ :: _, [] => rfl
  | n :: ns, m :: ms => by
    show (PyData.eqv (.int n) (.int m) && PyData.eqvAll (ns.map PyData.int) (ms.map PyData.int)) = _
    rw [eqv_ints ns ms]
    show ((n == m) && decide (ns = ms)) = _
    by_cases h1 : n = m
    · subst h1
      by_cases h2 : ns = ms
      · subst h2; simp
      · simp [h2]
    · simp [h1]
theorem eqv_tups (ns ms : List Int) : PyData.eqv (.tuple (ns.map PyData.int)) (.tuple (ms.map PyData.int)) = decide (ns = ms) := by
  show PyData.eqvAll _ _ = _
  exact eqv_ints ns ms
end Odd

set_option Elab.async false
set_option linter.all false
set_option maxRecDepth 100000
set_option maxHeartbeats 4000000
/-! Part 2: rules that the layer lacks: enumerate of a tuple; a dict comprehension with tuple keys; sorted of a dict with tuple keys; get of a written dict. -/
namespace Odd
open PySem PySem.Spec PyProof.Rows L2
/-! ### enumerate(tuple) -/
set_option maxHeartbeats 8000000 in
theorem enumNew {v : Value} {o : Obj} {G : Heap → Prop} (B : Begins v o G) :
    Meets (Builtin.«enumerate.__new__» ⟨[.type "enumerate", v], []⟩) (fun _ R s => G s.heap ∧
      R (.ok (.ret (.ref (s.heap.push o).objs.size)))
        { s with heap := (s.heap.push o).push { cls := .type "enumerate", data := .fields #[.none, .bool false, .ref s.heap.objs.size, rawInt 0, .none, .none] } }) :=
  .of_wp fun prog w A R s hs => by
    obtain ⟨hp, gs, dr, tk, os⟩ := s
    obtain ⟨g, hs⟩ := hs
    have hsub := sub_enumerate
    have it : ∀ {A' : Around} {E Q : Value → Shared → Prop}, Q (.ref hp.objs.size) ⟨hp.push o, gs, dr, tk, os⟩ → wpAny (model prog w) A' (pyIter v) Q E ⟨hp, gs, dr, tk, os⟩ :=
      fun q => B.iter prog w _ _ ⟨hp, gs, dr, tk, os⟩ _ g q
    wp_walk using it
    refine wpAny_stack_any fun st => wpAny_pure ?_
    split
    · next c _ _ _ _ _ =>
      cases (c == Value.type "enumerate") <;> (wp_walk using it; exact ⟨_, rfl, hs⟩)
    · wp_walk using it
      exact ⟨_, rfl, hs⟩
theorem callEnumT {prog : Program} {w : World} {A : Around} {E : Value → Shared → Prop} {s : Shared} {a : Addr} {items : Array Value} {Q : Value → Shared → Prop} (ht : s.heap.IsTuple a items)
    (h : ∀ h', IsEnum h' (s.heap.objs.size + 1) s.heap.objs.size 0 .none → h'.IsTupleIter s.heap.objs.size a 0 →
      (∀ b o, s.heap.get? b = some o → h'.get? b = some o) → Q (.ref (s.heap.objs.size + 1)) { s with heap := h' }) :
    wpAny (model prog w) A (call (.type "enumerate") [.ref a]) Q E s := by
  refine callType_new F.called_enumerate (by decide) (F.typeCall_enumerate_1 _) (F.newCall_enumerate_1 _) (fun ob => F.args_object_init_2 ob _) F.entry_enumerate_new
    (enumNew (begins_tuple a items)) ⟨ht, ?_⟩
  have z : (s.heap.push { cls := .type "tuple_iterator", data := .fields #[.ref a, .int 0 0] }).objs.size = s.heap.objs.size + 1 := Heap.size_push ..
  show _ ∧ _
  rw [z]
  have he : IsEnum ((s.heap.push { cls := .type "tuple_iterator", data := .fields #[.ref a, .int 0 0] }).push
      { cls := .type "enumerate", data := .fields #[.none, .bool false, .ref s.heap.objs.size, rawInt 0, .none, .none] }) (s.heap.objs.size + 1) s.heap.objs.size 0 .none := by
    have q := Heap.get?_push_size (s.heap.push { cls := .type "tuple_iterator", data := .fields #[.ref a, .int 0 0] })
      (o := { cls := .type "enumerate", data := .fields #[.none, .bool false, .ref s.heap.objs.size, rawInt 0, .none, .none] }) rfl
    rw [z] at q
    exact q
  exact ⟨⟨_, he, rfl⟩, h _ he ⟨_, Heap.get?_push_of_some _ (Heap.get?_push_size _ rfl), rfl, rfl⟩ fun b ob y => Heap.get?_push_of_some _ (Heap.get?_push_of_some _ y)⟩

theorem enumOver {prog : Program} {w : World} {A : Around} {E : Value → Shared → Prop} {s : Shared} {e it a : Addr} {i : Nat} {c : Int} {items : Array Value} {old : Value} {Q : Option Value → Shared → Prop} (hh : A.in1.handled = none)
    (he : IsEnum s.heap e it c old) (hit : s.heap.IsTupleIter it a i) (ht : s.heap.IsTuple a items) (hx : items.size ≤ i)
    (hQ : ∀ h', Heap.ExtBut it s.heap h' → Q none { s with heap := h' }) : wpAny (model prog w) A (pyNext (.ref e)) Q E s := by
  have ty : s.TypeIs (.ref e) "enumerate" := ⟨_, he, rfl⟩
  unfold pyNext
  refine wpAny_bind (wpAny_attempt (wpAny_callSpecial?_slot (name := Str.ofString "__next__") ty F.slot_enumerate_next
    (wpAny_call_entry F.slot_enumerate_next ty F.entry_enumerate_next ?_ (F.args_enumerate_next_1 _))))
  show wpAny _ _ (field (.ref e) 2 >>= _) _ _ _
  refine wpAny_bind (wpAny_field he rfl (x := .ref it) rfl (wpAny_bind (wpAny_nextOf_tuple_end hh hit ht (by simp [hx]) fun h' x k hs => ?_)))
  obtain ⟨o, ho, hc⟩ := hs
  exact wpAny_bind (wpAny_isInstance (T := "StopIteration") (b := true) ⟨o, ho, hc⟩ isSubtype_stop (wpAny_pure (hQ _ k)))
/-- the tuple at a, each item with its place in a new pair -/
def Itn (K : PySem.W.Frag) (a : Addr) : It :=
  ⟨fun i H => ∃ (xs : List V) (x : V), SqT K H a xs ∧ xs[i]? = some x, fun i H v H' => ∃ T x, v = .ref T ∧ H T = none ∧ H' = upd H T (.tup [.int (i : Nat), x]) ∧ ∀ xs, SqT K H a xs → xs[i]? = some x, fun i H => ∃ xs : List V, SqT K H a xs ∧ xs.length ≤ i⟩
theorem turnEnumT {P : Program} {w : World} {K : PySem.W.Frag} {elts : List Expr} {kk : Nat} {tpos : Pos} (a e it : Addr) (hi : e ≠ it) (ha : a ≠ it) :
    Turn P w K (.Tuple elts kk tpos) (Itn K a) [e, it] e (fun i h => (∃ old, IsEnum h e it ((i : Nat) : Int) old) ∧ h.IsTupleIter it a i ∧ e ≠ a) where
  mem := by simp
  obj := fun i h st b hb => by
    obtain ⟨⟨old, he⟩, ⟨o, ho, hc, hd⟩, _⟩ := st
    have q : b = e ∨ b = it := by simpa using hb
    rcases q with z | z
    · rw [z]; exact ⟨_, he, fun v q => nomatch q⟩
    · rw [z]; exact ⟨o, ho, fun v q => by rw [hd] at q; cases q⟩
  keep := fun i h h' st k => let ⟨⟨old, he⟩, ht, na⟩ := st; ⟨⟨old, k e (by simp) _ he⟩, ht.at fun o q => k it (by simp) o q, na⟩
  item := by
    intro X hP hw hK hc i pins s σ H E I hf st hg
    subst hP hw hK
    obtain ⟨⟨old, he⟩, hit, na⟩ := st
    obtain ⟨xs, x, hq, hx⟩ := hg
    obtain ⟨its, rv, p, hz⟩ := I.tuple hq
    have hh : X.A.in1.handled = none := I.ok.hd hc
    have hsz : i < its.toArray.size := by
      have q := (List.getElem?_eq_some_iff.mp hx).1
      rw [rv.length] at q
      simpa using q
    have hel : e < s.heap.objs.size := Heap.lt_size he
    have hil : it < s.heap.objs.size := by obtain ⟨_, q, _⟩ := hit; exact Heap.lt_size q
    refine wpAny_pyNext_enum_itemD (Draws.tuple hh it a ha its.toArray) he ⟨hit, p⟩ hsz hi (by simp [hi, na]) fun u h' tk hu ho hst hT hsz' hk => ?_
    obtain ⟨u', hu', ru⟩ := rv.get hx
    have eu : u = u' := by
      have q : its[i]? = some u := by simpa using hu
      rw [hu'] at q
      exact (Option.some.inj q).symm
    subst eu
    refine ⟨_, rfl, wpAny_letOwnedTupleGo_enum (s := { s with heap := h', toks := tk + 1 }) ho fun h'' he' sb => ?_⟩
    have hT2 : h''.get? s.heap.objs.size = some { cls := .type "tuple", data := .seq #[.int i tk, u] } := (sb.2 _ (Nat.ne_of_gt hel)).trans hT
    have new : ObjOk X.prog X.w (upd H s.heap.objs.size (.tup [.int (i : Nat), x])) h'' s.heap.objs.size (.tup [.int (i : Nat), x]) :=
      ⟨by show 2 ≤ sizeLine; decide, [.int i tk, u], .cons ⟨_, rfl⟩ (.cons ru .nil), ⟨_, hT2, rfl, _, rfl⟩⟩
    have I1 : Inv X pins σ (upd H s.heap.objs.size (.tup [.int (i : Nat), x])) { s with heap := h'', toks := tk + 1 } :=
      I.turnedNew (ch := [e, it]) (fun b ob hb q => (sb.2 b (fun z => hb (by simp [z]))).trans (hk b ob (fun z => hb (by simp [z])) (fun z => hb (by simp [z])) q)) hf (Nat.le_refl _) new
    refine ⟨.ref s.heap.objs.size, _, I1, rfl, ⟨_, x, rfl, I.hok.fresh (Nat.le_refl _), rfl, fun ys hy => by rw [I.tuple_inj hy hq]; exact hx⟩, ⟨⟨u, ?_⟩, hst.1.at fun o q => (sb.2 it (Ne.symm hi)).trans q, na⟩, fun b hb => ?_⟩
    · have e1 : ((i + 1 : Nat) : Int) = (i : Int) + 1 := by omega
      rw [e1]; exact he'
    · have q : b = e ∨ b = it := by simpa using hb
      have hb' : b < s.heap.objs.size := by
        rcases q with z | z
        · rw [z]; exact hel
        · rw [z]; exact hil
      rw [upd_ne (Nat.ne_of_lt hb')]
      exact (hf b hb).1
  done := by
    intro X hP hw hK hc i pins s σ H E I hf st hg
    subst hP hw hK
    obtain ⟨⟨old, he⟩, hit, na⟩ := st
    obtain ⟨xs, hq, hx⟩ := hg
    obtain ⟨its, rv, p, hz⟩ := I.tuple hq
    obtain ⟨f0, f1, f2, f3, f4, f5⟩ := hf it (by simp)
    have hh : X.A.in1.handled = none := I.ok.hd hc
    have hl := rv.length
    refine enumOver hh he hit p (by simp; omega) fun h' eb => ⟨rfl, I.turned (t' := s.toks) (fun b o hb q => eb b o hb q) f0 f1 f3 f4 f5⟩
  self := fun A i s Q E st h => let ⟨⟨_, he⟩, _⟩ := st; wpAny_pyIter_enum he h
def iEnumT (K : PySem.W.Frag) (ta : TA) : TI := fun σ H R => ta σ H fun vs H1 => ∃ a xs, vs = [.ref a] ∧ SqT K H1 a xs ∧ R (Itn K a) H1
theorem pi_enumT {X : Cx} {e : Expr} {ta : TA} {p pos tpos : Pos} {elts : List Expr} {kk : Nat} (hg : Gl X "enumerate") (hm : X.mg "enumerate" = none) (ha : PA X [e] ta) (hs : starEach [e] X.env = [(false, eval e X.env)] := by rfl) :
    PI X (.Tuple elts kk tpos) (.Call (.Name "enumerate" p) [e] [] pos) (iEnumT X.K ta) := by
  refine ⟨fun pins s σ H R I h => Call_ (ld_blt I hg hm boot_enumerate (PyProof.Rows.callWith_type1 (thn (ha.run pos pins s σ H _ I h) fun us s1 hq => ?_) hs rfl))⟩
  obtain ⟨vs, H1, I1, r1, a, xs, ex, hq, q⟩ := hq
  subst ex
  rw [Vals.ref1 r1]
  obtain ⟨its, rv, p', hz⟩ := I1.tuple hq
  have hla : a < s1.heap.objs.size := by obtain ⟨_, z, _⟩ := p'; exact Heap.lt_size z
  refine callEnumT p' fun h' he hit hk => wpAny_pyIter_enum he ?_
  have I2 : Inv X pins σ H1 { s1 with heap := h' } := I1.kept (t' := s1.toks) hk
  refine ⟨s1.heap.objs.size + 1, [s1.heap.objs.size + 1, s1.heap.objs.size], _, _, H1, rfl, I2, turnEnumT a (s1.heap.objs.size + 1) s1.heap.objs.size (Nat.succ_ne_self _) (Nat.ne_of_lt hla), ⟨⟨.none, he⟩, hit, Nat.ne_of_gt (Nat.lt_succ_of_lt hla)⟩, fun b hb => ?_, q⟩
  have hle : s1.heap.objs.size ≤ b := by
    have z : b = s1.heap.objs.size + 1 ∨ b = s1.heap.objs.size := by simpa using hb
    rcases z with z | z
    · rw [z]; exact Nat.le_succ _
    · rw [z]; exact Nat.le_refl _
  exact I1.fpOk hle (I1.hok.fresh hle)
theorem walk_enumT {K : PySem.W.Frag} {a : Addr} {xs : List V} : Walk (Itn K a) xs.length (fun H => SqT K H a xs) (YPair (fun i => some (.int (i : Nat))) (fun i => xs[i]?)) := by
  refine ⟨fun i _ hi q => ⟨xs, xs[i], q, by simp [hi]⟩, fun _ q => ⟨xs, q, Nat.le_refl _⟩, fun i H v H' _ q y => ?_⟩
  obtain ⟨T, x, h1, h2, h3, h4⟩ := y
  exact ⟨T, .int (i : Nat), x, h1, h2, h3, rfl, h4 xs q⟩

/-! ### a dict comprehension whose keys are tuples -/
/-- d[k] = v of a comprehension, the key a tracked tuple -/
theorem putT {X : Cx} {pins : List (Addr × Obj)} {σ : L2.St} {H : Hp} {s : Shared} {E : Value → Shared → Prop} {D b : Addr} {kvs : List (List Key × V)} {k : List Key} {v : V} {r : Value} {Q : Unit → Shared → Prop} (hu : X.A.units + 1 < cLine) (I : Inv X pins σ H s) (hD : H D = some (.dT kvs))
    (hz : kvs.length < sizeLine) (hb : H b = some (.tup (k.map kV))) (rv : RelV v r) (h : ∀ s', Inv X pins σ (upd H D (.dT (putK kvs k v))) s' → Q () s') : wpAny (model X.prog X.w) X.A (dictSet D (.ref b) r) Q E s := by
  obtain ⟨z, hd, xs, rel, dd⟩ := dt_of I.hok hD
  have hl : (putK kvs k v).length ≤ sizeLine := Nat.le_trans (length_putK kvs k v) hz
  refine wpAny_dictSet_heap (hsz := by rw [← Paired.length rel]; exact z) (Nat.lt_of_succ_lt hu) (key_of I.hok hb) dd fun h' dd' hs => h _ ?_
  obtain ⟨q, es, ep, hq, h2, h3, h4, _, h5⟩ := dd'
  refine d_write I (by rw [hD]; exact True.intro) hs ⟨q, hq⟩ ⟨hl, hd, _, (rel.put k hb rv).keeps fun c ys ec => ?_, q, es, ep, hq, h2, h3, h4, h5⟩
  rw [upd_ne (ne_of ec hD (fun z => nomatch z))]
  exact ec
section
variable {X : Cx}
/-- {k: v for tg in iter}, k a new tuple of ints and texts; D the new dict -/
def tDcT (wi : TI) (g : TG) (tk tv : TE) (vs : List Nat) : TE := fun σ H Q => wi σ H fun J H1 => ∀ D, H1 D = none → ∃ W : Nat → Nat → Hp → Prop, (∃ m, W 0 m (upd H1 D (.dT []))) ∧ ∀ i m H, W i m H →
  (J.stop i H ∧ Q (.ref D) H) ∨ (J.go i H ∧ ∃ Nx : Hp → Prop, (∀ H', Nx H' → ∃ m', m' < m ∧ W (i + 1) m' H') ∧ ∀ x H', J.yld i H x H' → g x (wipe σ vs) H' fun σ2 H2 => wipe σ2 vs = wipe σ vs ∧
    tk σ2 H2 fun y H4 => tv σ2 H4 fun z H5 => ∃ b kvs k, y = .ref b ∧ H5 b = some (.tup (k.map kV)) ∧ H5 D = some (.dT kvs) ∧ kvs.length < sizeLine ∧ Nx (upd H5 D (.dT (putK kvs k z))))
theorem dcT_run {pins : List (Addr × Obj)} {s : Shared} {σ : L2.St} {H : Hp} {Q : VK} {kx vx tg iter : Expr} {scope : Scope} {own : List (Str × Nat)} {pos pos' : Pos} {wi : TI} {g : TG} {tk tv : TE} {use : Option (Value → Sem Unit)} {Qf : Value → Shared → Prop}
    (hu : X.A.units + 1 < cLine) (hc : X.calm = true) (hN : X.N.Nodup) (I : Inv X pins σ H s) (hi : PI X tg iter wi) (ok : BlkOk X.N X.env.scope scope own)
    (hg : ∀ s H C cl fp, PG (X.blk s H scope (compEnvC scope cl C X.env) fp) tg g)
    (hk : ∀ s H C cl fp, PE (X.blk s H scope (compEnvC scope cl C X.env) fp) kx tk)
    (he : ∀ s H C cl fp, PE (X.blk s H scope (compEnvC scope cl C X.env) fp) vx tv) (hs : ∀ x, foldedSetIterable iter X.env x = pure x)
    (h : tDcT wi g tk tv (own.map (·.2)) σ H Q)
    (fin : ∀ D C s' m H', Inv X pins σ H' s' → Q (.ref D) H' → s'.heap.Ns C m → FpOk X pins H' C → compPost (model X.prog X.w) X.A X.xe use Qf (.ref D) C (.ok .next) s') :
    wpAny (model X.prog X.w) X.A (comprehension (.DictComp kx vx [⟨tg, iter, [], 0⟩] scope pos) scope X.env pos' newDict false (eval iter X.env) use) Qf X.xe s := by
  have clo : closureFor scope X.env = pure (cloFrom X.env.cells scope.names []) := closure_ok fun y hy e => by
    rcases ok.free y hy e with k | k
    · exact I.ok.has _ (.inl k)
    · exact I.ok.has _ (.inr k)
  refine wpAny_comprehension_free (use := use) rfl hs clo ok.kind (fun y hy e => by rw [ok.uniq y hy, e]) (thn (hi.run pins s σ H _ I h) fun _ s1 h1 => thn h1 fun _ s2 h2 => ?_)
  obtain ⟨it, fp, tn, J, H2, rfl, I2, T, st2, f2, q⟩ := h2
  refine wpAny_newObj_type (newEnv_comp ?_)
  generalize eD : s2.heap.objs.size = D
  obtain ⟨W, ⟨m0, w0⟩, turn⟩ := q D (I2.hok.fresh (Nat.le_of_eq eD))
  generalize es3 : ({ s2 with heap := s2.heap.push { cls := .type "dict", data := .dict #[] } } : Shared) = s3
  have hp3 : s3.heap = s2.heap.push { cls := .type "dict", data := .dict #[] } := by rw [← es3]
  have I3 : Inv X pins σ (upd H2 D (.dT [])) s3 := by
    rw [← es3]
    refine I2.laid (t' := s2.toks) (fun b o e => Heap.get?_push_of_some _ e) (Nat.le_of_eq eD) ?_
    rw [← eD]
    exact dt_empty s2.heap I2.big
  have f3 : ∀ b ∈ fp, FpOk X pins (upd H2 D (.dT [])) b ∧ b < s3.heap.objs.size := fun b hb => by
    obtain ⟨o, e, _⟩ := T.obj _ _ st2 b hb
    have lt := Heap.lt_size e
    refine ⟨⟨?_, (f2 b hb).2⟩, by rw [hp3, Heap.size_push]; exact Nat.lt_succ_of_lt lt⟩
    rw [upd_ne (by rw [← eD]; exact Nat.ne_of_lt lt)]
    exact (f2 b hb).1
  have I4 := block_start I3 ok hN f3
  generalize eH : upd H2 D (.dT []) = H3 at *
  have pg := hg s3 H3 s3.heap.objs.size (cellsFrom (s3.heap.objs.size + 1) scope.names (cloFrom X.env.cells scope.names [])) fp
  have pk := hk s3 H3 s3.heap.objs.size (cellsFrom (s3.heap.objs.size + 1) scope.names (cloFrom X.env.cells scope.names [])) fp
  have pe := he s3 H3 s3.heap.objs.size (cellsFrom (s3.heap.objs.size + 1) scope.names (cloFrom X.env.cells scope.names [])) fp
  show codeAny _ _ (.compStart (.DictComp kx vx [⟨tg, iter, [], 0⟩] scope pos) 0 (.ref it) (.ref D) (compEnvC scope (cellsFrom (s3.heap.objs.size + 1) scope.names (cloFrom X.env.cells scope.names [])) s3.heap.objs.size X.env)) (compPost (model X.prog X.w) X.A X.xe use Qf (.ref D) s3.heap.objs.size) { s3 with heap := pushCells (s3.heap.push { cls := .type "dict", data := .dict #[] }) scope.names }
  generalize ec : compEnvC scope (cellsFrom (s3.heap.objs.size + 1) scope.names (cloFrom X.env.cells scope.names [])) s3.heap.objs.size X.env = ce at I4 pg pk pe ⊢
  have cL : ce.locals = s3.heap.objs.size := by subst ec; rfl
  generalize es4 : ({ s3 with heap := pushCells (s3.heap.push { cls := .type "dict", data := .dict #[] }) scope.names } : Shared) = s4 at I4 ⊢
  have st4 : tn 0 s4.heap := T.keep _ _ _ st2 fun b _ o e => by
    rw [← es4]
    exact pushCells_keeps _ _ _ _ (Heap.get?_push_of_some _ (by rw [hp3]; exact Heap.get?_push_of_some _ e))
  have fpk : ∀ {σ' : L2.St} {H' : Hp} {s' : Shared}, Inv (X.blk s3 H3 scope ce fp) [] σ' H' s' → (∀ b ∈ fp, H' b = none) → ∀ b ∈ fp, FpOk (X.blk s3 H3 scope ce fp) [] H' b := fun {σ' H' s'} I' hn b hb =>
    ⟨hn b hb, (I'.ok.exf b hb).1, I'.ok.exfs b hb, .inl hb, fun x c e => (I'.ok.exf b hb).2 x c e, fun p hp => absurd (show p ∈ ([] : List (Addr × Obj)) ++ [] from hp) (by simp)⟩
  have loop : codeAny (model X.prog X.w) X.A (.compLoop (.DictComp kx vx [⟨tg, iter, [], 0⟩] scope pos) 0 (.ref it) (.ref D) ce) (compPost (model X.prog X.w) X.A X.xe use Qf (.ref D) s3.heap.objs.size) s4 := by
    refine compLoop_anyD (fun n s' => ∃ i H', Inv (X.blk s3 H3 scope ce fp) [] (wipe σ (own.map (·.2))) H' s' ∧ tn i s'.heap ∧ (∀ b ∈ fp, H' b = none) ∧ W i n H') ?_ m0 ⟨0, H3, I4, st4, fun b hb => (f3 b hb).1.1, w0⟩
    rintro n s5 ⟨i, H5, I5, st5, n5, w5⟩
    rcases turn i n H5 w5 with ⟨stop, qq⟩ | ⟨go, Nx, hNx, step⟩
    · refine thnF (T.done (X.blk s3 H3 scope ce fp) rfl rfl rfl hc i [] s5 _ H5 (fun _ _ => False) I5 (fpk I5 n5) st5 stop) fun r s6 ⟨hr, I6⟩ => ?_
      subst hr
      have I7 : Inv X pins σ H5 s6 := I3.call' (ch := fp) I6.os I6.base I6.hok I6.bare fun b hb => ⟨(f3 b hb).1.2.2.2.1, (f3 b hb).1.2.1, (f3 b hb).1.2.2.2.2.1, (f3 b hb).1.2.2.2.2.2⟩
      obtain ⟨m, hn, _⟩ := I6.loc
      have z : H5 ce.locals = none := I6.free
      rw [cL] at z
      have hn : s6.heap.Ns ce.locals m := hn
      rw [cL] at hn
      exact fin D s3.heap.objs.size s6 m H5 I7 qq hn (I3.fpOk (Nat.le_refl _) z)
    · refine thnF (T.item (X.blk s3 H3 scope ce fp) rfl rfl rfl hc i [] s5 _ H5 (fun _ _ => False) I5 (fpk I5 n5) st5 go) fun r s6 ⟨u, hr, h6⟩ => ?_
      subst hr
      refine thnF h6 fun _ s7 ⟨x, H7, I7, r7, y7, st7, n7⟩ => ?_
      refine thnF (pg.run _ s7 _ H7 x u _ (I7.pinned (fpk I7 n7) (T.obj _ _ st7)) r7 (step x H7 y7)) fun _ s8 ⟨σ8, H8, I8, hw8, q8⟩ => ?_
      refine thnF ((pts_nil (X := X.blk s3 H3 scope ce fp)).run _ s8 σ8 H8 (fun b H9 => b = true ∧ H9 = H8) I8 ⟨rfl, rfl⟩) fun b s9 ⟨H9, I9, eb, e9⟩ => ?_
      subst eb e9
      rw [if_pos rfl]
      refine thnF (pk.run _ s9 σ8 H9 _ I9 q8) fun z s10 ⟨yk, H10, I10, r10, q10⟩ => ?_
      refine thnF (pe.run _ s10 σ8 H10 _ I10 q10) fun z2 s11 ⟨yv, H11, I11, r11, kb, kvs, k, ek, hkb, hD11, hz11, nx⟩ => ?_
      subst ek
      cases (show z = Value.ref kb from r10)
      refine putT (X := X.blk s3 H3 scope ce fp) hu I11 hD11 hz11 hkb r11 fun s12 I12 => ?_
      obtain ⟨m', hm, w'⟩ := hNx _ nx
      have pin' : ∀ b ∈ fp, ∀ o, s7.heap.get? b = some o → s12.heap.get? b = some o ∧ (upd H11 D (.dT (putK kvs k yv))) b = none := fun b hb o e =>
        let z := I12.pin (b, o) (List.mem_append_right _ (List.mem_append_right _ (mem_pinsAt hb e)))
        ⟨z.1, z.2.1⟩
      have hl : (wipe σ (own.map (·.2))).length = σ8.length := by rw [← hw8, wipe_length]
      refine ⟨m', hm, i + 1, _, (I12.unpinned (pins := [])).weak hl (fun j v e => ?_), T.keep _ _ _ st7 fun b hb o e => (pin' b hb o e).1, fun b hb => ?_, w'⟩
      · rw [← hw8] at e
        exact (wipe_some e).1
      · obtain ⟨o, e, _⟩ := T.obj _ _ st7 b hb
        exact (pin' b hb o e).2
  exact codeAny_compStart_dict loop (T.self X.A 0 _ _ _ st4 loop)
/-- name = {k: v for ..} on one line, the name a local -/
theorem ps_setDcT {i : Nat} {y : Str} {py : Pos} {kx vx tg iter : Expr} {scope : Scope} {own : List (Str × Nat)} {pos spos : Pos} {wi : TI} {g : TG} {tk tv : TE} (hu : X.A.units + 1 < cLine) (hc : X.calm = true) (hN : X.N.Nodup) (hy : X.N[i]? = some y) (hyl : X.env.scope.names.lookup y = some .local)
    (hsw : swapsWith (.DictComp kx vx [⟨tg, iter, [], 0⟩] scope pos) (some (.Name y py)) spos.line X.env = pure true) (hi : PI X tg iter wi) (ok : BlkOk X.N X.env.scope scope own)
    (hg : ∀ s H C cl fp, PG (X.blk s H scope (compEnvC scope cl C X.env) fp) tg g)
    (hk : ∀ s H C cl fp, PE (X.blk s H scope (compEnvC scope cl C X.env) fp) kx tk)
    (he : ∀ s H C cl fp, PE (X.blk s H scope (compEnvC scope cl C X.env) fp) vx tv) (hs : ∀ x, foldedSetIterable iter X.env x = pure x := by intro _; rfl) :
    PS X (.Assign [.Name y py] (.DictComp kx vx [⟨tg, iter, [], 0⟩] scope pos) spos) (tAsg (tDcT wi g tk tv (own.map (·.2))) (gName i)) := by
  refine ⟨fun pins s σ H D I h => ?_⟩
  rw [exec_Assign_Name_used _ _ _ _ hsw]
  refine wpAny_bind (wpAny_standAt (wpAny_bind ?_))
  show wpAny _ X.A (do let _ ← comprehension (.DictComp kx vx [⟨tg, iter, [], 0⟩] scope pos) scope X.env (firstIterPos [⟨tg, iter, [], 0⟩] pos) newDict false (eval iter X.env) (some (assign (.Name y py) X.env))) _ _ s
  have h : tDcT wi g tk tv (own.map (·.2)) σ H (fun x H1 => gName i x σ H1 D.nx) := h
  refine wpAny_bind (thn (dcT_run (Qf := fun _ s' => SP X pins D .next s') hu hc hN I hi ok hg hk he hs h fun L C s' m H' I' q hn f => ?_) fun _ s' hq => wpAny_pure (wpAny_pure hq))
  obtain ⟨f0, f1, f2, f3, f4, f5⟩ := f
  show wpAny _ _ (assign (.Name y py) X.env (.ref L)) _ _ _
  refine wpAny_assign_Name (store_ok2 (v := V.ref L) I' hN hy (.inl hyl) rfl (fun s2 I2 ⟨a, sb, ha⟩ => ⟨m, hn.sameBut sb ?_, fun h3 sb3 => ⟨_, H', I2.turned (t' := s2.toks) (fun b o hb e => (sb3.2 b hb).trans e) f0 f1 f3 f4 f5, q⟩⟩) (.inr hyl))
  rcases ha with z | z
  · rw [z]; exact f1
  · exact fun e => f4 y a z e.symm
theorem swDc {kx vx : Expr} {gs : List Comprehension} {scope : Scope} {pos py : Pos} {y : Str} {l : Nat} {env : Env} (hk : env.scope.kind = .function) (hy : env.scope.names.lookup y = some .local) (hl : (py.line == pos.line) = true)
    (ha : (scope.names.any fun (n, k) => n == y && (k == .local || k == .cell)) = false) : swapsWith (.DictComp kx vx gs scope pos) (some (.Name y py)) l env = pure true := by
  have ky : env.kindOf y = some .local := hy
  have hb : env.blockKind = .function := by unfold Env.blockKind; rw [hk]; rfl
  unfold swapsWith
  simp only [hb, ky, ha, Expr.pos, hl]
  rfl
end
/-! ### sorted(d), the keys of d tuples of ints -/
section
variable {X : Cx}
theorem keys_tups {H : Hp} {d : Nat} {B : Int} {pins : List (Addr × Obj)} {σ : L2.St} {s : Shared} (I : Inv X pins σ H s) {kvs : List (List Key × V)} {xs : List (List Key × Addr × Value)} (r : KT H kvs xs)
    (hx : ∀ p ∈ kvs, ∃ ns : List Int, p.1 = ns.map Sum.inl ∧ ns.length = d ∧ TS.Bd B ns) : TS.TupsOk s.heap d B (xs.map fun x => Value.ref x.2.1) := by
  have go : ∀ {kvs : List (List Key × V)} {xs : List (List Key × Addr × Value)}, KT H kvs xs → (∀ p ∈ kvs, ∃ ns : List Int, p.1 = ns.map Sum.inl ∧ ns.length = d ∧ TS.Bd B ns) →
      ∀ x ∈ xs, ∃ ns : List Int, H x.2.1 = some (.tup (ns.map V.int)) ∧ ns.length = d ∧ TS.Bd B ns := by
    intro kvs xs r
    induction r with
    | nil => intro _ x hx; cases hx
    | cons p t ih =>
      rename_i a b l1 l2
      intro hk x hm
      rcases List.mem_cons.mp hm with e | hm
      · subst e
        obtain ⟨ns, h1, h2, h3⟩ := hk a List.mem_cons_self
        refine ⟨ns, ?_, h2, h3⟩
        have q := p.2.1
        rw [h1, List.map_map] at q
        exact q
      · exact ih (fun p hp => hk p (List.mem_cons_of_mem _ hp)) x hm
  intro v hv
  obtain ⟨x, hm, e⟩ := List.mem_map.mp hv
  obtain ⟨ns, h1, h2, h3⟩ := go r hx x hm
  rw [← e]
  exact ⟨ns, tupI_raw I (SqT.of h1), h2, h3⟩
def rSortD (d : Nat) (B : Int) : List V → Hp → VK → Prop := fun vs H Q => ∃ a kvs, vs = [V.ref a] ∧ Rd H a (.dT kvs) ∧ kvs.length < 64 ∧ (∀ p ∈ kvs, ∃ ns : List Int, p.1 = ns.map Sum.inl ∧ ns.length = d ∧ TS.Bd B ns) ∧
  ∀ ys bs p, IsKeys H kvs bs → ys.Perm (bs.map V.ref) → H p = none → Q (.ref p) (upd H p (.lst ys))
theorem cr_sortD {d : Nat} {B : Int} (hc : X.calm = true) (hd1 : 1 ≤ d) : CallR X (.builtin "sorted") (rSortD d B) := by
  intro pins s σ H vs us Q I r h
  obtain ⟨a, kvs, rfl, hd, h64, hk, q⟩ := h
  rw [Vals.ref1 r]
  obtain ⟨z, lo, ks, pr, o, es, ep, ho, hx, hdt, he, hn⟩ := (show ObjOk X.prog X.w H s.heap a (.dT kvs) from hd.ok I.hok)
  have l1 : es.size = ks.length := by
    have q := congrArg List.length he
    simpa using q
  have l2 : kvs.length = ks.length := Paired.length pr
  have tups := keys_tups I pr hk
  refine Calls.call_function_entry kind_sorted plain_sorted entry_sorted (args_sorted1 _) ?_
  unfold Builtin.«sorted»
  refine wpAny_bind (m := checkCount "sorted" 1 1 _) (wpAny_pure (wpAny_bind (PySem.W.kdu_collect (A := X.A.in1) (kdl_raw lo hx hdt) (I.ok.hd hc) ho (by omega) fun h' tk acc hkp hacc => ?_)))
  have ea : acc.toList = ks.map fun x => Value.ref x.2.1 := by
    apply List.ext_getElem?
    intro j
    rw [List.getElem?_map]
    have hl : acc.toList.length = ks.length := by rw [Array.length_toList, hacc.1]; exact l1
    by_cases hj : j < ks.length
    · have hj' : j < acc.toList.length := by rw [hl]; exact hj
      rw [List.getElem?_eq_getElem hj', List.getElem?_eq_getElem hj]
      obtain ⟨en, hen, hv⟩ := hacc.2 j _ (by rw [← Array.getElem?_toList]; exact List.getElem?_eq_getElem hj')
      have qe : es.toList[j]? = (ks.map (entryOfKey (tupleKind (mixKind X.prog X.w))))[j]? := by rw [he]
      rw [List.getElem?_map, List.getElem?_eq_getElem hj, Array.getElem?_toList, hen] at qe
      rw [hv, Option.some.inj qe]
      rfl
    · rw [List.getElem?_eq_none (by omega), List.getElem?_eq_none (by omega)]
      rfl
  have I1 : Inv X pins σ H { s with heap := h', toks := tk } := I.kept hkp
  refine wpAny_bind (wpAny_newList ?_ (by rw [ea, List.length_map, sizeLine_eq]; omega))
  have hoL : (h'.push (seqObj "list" acc.toList.toArray 0)).get? h'.objs.size = some (seqObj "list" acc.toList.toArray 0) := Heap.get?_push_size _ rfl
  show wpAny _ _ _ _ _ { s with heap := h'.push (seqObj "list" acc.toList.toArray 0), toks := tk }
  have tups' : TS.TupsOk (h'.push (seqObj "list" acc.toList.toArray 0)) d B acc.toList := by
    rw [ea]
    exact tups.keeps fun b ob e _ => Heap.get?_push_of_some _ (hkp b ob e)
  refine wpAny_bind (wpAny_holding (wpAny_call_entry slot_list_sort ⟨_, hoL, rfl⟩ entry_list_sort
    (TS.sort_tups (s := { s with heap := h'.push (seqObj "list" acc.toList.toArray 0), toks := tk }) hoL (by rw [ea, List.length_map, ← l2]; exact h64) hd1 tups' (fun v => TS.code B (TS.intsOf (h'.push (seqObj "list" acc.toList.toArray 0)) v)) (fun v _ ns t => ?_) fun out g1 g2 => ⟨_, rfl, ?_⟩) (args_list_sort _)))
  · show TS.code B (TS.intsOf _ v) = TS.code B ns
    rw [t.ints]
  obtain ⟨e', he'⟩ := sortedHeap_at (vs := acc.toList) (out := out) hoL
  have hrefs : ∀ u ∈ out.toList, ∃ b, u = Value.ref b := fun u hu => by
    have z := g1.mem_iff.mp hu
    rw [ea] at z
    obtain ⟨x, _, e⟩ := List.mem_map.mp z
    exact ⟨_, e.symm⟩
  have hp : (out.toList.map bkV).Perm ((ks.map fun x => x.2.1).map V.ref) := by
    have z := g1.map bkV
    rw [ea, List.map_map] at z
    rw [List.map_map]
    exact z
  have hlen : (out.toList.map bkV).length ≤ sizeLine := by
    rw [hp.length_eq, List.length_map, List.length_map]
    omega
  refine wpAny_pure ⟨_, rfl, .ref h'.objs.size, upd H h'.objs.size (.lst (out.toList.map bkV)), I1.laid (t' := tk) (fun b u e => ?_) (Nat.le_refl _)
    (show ObjOk X.prog X.w _ _ _ (.lst (out.toList.map bkV)) from ⟨hlen, out.toList, e', bkV_vals hrefs, by rw [Array.toArray_toList]; exact he'⟩), rfl, q _ _ _ (isKeys_of pr) hp (I1.hok.fresh (Nat.le_refl _))⟩
  have hb : b < h'.objs.size := Heap.lt_size e
  rw [sortedHeap_old (Nat.ne_of_lt hb) (by rw [size_push']; exact Nat.lt_succ_of_lt hb)]
  exact Heap.get?_push_of_some _ e
end
/-! ### d.get(k, x), d a dict of the module with text keys, k there -/
section
variable {X : Cx}
def tKGet (K : PySem.W.Frag) (w : World) (td ty tx : TE) : TE := fun σ H Q => td σ H fun x H1 => ∃ (a : Addr) (es : Array DictEntry) (n : Nat), x = .ref a ∧ KDict K w a es n ∧ ty σ H1 fun y H2 => tx σ H2 fun _ H3 =>
  ∃ (k : Str) (u0 : Value) (v0 : V), y = .str k ∧ PySem.W.nsIn K a k = some (some u0) ∧ RelV v0 u0 ∧ Q v0 H3
variable {o e f : Expr} {td ty tx : TE} {apos cpos : Pos}
theorem pe_kget (ho : PE X o td) (he : PE X e ty) (hf : PE X f tx) (m : M2 X o "get" apos e f cpos) : PE X (.Call (.Attribute o "get" apos) [e, f] [] cpos) (tKGet X.K X.w td ty tx) := by
  refine ⟨fun pins s σ H Q I h => wpAny_Call_method m.base m.few m.line PySem.F.plainAttrs_dict PySem.F.slot_dict_get PySem.F.type_dict_get (thn (ho.run pins s σ H _ I h) fun u s1 hx => ?_)⟩
  obtain ⟨x, H1, I1, rx, a, es, n, ex, D, q1⟩ := hx
  subst ex
  cases (show u = Value.ref a from rx)
  refine ⟨kd_type D I1, fun b q => ?_, ?_⟩
  · cases q
    exact ⟨_, I1.kIn _ _ D.at_, rfl⟩
  rw [m.trees]
  refine Calls.callWith_builtin rfl (Calls.evalArgs_plain (Calls.spliced_cons (thn (he.run pins s1 σ H1 _ I1 q1) fun iv s2 hy => ?_)))
  obtain ⟨y, H2, I2, ry, q2⟩ := hy
  refine Calls.spliced_cons (thn (hf.run pins s2 σ H2 _ I2 q2) fun fv s3 hz => Calls.spliced_nil ?_)
  obtain ⟨z, H3, I3, rz, k, u0, v0, ek, en, rv, q3⟩ := hz
  subst ek
  obtain ⟨t, et⟩ := (show ∃ t, iv = Value.str k t from ry)
  subst et
  refine call_meetsIn PySem.F.slot_dict_get (kd_type D I3) PySem.F.entry_dict_get (PySem.F.args_dict_get_3 _ _ _) (meets_dict_get_default (strKind X.prog X.w) a (strKind_is X.prog X.w k t) D.low fv) ⟨_, PySem.W.mapOf_K (prog := X.prog) I3.kIn D.at_ D.lit, ?_⟩
  rw [PySem.W.find_K D.at_ en]
  exact ⟨_, H3, I3.tok _, rv, q3⟩
end
end Odd

set_option Elab.async false
set_option linter.all false
set_option maxRecDepth 100000
set_option maxHeartbeats 4000000
/-! Part 3: the text by places, what the head tells of it. Printed by gentop.py. -/
namespace Odd
open PySem PySem.Spec PyProof.Rows L2
def top (i : Nat) : Stmt := PySem.Challenge.pw_oddscall_k30_whole_positive_by_runs.main.body.getD i (.Pass ⟨0, 0, 0, 0⟩)

abbrev s_is_integer_rationals : Stmt := top 9
abbrev s_is_rational : Stmt := top 11
abbrev s_reduced : Stmt := top 12
abbrev s_plus : Stmt := top 13
abbrev s_times : Stmt := top 14
abbrev s_is_integer_graphs : Stmt := top 25
abbrev s_is_index : Stmt := top 27
abbrev s_has_form : Stmt := top 28
abbrev s_is_chance : Stmt := top 29
abbrev s_is_amount : Stmt := top 30
abbrev s_draw_problem : Stmt := top 31
abbrev s_points_problem : Stmt := top 32
abbrev s_point_problem : Stmt := top 33
abbrev s_check_procedure : Stmt := top 34
abbrev s_check_procedures : Stmt := top 35
abbrev s_points_of : Stmt := top 36
abbrev s_Graph_init : Stmt := inClass (top 37) 0
abbrev s_Graph_is_chain : Stmt := inClass (top 37) 1
abbrev s_Graph_places : Stmt := inClass (top 37) 2
abbrev s_Graph_is_place : Stmt := inClass (top 37) 3
abbrev s_Graph_check_place : Stmt := inClass (top 37) 4
abbrev s_Graph_point_at : Stmt := inClass (top 37) 5
abbrev s_Graph_ways : Stmt := inClass (top 37) 6
abbrev s_Graph_named : Stmt := inClass (top 37) 7
abbrev s_Graph_reached : Stmt := inClass (top 37) 8
abbrev s_check_chain_equations : Stmt := top 40
abbrev s_all_unknowns : Stmt := top 42
abbrev s_call_terms : Stmt := top 43
abbrev s_all_terms : Stmt := top 44
abbrev s_system_of : Stmt := top 45
abbrev s_positives : Stmt := top 46
abbrev s_check_graph : Stmt := top 48
abbrev s_check_place : Stmt := top 49
abbrev s_exits_of : Stmt := top 52
abbrev s_check_way : Stmt := top 53
abbrev s_check_depth : Stmt := top 54
abbrev s_check_chain_masses : Stmt := top 55
abbrev s_ended_way : Stmt := top 57
abbrev s_Lengths_init : Stmt := inClass (top 58) 0
abbrev s_Lengths_add_length : Stmt := inClass (top 58) 1
abbrev s_Lengths_chance_of : Stmt := inClass (top 58) 2
abbrev s_Lengths_chance_of_call : Stmt := inClass (top 58) 3
abbrev s_sum_of : Stmt := top 59
abbrev s_lengths : Stmt := top 60
abbrev s_mass : Stmt := top 61
abbrev s_law_stream : Stmt := top 63
abbrev s_law_next : Stmt := top 64
abbrev s_law_gcd : Stmt := top 65
abbrev s_law_low : Stmt := top 66
abbrev s_law_draw : Stmt := top 67
abbrev s_law_point : Stmt := top 68
abbrev s_law_procedures : Stmt := top 69
abbrev s_law_unknowns : Stmt := top 70
abbrev s_law_terms : Stmt := top 71
abbrev s_law_shortest : Stmt := top 72
abbrev s_law : Stmt := top 73
def mkD (g : Str) (m : Option Str) (name qual : Str) (st : Stmt) : He.DefD := ⟨(g, m), name, qual, defArgs st, defBody st, defScope st, [], []⟩
def fn0 : List He.DefD := [mkD "is_integer_rationals" none "is_integer" "is_integer" s_is_integer_rationals,
  mkD "is_rational" none "is_rational" "is_rational" s_is_rational,
  mkD "reduced" none "reduced" "reduced" s_reduced,
  mkD "plus" none "plus" "plus" s_plus,
  mkD "times" none "times" "times" s_times,
  mkD "is_integer_graphs" none "is_integer" "is_integer" s_is_integer_graphs,
  mkD "is_index" none "is_index" "is_index" s_is_index,
  mkD "has_form" none "has_form" "has_form" s_has_form,
  mkD "is_chance" none "is_chance" "is_chance" s_is_chance,
  mkD "is_amount" none "is_amount" "is_amount" s_is_amount,
  mkD "draw_problem" none "draw_problem" "draw_problem" s_draw_problem,
  mkD "points_problem" none "points_problem" "points_problem" s_points_problem]
def fn1 : List He.DefD := [mkD "point_problem" none "point_problem" "point_problem" s_point_problem,
  mkD "check_procedure" none "check_procedure" "check_procedure" s_check_procedure,
  mkD "check_procedures" none "check_procedures" "check_procedures" s_check_procedures,
  mkD "points_of" none "points_of" "points_of" s_points_of,
  mkD "Graph" (some "__init__") "__init__" "Graph.__init__" s_Graph_init,
  mkD "Graph" (some "is_chain") "is_chain" "Graph.is_chain" s_Graph_is_chain,
  mkD "Graph" (some "places") "places" "Graph.places" s_Graph_places,
  mkD "Graph" (some "is_place") "is_place" "Graph.is_place" s_Graph_is_place,
  mkD "Graph" (some "check_place") "check_place" "Graph.check_place" s_Graph_check_place,
  mkD "Graph" (some "point_at") "point_at" "Graph.point_at" s_Graph_point_at,
  mkD "Graph" (some "ways") "ways" "Graph.ways" s_Graph_ways,
  mkD "Graph" (some "named") "named" "Graph.named" s_Graph_named]
def fn2 : List He.DefD := [mkD "Graph" (some "reached") "reached" "Graph.reached" s_Graph_reached,
  mkD "check_chain_equations" none "check_chain" "check_chain" s_check_chain_equations,
  mkD "all_unknowns" none "all_unknowns" "all_unknowns" s_all_unknowns,
  mkD "call_terms" none "call_terms" "call_terms" s_call_terms,
  mkD "all_terms" none "all_terms" "all_terms" s_all_terms,
  mkD "system_of" none "system_of" "system_of" s_system_of,
  mkD "positives" none "positives" "positives" s_positives,
  mkD "check_graph" none "check_graph" "check_graph" s_check_graph,
  mkD "check_place" none "check_place" "check_place" s_check_place,
  mkD "exits_of" none "exits_of" "exits_of" s_exits_of,
  mkD "check_way" none "check_way" "check_way" s_check_way,
  mkD "check_depth" none "check_depth" "check_depth" s_check_depth]
def fn3 : List He.DefD := [mkD "check_chain_masses" none "check_chain" "check_chain" s_check_chain_masses,
  mkD "ended_way" none "ended_way" "ended_way" s_ended_way,
  mkD "Lengths" (some "__init__") "__init__" "Lengths.__init__" s_Lengths_init,
  mkD "Lengths" (some "add_length") "add_length" "Lengths.add_length" s_Lengths_add_length,
  mkD "Lengths" (some "chance_of") "chance_of" "Lengths.chance_of" s_Lengths_chance_of,
  mkD "Lengths" (some "chance_of_call") "chance_of_call" "Lengths.chance_of_call" s_Lengths_chance_of_call,
  mkD "sum_of" none "sum_of" "sum_of" s_sum_of,
  mkD "lengths" none "lengths" "lengths" s_lengths,
  mkD "mass" none "mass" "mass" s_mass,
  mkD "_law_stream" none "_law_stream" "_law_stream" s_law_stream,
  mkD "_law_next" none "_law_next" "_law_next" s_law_next,
  mkD "_law_gcd" none "_law_gcd" "_law_gcd" s_law_gcd]
def fn4 : List He.DefD := [mkD "_law_low" none "_law_low" "_law_low" s_law_low,
  mkD "_law_draw" none "_law_draw" "_law_draw" s_law_draw,
  mkD "_law_point" none "_law_point" "_law_point" s_law_point,
  mkD "_law_procedures" none "_law_procedures" "_law_procedures" s_law_procedures,
  mkD "_law_unknowns" none "_law_unknowns" "_law_unknowns" s_law_unknowns,
  mkD "_law_terms" none "_law_terms" "_law_terms" s_law_terms,
  mkD "_law_shortest" none "_law_shortest" "_law_shortest" s_law_shortest,
  mkD "law" none "law" "law" s_law]
def fns : List He.DefD := fn0 ++ (fn1 ++ (fn2 ++ (fn3 ++ (fn4))))
def fa0 : List He.Fa := [.glo "is_integer_rationals", .glo "is_rational", .glo "reduced", .glo "plus", .glo "times", .glo "is_integer_graphs", .glo "is_index", .glo "has_form", .glo "is_chance", .glo "is_amount", .glo "draw_problem", .glo "points_problem", .glo "point_problem", .glo "check_procedure", .glo "check_procedures", .glo "points_of"]
def fa1 : List He.Fa := [.glo "check_chain_equations", .glo "all_unknowns", .glo "call_terms", .glo "all_terms", .glo "system_of", .glo "positives", .glo "check_graph", .glo "check_place", .glo "exits_of", .glo "check_way", .glo "check_depth", .glo "check_chain_masses", .glo "ended_way", .glo "sum_of", .glo "lengths", .glo "mass"]
def fa2 : List He.Fa := [.glo "_law_stream", .glo "_law_next", .glo "_law_gcd", .glo "_law_low", .glo "_law_draw", .glo "_law_point", .glo "_law_procedures", .glo "_law_unknowns", .glo "_law_terms", .glo "_law_shortest", .glo "law", .free "isinstance", .free "int", .free "bool", .free "len", .free "tuple"]
def fa3 : List He.Fa := [.free "str", .free "all", .free "any", .free "sum", .free "enumerate", .free "range", .free "list", .free "sorted", .free "abs", .free "min", .int "MOST_PROCEDURES" 6, .int "MOST_EXITS" 3, .int "MOST_POINTS" 16, .int "MOST_IN_ALL" 40, .int "MOST_BRANCHES" 4, .int "MOST_DENOMINATOR" 60]
def fa4 : List He.Fa := [.int "MOST_AMOUNT" 1000, .int "MOST_AMOUNT_DENOMINATOR" 12, .int "MOST_DEPTH" 40, .glo "Graph", .cls "Graph", .mkr "Graph", .glo "Lengths", .cls "Lengths", .mkr "Lengths", .noat "Graph" "procedures", .noat "Lengths" "graph", .noat "Lengths" "places", .noat "Lengths" "rows", .meth "Graph" "is_chain", .meth "Graph" "places", .meth "Graph" "is_place"]
def fa5 : List He.Fa := [.meth "Graph" "check_place", .meth "Graph" "point_at", .meth "Graph" "ways", .meth "Graph" "named", .meth "Graph" "reached", .meth "Lengths" "add_length", .meth "Lengths" "chance_of", .meth "Lengths" "chance_of_call", .glo "ZERO", .glo "ONE_rationals", .glo "ONE_equations", .glo "LENGTHS"]
def fas : List He.Fa := fa0 ++ (fa1 ++ (fa2 ++ (fa3 ++ (fa4 ++ (fa5)))))
def lengthsTab : List (Str × He.Dv) := [("exit", .int 2), ("draw", .int 2), ("choose", .int 2), ("call", .int 3), ("reward", .int 3), ("reject", .int 1), ("stop", .int 1)]
def tabs : List He.Tab := [((fun K => He.ga K "LENGTHS"), ["exit", "draw", "choose", "call", "reward", "reject", "stop"])]
def isiB (K : PySem.W.Frag) (C : Addr) : Bool := He.eqO (PySem.W.findIn K (.ref C) "__class__") (some (some (.builtin "object.__class__"))) && (He.eqO (PySem.W.specialIn K (.builtin "object.__class__") "__get__") (some (some (.builtin "getset_descriptor.__get__"))) &&
  (decide (PySem.W.takesIn K (.builtin "object.__class__") = some true) && (decide (PySem.W.mroIn K C (.type "object") = some true) && decide (PySem.W.kitOne K (.ref C) (.ref C) = some true))))
def exB (K : PySem.W.Frag) : Bool := He.eqO (PySem.W.nsIn K mainGlobals "gcd") (some (some (.builtin "math.gcd"))) && (He.tupB K "ZERO" [.int 0, .int 1] && (He.tupB K "ONE_rationals" [.int 1, .int 1] && (He.tupB K "ONE_equations" [.int 1, .int 1] &&
  (He.valsB K (He.ga K "LENGTHS") lengthsTab && isiB K (He.ga K "Graph")))))

/-- all that the head tells -/
structure Fs (w : World) (h : Heap) (K : PySem.W.Frag) (mg : Str → Option Value) : Prop where
  c : He.SaysX fas fns tabs [] exB w h K
  G : h.Ns mainGlobals mg
  X : K.In h
/-- a def as it stands behind the top -/
def Dfn (K : PySem.W.Frag) (mg : Str → Option Value) (x name qual : Str) (st : Stmt) : Prop := ∃ f fd, mg x = some (.ref f) ∧ FunD K name qual (defArgs st) (defBody st) (defScope st) [] [] f fd
def DfnM (K : PySem.W.Frag) (C : Addr) (m qual : Str) (st : Stmt) : Prop := ∃ f fd, Meth K C m f ∧ FunD K m qual (defArgs st) (defBody st) (defScope st) [] [] f fd
section
variable {w : World} {h : Heap} {K : PySem.W.Frag} {mg : Str → Option Value}
theorem Fs.fact (F : Fs w h K mg) (i : Nat) {f : He.Fa} (e : fas[i]? = some f) : f.ok K = true := F.c.t.d.fact i e
theorem Fs.glo (F : Fs w h K mg) (i : Nat) {x : Str} (e : fas[i]? = some (.glo x)) : mg x = some (.ref (He.ga K x)) := He.glo_ok F.X F.G (F.fact i e)
theorem Fs.free (F : Fs w h K mg) (i : Nat) {x : Str} (e : fas[i]? = some (.free x)) : mg x = none := He.free_ok F.X F.G (F.fact i e)
theorem Fs.int (F : Fs w h K mg) (i : Nat) {x : Str} {z : Int} (e : fas[i]? = some (.int x z)) : ∃ u, mg x = some u ∧ RelV (.int z) u := by
  obtain ⟨t, q⟩ := He.int_ok F.X F.G (F.fact i e)
  exact ⟨_, q, _, rfl⟩
theorem Fs.dfn (F : Fs w h K mg) (i j : Nat) {g name qual : Str} {st : Stmt} (e : fns[i]? = some (mkD g none name qual st)) (e2 : fas[j]? = some (.glo g)) : Dfn K mg g name qual st := by
  obtain ⟨fd, q⟩ := F.c.t.d.def_ i e
  exact ⟨_, fd, F.glo j e2, q⟩
theorem Fs.dfnM (F : Fs w h K mg) (i j : Nat) {g m qual : Str} {st : Stmt} (e : fns[i]? = some (mkD g (some m) m qual st)) (e2 : fas[j]? = some (.meth g m)) : DfnM K (He.ga K g) m qual st := by
  obtain ⟨fd, q⟩ := F.c.t.d.def_ i e
  exact ⟨_, fd, He.meth_ok (F.fact j e2), q⟩

theorem Fs.d_is_integer_rationals (F : Fs w h K mg) : Dfn K mg "is_integer_rationals" "is_integer" "is_integer" s_is_integer_rationals := F.dfn 0 0 rfl rfl
theorem Fs.d_is_rational (F : Fs w h K mg) : Dfn K mg "is_rational" "is_rational" "is_rational" s_is_rational := F.dfn 1 1 rfl rfl
theorem Fs.d_reduced (F : Fs w h K mg) : Dfn K mg "reduced" "reduced" "reduced" s_reduced := F.dfn 2 2 rfl rfl
theorem Fs.d_plus (F : Fs w h K mg) : Dfn K mg "plus" "plus" "plus" s_plus := F.dfn 3 3 rfl rfl
theorem Fs.d_times (F : Fs w h K mg) : Dfn K mg "times" "times" "times" s_times := F.dfn 4 4 rfl rfl
theorem Fs.d_is_integer_graphs (F : Fs w h K mg) : Dfn K mg "is_integer_graphs" "is_integer" "is_integer" s_is_integer_graphs := F.dfn 5 5 rfl rfl
theorem Fs.d_is_index (F : Fs w h K mg) : Dfn K mg "is_index" "is_index" "is_index" s_is_index := F.dfn 6 6 rfl rfl
theorem Fs.d_has_form (F : Fs w h K mg) : Dfn K mg "has_form" "has_form" "has_form" s_has_form := F.dfn 7 7 rfl rfl
theorem Fs.d_is_chance (F : Fs w h K mg) : Dfn K mg "is_chance" "is_chance" "is_chance" s_is_chance := F.dfn 8 8 rfl rfl
theorem Fs.d_is_amount (F : Fs w h K mg) : Dfn K mg "is_amount" "is_amount" "is_amount" s_is_amount := F.dfn 9 9 rfl rfl
theorem Fs.d_draw_problem (F : Fs w h K mg) : Dfn K mg "draw_problem" "draw_problem" "draw_problem" s_draw_problem := F.dfn 10 10 rfl rfl
theorem Fs.d_points_problem (F : Fs w h K mg) : Dfn K mg "points_problem" "points_problem" "points_problem" s_points_problem := F.dfn 11 11 rfl rfl
theorem Fs.d_point_problem (F : Fs w h K mg) : Dfn K mg "point_problem" "point_problem" "point_problem" s_point_problem := F.dfn 12 12 rfl rfl
theorem Fs.d_check_procedure (F : Fs w h K mg) : Dfn K mg "check_procedure" "check_procedure" "check_procedure" s_check_procedure := F.dfn 13 13 rfl rfl
theorem Fs.d_check_procedures (F : Fs w h K mg) : Dfn K mg "check_procedures" "check_procedures" "check_procedures" s_check_procedures := F.dfn 14 14 rfl rfl
theorem Fs.d_points_of (F : Fs w h K mg) : Dfn K mg "points_of" "points_of" "points_of" s_points_of := F.dfn 15 15 rfl rfl
theorem Fs.d_Graph_init (F : Fs w h K mg) : ∃ fd, FunD K "__init__" "Graph.__init__" (defArgs s_Graph_init) (defBody s_Graph_init) (defScope s_Graph_init) [] [] (He.ma K (He.ga K "Graph") "__init__") fd := F.c.t.d.def_ 16 rfl
theorem Fs.d_Graph_is_chain (F : Fs w h K mg) : DfnM K (He.ga K "Graph") "is_chain" "Graph.is_chain" s_Graph_is_chain := F.dfnM 17 77 rfl rfl
theorem Fs.d_Graph_places (F : Fs w h K mg) : DfnM K (He.ga K "Graph") "places" "Graph.places" s_Graph_places := F.dfnM 18 78 rfl rfl
theorem Fs.d_Graph_is_place (F : Fs w h K mg) : DfnM K (He.ga K "Graph") "is_place" "Graph.is_place" s_Graph_is_place := F.dfnM 19 79 rfl rfl
theorem Fs.d_Graph_check_place (F : Fs w h K mg) : DfnM K (He.ga K "Graph") "check_place" "Graph.check_place" s_Graph_check_place := F.dfnM 20 80 rfl rfl
theorem Fs.d_Graph_point_at (F : Fs w h K mg) : DfnM K (He.ga K "Graph") "point_at" "Graph.point_at" s_Graph_point_at := F.dfnM 21 81 rfl rfl
theorem Fs.d_Graph_ways (F : Fs w h K mg) : DfnM K (He.ga K "Graph") "ways" "Graph.ways" s_Graph_ways := F.dfnM 22 82 rfl rfl
theorem Fs.d_Graph_named (F : Fs w h K mg) : DfnM K (He.ga K "Graph") "named" "Graph.named" s_Graph_named := F.dfnM 23 83 rfl rfl
theorem Fs.d_Graph_reached (F : Fs w h K mg) : DfnM K (He.ga K "Graph") "reached" "Graph.reached" s_Graph_reached := F.dfnM 24 84 rfl rfl
theorem Fs.d_check_chain_equations (F : Fs w h K mg) : Dfn K mg "check_chain_equations" "check_chain" "check_chain" s_check_chain_equations := F.dfn 25 16 rfl rfl
theorem Fs.d_all_unknowns (F : Fs w h K mg) : Dfn K mg "all_unknowns" "all_unknowns" "all_unknowns" s_all_unknowns := F.dfn 26 17 rfl rfl
theorem Fs.d_call_terms (F : Fs w h K mg) : Dfn K mg "call_terms" "call_terms" "call_terms" s_call_terms := F.dfn 27 18 rfl rfl
theorem Fs.d_all_terms (F : Fs w h K mg) : Dfn K mg "all_terms" "all_terms" "all_terms" s_all_terms := F.dfn 28 19 rfl rfl
theorem Fs.d_system_of (F : Fs w h K mg) : Dfn K mg "system_of" "system_of" "system_of" s_system_of := F.dfn 29 20 rfl rfl
theorem Fs.d_positives (F : Fs w h K mg) : Dfn K mg "positives" "positives" "positives" s_positives := F.dfn 30 21 rfl rfl
theorem Fs.d_check_graph (F : Fs w h K mg) : Dfn K mg "check_graph" "check_graph" "check_graph" s_check_graph := F.dfn 31 22 rfl rfl
theorem Fs.d_check_place (F : Fs w h K mg) : Dfn K mg "check_place" "check_place" "check_place" s_check_place := F.dfn 32 23 rfl rfl
theorem Fs.d_exits_of (F : Fs w h K mg) : Dfn K mg "exits_of" "exits_of" "exits_of" s_exits_of := F.dfn 33 24 rfl rfl
theorem Fs.d_check_way (F : Fs w h K mg) : Dfn K mg "check_way" "check_way" "check_way" s_check_way := F.dfn 34 25 rfl rfl
theorem Fs.d_check_depth (F : Fs w h K mg) : Dfn K mg "check_depth" "check_depth" "check_depth" s_check_depth := F.dfn 35 26 rfl rfl
theorem Fs.d_check_chain_masses (F : Fs w h K mg) : Dfn K mg "check_chain_masses" "check_chain" "check_chain" s_check_chain_masses := F.dfn 36 27 rfl rfl
theorem Fs.d_ended_way (F : Fs w h K mg) : Dfn K mg "ended_way" "ended_way" "ended_way" s_ended_way := F.dfn 37 28 rfl rfl
theorem Fs.d_Lengths_init (F : Fs w h K mg) : ∃ fd, FunD K "__init__" "Lengths.__init__" (defArgs s_Lengths_init) (defBody s_Lengths_init) (defScope s_Lengths_init) [] [] (He.ma K (He.ga K "Lengths") "__init__") fd := F.c.t.d.def_ 38 rfl
theorem Fs.d_Lengths_add_length (F : Fs w h K mg) : DfnM K (He.ga K "Lengths") "add_length" "Lengths.add_length" s_Lengths_add_length := F.dfnM 39 85 rfl rfl
theorem Fs.d_Lengths_chance_of (F : Fs w h K mg) : DfnM K (He.ga K "Lengths") "chance_of" "Lengths.chance_of" s_Lengths_chance_of := F.dfnM 40 86 rfl rfl
theorem Fs.d_Lengths_chance_of_call (F : Fs w h K mg) : DfnM K (He.ga K "Lengths") "chance_of_call" "Lengths.chance_of_call" s_Lengths_chance_of_call := F.dfnM 41 87 rfl rfl
theorem Fs.d_sum_of (F : Fs w h K mg) : Dfn K mg "sum_of" "sum_of" "sum_of" s_sum_of := F.dfn 42 29 rfl rfl
theorem Fs.d_lengths (F : Fs w h K mg) : Dfn K mg "lengths" "lengths" "lengths" s_lengths := F.dfn 43 30 rfl rfl
theorem Fs.d_mass (F : Fs w h K mg) : Dfn K mg "mass" "mass" "mass" s_mass := F.dfn 44 31 rfl rfl
theorem Fs.d_law_stream (F : Fs w h K mg) : Dfn K mg "_law_stream" "_law_stream" "_law_stream" s_law_stream := F.dfn 45 32 rfl rfl
theorem Fs.d_law_next (F : Fs w h K mg) : Dfn K mg "_law_next" "_law_next" "_law_next" s_law_next := F.dfn 46 33 rfl rfl
theorem Fs.d_law_gcd (F : Fs w h K mg) : Dfn K mg "_law_gcd" "_law_gcd" "_law_gcd" s_law_gcd := F.dfn 47 34 rfl rfl
theorem Fs.d_law_low (F : Fs w h K mg) : Dfn K mg "_law_low" "_law_low" "_law_low" s_law_low := F.dfn 48 35 rfl rfl
theorem Fs.d_law_draw (F : Fs w h K mg) : Dfn K mg "_law_draw" "_law_draw" "_law_draw" s_law_draw := F.dfn 49 36 rfl rfl
theorem Fs.d_law_point (F : Fs w h K mg) : Dfn K mg "_law_point" "_law_point" "_law_point" s_law_point := F.dfn 50 37 rfl rfl
theorem Fs.d_law_procedures (F : Fs w h K mg) : Dfn K mg "_law_procedures" "_law_procedures" "_law_procedures" s_law_procedures := F.dfn 51 38 rfl rfl
theorem Fs.d_law_unknowns (F : Fs w h K mg) : Dfn K mg "_law_unknowns" "_law_unknowns" "_law_unknowns" s_law_unknowns := F.dfn 52 39 rfl rfl
theorem Fs.d_law_terms (F : Fs w h K mg) : Dfn K mg "_law_terms" "_law_terms" "_law_terms" s_law_terms := F.dfn 53 40 rfl rfl
theorem Fs.d_law_shortest (F : Fs w h K mg) : Dfn K mg "_law_shortest" "_law_shortest" "_law_shortest" s_law_shortest := F.dfn 54 41 rfl rfl
theorem Fs.d_law (F : Fs w h K mg) : Dfn K mg "law" "law" "law" s_law := F.dfn 55 42 rfl rfl
theorem Fs.f_isinstance (F : Fs w h K mg) : mg "isinstance" = none := F.free 43 rfl
theorem Fs.f_int (F : Fs w h K mg) : mg "int" = none := F.free 44 rfl
theorem Fs.f_bool (F : Fs w h K mg) : mg "bool" = none := F.free 45 rfl
theorem Fs.f_len (F : Fs w h K mg) : mg "len" = none := F.free 46 rfl
theorem Fs.f_tuple (F : Fs w h K mg) : mg "tuple" = none := F.free 47 rfl
theorem Fs.f_str (F : Fs w h K mg) : mg "str" = none := F.free 48 rfl
theorem Fs.f_all (F : Fs w h K mg) : mg "all" = none := F.free 49 rfl
theorem Fs.f_any (F : Fs w h K mg) : mg "any" = none := F.free 50 rfl
theorem Fs.f_sum (F : Fs w h K mg) : mg "sum" = none := F.free 51 rfl
theorem Fs.f_enumerate (F : Fs w h K mg) : mg "enumerate" = none := F.free 52 rfl
theorem Fs.f_range (F : Fs w h K mg) : mg "range" = none := F.free 53 rfl
theorem Fs.f_list (F : Fs w h K mg) : mg "list" = none := F.free 54 rfl
theorem Fs.f_sorted (F : Fs w h K mg) : mg "sorted" = none := F.free 55 rfl
theorem Fs.f_abs (F : Fs w h K mg) : mg "abs" = none := F.free 56 rfl
theorem Fs.f_min (F : Fs w h K mg) : mg "min" = none := F.free 57 rfl
theorem Fs.k_MOST_PROCEDURES (F : Fs w h K mg) : ∃ u, mg "MOST_PROCEDURES" = some u ∧ RelV (.int 6) u := F.int 58 rfl
theorem Fs.k_MOST_EXITS (F : Fs w h K mg) : ∃ u, mg "MOST_EXITS" = some u ∧ RelV (.int 3) u := F.int 59 rfl
theorem Fs.k_MOST_POINTS (F : Fs w h K mg) : ∃ u, mg "MOST_POINTS" = some u ∧ RelV (.int 16) u := F.int 60 rfl
theorem Fs.k_MOST_IN_ALL (F : Fs w h K mg) : ∃ u, mg "MOST_IN_ALL" = some u ∧ RelV (.int 40) u := F.int 61 rfl
theorem Fs.k_MOST_BRANCHES (F : Fs w h K mg) : ∃ u, mg "MOST_BRANCHES" = some u ∧ RelV (.int 4) u := F.int 62 rfl
theorem Fs.k_MOST_DENOMINATOR (F : Fs w h K mg) : ∃ u, mg "MOST_DENOMINATOR" = some u ∧ RelV (.int 60) u := F.int 63 rfl
theorem Fs.k_MOST_AMOUNT (F : Fs w h K mg) : ∃ u, mg "MOST_AMOUNT" = some u ∧ RelV (.int 1000) u := F.int 64 rfl
theorem Fs.k_MOST_AMOUNT_DENOMINATOR (F : Fs w h K mg) : ∃ u, mg "MOST_AMOUNT_DENOMINATOR" = some u ∧ RelV (.int 12) u := F.int 65 rfl
theorem Fs.k_MOST_DEPTH (F : Fs w h K mg) : ∃ u, mg "MOST_DEPTH" = some u ∧ RelV (.int 40) u := F.int 66 rfl
theorem Fs.g_Graph (F : Fs w h K mg) : mg "Graph" = some (.ref (He.ga K "Graph")) := F.glo 67 rfl
theorem Fs.cls_Graph (F : Fs w h K mg) : Cls K (He.ga K "Graph") := He.cls_ok (F.fact 68 rfl)
theorem Fs.mk_Graph (F : Fs w h K mg) : Mk K (He.ga K "Graph") (He.ma K (He.ga K "Graph") "__init__") := He.mkr_ok (F.fact 69 rfl)
theorem Fs.g_Lengths (F : Fs w h K mg) : mg "Lengths" = some (.ref (He.ga K "Lengths")) := F.glo 70 rfl
theorem Fs.cls_Lengths (F : Fs w h K mg) : Cls K (He.ga K "Lengths") := He.cls_ok (F.fact 71 rfl)
theorem Fs.mk_Lengths (F : Fs w h K mg) : Mk K (He.ga K "Lengths") (He.ma K (He.ga K "Lengths") "__init__") := He.mkr_ok (F.fact 72 rfl)
theorem Fs.no_Graph_procedures (F : Fs w h K mg) : NoAttr K (He.ga K "Graph") "procedures" := He.noat_ok (F.fact 73 rfl)
theorem Fs.no_Lengths_graph (F : Fs w h K mg) : NoAttr K (He.ga K "Lengths") "graph" := He.noat_ok (F.fact 74 rfl)
theorem Fs.no_Lengths_places (F : Fs w h K mg) : NoAttr K (He.ga K "Lengths") "places" := He.noat_ok (F.fact 75 rfl)
theorem Fs.no_Lengths_rows (F : Fs w h K mg) : NoAttr K (He.ga K "Lengths") "rows" := He.noat_ok (F.fact 76 rfl)
theorem Fs.g_ZERO (F : Fs w h K mg) : mg "ZERO" = some (.ref (He.ga K "ZERO")) := F.glo 88 rfl
theorem Fs.g_ONE_rationals (F : Fs w h K mg) : mg "ONE_rationals" = some (.ref (He.ga K "ONE_rationals")) := F.glo 89 rfl
theorem Fs.g_ONE_equations (F : Fs w h K mg) : mg "ONE_equations" = some (.ref (He.ga K "ONE_equations")) := F.glo 90 rfl
theorem Fs.g_LENGTHS (F : Fs w h K mg) : mg "LENGTHS" = some (.ref (He.ga K "LENGTHS")) := F.glo 91 rfl
theorem Fs.gcd (F : Fs w h K mg) : mg "gcd" = some (.builtin "math.gcd") := PySem.W.mg_of F.X F.G (He.eqO_ok (He.ba F.c.more).1)
theorem Fs.zero (F : Fs w h K mg) (H : Hp) : SqT K H (He.ga K "ZERO") [.int 0, .int 1] := He.tupB_ok (He.ba (He.ba F.c.more).2).1 H
theorem Fs.oneR (F : Fs w h K mg) (H : Hp) : SqT K H (He.ga K "ONE_rationals") [.int 1, .int 1] := He.tupB_ok (He.ba (He.ba (He.ba F.c.more).2).2).1 H
theorem Fs.oneE (F : Fs w h K mg) (H : Hp) : SqT K H (He.ga K "ONE_equations") [.int 1, .int 1] := He.tupB_ok (He.ba (He.ba (He.ba (He.ba F.c.more).2).2).2).1 H
theorem Fs.lengths (F : Fs w h K mg) {q : Str × He.Dv} (hq : q ∈ lengthsTab) : ∃ u, PySem.W.nsIn K (He.ga K "LENGTHS") q.1 = some (some u) ∧ RelV (q.2.v K) u := He.valsB_ok (He.ba (He.ba (He.ba (He.ba (He.ba F.c.more).2).2).2).2).1 hq
theorem Fs.tab (F : Fs w h K mg) : ∃ es n, KDict K w (He.ga K "LENGTHS") es n := F.c.t.tab 0 (t := ((fun K => He.ga K "LENGTHS"), ["exit", "draw", "choose", "call", "reward", "reject", "stop"])) rfl
theorem Fs.isi (F : Fs w h K mg) : isiB K (He.ga K "Graph") = true := (He.ba (He.ba (He.ba (He.ba (He.ba F.c.more).2).2).2).2).2
end
end Odd

/-! Part 0: the mathematics, no program in sight. -/
set_option linter.all false
set_option maxHeartbeats 1000000
namespace Odd
/-! ### chains -/
/-- an unknown: procedure, point, way -/
abbrev U := Nat × Nat × Nat
/-- a point of a chain -/
inductive Pt where
  | exit (e : Nat) | draw (bs : List ((Nat × Nat) × Nat)) | call (r : Nat) (ps : List Nat) | reward (a : Nat × Nat) (q : Nat) | reject | stop
abbrev Pr := Nat × List Pt
abbrev Gr := List Pr
def exitsOf (g : Gr) (p : Nat) : Nat := (g.getD p (0, [])).1
def ptsOf (g : Gr) (p : Nat) : List Pt := (g.getD p (0, [])).2
def ptAt (g : Gr) (p i : Nat) : Pt := (ptsOf g p).getD i .stop
/-- the chances that a draw may have -/
def menu : List (List (Nat × Nat)) :=
  [[(1, 1)], [(1, 2), (1, 2)], [(1, 3), (2, 3)], [(2, 3), (1, 3)], [(1, 4), (1, 2), (1, 4)],
   [(2, 5), (3, 5)], [(1, 6), (5, 6)], [(3, 4), (1, 4)], [(1, 60), (19, 60), (2, 3)], [(1, 4), (1, 4), (1, 4), (1, 4)]]
def PtOk (g : Gr) (pr : Pr) : Pt → Prop
  | .exit e => e < pr.1
  | .draw bs => bs.map (·.1) ∈ menu ∧ ∀ b ∈ bs, b.2 < pr.2.length
  | .call r ps => r < g.length ∧ ps.length = exitsOf g r ∧ ∀ q ∈ ps, q < pr.2.length
  | .reward a q => a.1 < 30 ∧ 0 < a.2 ∧ a.2 ≤ 12 ∧ Nat.gcd a.1 a.2 = 1 ∧ q < pr.2.length
  | .reject => True
  | .stop => True
structure Ok (g : Gr) : Prop where
  l1 : 1 ≤ g.length
  l2 : g.length ≤ 2
  pr : ∀ pr ∈ g, pr.1 ≤ 2 ∧ 2 ≤ pr.2.length ∧ pr.2.length ≤ 5 ∧ ∀ pt ∈ pr.2, PtOk g pr pt

theorem getD_mem {α : Type} (l : List α) (i : Nat) (d : α) (h : i < l.length) : l.getD i d ∈ l := by
  rw [List.getD_eq_getElem?_getD, List.getElem?_eq_getElem h]
  exact List.getElem_mem h
section
variable {g : Gr} (ok : Ok g)
include ok
theorem Ok.mem {p : Nat} (h : p < g.length) : g.getD p (0, []) ∈ g := getD_mem g p _ h
theorem Ok.ex {p : Nat} (h : p < g.length) : exitsOf g p ≤ 2 := (ok.pr _ (ok.mem h)).1
theorem Ok.pts {p : Nat} (h : p < g.length) : 2 ≤ (ptsOf g p).length ∧ (ptsOf g p).length ≤ 5 := ⟨(ok.pr _ (ok.mem h)).2.1, (ok.pr _ (ok.mem h)).2.2.1⟩
theorem Ok.at {p i : Nat} (h : p < g.length) (hi : i < (ptsOf g p).length) : PtOk g (g.getD p (0, [])) (ptAt g p i) := (ok.pr _ (ok.mem h)).2.2.2 _ (getD_mem _ i _ hi)
end

/-! ### unknowns and terms -/
abbrev Tm := (Nat × Nat) × List U
def terms (g : Gr) (u : U) : List Tm := match ptAt g u.1 u.2.1 with
  | .draw bs => bs.map fun b => (b.1, [(u.1, b.2, u.2.2)])
  | .reward _ q => [((1, 1), [(u.1, q, u.2.2)])]
  | .call r ps => (ps.zipIdx.map fun x => ((1, 1), [(r, 0, x.2), (u.1, x.1, u.2.2)])) ++
      (if exitsOf g u.1 ≤ u.2.2 then [((1, 1), [(r, 0, exitsOf g r + (u.2.2 - exitsOf g u.1))])] else [])
  | .exit e => if u.2.2 = e then [((1, 1), [])] else []
  | .reject => if u.2.2 = exitsOf g u.1 then [((1, 1), [])] else []
  | .stop => if u.2.2 = exitsOf g u.1 + 1 then [((1, 1), [])] else []
/-- the plcs, the unknowns, in their order -/
def plcs (g : Gr) : List (Nat × Nat) := (List.range g.length).flatMap fun p => (List.range (ptsOf g p).length).map fun i => (p, i)
def unks (g : Gr) : List U := (plcs g).flatMap fun q => (List.range (exitsOf g q.1 + 2)).map fun w => (q.1, q.2, w)
theorem mem_places {g : Gr} {q : Nat × Nat} : q ∈ plcs g ↔ q.1 < g.length ∧ q.2 < (ptsOf g q.1).length := by
  obtain ⟨a, b⟩ := q
  unfold plcs
  rw [List.mem_flatMap]
  constructor
  · rintro ⟨p, hp, h⟩
    obtain ⟨i, hi, e⟩ := List.mem_map.mp h
    cases e
    exact ⟨List.mem_range.mp hp, List.mem_range.mp hi⟩
  · rintro ⟨h1, h2⟩
    exact ⟨a, List.mem_range.mpr h1, List.mem_map.mpr ⟨b, List.mem_range.mpr h2, rfl⟩⟩
theorem mem_us {g : Gr} {u : U} : u ∈ unks g ↔ u.1 < g.length ∧ u.2.1 < (ptsOf g u.1).length ∧ u.2.2 < exitsOf g u.1 + 2 := by
  obtain ⟨a, b, c⟩ := u
  unfold unks
  rw [List.mem_flatMap]
  constructor
  · rintro ⟨q, hq, h⟩
    obtain ⟨w, hw, e⟩ := List.mem_map.mp h
    cases e
    have z := mem_places.mp hq
    exact ⟨z.1, z.2, List.mem_range.mp hw⟩
  · rintro ⟨h1, h2, h3⟩
    exact ⟨(a, b), mem_places.mpr ⟨h1, h2⟩, List.mem_map.mpr ⟨c, List.mem_range.mpr h3, rfl⟩⟩
theorem len_flat {α β : Type} (f : α → List β) (k : Nat) : ∀ l : List α, (∀ a ∈ l, (f a).length ≤ k) → (l.flatMap f).length ≤ l.length * k
  | [], _ => by simp
  | a :: l, h => by
    rw [List.flatMap_cons, List.length_append, List.length_cons, Nat.succ_mul]
    have h1 := h a List.mem_cons_self
    have h2 := len_flat f k l fun b hb => h b (List.mem_cons_of_mem _ hb)
    omega
theorem len_places {g : Gr} (ok : Ok g) : (plcs g).length ≤ 10 := by
  have z := len_flat (fun p => (List.range (ptsOf g p).length).map fun i => (p, i)) 5 (List.range g.length) fun p hp => by
    rw [List.length_map, List.length_range]
    exact (ok.pts (List.mem_range.mp hp)).2
  rw [List.length_range] at z
  have := ok.l2
  unfold plcs
  omega
theorem len_us {g : Gr} (ok : Ok g) : (unks g).length ≤ 40 := by
  have z := len_flat (fun q : Nat × Nat => (List.range (exitsOf g q.1 + 2)).map fun w => (q.1, q.2, w)) 4 (plcs g) fun q hq => by
    rw [List.length_map, List.length_range]
    have := ok.ex (mem_places.mp hq).1
    omega
  have := len_places ok
  unfold unks
  omega
/-- a term's factors are unknowns; two of them only at a call -/
theorem terms_mem {g : Gr} (ok : Ok g) {u : U} (hu : u ∈ unks g) {t : Tm} (ht : t ∈ terms g u) : ∀ f ∈ t.2, f ∈ unks g := by
  obtain ⟨h1, h2, h3⟩ := mem_us.mp hu
  have hp := ok.at h1 h2
  unfold terms at ht
  intro f hf
  cases e : ptAt g u.1 u.2.1 with
  | draw bs =>
    rw [e] at ht hp
    obtain ⟨b, hb, e1⟩ := List.mem_map.mp ht
    subst e1
    simp only [List.mem_singleton] at hf
    subst hf
    exact mem_us.mpr ⟨h1, hp.2 b hb, h3⟩
  | reward a q =>
    rw [e] at ht hp
    simp only [List.mem_singleton] at ht
    subst ht
    simp only [List.mem_singleton] at hf
    subst hf
    exact mem_us.mpr ⟨h1, hp.2.2.2.2, h3⟩
  | call r ps =>
    rw [e] at ht hp
    obtain ⟨hr, hl, hq⟩ := hp
    have r0 := (ok.pts hr).1
    rcases List.mem_append.mp ht with ht | ht
    · obtain ⟨x, hx, e1⟩ := List.mem_map.mp ht
      subst e1
      have hx2 := List.mem_zipIdx hx
      simp only [List.mem_cons, List.not_mem_nil, or_false] at hf
      rcases hf with hf | hf
      · subst hf
        refine mem_us.mpr ⟨hr, ?_, ?_⟩
        · show 0 < (ptsOf g r).length
          omega
        · show x.2 < exitsOf g r + 2
          omega
      · subst hf
        refine mem_us.mpr ⟨h1, ?_, h3⟩
        exact hq x.1 (by rw [hx2.2.2]; exact List.getElem_mem _)
    · split at ht
      · next hw =>
        simp only [List.mem_singleton] at ht
        subst ht
        simp only [List.mem_singleton] at hf
        subst hf
        refine mem_us.mpr ⟨hr, ?_, ?_⟩
        · show 0 < (ptsOf g r).length
          omega
        · show exitsOf g r + (u.2.2 - exitsOf g u.1) < exitsOf g r + 2
          omega
      · cases ht
  | exit k =>
    rw [e] at ht
    simp only at ht
    split at ht
    · simp only [List.mem_singleton] at ht
      subst ht
      cases hf
    · cases ht
  | reject =>
    rw [e] at ht
    simp only at ht
    split at ht
    · simp only [List.mem_singleton] at ht
      subst ht
      cases hf
    · cases ht
  | stop =>
    rw [e] at ht
    simp only at ht
    split at ht
    · simp only [List.mem_singleton] at ht
      subst ht
      cases hf
    · cases ht
/-! ### the chances of the lengths, times 60 to the length -/
/-- steps that a term adds -/
def cost (t : Tm) : Nat := match t.2.length with
  | 0 => 0
  | 1 => 1
  | _ => 2
/-- sixty times a chance -/
def wt (c : Nat × Nat) : Nat := 60 * c.1 / c.2
/-- the sum over first < k of M first a * M (k - 1 - first) b, each 3600-fold -/
def conv (M : Nat → U → Nat) (a b : U) (k : Nat) : Nat := ((List.range k).map fun i => 3600 * (M i a * M (k - 1 - i) b)).sum
def nx (g : Gr) (M : Nat → U → Nat) (k : Nat) (u : U) : Nat := match ptAt g u.1 u.2.1, k with
  | .exit e, 0 => if u.2.2 = e then 1 else 0
  | .reject, 0 => if u.2.2 = exitsOf g u.1 then 1 else 0
  | .stop, 0 => if u.2.2 = exitsOf g u.1 + 1 then 1 else 0
  | .draw bs, k + 1 => (bs.map fun b => wt b.1 * M k (u.1, b.2, u.2.2)).sum
  | .reward _ q, k + 1 => 60 * M k (u.1, q, u.2.2)
  | .call r ps, k + 1 => (ps.zipIdx.map fun x => conv M (r, 0, x.2) (u.1, x.1, u.2.2) k).sum +
      (if exitsOf g u.1 ≤ u.2.2 then 60 * M k (r, 0, exitsOf g r + (u.2.2 - exitsOf g u.1)) else 0)
  | _, _ => 0
theorem conv_congr {M M' : Nat → U → Nat} {a b : U} {k : Nat} (h : ∀ j, j < k → ∀ u, M j u = M' j u) : conv M a b k = conv M' a b k := by
  unfold conv
  congr 1
  apply List.map_congr_left
  intro i hi
  have hi := List.mem_range.mp hi
  rw [h i hi, h (k - 1 - i) (by omega)]
theorem nx_congr {g : Gr} {M M' : Nat → U → Nat} : ∀ {k : Nat} {u : U}, (∀ j, j < k → ∀ u, M j u = M' j u) → nx g M k u = nx g M' k u := by
  intro k u h
  cases k with
  | zero =>
    unfold nx
    cases ptAt g u.1 u.2.1 <;> rfl
  | succ k =>
    have h1 : ∀ u, M k u = M' k u := h k (Nat.lt_succ_self k)
    unfold nx
    cases ptAt g u.1 u.2.1 with
    | exit e => rfl
    | reject => rfl
    | stop => rfl
    | draw bs => simp only [h1]
    | reward a q => simp only [h1]
    | call r ps =>
      have h2 : ∀ a b, conv M a b k = conv M' a b k := fun a b => conv_congr fun j hj => h j (Nat.lt_succ_of_lt hj)
      simp only [h1, h2]
def nt (g : Gr) : Nat → Nat → U → Nat
  | 0 => fun _ _ => 0
  | f + 1 => nx g (nt g f)
def Nn (g : Gr) (k : Nat) (u : U) : Nat := nt g (k + 1) k u
theorem nt_N (g : Gr) : ∀ (f k : Nat) (u : U), k < f → nt g f k u = Nn g k u := by
  have go : ∀ (k : Nat), ∀ f f' u, k < f → k < f' → nt g f k u = nt g f' k u := by
    intro k
    induction k using Nat.strongRecOn with
    | _ k ih =>
      intro f f' u h h'
      cases f with
      | zero => omega
      | succ f =>
        cases f' with
        | zero => omega
        | succ f' =>
          show nx g (nt g f) k u = nx g (nt g f') k u
          exact nx_congr fun j hj u => ih j hj f f' u (by omega) (by omega)
  intro f k u h
  exact go k f (k + 1) u h (Nat.lt_succ_self k)
theorem N_eq (g : Gr) (k : Nat) (u : U) : Nn g k u = nx g (Nn g) k u := by
  show nx g (nt g k) k u = _
  exact nx_congr fun j hj u => nt_N g k j u hj

/-! ### when they are greater than 0 -/
theorem sum_pos : ∀ {l : List Nat}, 0 < l.sum ↔ ∃ x ∈ l, 0 < x
  | [] => by simp
  | a :: l => by
    rw [List.sum_cons]
    constructor
    · intro h
      by_cases ha : 0 < a
      · exact ⟨a, List.mem_cons_self, ha⟩
      · obtain ⟨x, hx, h0⟩ := sum_pos.mp (show 0 < l.sum by omega)
        exact ⟨x, List.mem_cons_of_mem _ hx, h0⟩
    · rintro ⟨x, hx, h0⟩
      rcases List.mem_cons.mp hx with e | hx
      · subst e; omega
      · have := sum_pos.mpr ⟨x, hx, h0⟩
        omega
theorem conv_pos {M : Nat → U → Nat} {a b : U} {k : Nat} : 0 < conv M a b k ↔ ∃ i j, i + j + 1 = k ∧ 0 < M i a ∧ 0 < M j b := by
  unfold conv
  rw [sum_pos]
  constructor
  · rintro ⟨x, hx, h0⟩
    obtain ⟨i, hi, e⟩ := List.mem_map.mp hx
    have hi := List.mem_range.mp hi
    subst e
    refine ⟨i, k - 1 - i, by omega, ?_, ?_⟩
    · apply Nat.pos_of_ne_zero
      intro z
      rw [z] at h0
      simp at h0
    · apply Nat.pos_of_ne_zero
      intro z
      rw [z] at h0
      simp at h0
  · rintro ⟨i, j, e, h1, h2⟩
    refine ⟨_, List.mem_map.mpr ⟨i, List.mem_range.mpr (by omega), rfl⟩, ?_⟩
    rw [show k - 1 - i = j by omega]
    exact Nat.mul_pos (by omega) (Nat.mul_pos h1 h2)
theorem menu_wt : ∀ cs ∈ menu, ∀ c ∈ cs, 0 < c.1 ∧ 0 < c.2 ∧ c.2 ∣ 60 ∧ 0 < wt c ∧ wt c * c.2 = 60 * c.1 ∧ c.1 ≤ 60 ∧ c.2 ≤ 60 ∧ Nat.gcd c.1 c.2 = 1 := by decide
theorem draw_wt {g : Gr} (ok : Ok g) {p i : Nat} (h : p < g.length) (hi : i < (ptsOf g p).length) {bs : List ((Nat × Nat) × Nat)} (e : ptAt g p i = .draw bs) {b : (Nat × Nat) × Nat} (hb : b ∈ bs) :
    0 < b.1.1 ∧ 0 < b.1.2 ∧ b.1.2 ∣ 60 ∧ 0 < wt b.1 ∧ wt b.1 * b.1.2 = 60 * b.1.1 ∧ b.1.1 ≤ 60 ∧ b.1.2 ≤ 60 ∧ Nat.gcd b.1.1 b.1.2 = 1 := by
  have z := ok.at h hi
  rw [e] at z
  exact menu_wt _ z.1 _ (List.mem_map.mpr ⟨b, hb, rfl⟩)
section
variable {g : Gr} {u : U}
theorem N_draw {bs : List ((Nat × Nat) × Nat)} (e : ptAt g u.1 u.2.1 = .draw bs) (k : Nat) : Nn g (k + 1) u = (bs.map fun b => wt b.1 * Nn g k (u.1, b.2, u.2.2)).sum := by
  rw [N_eq]; unfold nx; rw [e]
theorem N_reward {a : Nat × Nat} {q : Nat} (e : ptAt g u.1 u.2.1 = .reward a q) (k : Nat) : Nn g (k + 1) u = 60 * Nn g k (u.1, q, u.2.2) := by
  rw [N_eq]; unfold nx; rw [e]
theorem N_call {r : Nat} {ps : List Nat} (e : ptAt g u.1 u.2.1 = .call r ps) (k : Nat) : Nn g (k + 1) u = (ps.zipIdx.map fun x => conv (Nn g) (r, 0, x.2) (u.1, x.1, u.2.2) k).sum +
      (if exitsOf g u.1 ≤ u.2.2 then 60 * Nn g k (r, 0, exitsOf g r + (u.2.2 - exitsOf g u.1)) else 0) := by
  rw [N_eq]; unfold nx; rw [e]
/-- an end: exit, reject, stop -/
def Pt.ends : Pt → Bool
  | .exit _ => true
  | .reject => true
  | .stop => true
  | _ => false
/-- the way in which it ends -/
def endWay (g : Gr) (p : Nat) : Pt → Nat
  | .exit e => e
  | .reject => exitsOf g p
  | _ => exitsOf g p + 1
theorem N_end0 (e : (ptAt g u.1 u.2.1).ends = true) : Nn g 0 u = if u.2.2 = endWay g u.1 (ptAt g u.1 u.2.1) then 1 else 0 := by
  rw [N_eq]; unfold nx
  cases h : ptAt g u.1 u.2.1 <;> first | rfl | (rw [h] at e; cases e)
theorem N_endS (e : (ptAt g u.1 u.2.1).ends = true) (k : Nat) : Nn g (k + 1) u = 0 := by
  rw [N_eq]; unfold nx
  cases h : ptAt g u.1 u.2.1 <;> first | rfl | (rw [h] at e; cases e)
theorem N_zero (e : (ptAt g u.1 u.2.1).ends = false) : Nn g 0 u = 0 := by
  rw [N_eq]; unfold nx
  cases h : ptAt g u.1 u.2.1 <;> first | rfl | (rw [h] at e; cases e)
theorem terms_end (e : (ptAt g u.1 u.2.1).ends = true) : terms g u = if u.2.2 = endWay g u.1 (ptAt g u.1 u.2.1) then [((1, 1), [])] else [] := by
  unfold terms
  cases h : ptAt g u.1 u.2.1 <;> first | rfl | (rw [h] at e; cases e)
end
/-- a term whose factors have runs of these lengths -/
theorem N_step {g : Gr} (ok : Ok g) {u : U} (hu : u ∈ unks g) {t : Tm} (ht : t ∈ terms g u) (n : U → Nat) (hn : ∀ f ∈ t.2, 0 < Nn g (n f) f) : 0 < Nn g ((t.2.map n).sum + cost t) u := by
  obtain ⟨h1, h2, h3⟩ := mem_us.mp hu
  by_cases hE : (ptAt g u.1 u.2.1).ends = true
  · rw [terms_end hE] at ht
    split at ht
    · next hw =>
      simp only [List.mem_singleton] at ht
      subst ht
      show 0 < Nn g 0 u
      rw [N_end0 hE, if_pos hw]
      exact Nat.one_pos
    · cases ht
  · unfold terms at ht
    cases e : ptAt g u.1 u.2.1 with
    | draw bs =>
      rw [e] at ht
      obtain ⟨b, hb, e1⟩ := List.mem_map.mp ht
      subst e1
      have q : 0 < Nn g (n (u.1, b.2, u.2.2)) (u.1, b.2, u.2.2) := hn _ List.mem_cons_self
      show 0 < Nn g (n (u.1, b.2, u.2.2) + 0 + 1) u
      rw [N_draw e, sum_pos]
      exact ⟨_, List.mem_map.mpr ⟨b, hb, rfl⟩, Nat.mul_pos (draw_wt ok h1 h2 e hb).2.2.2.1 q⟩
    | reward a q =>
      rw [e] at ht
      simp only [List.mem_singleton] at ht
      subst ht
      have z : 0 < Nn g (n (u.1, q, u.2.2)) (u.1, q, u.2.2) := hn _ List.mem_cons_self
      show 0 < Nn g (n (u.1, q, u.2.2) + 0 + 1) u
      rw [N_reward e]
      exact Nat.mul_pos (by omega) z
    | call r ps =>
      rw [e] at ht
      rcases List.mem_append.mp ht with ht | ht
      · obtain ⟨x, hx, e1⟩ := List.mem_map.mp ht
        subst e1
        have z1 : 0 < Nn g (n (r, 0, x.2)) (r, 0, x.2) := hn _ List.mem_cons_self
        have z2 : 0 < Nn g (n (u.1, x.1, u.2.2)) (u.1, x.1, u.2.2) := hn _ (List.mem_cons_of_mem _ List.mem_cons_self)
        show 0 < Nn g (n (r, 0, x.2) + (n (u.1, x.1, u.2.2) + 0) + 1 + 1) u
        rw [N_call e]
        apply Nat.add_pos_left
        rw [sum_pos]
        exact ⟨_, List.mem_map.mpr ⟨x, hx, rfl⟩, conv_pos.mpr ⟨_, _, rfl, z1, z2⟩⟩
      · split at ht
        · next hw =>
          simp only [List.mem_singleton] at ht
          subst ht
          have z : 0 < Nn g (n (r, 0, exitsOf g r + (u.2.2 - exitsOf g u.1))) (r, 0, exitsOf g r + (u.2.2 - exitsOf g u.1)) := hn _ List.mem_cons_self
          show 0 < Nn g (n (r, 0, exitsOf g r + (u.2.2 - exitsOf g u.1)) + 0 + 1) u
          rw [N_call e]
          apply Nat.add_pos_right
          rw [if_pos hw]
          exact Nat.mul_pos (by omega) z
        · cases ht
    | exit k => rw [e] at hE; exact absurd rfl hE
    | reject => rw [e] at hE; exact absurd rfl hE
    | stop => rw [e] at hE; exact absurd rfl hE
/-- a chance greater than 0 has a term -/
theorem N_inv {g : Gr} (ok : Ok g) {u : U} (hu : u ∈ unks g) {k : Nat} (h : 0 < Nn g k u) : ∃ t ∈ terms g u, (t.2 = [] ∧ k = 0) ∨ (∃ f i, t.2 = [f] ∧ k = i + 1 ∧ 0 < Nn g i f) ∨ ∃ f f' i j, t.2 = [f, f'] ∧ k = i + j + 2 ∧ 0 < Nn g i f ∧ 0 < Nn g j f' := by
  obtain ⟨h1, h2, h3⟩ := mem_us.mp hu
  by_cases hE : (ptAt g u.1 u.2.1).ends = true
  · cases k with
    | succ k =>
      rw [N_endS hE] at h
      cases h
    | zero =>
      rw [N_end0 hE] at h
      rw [terms_end hE]
      split at h
      · next hw =>
        rw [if_pos hw]
        exact ⟨_, List.mem_singleton.mpr rfl, .inl ⟨rfl, rfl⟩⟩
      · cases h
  · have hF : (ptAt g u.1 u.2.1).ends = false := by simpa using hE
    cases k with
    | zero =>
      rw [N_zero hF] at h
      cases h
    | succ k =>
      unfold terms
      cases e : ptAt g u.1 u.2.1 with
      | draw bs =>
        rw [N_draw e, sum_pos] at h
        obtain ⟨x, hx, h0⟩ := h
        obtain ⟨b, hb, e1⟩ := List.mem_map.mp hx
        subst e1
        refine ⟨_, List.mem_map.mpr ⟨b, hb, rfl⟩, .inr (.inl ⟨_, k, rfl, rfl, ?_⟩)⟩
        apply Nat.pos_of_ne_zero
        intro z
        rw [z, Nat.mul_zero] at h0
        cases h0
      | reward a q =>
        rw [N_reward e] at h
        exact ⟨_, List.mem_singleton.mpr rfl, .inr (.inl ⟨_, k, rfl, rfl, by omega⟩)⟩
      | call r ps =>
        rw [N_call e] at h
        by_cases hz : 0 < (ps.zipIdx.map fun x => conv (Nn g) (r, 0, x.2) (u.1, x.1, u.2.2) k).sum
        · rw [sum_pos] at hz
          obtain ⟨x, hx, h0⟩ := hz
          obtain ⟨y, hy, e1⟩ := List.mem_map.mp hx
          subst e1
          obtain ⟨i, j, e2, z1, z2⟩ := conv_pos.mp h0
          exact ⟨_, List.mem_append_left _ (List.mem_map.mpr ⟨y, hy, rfl⟩), .inr (.inr ⟨_, _, i, j, rfl, by omega, z1, z2⟩)⟩
        · have h0 : 0 < (if exitsOf g u.1 ≤ u.2.2 then 60 * Nn g k (r, 0, exitsOf g r + (u.2.2 - exitsOf g u.1)) else 0) := by omega
          split at h0
          · next hw =>
            refine ⟨_, List.mem_append_right _ (by rw [if_pos hw]; exact List.mem_singleton.mpr rfl), .inr (.inl ⟨_, k, rfl, rfl, by omega⟩)⟩
          · cases h0
      | exit k => rw [e] at hE; exact absurd rfl hE
      | reject => rw [e] at hE; exact absurd rfl hE
      | stop => rw [e] at hE; exact absurd rfl hE

/-! ### the positive set -/
def Posi (g : Gr) (u : U) : Prop := ∃ k, 0 < Nn g k u
theorem pos_step {g : Gr} (ok : Ok g) {u : U} (hu : u ∈ unks g) {t : Tm} (ht : t ∈ terms g u) (h : ∀ f ∈ t.2, Posi g f) : Posi g u := by
  have hc : ∀ f, ∃ k, f ∈ t.2 → 0 < Nn g k f := fun f => by
    by_cases hf : f ∈ t.2
    · obtain ⟨k, hk⟩ := h f hf
      exact ⟨k, fun _ => hk⟩
    · exact ⟨0, fun z => absurd z hf⟩
  refine ⟨_, N_step ok hu ht (fun f => Classical.choose (hc f)) fun f hf => Classical.choose_spec (hc f) hf⟩
/-- what is closed under the terms has all of them -/
theorem pos_least {g : Gr} (ok : Ok g) {S : U → Prop} (hc : ∀ u ∈ unks g, ∀ t ∈ terms g u, (∀ f ∈ t.2, S f) → S u) {u : U} (hu : u ∈ unks g) (h : Posi g u) : S u := by
  obtain ⟨k, hk⟩ := h
  induction k using Nat.strongRecOn generalizing u with
  | _ k ih =>
    obtain ⟨t, ht, q⟩ := N_inv ok hu hk
    have hm := terms_mem ok hu ht
    refine hc u hu t ht fun f hf => ?_
    rcases q with ⟨e, _⟩ | ⟨f1, i, e, ek, z⟩ | ⟨f1, f2, i, j, e, ek, z1, z2⟩
    · rw [e] at hf
      cases hf
    · have hf' := hm f hf
      rw [e] at hf
      rw [List.mem_singleton.mp hf] at hf' ⊢
      exact ih i (by omega) hf' z
    · have hf' := hm f hf
      rw [e] at hf
      simp only [List.mem_cons, List.not_mem_nil, or_false] at hf
      rcases hf with hf | hf
      · rw [hf] at hf' ⊢
        exact ih i (by omega) hf' z1
      · rw [hf] at hf' ⊢
        exact ih j (by omega) hf' z2

/-! ### the shortest lengths -/
/-- the sum over the factors, if all have a value -/
def tot (F : U → Option Nat) : List U → Option Nat
  | [] => some 0
  | f :: fs => match F f, tot F fs with
    | some a, some b => some (a + b)
    | _, _ => none
theorem tot_some {F : U → Option Nat} : ∀ {fs : List U} {s : Nat}, tot F fs = some s → ∃ n : U → Nat, (∀ f ∈ fs, F f = some (n f)) ∧ s = (fs.map n).sum := by
  intro fs s h
  refine ⟨fun f => (F f).getD 0, ?_, ?_⟩
  · induction fs generalizing s with
    | nil => intro f hf; cases hf
    | cons a fs ih =>
      unfold tot at h
      intro f hf
      split at h
      · next x y e1 e2 =>
        rcases List.mem_cons.mp hf with e | hf
        · subst e
          show F f = some ((F f).getD 0)
          rw [e1]
          rfl
        · exact ih e2 f hf
      · cases h
  · induction fs generalizing s with
    | nil =>
      cases h
      rfl
    | cons a fs ih =>
      unfold tot at h
      split at h
      · next x y e1 e2 =>
        cases h
        rw [List.map_cons, List.sum_cons, e1, ih e2]
        rfl
      · cases h
def Snd (g : Gr) (F : U → Option Nat) : Prop := ∀ u n, F u = some n → u ∈ unks g ∧ 0 < Nn g n u
/-- F' has all that F has, and nothing greater -/
def LeF (F F' : U → Option Nat) : Prop := ∀ u n, F u = some n → ∃ m, m ≤ n ∧ F' u = some m
theorem LeF.refl (F : U → Option Nat) : LeF F F := fun _ n h => ⟨n, Nat.le_refl n, h⟩
theorem LeF.trans {F G H : U → Option Nat} (a : LeF F G) (b : LeF G H) : LeF F H := fun u n h => by
  obtain ⟨m, h1, h2⟩ := a u n h
  obtain ⟨k, h3, h4⟩ := b u m h2
  exact ⟨k, Nat.le_trans h3 h1, h4⟩
theorem LeF.tot {F G : U → Option Nat} (a : LeF F G) : ∀ {fs : List U} {s : Nat}, tot F fs = some s → ∃ r, r ≤ s ∧ tot G fs = some r
  | [], s, h => ⟨s, Nat.le_refl s, h⟩
  | f :: fs, s, h => by
    unfold Odd.tot at h ⊢
    split at h
    · next x y e1 e2 =>
      cases h
      obtain ⟨m, h1, h2⟩ := a f x e1
      obtain ⟨r, h3, h4⟩ := LeF.tot a e2
      rw [h2, h4]
      exact ⟨m + r, by omega, rfl⟩
    · cases h
/-- u has a value that is at most what the term t gives over F0 -/
def Good (F0 F : U → Option Nat) (u : U) (t : Tm) : Prop := ∀ s, tot F0 t.2 = some s → ∃ m, m ≤ s + cost t ∧ F u = some m
theorem Good.le {F0 F G : U → Option Nat} {u : U} {t : Tm} (h : Good F0 F u t) (a : LeF F G) : Good F0 G u t := fun s hs => by
  obtain ⟨m, h1, h2⟩ := h s hs
  obtain ⟨k, h3, h4⟩ := a u m h2
  exact ⟨k, Nat.le_trans h3 h1, h4⟩
def putU (F : U → Option Nat) (u : U) (n : Nat) : U → Option Nat := fun v => if v = u then some n else F v
/-- one term looked at: the new table -/
def look1 (F : U → Option Nat) (u : U) (t : Tm) : Option Nat := match tot F t.2 with
  | some s => (match F u with
    | some m => if s + cost t < m then some (s + cost t) else none
    | none => some (s + cost t))
  | none => none
theorem put_le {F : U → Option Nat} {u : U} {n : Nat} (h : ∀ m, F u = some m → n ≤ m) : LeF F (putU F u n) := fun v k e => by
  by_cases hv : v = u
  · subst hv
    exact ⟨n, h k e, by unfold putU; rw [if_pos rfl]⟩
  · exact ⟨k, Nat.le_refl k, by unfold putU; rw [if_neg hv]; exact e⟩
theorem put_snd {g : Gr} (ok : Ok g) {F : U → Option Nat} (hs : Snd g F) {u : U} (hu : u ∈ unks g) {t : Tm} (ht : t ∈ terms g u) {s : Nat} (e : tot F t.2 = some s) : Snd g (putU F u (s + cost t)) := fun v k h => by
  unfold putU at h
  split at h
  · next hv =>
    cases h
    subst hv
    refine ⟨hu, ?_⟩
    obtain ⟨n, h1, h2⟩ := tot_some e
    rw [h2]
    exact N_step ok hu ht n fun f hf => (hs f (n f) (h1 f hf)).2
  · exact hs v k h
/-- a pass over all unknowns, where it stands: units before i are through -/
structure Pass (g : Gr) (F0 F : U → Option Nat) (ch : Bool) (done : U → Tm → Prop) : Prop where
  snd : Snd g F
  le : LeF F0 F
  good : ∀ u t, done u t → Good F0 F u t
  same : ch = false → F = F0
  more : ch = true → ∃ u n, F u = some n ∧ ∀ m, F0 u = some m → n < m
theorem Pass.start {g : Gr} {F : U → Option Nat} (h : Snd g F) : Pass g F F false (fun _ _ => False) := ⟨h, LeF.refl F, fun _ _ z => z.elim, fun _ => rfl, fun z => nomatch z⟩
/-- one more term -/
theorem Pass.step {g : Gr} (ok : Ok g) {F0 F : U → Option Nat} {ch : Bool} {done : U → Tm → Prop} (h : Pass g F0 F ch done) {u : U} (hu : u ∈ unks g) {t : Tm} (ht : t ∈ terms g u) {s : Nat} (e : tot F t.2 = some s)
    (hl : ∀ m, F u = some m → s + cost t < m) : Pass g F0 (Odd.putU F u (s + cost t)) true (fun v t' => done v t' ∨ (v = u ∧ t' = t)) := by
  have lp : LeF F (Odd.putU F u (s + cost t)) := put_le fun m hm => Nat.le_of_lt (hl m hm)
  refine ⟨put_snd ok h.snd hu ht e, h.le.trans lp, fun v t' hd => ?_, (fun z => nomatch z), fun _ => ⟨u, s + cost t, by unfold Odd.putU; rw [if_pos rfl], fun m hm => ?_⟩⟩
  · rcases hd with hd | ⟨e1, e2⟩
    · exact (h.good v t' hd).le lp
    · subst e1 e2
      intro s0 hs0
      obtain ⟨r, h1, h2⟩ := h.le.tot hs0
      rw [e] at h2
      cases h2
      exact ⟨s + cost t', by omega, by unfold Odd.putU; rw [if_pos rfl]⟩
  · obtain ⟨k, h1, h2⟩ := h.le u m hm
    have := hl k h2
    omega
theorem Pass.skip {g : Gr} {F0 F : U → Option Nat} {ch : Bool} {done : U → Tm → Prop} (h : Pass g F0 F ch done) {u : U} {t : Tm}
    (hn : ∀ s, tot F t.2 = some s → ∃ m, F u = some m ∧ m ≤ s + cost t) : Pass g F0 F ch (fun v t' => done v t' ∨ (v = u ∧ t' = t)) := by
  refine ⟨h.snd, h.le, fun v t' hd => ?_, h.same, h.more⟩
  rcases hd with hd | ⟨e1, e2⟩
  · exact h.good v t' hd
  · subst e1 e2
    intro s0 hs0
    obtain ⟨r, h1, h2⟩ := h.le.tot hs0
    obtain ⟨m, h3, h4⟩ := hn r h2
    exact ⟨m, by omega, h3⟩
theorem Pass.to {g : Gr} {F0 F : U → Option Nat} {ch : Bool} {done done' : U → Tm → Prop} (h : Pass g F0 F ch done) (hd : ∀ u t, done' u t → done u t) : Pass g F0 F ch done' := ⟨h.snd, h.le, fun u t z => h.good u t (hd u t z), h.same, h.more⟩
/-- nothing is to be made less -/
def Clo (g : Gr) (F : U → Option Nat) : Prop := ∀ u ∈ unks g, ∀ t ∈ terms g u, Good F F u t
/-- the least length -/
theorem clo_least {g : Gr} (ok : Ok g) {F : U → Option Nat} (hc : Clo g F) {u : U} (hu : u ∈ unks g) {k : Nat} (hk : 0 < Nn g k u) : ∃ m, m ≤ k ∧ F u = some m := by
  induction k using Nat.strongRecOn generalizing u with
  | _ k ih =>
    obtain ⟨t, ht, q⟩ := N_inv ok hu hk
    have hm := terms_mem ok hu ht
    have hg := hc u hu t ht
    rcases q with ⟨e, ek⟩ | ⟨f, i, e, ek, z⟩ | ⟨f, f', i, j, e, ek, z1, z2⟩
    · obtain ⟨m, h1, h2⟩ := hg 0 (by rw [e]; rfl)
      have hcst : cost t = 0 := by unfold cost; rw [e]; rfl
      exact ⟨m, by omega, h2⟩
    · obtain ⟨a, a1, a2⟩ := ih i (by omega) (hm f (by rw [e]; exact List.mem_cons_self)) z
      obtain ⟨m, h1, h2⟩ := hg (a + 0) (by rw [e]; unfold tot; rw [a2]; rfl)
      have hcst : cost t = 1 := by unfold cost; rw [e]; rfl
      exact ⟨m, by omega, h2⟩
    · obtain ⟨a, a1, a2⟩ := ih i (by omega) (hm f (by rw [e]; exact List.mem_cons_self)) z1
      obtain ⟨b, b1, b2⟩ := ih j (by omega) (hm f' (by rw [e]; exact List.mem_cons_of_mem _ List.mem_cons_self)) z2
      obtain ⟨m, h1, h2⟩ := hg (a + (b + 0)) (by rw [e]; unfold tot; rw [a2]; unfold tot; rw [b2]; rfl)
      have hcst : cost t = 2 := by unfold cost; rw [e]; rfl
      exact ⟨m, by omega, h2⟩
theorem least {P : Nat → Prop} (h : ∃ k, P k) : ∃ m, P m ∧ ∀ j, j < m → ¬ P j := by
  obtain ⟨k, hk⟩ := h
  induction k using Nat.strongRecOn with
  | _ k ih =>
    by_cases q : ∃ j, j < k ∧ P j
    · obtain ⟨j, hj, hp⟩ := q
      exact ih j hj hp
    · exact ⟨k, hk, fun j hj hp => q ⟨j, hj, hp⟩⟩
/-- u has its least length -/
def Exa (g : Gr) (F : U → Option Nat) (u : U) : Prop := ∃ m, F u = some m ∧ ∀ j, j < m → Nn g j u = 0
open Classical in
noncomputable def exn (g : Gr) (F : U → Option Nat) : Nat := (unks g).countP fun u => decide (Exa g F u)
theorem countP_lt {α : Type} {p q : α → Bool} : ∀ {l : List α}, (∀ x ∈ l, p x = true → q x = true) → (∃ x ∈ l, p x = false ∧ q x = true) → l.countP p < l.countP q
  | [], _, h => by obtain ⟨x, hx, _⟩ := h; cases hx
  | a :: l, h1, h2 => by
    have hle : l.countP p ≤ l.countP q := List.countP_mono_left fun x hx => h1 x (List.mem_cons_of_mem _ hx)
    rw [List.countP_cons, List.countP_cons]
    obtain ⟨x, hx, e1, e2⟩ := h2
    rcases List.mem_cons.mp hx with e | hx
    · subst e
      rw [e1, e2]
      simp
      omega
    · have := countP_lt (fun x hx => h1 x (List.mem_cons_of_mem _ hx)) ⟨x, hx, e1, e2⟩
      by_cases hp : p a = true
      · rw [hp, h1 a List.mem_cons_self hp]
        simp
        omega
      · rw [if_neg hp]
        split <;> omega
theorem exn_le {g : Gr} (ok : Ok g) (F : U → Option Nat) : exn g F ≤ 40 := Nat.le_trans List.countP_le_length (len_us ok)
theorem exa_of {g : Gr} {F0 F : U → Option Nat} (hs : Snd g F) (hl : LeF F0 F) {u : U} (h : Exa g F0 u) : Exa g F u := by
  obtain ⟨m, h1, h2⟩ := h
  obtain ⟨k, h3, h4⟩ := hl u m h1
  have z := (hs u k h4).2
  have : ¬ k < m := fun q => by rw [h2 k q] at z; cases z
  have e : k = m := by omega
  subst e
  exact ⟨k, h4, h2⟩
open Classical in
/-- a pass that changes something makes one more exact -/
theorem conv_step {g : Gr} (ok : Ok g) {F0 F : U → Option Nat} (hs0 : Snd g F0) (h : Pass g F0 F true fun u t => u ∈ unks g ∧ t ∈ terms g u) : exn g F0 < exn g F := by
  unfold exn
  refine countP_lt (fun u _ e => ?_) ?_
  · exact decide_eq_true (exa_of h.snd h.le (of_decide_eq_true e))
  · obtain ⟨v, n, hv, hm⟩ := h.more rfl
    have hb : ∃ k, ∃ u ∈ unks g, 0 < Nn g k u ∧ ¬ Exa g F0 u := by
      obtain ⟨hv1, hv2⟩ := h.snd v n hv
      refine ⟨n, v, hv1, hv2, fun ⟨m, h1, h2⟩ => ?_⟩
      rw [h2 n (hm m h1)] at hv2
      cases hv2
    obtain ⟨k, ⟨u, hu, hk, hne⟩, hmin⟩ := least hb
    have hzero : ∀ j, j < k → Nn g j u = 0 := fun j hj => by
      apply Nat.eq_zero_of_not_pos
      intro z
      exact hmin j hj ⟨u, hu, z, hne⟩
    have hfac : ∀ f ∈ unks g, ∀ i, i < k → 0 < Nn g i f → ∃ a, F0 f = some a ∧ a ≤ i := fun f hf i hi z => by
      have hx : Exa g F0 f := by
        apply Classical.byContradiction
        intro q
        exact hmin i hi ⟨f, hf, z, q⟩
      obtain ⟨a, h1, h2⟩ := hx
      refine ⟨a, h1, ?_⟩
      apply Nat.le_of_not_lt
      intro q
      rw [h2 i q] at z
      cases z
    obtain ⟨t, ht, q⟩ := N_inv ok hu hk
    have hmem := terms_mem ok hu ht
    have hgood := h.good u t ⟨hu, ht⟩
    have key : ∃ m, F u = some m ∧ m ≤ k := by
      rcases q with ⟨e, ek⟩ | ⟨f, i, e, ek, z⟩ | ⟨f, f', i, j, e, ek, z1, z2⟩
      · obtain ⟨m, h1, h2⟩ := hgood 0 (by rw [e]; rfl)
        have hcst : cost t = 0 := by unfold cost; rw [e]; rfl
        exact ⟨m, h2, by omega⟩
      · obtain ⟨a, a1, a2⟩ := hfac f (hmem f (by rw [e]; exact List.mem_cons_self)) i (by omega) z
        obtain ⟨m, h1, h2⟩ := hgood (a + 0) (by rw [e]; unfold tot; rw [a1]; rfl)
        have hcst : cost t = 1 := by unfold cost; rw [e]; rfl
        exact ⟨m, h2, by omega⟩
      · obtain ⟨a, a1, a2⟩ := hfac f (hmem f (by rw [e]; exact List.mem_cons_self)) i (by omega) z1
        obtain ⟨b, b1, b2⟩ := hfac f' (hmem f' (by rw [e]; exact List.mem_cons_of_mem _ List.mem_cons_self)) j (by omega) z2
        obtain ⟨m, h1, h2⟩ := hgood (a + (b + 0)) (by rw [e]; unfold tot; rw [a1]; unfold tot; rw [b1]; rfl)
        have hcst : cost t = 2 := by unfold cost; rw [e]; rfl
        exact ⟨m, h2, by omega⟩
    obtain ⟨m, h1, h2⟩ := key
    have z := (h.snd u m h1).2
    have : ¬ m < k := fun q => by rw [hzero m q] at z; cases z
    have e : m = k := by omega
    subst e
    exact ⟨u, hu, decide_eq_false hne, decide_eq_true ⟨m, h1, hzero⟩⟩
theorem pass_clo {g : Gr} {F0 F : U → Option Nat} (h : Pass g F0 F false fun u t => u ∈ unks g ∧ t ∈ terms g u) : Clo g F := fun u hu t ht => by
  have e := h.same rfl
  subst e
  exact h.good u t ⟨hu, ht⟩
/-- what the table says in the end -/
structure Fini (g : Gr) (F : U → Option Nat) : Prop where
  mem : ∀ u n, F u = some n → u ∈ unks g
  out : ∀ u ∈ unks g, F u = none → ∀ k, Nn g k u = 0
  at_ : ∀ u n, F u = some n → 0 < Nn g n u
  below : ∀ u n, F u = some n → ∀ j, j < n → Nn g j u = 0
theorem fin_of {g : Gr} (ok : Ok g) {F : U → Option Nat} (hs : Snd g F) (hc : Clo g F) : Fini g F where
  mem := fun u n h => (hs u n h).1
  out := fun u hu h k => by
    apply Nat.eq_zero_of_not_pos
    intro z
    obtain ⟨m, _, e⟩ := clo_least ok hc hu z
    rw [h] at e
    cases e
  at_ := fun u n h => (hs u n h).2
  below := fun u n h j hj => by
    apply Nat.eq_zero_of_not_pos
    intro z
    obtain ⟨m, h1, e⟩ := clo_least ok hc (hs u n h).1 z
    rw [h] at e
    cases e
    omega
theorem Fini.pos {g : Gr} {F : U → Option Nat} (h : Fini g F) {u : U} (hu : u ∈ unks g) : Posi g u ↔ (F u).isSome = true := by
  constructor
  · rintro ⟨k, hk⟩
    cases e : F u with
    | none =>
      rw [h.out u hu e k] at hk
      cases hk
    | some n => rfl
  · intro q
    cases e : F u with
    | none =>
      rw [e] at q
      cases q
    | some n => exact ⟨n, h.at_ u n e⟩

/-! ### rationals in lowest terms -/
def rn (n d : Nat) : Nat := n / Nat.gcd n d
def rd (n d : Nat) : Nat := d / Nat.gcd n d
theorem r_scale {c : Nat} (h : 0 < c) (x y : Nat) : rn (c * x) (c * y) = rn x y ∧ rd (c * x) (c * y) = rd x y := by
  unfold rn rd
  rw [Nat.gcd_mul_left, Nat.mul_div_mul_left _ _ h, Nat.mul_div_mul_left _ _ h]
  exact ⟨rfl, rfl⟩
theorem r_mul (n d : Nat) : Nat.gcd n d * rn n d = n ∧ Nat.gcd n d * rd n d = d := ⟨Nat.mul_div_cancel' (Nat.gcd_dvd_left n d), Nat.mul_div_cancel' (Nat.gcd_dvd_right n d)⟩
theorem gcd_pos {n d : Nat} (h : 0 < d) : 0 < Nat.gcd n d := Nat.gcd_pos_of_pos_right n h
theorem rd_pos {n d : Nat} (h : 0 < d) : 0 < rd n d := by
  have := (r_mul n d).2
  apply Nat.pos_of_ne_zero
  intro z
  rw [z] at this
  omega
theorem rn_le (n d : Nat) : rn n d ≤ n := Nat.div_le_self _ _
theorem rd_le (n d : Nat) : rd n d ≤ d := Nat.div_le_self _ _
theorem rn_zero {d : Nat} (h : 0 < d) : rn 0 d = 0 ∧ rd 0 d = 1 := by
  unfold rn rd
  rw [Nat.gcd_zero_left, Nat.div_self h]
  exact ⟨Nat.zero_div _, rfl⟩
theorem rn_pos {n d : Nat} (h : 0 < n) : 0 < rn n d := by
  have := (r_mul n d).1
  apply Nat.pos_of_ne_zero
  intro z
  rw [z] at this
  omega
theorem r_cop {n d : Nat} (h : Nat.gcd n d = 1) : rn n d = n ∧ rd n d = d := by
  unfold rn rd
  rw [h, Nat.div_one, Nat.div_one]
  exact ⟨rfl, rfl⟩
/-- the sum, the product, of what is in lowest terms -/
theorem r_plus {a d b e : Nat} (hd : 0 < d) (he : 0 < e) :
    rn (rn a d * rd b e + rd a d * rn b e) (rd a d * rd b e) = rn (a * e + d * b) (d * e) ∧ rd (rn a d * rd b e + rd a d * rn b e) (rd a d * rd b e) = rd (a * e + d * b) (d * e) := by
  have z := r_scale (Nat.mul_pos (gcd_pos (n := a) hd) (gcd_pos (n := b) he)) (rn a d * rd b e + rd a d * rn b e) (rd a d * rd b e)
  have e1 : Nat.gcd a d * Nat.gcd b e * (rn a d * rd b e + rd a d * rn b e) = a * e + d * b := by
    have x1 : Nat.gcd a d * Nat.gcd b e * (rn a d * rd b e) = a * e := by rw [Nat.mul_mul_mul_comm, (r_mul a d).1, (r_mul b e).2]
    have x2 : Nat.gcd a d * Nat.gcd b e * (rd a d * rn b e) = d * b := by rw [Nat.mul_mul_mul_comm, (r_mul a d).2, (r_mul b e).1]
    rw [Nat.mul_add, x1, x2]
  have e2 : Nat.gcd a d * Nat.gcd b e * (rd a d * rd b e) = d * e := by
    rw [Nat.mul_mul_mul_comm, (r_mul a d).2, (r_mul b e).2]
  rw [e1, e2] at z
  exact ⟨z.1.symm, z.2.symm⟩
theorem r_times {a d b e : Nat} (hd : 0 < d) (he : 0 < e) :
    rn (rn a d * rn b e) (rd a d * rd b e) = rn (a * b) (d * e) ∧ rd (rn a d * rn b e) (rd a d * rd b e) = rd (a * b) (d * e) := by
  have z := r_scale (Nat.mul_pos (gcd_pos (n := a) hd) (gcd_pos (n := b) he)) (rn a d * rn b e) (rd a d * rd b e)
  have e1 : Nat.gcd a d * Nat.gcd b e * (rn a d * rn b e) = a * b := by
    rw [Nat.mul_mul_mul_comm, (r_mul a d).1, (r_mul b e).1]
  have e2 : Nat.gcd a d * Nat.gcd b e * (rd a d * rd b e) = d * e := by
    rw [Nat.mul_mul_mul_comm, (r_mul a d).2, (r_mul b e).2]
  rw [e1, e2] at z
  exact ⟨z.1.symm, z.2.symm⟩
/-- equal fractions -/
theorem r_eq {a d b e : Nat} (hd : 0 < d) (he : 0 < e) (h : a * e = b * d) : rn a d = rn b e ∧ rd a d = rd b e := by
  have z1 := r_scale he a d
  have z2 := r_scale hd b e
  rw [Nat.mul_comm e a, h, Nat.mul_comm b d, Nat.mul_comm e d] at z1
  exact ⟨z1.1.symm.trans z2.1, z1.2.symm.trans z2.2⟩

/-! ### bounds -/
def Bb : Nat := 8192
theorem sum_le (k : Nat) : ∀ l : List Nat, (∀ x ∈ l, x ≤ k) → l.sum ≤ l.length * k
  | [], _ => by simp
  | a :: l, h => by
    rw [List.sum_cons, List.length_cons, Nat.succ_mul]
    have h1 := h a List.mem_cons_self
    have h2 := sum_le k l fun b hb => h b (List.mem_cons_of_mem _ hb)
    omega
theorem menu_len : ∀ cs ∈ menu, cs.length ≤ 4 ∧ 1 ≤ cs.length := by decide
theorem menu_w60 : ∀ cs ∈ menu, ∀ c ∈ cs, wt c ≤ 60 := by decide
theorem N_le_all {g : Gr} (ok : Ok g) : ∀ k, k ≤ 42 → ∀ u, u ∈ unks g → Nn g k u ≤ Bb ^ k := by
  intro k
  induction k using Nat.strongRecOn with
  | _ k ih =>
    intro hk u hu
    obtain ⟨h1, h2, h3⟩ := mem_us.mp hu
    have hp := ok.at h1 h2
    by_cases hE : (ptAt g u.1 u.2.1).ends = true
    · cases k with
      | zero =>
        rw [N_end0 hE]
        split
        · exact Nat.le_refl 1
        · exact Nat.zero_le _
      | succ k =>
        rw [N_endS hE]
        exact Nat.zero_le _
    · have hF : (ptAt g u.1 u.2.1).ends = false := by simpa using hE
      cases k with
      | zero =>
        rw [N_zero hF]
        exact Nat.zero_le _
      | succ k =>
        have eB : Bb ^ (k + 1) = 8192 * Bb ^ k := by rw [Nat.pow_succ, Nat.mul_comm]; rfl
        have tm : ∀ t ∈ terms g u, ∀ f ∈ t.2, f ∈ unks g := fun t ht => terms_mem ok hu ht
        unfold terms at tm
        cases e : ptAt g u.1 u.2.1 with
        | draw bs =>
          rw [e] at hp tm
          rw [N_draw e]
          have hlen : bs.length ≤ 4 := by
            have z := (menu_len _ hp.1).1
            rw [List.length_map] at z
            exact z
          refine Nat.le_trans (sum_le (60 * Bb ^ k) _ fun x hx => ?_) ?_
          · obtain ⟨b, hb, e1⟩ := List.mem_map.mp hx
            subst e1
            refine Nat.mul_le_mul (menu_w60 _ hp.1 _ (List.mem_map.mpr ⟨b, hb, rfl⟩)) (ih k (Nat.lt_succ_self k) (by omega) _ ?_)
            exact tm _ (List.mem_map.mpr ⟨b, hb, rfl⟩) _ List.mem_cons_self
          · rw [List.length_map, eB]
            have : bs.length * (60 * Bb ^ k) ≤ 4 * (60 * Bb ^ k) := Nat.mul_le_mul_right _ hlen
            omega
        | reward a q =>
          rw [e] at tm
          rw [N_reward e, eB]
          have := ih k (Nat.lt_succ_self k) (by omega) _ (tm _ (List.mem_singleton.mpr rfl) _ List.mem_cons_self)
          omega
        | call r ps =>
          rw [e] at hp tm
          obtain ⟨hr, hl, hq⟩ := hp
          rw [N_call e]
          have hps : ps.length ≤ 2 := by
            rw [hl]
            exact ok.ex hr
          have hc : ∀ x ∈ ps.zipIdx, conv (Nn g) (r, 0, x.2) (u.1, x.1, u.2.2) k ≤ 41 * (3600 * Bb ^ (k - 1)) := by
            intro x hx
            have m1 := tm _ (List.mem_append_left _ (List.mem_map.mpr ⟨x, hx, rfl⟩))
            have ma : (r, 0, x.2) ∈ unks g := m1 _ List.mem_cons_self
            have mb : (u.1, x.1, u.2.2) ∈ unks g := m1 _ (List.mem_cons_of_mem _ List.mem_cons_self)
            unfold conv
            refine Nat.le_trans (sum_le (3600 * Bb ^ (k - 1)) _ fun y hy => ?_) ?_
            · obtain ⟨i, hi, e1⟩ := List.mem_map.mp hy
              have hi := List.mem_range.mp hi
              subst e1
              refine Nat.mul_le_mul_left _ ?_
              have e2 : Bb ^ (k - 1) = Bb ^ i * Bb ^ (k - 1 - i) := by
                rw [← Nat.pow_add]
                congr 1
                omega
              rw [e2]
              exact Nat.mul_le_mul (ih i (by omega) (by omega) _ ma) (ih (k - 1 - i) (by omega) (by omega) _ mb)
            · rw [List.length_map, List.length_range]
              exact Nat.mul_le_mul_right _ (by omega)
          have h4 : (ps.zipIdx.map fun x => conv (Nn g) (r, 0, x.2) (u.1, x.1, u.2.2) k).sum ≤ 2 * (41 * (3600 * Bb ^ (k - 1))) := by
            refine Nat.le_trans (sum_le (41 * (3600 * Bb ^ (k - 1))) _ fun x hx => ?_) ?_
            · obtain ⟨y, hy, e1⟩ := List.mem_map.mp hx
              subst e1
              exact hc y hy
            · rw [List.length_map, List.length_zipIdx]
              exact Nat.mul_le_mul_right _ hps
          have h5 : (if exitsOf g u.1 ≤ u.2.2 then 60 * Nn g k (r, 0, exitsOf g r + (u.2.2 - exitsOf g u.1)) else 0) ≤ 60 * Bb ^ k := by
            split
            · next hw =>
              refine Nat.mul_le_mul_left _ (ih k (Nat.lt_succ_self k) (by omega) _ ?_)
              exact tm _ (List.mem_append_right _ (by rw [if_pos hw]; exact List.mem_singleton.mpr rfl)) _ List.mem_cons_self
            · exact Nat.zero_le _
          have h6 : (ps.zipIdx.map fun x => conv (Nn g) (r, 0, x.2) (u.1, x.1, u.2.2) k).sum ≤ 8000 * Bb ^ k := by
            cases k with
            | zero =>
              apply Nat.le_of_not_lt
              intro z
              obtain ⟨x, hx, h0⟩ := sum_pos.mp (Nat.lt_of_le_of_lt (Nat.zero_le _) z)
              obtain ⟨y, hy, e1⟩ := List.mem_map.mp hx
              subst e1
              obtain ⟨i, j, e2, _⟩ := conv_pos.mp h0
              omega
            | succ k =>
              refine Nat.le_trans h4 ?_
              show 2 * (41 * (3600 * Bb ^ k)) ≤ 8000 * Bb ^ (k + 1)
              have e3 : Bb ^ (k + 1) = 8192 * Bb ^ k := by rw [Nat.pow_succ, Nat.mul_comm]; rfl
              rw [e3]
              omega
          rw [eB]
          omega
        | exit k => rw [e] at hF; cases hF
        | reject => rw [e] at hF; cases hF
        | stop => rw [e] at hF; cases hF
end Odd

set_option Elab.async false
set_option linter.all false
set_option maxRecDepth 100000
set_option maxHeartbeats 4000000
/-! Part 4: calls, statements by evaluation, data of the chain. -/
namespace Odd
open PySem PySem.Spec PyProof.Rows L2
/-! ### a def that keeps a promise, by its module's name; a method -/
section
variable (P : Program) (w : World) (K : PySem.W.Frag) (mg : Str → Option Value) (base : Heap)
def Cal (x : Str) (k : Nat) (ps : List Str) (sp : Sp) : Prop := ∃ f fd, mg x = some (.ref f) ∧ PySem.W.keepIn K (.ref f) = true ∧ Binds K fd ps [] ∧ FnOk P w K mg base CX0 k f fd ps sp
def CalM (C : Addr) (m : Str) (k : Nat) (ps : List Str) (sp : Sp) : Prop := ∃ f fd, Meth K C m f ∧ Binds K fd ps [] ∧ FnOk P w K mg base CX0 k f fd ps sp
end
section
variable {P : Program} {w : World} {K : PySem.W.Frag} {mg : Str → Option Value} {base : Heap} {x name qual : Str} {st : Stmt} {N ps : List Str} {k : Nat} {sp : Sp} {C : Addr}
abbrev BindOk (name qual : Str) (st : Stmt) (ps : List Str) : Prop := ∀ (kV doc pm : Value) (an : Option Addr) (cdv ct : Value) (us : List Value), us.length = ps.length →
  bindArgs (PySem.W.fnOf name qual (defArgs st) (defBody st) (defScope st) .none kV doc pm an cdv ct) ⟨us, []⟩ = pure (ps.zip us)
abbrev BodyOk (P : Program) (w : World) (K : PySem.W.Frag) (mg : Str → Option Value) (base : Heap) (qual : Str) (st : Stmt) (N : List Str) (k : Nat) (sp : Sp) : Prop :=
  ∀ (f : Addr) (cdv : Value) (A : Around) (outer : List Env) (s : Shared) (H : Hp) (vs : List V) (Q : VK) (E : XK), Room k (A.deeper (envOfC qual (defScope st) s.heap.objs.size f cdv)) → sp vs H Q E →
      ∃ t, PSs (cxOf CX0 P w K mg base N qual (defScope st) f cdv A outer s H E).nox (defBody st) t ∧ t { nx := fun _ H' => Q .non H', rt := Q } (start N vs) H
theorem Dfn.cal (d : Dfn K mg x name qual st) (S : FnScope N ps (defScope st)) (hb : BindOk name qual st ps) (len : ∀ vs H Q E, sp vs H Q E → vs.length = ps.length) (body : BodyOk P w K mg base qual st N k sp) : Cal P w K mg base x (k + 1) ps sp := by
  obtain ⟨f, fd, h1, F⟩ := d
  refine ⟨f, fd, h1, F.kp, F.bindsN hb, F.ok S len fun cdv A outer s H vs Q E hr h => ?_⟩
  obtain ⟨t, q1, q2⟩ := body f cdv A outer s H vs Q E hr h
  exact ⟨t, q1.nox, q2⟩
theorem DfnM.cal (d : DfnM K C x qual st) (S : FnScope N ps (defScope st)) (hb : BindOk x qual st ps) (len : ∀ vs H Q E, sp vs H Q E → vs.length = ps.length) (body : BodyOk P w K mg base qual st N k sp) : CalM P w K mg base C x (k + 1) ps sp := by
  obtain ⟨f, fd, h1, F⟩ := d
  refine ⟨f, fd, h1, F.bindsN hb, F.ok S len fun cdv A outer s H vs Q E hr h => ?_⟩
  obtain ⟨t, q1, q2⟩ := body f cdv A outer s H vs Q E hr h
  exact ⟨t, q1.nox, q2⟩
end
section
variable {X : Cx} {x m : Str} {k : Nat} {ps : List Str} {sp : Sp} {p pos apos : Pos} {e o : Expr} {es : List Expr} {t : TA} {ta : TE} {C : Addr}
theorem pe_cal (c : Cal X.prog X.w X.K X.mg X.base x k ps sp) (hr : Room k X.A) (ha : PA X (e :: es) t) (hg : Gl X x := by rfl)
    (hdb : (x == ("__debug__" : Str)) = false := by decide) (he : starEach (e :: es) X.env = (false, eval e X.env) :: starEach es X.env := by rfl) (hpl : (backTo pos (starEach es X.env)).any (·.1) = false := by rfl) :
    PE X (.Call (.Name x p) (e :: es) [] pos) (tCall sp [] E0 t) := by
  obtain ⟨f, fd, h1, h2, h3, h4⟩ := c
  exact pe_call h4 hr hg h1 h2 h3 .nil pass0 ha hdb he hpl
theorem pe_calM {pl : Sem Bool} (c : CalM X.prog X.w X.K X.mg X.base C m k ps sp) (cl : Cls X.K C) (hr : Room k X.A) (ho : PE X o ta) (ha : PA X (e :: es) t)
    (hst : starEach (e :: es) X.env = (false, eval e X.env) :: starEach es X.env := by rfl) (hpl : (backTo pos (starEach es X.env)).any (·.1) = false := by rfl)
    (ht : eval (.Call (.Attribute o m apos) (e :: es) [] pos) X.env = (do
      let ov ← eval o X.env
      standAt apos.atName
      let (f, first) ← holding [ov] (getMethod ov m pl)
      callWith pos f first (backTo pos (starEach (e :: es) X.env)) (backToKw pos (keywordEach [] X.env))) := by rfl) :
    PE X (.Call (.Attribute o m apos) (e :: es) [] pos) (tMeth C m sp [] E0 ta t) := by
  obtain ⟨f, fd, h1, h3, h4⟩ := c
  exact pe_meth ho cl h1 h4 hr h3 .nil pass0 ha hst hpl ht
theorem pe_calM0 {pl : Sem Bool} (c : CalM X.prog X.w X.K X.mg X.base C m k ps sp) (cl : Cls X.K C) (hr : Room k X.A) (ho : PE X o ta)
    (ht : eval (.Call (.Attribute o m apos) [] [] pos) X.env = (do
      let ov ← eval o X.env
      standAt apos.atName
      let (f, first) ← holding [ov] (getMethod ov m pl)
      callWith pos f first (backTo pos (starEach [] X.env)) (backToKw pos (keywordEach [] X.env))) := by rfl) :
    PE X (.Call (.Attribute o m apos) [] [] pos) (tMeth C m sp [] E0 ta tNil) := by
  obtain ⟨f, fd, h1, h3, h4⟩ := c
  exact pe_meth0 ho cl h1 h4 hr h3 .nil pass0 ht
end
/-! ### promises over data -/
def spP (K : PySem.W.Frag) (R : List D → D → Prop) : Sp := fun vs H Q _ => ∃ ds d, DnL K H ds vs ∧ R ds d ∧ ∀ v H', Same H H' → Dn K H' d v → Q v H'
section
variable {K : PySem.W.Frag} {σ : L2.St} {H : Hp} {ta : TA} {to te : TE} {ds : List D} {d : D} {R : List D → D → Prop}
theorem ev_call (ha : EvA K ta σ H ds) (r : R ds d) : EvD K (tCall (spP K R) [] E0 ta) σ H d := fun H1 a Q q =>
  ha H1 a _ fun vs H2 s2 hv => ⟨ds, d, by rw [List.append_nil]; exact hv, r, fun v H' s hd => q v H' (s2.trans s) hd⟩
theorem spP_len {n : Nat} (hR : ∀ ds d, R ds d → ds.length = n) : ∀ vs H Q E, spP K R vs H Q E → vs.length = n := fun vs H Q E h => by
  obtain ⟨ds, d, h1, h2, _⟩ := h
  rw [h1.length]
  exact hR ds d h2
end
/-! ### statements by evaluation -/
section
variable {σ : L2.St} {H : Hp} {te : TE} {tt : TT} {t u r : TS} {d : D} {E : Ends} {i : Nat} {b : Bool}
theorem st_set (K : PySem.W.Frag) (h : EvD K te σ H d) (k : ∀ v H1, Same H H1 → Dn K H1 d v → u E (σ.set i (some v)) H1) : tSeq (tAsg te (gName i)) u E σ H := h.run fun v H1 s hv => k v H1 s hv
theorem st_ret (K : PySem.W.Frag) (h : EvD K te σ H d) (k : ∀ v H1, Same H H1 → Dn K H1 d v → E.rt v H1) : tRet te E σ H := h.run fun v H1 s hv => k v H1 s hv
theorem st_drop (K : PySem.W.Frag) (h : EvD K te σ H d) (k : ∀ H1, Same H H1 → u E σ H1) : tSeq (tDrop te) u E σ H := h.run fun v H1 s hv => k H1 s
/-- an if that ends the block, or is followed -/
theorem st_if (h : EvT tt σ H b) (k1 : b = true → ∀ H1, Same H H1 → t E σ H1) (k2 : b = false → ∀ H1, Same H H1 → u E σ H1) : tIfS tt t u E σ H := h.run fun H1 s => by
  cases b with
  | true => exact iteT (k1 rfl H1 s)
  | false => exact iteF (k2 rfl H1 s)
theorem st_ifq (h : EvT tt σ H b) (k1 : b = true → ∀ H1, Same H H1 → t { E with nx := r E } σ H1) (k2 : b = false → ∀ H1, Same H H1 → u { E with nx := r E } σ H1) : tSeq (tIfS tt t u) r E σ H := st_if h k1 k2
/-- an if without else whose test is false -/
theorem st_no (h : EvT tt σ H false) (k : ∀ H1, Same H H1 → r E σ H1) : tSeq (tIfS tt t tNext) r E σ H := st_if h (fun z => nomatch z) fun _ H1 s => k H1 s
end
end Odd

set_option Elab.async false
set_option linter.all false
set_option maxRecDepth 100000
set_option maxHeartbeats 4000000
/-! Part 5: rationals. -/
namespace Odd
open PySem PySem.Spec PyProof.Rows L2
/-- a rational -/
def qD (n d : Int) : D := .c [.i n, .i d]
def qd (n d : Nat) : D := qD (rn n d) (rd n d)
/-! ### isinstance, gcd -/
section
variable {K : PySem.W.Frag} {σ : L2.St} {H : Hp} {ta tb : TE} {d : D} {k : Bool}
theorem ev_isi {T : String} {t : Value} (ha : EvD K ta σ H d) (hty : ∀ (v : V) (H' : Hp), Dn K H' d v → TyX K H' v t) (hk : PySem.W.kitOne K t (.type T) = some k) : EvD K (tCB (rIsi K) (tCons ta (tCons (tC (.ty T)) tNil))) σ H (.b k) := fun H1 a Q q =>
  ha H1 a _ fun v H2 s2 hv => ⟨v, .ty T, t, .type T, k, rfl, .ty T, hty v H2 hv, hk, q _ H2 s2 rfl⟩
theorem ty_i {n : Int} (v : V) (H' : Hp) (h : Dn K H' (.i n) v) : TyX K H' v (.type "int") := by
  rw [show v = .int n from h]
  exact .base (.int n)
theorem ty_s {z : Str} (v : V) (H' : Hp) (h : Dn K H' (.s z) v) : TyX K H' v (.type "str") := by
  rw [show v = .str z from h]
  exact .base (.str z)
theorem ty_t {l : List D} (v : V) (H' : Hp) (h : Dn K H' (.t l) v) : TyX K H' v (.type "tuple") := by
  obtain ⟨a, vs, h1, h2, _⟩ := h
  subst h1
  exact .base (.tup h2)
theorem ty_c {l : List D} (v : V) (H' : Hp) (h : Dn K H' (.c l) v) : TyX K H' v (.type "tuple") := by
  obtain ⟨a, vs, h1, h2, _⟩ := h
  subst h1
  rcases h2 with (h2 | ⟨o, h2⟩) | ⟨o, its, n, h2, h3, _⟩
  · exact .base (.tup h2)
  · exact .fTuple h2
  · exact .kTuple h2 h3
theorem ki_ii : PySem.W.kitOne K (.type "int") (.type "int") = some true := kit_ty (by decide +kernel)
theorem ki_ib : PySem.W.kitOne K (.type "int") (.type "bool") = some false := kit_ty (by decide +kernel)
theorem ki_tt : PySem.W.kitOne K (.type "tuple") (.type "tuple") = some true := kit_ty (by decide +kernel)
theorem ki_ss : PySem.W.kitOne K (.type "str") (.type "str") = some true := kit_ty (by decide +kernel)
theorem ev_gcd {n m : Nat} (ha : EvD K ta σ H (.i n)) (hb : EvD K tb σ H (.i m)) : EvD K (tCB rGcd (tCons ta (tCons tb tNil))) σ H (.i (Nat.gcd n m : Nat)) := fun H1 a Q q =>
  ha H1 a _ fun v H2 s2 hv => hb H2 (a.trans s2) _ fun u H3 s3 hu => ⟨n, m, by rw [show v = .int n from hv, show u = .int m from hu], q _ H3 (s2.trans s3) rfl⟩
end
theorem pe_bty {X : Cx} {x : Str} {T : String} {pos : Pos} (hm : X.mg x = none) (hv : bootBuiltins x = some (.type T)) (hg : Gl X x := by rfl) (hn : x ≠ "__name__" := by decide) (hd : (x == ("__debug__" : Str)) = false := by decide) : PE X (.Name x pos) (tC (.ty T)) :=
  pe_bltn hg hm hv (v := .ty T) rfl hn hd
theorem bt_int : bootBuiltins "int" = some (.type "int") := by decide +kernel
theorem bt_bool : bootBuiltins "bool" = some (.type "bool") := by decide +kernel
theorem bt_tuple : bootBuiltins "tuple" = some (.type "tuple") := by decide +kernel
theorem bt_str : bootBuiltins "str" = some (.type "str") := by decide +kernel
theorem bt_isi : bootBuiltins "isinstance" = some (.builtin "isinstance") := by decide +kernel
/-! ### the promises -/
def RIsInt : List D → D → Prop := fun ds d => ∃ n, ds = [.i n] ∧ d = .b true
def RIsRat : List D → D → Prop := fun ds r => ∃ n d : Nat, ds = [qD n d] ∧ 0 < d ∧ Nat.gcd n d = 1 ∧ r = .b true
def RReduced : List D → D → Prop := fun ds r => ∃ n d : Nat, ds = [.i n, .i d] ∧ 0 < d ∧ d < 2 ^ 8000 ∧ r = qd n d
def RPlus : List D → D → Prop := fun ds r => ∃ a d b e : Nat, ds = [qd a d, qd b e] ∧ 0 < d ∧ 0 < e ∧ a < 2 ^ 2000 ∧ d < 2 ^ 2000 ∧ b < 2 ^ 2000 ∧ e < 2 ^ 2000 ∧ r = qd (a * e + d * b) (d * e)
def RTimes : List D → D → Prop := fun ds r => ∃ a d b e : Nat, ds = [qd a d, qd b e] ∧ 0 < d ∧ 0 < e ∧ a < 2 ^ 2000 ∧ d < 2 ^ 2000 ∧ b < 2 ^ 2000 ∧ e < 2 ^ 2000 ∧ r = qd (a * b) (d * e)
section
variable {P : Program} {w : World} {h : Heap} {K : PySem.W.Frag} {mg : Str → Option Value} {base : Heap}
theorem sc_is_integer_rationals : FnScope ["x"] ["x"] (defScope s_is_integer_rationals) := ⟨rfl, rfl, rfl, by decide +kernel, rfl, by decide +kernel, by decide +kernel⟩
theorem c_is_integer_rationals (F : Fs w h K mg) : Cal P w K mg base "is_integer_rationals" 1 ["x"] (spP K RIsInt) := by
  refine F.d_is_integer_rationals.cal sc_is_integer_rationals (fun _ _ _ _ _ _ us hl => match us, hl with | [_], _ => rfl) (spP_len fun ds d r => by obtain ⟨n, rfl, _⟩ := r; rfl) fun f cdv A outer s H vs Q E hr hs => ?_
  obtain ⟨ds, d, hv, ⟨n, rfl, rfl⟩, k⟩ := hs
  obtain ⟨v, _, rfl, h1, rfl⟩ := hv
  refine ⟨_, pss_one (ps_ret (pe_and (pe_callB call_isi (by rfl) F.f_isinstance bt_isi (pa_cons (pv 0) (pa_cons (pe_bty F.f_int bt_int) pa_nil)))
    (pe_one (pe_not (pe_callB call_isi (by rfl) F.f_isinstance bt_isi (pa_cons (pv 0) (pa_cons (pe_bty F.f_bool bt_bool) pa_nil))))))), ?_⟩
  exact st_ret K (ev_and (ev_isi (ev_var rfl h1) ty_i ki_ii) fun _ => ev_not (ev_isi (ev_var rfl h1) ty_i ki_ib)) k
theorem sc_reduced : FnScope ["n", "d", "common"] ["n", "d"] (defScope s_reduced) := ⟨rfl, rfl, rfl, by decide +kernel, rfl, by decide +kernel, by decide +kernel⟩
theorem c_reduced (F : Fs w h K mg) : Cal P w K mg base "reduced" 1 ["n", "d"] (spP K RReduced) := by
  refine F.d_reduced.cal sc_reduced (fun _ _ _ _ _ _ us hl => match us, hl with | [_, _], _ => rfl) (spP_len fun ds d r => by obtain ⟨_, _, rfl, _⟩ := r; rfl) fun f cdv A outer s H vs Q E hr hs => ?_
  obtain ⟨ds, r, hv, ⟨n, d, rfl, hd, hb, rfl⟩, k⟩ := hs
  obtain ⟨v1, _, rfl, h1, v2, _, rfl, h2, rfl⟩ := hv
  cases (show v1 = .int n from h1)
  cases (show v2 = .int d from h2)
  refine ⟨_, pss_cons (ps_set (i := 2) sc_reduced.nd rfl (Or.inl rfl) (pe_callBfun cr_gcd (by rfl) F.gcd (pa_cons (pv 0) (pa_cons (pv 1) pa_nil))))
    (pss_one (ps_ret (pe_tup (pa_cons (pe_op op_fdivW (pv 0) (pv 2)) (pa_cons (pe_op op_fdivW (pv 1) (pv 2)) pa_nil))))), ?_⟩
  refine st_set K (ev_gcd (ev_i rfl) (ev_i rfl)) fun v H1 s1 hv => ?_
  cases (show v = .int (Nat.gcd n d : Nat) from hv)
  have hg : 0 < Nat.gcd n d := gcd_pos hd
  have hc : ∀ x : Int, CDivW x ((Nat.gcd n d : Nat) : Int) := fun x => wide_div (b := 8000) (by omega) (by
    rw [Int.natAbs_natCast]
    exact Nat.lt_of_le_of_lt (Nat.le_of_dvd hd (Nat.gcd_dvd_right n d)) hb) (by decide) (by decide)
  refine st_ret K ((ev_tup (ea_2 (ev_opC (g := fun i j => i / j) (ev_i rfl) (ev_i rfl) (hc n)) (ev_opC (g := fun i j => i / j) (ev_i rfl) (ev_i rfl) (hc d)))).tc) fun v H2 s2 hv => k v H2 (s1.trans s2) ?_
  exact hv
theorem sc_plus : FnScope ["a", "b"] ["a", "b"] (defScope s_plus) := ⟨rfl, rfl, rfl, by decide +kernel, rfl, by decide +kernel, by decide +kernel⟩
theorem ix0 {l : List D} {d : D} : (d :: l)[0]? = some d := rfl
theorem ix1 {l : List D} {d e : D} : (e :: d :: l)[1]? = some d := rfl
theorem pow_fact : (2 : Nat) ^ 2000 * 2 ^ 2000 < 2 ^ 8000 := by
  rw [← Nat.pow_add]
  exact Nat.pow_lt_pow_right (by decide) (by decide)
theorem cmulw {a b : Nat} (ha : a < 2 ^ 2000) (hb : b < 2 ^ 2000) : CMulW (a : Int) (b : Int) := wide_mul (a := 2000) (b := 2000) (by rw [Int.natAbs_natCast]; exact ha) (by rw [Int.natAbs_natCast]; exact hb) (by decide) (by decide) (by decide)
theorem c_plus (F : Fs w h K mg) : Cal P w K mg base "plus" 2 ["a", "b"] (spP K RPlus) := by
  have cR : Cal P w K mg base "reduced" 1 ["n", "d"] (spP K RReduced) := c_reduced F
  refine F.d_plus.cal sc_plus (fun _ _ _ _ _ _ us hl => match us, hl with | [_, _], _ => rfl) (spP_len fun ds d r => by obtain ⟨_, _, _, _, rfl, _⟩ := r; rfl) fun f cdv A outer s H vs Q E hr hs => ?_
  obtain ⟨ds, r, hv, ⟨a, d, b, e, rfl, hd, he, ba, bd, bb, be, rfl⟩, k⟩ := hs
  obtain ⟨v1, _, rfl, h1, v2, _, rfl, h2, rfl⟩ := hv
  refine ⟨_, pss_one (ps_ret (pe_cal cR hr (pa_cons (pe_op op_add (pe_op op_mulW (pe_ix ix_tup (pv 0) pe_int (fun _ _ => rfl)) (pe_ix ix_tup (pv 1) pe_int (fun _ _ => rfl))) (pe_op op_mulW (pe_ix ix_tup (pv 0) pe_int (fun _ _ => rfl)) (pe_ix ix_tup (pv 1) pe_int (fun _ _ => rfl))))
    (pa_cons (pe_op op_mulW (pe_ix ix_tup (pv 0) pe_int (fun _ _ => rfl)) (pe_ix ix_tup (pv 1) pe_int (fun _ _ => rfl))) pa_nil)))), ?_⟩
  have la := Nat.lt_of_le_of_lt (rn_le a d) ba
  have lb := Nat.lt_of_le_of_lt (rn_le b e) bb
  have ld := Nat.lt_of_le_of_lt (rd_le a d) bd
  have le := Nat.lt_of_le_of_lt (rd_le b e) be
  have A0 : EvD K (tOp (rIxT K) (tVar 0) (tC (.int 0))) [some v1, some v2] H (.i (rn a d : Nat)) := ev_ix (n := 0) (ev_var rfl h1) ev_int rfl ix0
  have A1 : EvD K (tOp (rIxT K) (tVar 0) (tC (.int 1))) [some v1, some v2] H (.i (rd a d : Nat)) := ev_ix (n := 1) (ev_var rfl h1) ev_int rfl ix1
  have B0 : EvD K (tOp (rIxT K) (tVar 1) (tC (.int 0))) [some v1, some v2] H (.i (rn b e : Nat)) := ev_ix (n := 0) (ev_var rfl h2) ev_int rfl ix0
  have B1 : EvD K (tOp (rIxT K) (tVar 1) (tC (.int 1))) [some v1, some v2] H (.i (rd b e : Nat)) := ev_ix (n := 1) (ev_var rfl h2) ev_int rfl ix1
  have z := r_plus (a := a) (b := b) hd he
  refine st_ret K (ev_call (ea_2 (ev_op0 (g := fun i j => i + j) (ev_opC (g := fun i j => i * j) A0 B1 (cmulw la le)) (ev_opC (g := fun i j => i * j) A1 B0 (cmulw ld lb))) (ev_opC (g := fun i j => i * j) A1 B1 (cmulw ld le)))
    ⟨rn a d * rd b e + rd a d * rn b e, rd a d * rd b e, ?_, Nat.mul_pos (rd_pos hd) (rd_pos he), ?_, rfl⟩) fun v H2 s2 hv => k v H2 s2 ?_
  · simp only [Int.natCast_add, Int.natCast_mul]
  · exact Nat.lt_of_lt_of_le (Nat.mul_lt_mul'' ld le) (Nat.le_of_lt pow_fact)
  · unfold qd at hv ⊢
    rw [z.1, z.2] at hv
    exact hv
theorem sc_times : FnScope ["a", "b"] ["a", "b"] (defScope s_times) := ⟨rfl, rfl, rfl, by decide +kernel, rfl, by decide +kernel, by decide +kernel⟩
theorem c_times (F : Fs w h K mg) : Cal P w K mg base "times" 2 ["a", "b"] (spP K RTimes) := by
  have cR : Cal P w K mg base "reduced" 1 ["n", "d"] (spP K RReduced) := c_reduced F
  refine F.d_times.cal sc_times (fun _ _ _ _ _ _ us hl => match us, hl with | [_, _], _ => rfl) (spP_len fun ds d r => by obtain ⟨_, _, _, _, rfl, _⟩ := r; rfl) fun f cdv A outer s H vs Q E hr hs => ?_
  obtain ⟨ds, r, hv, ⟨a, d, b, e, rfl, hd, he, ba, bd, bb, be, rfl⟩, k⟩ := hs
  obtain ⟨v1, _, rfl, h1, v2, _, rfl, h2, rfl⟩ := hv
  refine ⟨_, pss_one (ps_ret (pe_cal cR hr (pa_cons (pe_op op_mulW (pe_ix ix_tup (pv 0) pe_int (fun _ _ => rfl)) (pe_ix ix_tup (pv 1) pe_int (fun _ _ => rfl)))
    (pa_cons (pe_op op_mulW (pe_ix ix_tup (pv 0) pe_int (fun _ _ => rfl)) (pe_ix ix_tup (pv 1) pe_int (fun _ _ => rfl))) pa_nil)))), ?_⟩
  have la := Nat.lt_of_le_of_lt (rn_le a d) ba
  have lb := Nat.lt_of_le_of_lt (rn_le b e) bb
  have ld := Nat.lt_of_le_of_lt (rd_le a d) bd
  have le := Nat.lt_of_le_of_lt (rd_le b e) be
  have A0 : EvD K (tOp (rIxT K) (tVar 0) (tC (.int 0))) [some v1, some v2] H (.i (rn a d : Nat)) := ev_ix (n := 0) (ev_var rfl h1) ev_int rfl ix0
  have A1 : EvD K (tOp (rIxT K) (tVar 0) (tC (.int 1))) [some v1, some v2] H (.i (rd a d : Nat)) := ev_ix (n := 1) (ev_var rfl h1) ev_int rfl ix1
  have B0 : EvD K (tOp (rIxT K) (tVar 1) (tC (.int 0))) [some v1, some v2] H (.i (rn b e : Nat)) := ev_ix (n := 0) (ev_var rfl h2) ev_int rfl ix0
  have B1 : EvD K (tOp (rIxT K) (tVar 1) (tC (.int 1))) [some v1, some v2] H (.i (rd b e : Nat)) := ev_ix (n := 1) (ev_var rfl h2) ev_int rfl ix1
  have z := r_times (a := a) (b := b) hd he
  refine st_ret K (ev_call (ea_2 (ev_opC (g := fun i j => i * j) A0 B0 (cmulw la lb)) (ev_opC (g := fun i j => i * j) A1 B1 (cmulw ld le)))
    ⟨rn a d * rn b e, rd a d * rd b e, ?_, Nat.mul_pos (rd_pos hd) (rd_pos he), ?_, rfl⟩) fun v H2 s2 hv => k v H2 s2 ?_
  · simp only [Int.natCast_mul]
  · exact Nat.lt_of_lt_of_le (Nat.mul_lt_mul'' ld le) (Nat.le_of_lt pow_fact)
  · unfold qd at hv ⊢
    rw [z.1, z.2] at hv
    exact hv
end
end Odd

set_option Elab.async false
set_option linter.all false
set_option maxRecDepth 100000
set_option maxHeartbeats 4000000
/-! Part 6: loops and comprehensions over data. -/
namespace Odd
open PySem PySem.Spec PyProof.Rows L2
/-- what is walked yields these data; what is read stands as long as Rel holds -/
def EvI (K : PySem.W.Frag) (Rel : Hp → Hp → Prop) (wi : TI) (σ : L2.St) (H : Hp) (ds : List D) : Prop := ∀ H1, Same H H1 → ∀ R : It → Hp → Prop,
  (∀ J H2 G, Same H1 H2 → Walk J ds.length G (fun i H' x H'' => Same H' H'' ∧ ∃ d, ds[i]? = some d ∧ Dn K H'' d x) → (∀ H3, Rel H2 H3 → G H3) → R J H2) → wi σ H1 R
section
variable {K : PySem.W.Frag} {σ : L2.St} {H : Hp} {te : TE} {ta : TA} {ds : List D}
theorem ei_tup (h : EvD K te σ H (.c ds)) : EvI K Same (iTup K te) σ H ds := fun H1 a R r => h H1 a _ fun v H2 s2 hv => by
  obtain ⟨p, vs, h1, h2, h3⟩ := hv
  refine ⟨p, h1, ⟨vs, h2⟩, r _ H2 (fun H => SqT K H p vs ∧ DnL K H ds vs) s2 ?_ fun H3 s3 => ⟨same_sqT s3 h2, DnL.same s3 ds h3⟩⟩
  rw [← h3.length]
  exact walk_tup.mono (fun H q => q.1) fun i H' x H'' _ q y => by
    obtain ⟨e, y⟩ := y
    subst e
    obtain ⟨d, q1, q2⟩ := q.2.get' y
    exact ⟨Same.refl _, d, q1, q2⟩
theorem ei_tupK (h : EvD K te σ H (.c ds)) (hn : nolL ds = true) : EvI K Tk (iTup K te) σ H ds := fun H1 a R r => h H1 a _ fun v H2 s2 hv => by
  obtain ⟨p, vs, h1, h2, h3⟩ := hv
  refine ⟨p, h1, ⟨vs, h2⟩, r _ H2 (fun H => SqT K H p vs ∧ DnL K H ds vs) s2 ?_ fun H3 s3 => ⟨tk_sqT s3 h2, DnL.tk s3 ds hn h3⟩⟩
  rw [← h3.length]
  exact walk_tup.mono (fun H q => q.1) fun i H' x H'' _ q y => by
    obtain ⟨e, y⟩ := y
    subst e
    obtain ⟨d, q1, q2⟩ := q.2.get' y
    exact ⟨Same.refl _, d, q1, q2⟩
theorem ei_lst (h : EvD K te σ H (.l ds)) : EvI K Same (iList K te) σ H ds := fun H1 a R r => h H1 a _ fun v H2 s2 hv => by
  obtain ⟨p, vs, h1, h2, h3⟩ := hv
  refine ⟨p, h1, ⟨vs, SqL.of h2⟩, r _ H2 (fun H => SqL K H p vs ∧ DnL K H ds vs) s2 ?_ fun H3 s3 => ⟨SqL.of (s3 _ _ h2), DnL.same s3 ds h3⟩⟩
  rw [← h3.length]
  exact walk_list.mono (fun H q => q.1) fun i H' x H'' _ q y => by
    obtain ⟨e, y⟩ := y
    subst e
    obtain ⟨d, q1, q2⟩ := q.2.get' y
    exact ⟨Same.refl _, d, q1, q2⟩
/-- the data with their places -/
def enumD (ds : List D) : List D := ds.zipIdx.map fun x => .t [.i (x.2 : Nat), x.1]
theorem enumD_len : (enumD ds).length = ds.length := by
  unfold enumD
  rw [List.length_map, List.length_zipIdx]
theorem enumD_get {i : Nat} {d : D} (h : ds[i]? = some d) : (enumD ds)[i]? = some (.t [.i (i : Nat), d]) := by
  unfold enumD
  rw [List.getElem?_map, List.getElem?_zipIdx, h]
  simp
theorem enum_walk {a : Addr} {vs : List V} (hl : vs.length = ds.length) : Walk (Itn K a) (enumD ds).length (fun H => SqT K H a vs ∧ DnL K H ds vs) (fun i H' x H'' => Same H' H'' ∧ ∃ d, (enumD ds)[i]? = some d ∧ Dn K H'' d x) := by
  rw [enumD_len, ← hl]
  exact walk_enumT.mono (fun H q => q.1) fun i H' x H'' _ q y => by
    obtain ⟨T, u, z, e1, e2, e3, e4, e5⟩ := y
    subst e1 e3
    have e4 : V.int (i : Nat) = u := Option.some.inj e4
    subst e4
    obtain ⟨d, q1, q2⟩ := q.2.get' e5
    exact ⟨Same.new e2, _, enumD_get q1, T, _, rfl, upd_same, ⟨_, _, rfl, rfl, _, _, rfl, Dn.same (Same.new e2) d q2, rfl⟩⟩
theorem ei_enum (h : EvD K te σ H (.c ds)) : EvI K Same (iEnumT K (tCons te tNil)) σ H (enumD ds) := fun H1 a R r => h H1 a _ fun v H2 s2 hv => by
  obtain ⟨p, vs, h1, h2, h3⟩ := hv
  exact ⟨p, vs, by rw [h1], h2, r _ H2 _ s2 (enum_walk h3.length) fun H3 s3 => ⟨same_sqT s3 h2, DnL.same s3 ds h3⟩⟩
theorem ei_enumK (h : EvD K te σ H (.c ds)) (hn : nolL ds = true) : EvI K Tk (iEnumT K (tCons te tNil)) σ H (enumD ds) := fun H1 a R r => h H1 a _ fun v H2 s2 hv => by
  obtain ⟨p, vs, h1, h2, h3⟩ := hv
  exact ⟨p, vs, by rw [h1], h2, r _ H2 _ s2 (enum_walk h3.length) fun H3 s3 => ⟨tk_sqT s3 h2, DnL.tk s3 ds hn h3⟩⟩
def rangeD (n : Nat) : List D := (List.range n).map fun i => .i (i : Nat)
theorem rangeD_len {n : Nat} : (rangeD n).length = n := by
  unfold rangeD
  rw [List.length_map, List.length_range]
theorem rangeD_get {n i : Nat} {d : D} (h : (rangeD n)[i]? = some d) : i < n ∧ d = .i (i : Nat) := by
  have hi : i < n := by
    have q := (List.getElem?_eq_some_iff.mp h).1
    rw [rangeD_len] at q
    exact q
  unfold rangeD at h
  rw [List.getElem?_map, List.getElem?_range hi] at h
  exact ⟨hi, (Option.some.inj h).symm⟩
theorem ei_range {Rel : Hp → Hp → Prop} {n : Nat} {z : Int} (h : EvD K te σ H (.i z)) (hz : z = (n : Int)) (hb : n ≤ 100000) : EvI K Rel (iRng1 (tCons te tNil)) σ H (rangeD n) := fun H1 a R r => h H1 a _ fun v H2 s2 hv => by
  subst hz
  refine ⟨(n : Int), by rw [show v = V.int (n : Int) from hv], by omega, by omega, r _ H2 (fun _ => True) s2 ?_ fun _ _ => trivial⟩
  rw [rangeD_len, Int.toNat_natCast]
  exact walk_range.mono (fun _ _ => trivial) fun i H' x H'' hi _ y => by
    obtain ⟨e, y⟩ := y
    subst e y
    refine ⟨Same.refl _, .i (i : Nat), ?_, ?_⟩
    · unfold rangeD
      rw [List.getElem?_map, List.getElem?_range hi]
      rfl
    · show V.int (0 + (i : Nat)) = V.int (i : Nat)
      rw [Int.zero_add]
end
theorem none_of {H H' : Hp} {p : Addr} (s : Same H H') (h : H' p = none) : H p = none := by
  cases e : H p with
  | none => rfl
  | some o => rw [s _ _ e] at h; cases h
/-! ### targets -/
section
variable {K : PySem.W.Frag} {σ : L2.St} {H : Hp} {x : V} {d1 d2 d3 : D} {i j k : Nat} {Q : L2.St → Hp → Prop}
theorem g_pair (h : Dn K H (.c [d1, d2]) x) (q : ∀ v1 v2, Dn K H d1 v1 → Dn K H d2 v2 → Q ((σ.set i (some v1)).set j (some v2)) H) : gTup K 2 (gCons (gName i) (gCons (gName j) gNil)) x σ H Q := by
  obtain ⟨a, vs, h1, h2, v1, _, e1, q1, v2, _, e2, q2, e3⟩ := h
  subst e3 e2 e1
  exact ⟨a, _, h1, h2, rfl, v1, _, rfl, v2, _, rfl, rfl, q v1 v2 q1 q2⟩
theorem g_trip (h : Dn K H (.c [d1, d2, d3]) x) (q : ∀ v1 v2 v3, Dn K H d1 v1 → Dn K H d2 v2 → Dn K H d3 v3 → Q (((σ.set i (some v1)).set j (some v2)).set k (some v3)) H) : gTup K 3 (gCons (gName i) (gCons (gName j) (gCons (gName k) gNil))) x σ H Q := by
  obtain ⟨a, vs, h1, h2, v1, _, e1, q1, v2, _, e2, q2, v3, _, e3, q3, e4⟩ := h
  subst e4 e3 e2 e1
  exact ⟨a, _, h1, h2, rfl, v1, _, rfl, v2, _, rfl, v3, _, rfl, rfl, q v1 v2 v3 q1 q2 q3⟩
end
/-! ### for -/
section
variable {K : PySem.W.Frag} {σ : L2.St} {H : Hp} {wi : TI} {ds : List D} {g : TG} {tb : TS} {E : Ends}
theorem for_ev {Rel : Hp → Hp → Prop} (hi : EvI K Rel wi σ H ds) (Pv : Hp → Nat → L2.St → Hp → Prop) (h0 : ∀ H1, Same H H1 → Pv H1 0 σ H1) (hk : ∀ H1 i σ' H', Same H H1 → i ≤ ds.length → Pv H1 i σ' H' → Rel H1 H')
    (hs : ∀ H1 i d x σ' H' H'', Same H H1 → ds[i]? = some d → Pv H1 i σ' H' → Same H' H'' → Dn K H'' d x → g x σ' H'' fun σ2 H2 => tb { E with nx := Pv H1 (i + 1), ct := Pv H1 (i + 1), bk := E.nx } σ2 H2)
    (hd : ∀ H1 σ' H', Same H H1 → Pv H1 ds.length σ' H' → E.nx σ' H') : tFor wi g tb E σ H := hi H (Same.refl H) _ fun J H1 G s1 w hG =>
  for_it w (Pv H1) (h0 H1 s1) (fun i σ' H' hi p => hG H' (hk H1 i σ' H' s1 hi p)) (fun i x σ' H' H'' hi p y => by
    obtain ⟨y1, d, y2, y3⟩ := y
    exact hs H1 i d x σ' H' H'' s1 y2 p y1 y3) fun σ' H' p => hd H1 σ' H' s1 p
end
/-! ### comprehensions -/
/-- a new list -/
def EvF (K : PySem.W.Frag) (te : TE) (σ : L2.St) (H : Hp) (ds : List D) : Prop := ∀ H1, Same H H1 → ∀ Q : VK, (∀ p vs H2, Same H1 H2 → H1 p = none → H2 p = some (.lst vs) → DnL K H2 ds vs → Q (.ref p) H2) → te σ H1 Q
theorem EvF.d {K : PySem.W.Frag} {te : TE} {σ : L2.St} {H : Hp} {ds : List D} (h : EvF K te σ H ds) : EvD K te σ H (.l ds) := fun H1 s Q q => h H1 s Q fun p vs H2 s2 _ h2 h3 => q _ H2 s2 ⟨p, vs, rfl, h2, h3⟩
theorem EvF.run {K : PySem.W.Frag} {te : TE} {σ : L2.St} {H : Hp} {ds : List D} (h : EvF K te σ H ds) {Q : VK} (q : ∀ p vs H2, Same H H2 → H p = none → H2 p = some (.lst vs) → DnL K H2 ds vs → Q (.ref p) H2) : te σ H Q := h H (Same.refl H) Q q
theorem EvF.mono {K : PySem.W.Frag} {te : TE} {σ : L2.St} {H H' : Hp} {ds : List D} (s : Same H H') (h : EvF K te σ H ds) : EvF K te σ H' ds := fun H1 a Q q => h H1 (s.trans a) Q q
theorem EvF.to {K : PySem.W.Frag} {te : TE} {σ : L2.St} {H : Hp} {ds es : List D} (h : EvF K te σ H ds) (e : ds = es) : EvF K te σ H es := by rw [← e]; exact h
section
variable {K : PySem.W.Frag} {σ : L2.St} {H : Hp} {wi wi1 : TI} {ds : List D} {g g1 : TG} {tt : TT} {te : TE} {vs vs1 : List Nat}
/-- the list of f i for the places i where p i -/
def pick (p : Nat → Bool) (f : Nat → D) (n : Nat) : List D := ((List.range n).filter p).map f
theorem pick_succ {p : Nat → Bool} {f : Nat → D} {n : Nat} : pick p f (n + 1) = if p n = true then pick p f n ++ [f n] else pick p f n := by
  unfold pick
  rw [List.range_succ, List.filter_append, List.map_append]
  by_cases h : p n = true
  · rw [if_pos h, List.filter_cons, if_pos h]
    rfl
  · rw [if_neg h, List.filter_cons, if_neg h]
    simp
theorem pick_len {p : Nat → Bool} {f : Nat → D} {n : Nat} : (pick p f n).length ≤ n := by
  unfold pick
  rw [List.length_map]
  exact Nat.le_trans (List.length_filter_le _ _) (by rw [List.length_range]; exact Nat.le_refl n)
theorem pick_nol {p : Nat → Bool} {f : Nat → D} : ∀ {n : Nat}, (∀ i, i < n → nol (f i) = true) → nolL (pick p f n) = true := by
  intro n h
  have go : ∀ l : List Nat, (∀ i ∈ l, i < n) → nolL (l.map f) = true := by
    intro l
    induction l with
    | nil => intro _; rfl
    | cons a l ih =>
      intro hl
      show (nol (f a) && nolL (l.map f)) = true
      rw [h a (hl a List.mem_cons_self), ih fun i hi => hl i (List.mem_cons_of_mem _ hi)]
      rfl
  exact go _ fun i hi => List.mem_range.mp (List.mem_filter.mp hi).1
theorem ev_lc (hi : EvI K Same wi σ H ds) (p : Nat → Bool) (f : Nat → D) (hn : ∀ i, i < ds.length → nol (f i) = true) (hz : ds.length ≤ 100000)
    (hb : ∀ i d x H', ds[i]? = some d → Same H H' → Dn K H' d x → ∀ k : L2.St → Hp → Prop, (∀ σ2, wipe σ2 vs = wipe σ vs → EvT tt σ2 H' (p i) → (p i = true → EvD K te σ2 H' (f i)) → k σ2 H') → g x (wipe σ vs) H' k) :
    EvF K (tLc wi g tt te vs) σ H (pick p f ds.length) := fun H1 s1 Q q => hi H1 s1 _ fun J H2 G s2 w hG D hD =>
  lc_it w (fun i H3 => Same H2 H3 ∧ ∃ acc, H3 D = some (.lst acc) ∧ DnL K H3 (pick p f i) acc) ⟨Same.new hD, [], upd_same, rfl⟩ (fun i H3 _ z => hG H3 z.1) (fun i x H3 H4 hlt z y => by
    obtain ⟨z1, acc, z2, z3⟩ := z
    obtain ⟨y1, d, y2, y3⟩ := y
    have sH4 : Same H H4 := ((s1.trans s2).trans z1).trans y1
    refine hb i d x H4 y2 sH4 y3 _ fun σ2 hw ht he => ⟨hw, ht.run fun H5 s5 => ?_⟩
    have hacc : DnL K H5 (pick p f i) acc := DnL.same (y1.trans s5) _ z3
    have hD5 : H5 D = some (.lst acc) := s5 _ _ (y1 _ _ z2)
    cases hp : p i with
    | false =>
      refine iteF ⟨(z1.trans y1).trans s5, acc, hD5, ?_⟩
      rw [pick_succ, hp]
      exact hacc
    | true =>
      refine iteT ((he hp) H5 s5 _ fun v H6 s6 hv => ⟨acc, s6 _ _ hD5, ?_, Same.mut (((z1.trans y1).trans s5).trans s6) hD, _, upd_same, ?_⟩)
      · have h1 := hacc.length
        have h2 : (pick p f i).length ≤ i := pick_len
        exact small_lt (by omega)
      · rw [pick_succ, hp, if_pos rfl]
        have tk : Tk H6 (upd H6 D (.lst (acc ++ [v]))) := Tk.lst (s6 _ _ hD5)
        exact DnL.snoc (DnL.tk tk _ (pick_nol fun j hj => hn j (by omega)) (DnL.same s6 _ hacc)) (Dn.tk tk _ (hn i hlt) hv)) fun H3 z => by
    obtain ⟨z1, acc, z2, z3⟩ := z
    exact q _ _ _ (s2.trans z1) (none_of s2 hD) z2 z3
/-- without a test -/
theorem pick_all {f : Nat → D} {n : Nat} : pick (fun _ => true) f n = (List.range n).map f := by
  unfold pick
  rw [List.filter_eq_self.mpr fun _ _ => rfl]
theorem et_yes : EvT tYes σ H true := fun H1 _ Q q => q H1 (Same.refl H1)
/-- what is walked is new or needs no object: it stands as long as the new objects stand -/
def EvIf (K : PySem.W.Frag) (wi : TI) (σ : L2.St) (H : Hp) (ds : List D) : Prop := ∀ H1, Same H H1 → ∀ R : It → Hp → Prop,
  (∀ J H2 G, Same H1 H2 → Walk J ds.length G (fun i H' x H'' => Same H' H'' ∧ ∃ d, ds[i]? = some d ∧ Dn K H'' d x) → (∀ H3, (∀ b o, H1 b = none → H2 b = some o → H3 b = some o) → G H3) → R J H2) → wi σ H1 R
theorem ite_yes (A B : Prop) (h : A) : ite (true = true) A B := h
theorem nolL_of : ∀ {l : List D}, (∀ d ∈ l, nol d = true) → nolL l = true
  | [], _ => rfl
  | a :: l, h => by
    show (nol a && nolL l) = true
    rw [h a List.mem_cons_self, nolL_of fun d hd => h d (List.mem_cons_of_mem _ hd)]
    rfl
/-- [.. for .. in .. for .. in ..] -/
theorem ev_lc2 (hi : EvI K Same wi σ H ds) (m : Nat → List D) (f : Nat → Nat → D) (hn : ∀ i j, i < ds.length → j < (m i).length → nol (f i j) = true) (hz : ds.length ≤ 300) (hz1 : ∀ i, i < ds.length → (m i).length ≤ 300)
    (hb : ∀ i d x H', ds[i]? = some d → Same H H' → Dn K H' d x → ∀ k : L2.St → Hp → Prop, (∀ σ2, wipe σ2 vs = wipe σ vs → EvIf K wi1 σ2 H' (m i) →
      (∀ j e y H'', (m i)[j]? = some e → Same H H'' → Dn K H'' e y → ∀ k1 : L2.St → Hp → Prop, (∀ σ3, wipe σ3 vs1 = wipe σ2 vs1 → EvD K te σ3 H'' (f i j) → k1 σ3 H'') → g1 y (wipe σ2 vs1) H'' k1) → k σ2 H') → g x (wipe σ vs) H' k) :
    EvF K (tLc2 wi g tYes wi1 g1 tYes te vs vs1) σ H ((List.range ds.length).flatMap fun i => (List.range (m i).length).map (f i)) := fun H1 s1 Q q => hi H1 s1 _ fun J H2 G s2 w hG L hL => by
  have flat : ∀ i, ((List.range (i + 1)).flatMap fun i => (List.range (m i).length).map (f i)) = ((List.range i).flatMap fun i => (List.range (m i).length).map (f i)) ++ (List.range (m i).length).map (f i) := fun i => by
    rw [List.range_succ, List.flatMap_append]
    simp
  have flen : ∀ i, i ≤ ds.length → ((List.range i).flatMap fun i => (List.range (m i).length).map (f i)).length ≤ i * 300 := by
    intro i
    induction i with
    | zero => intro _; simp
    | succ i ih =>
      intro hi
      rw [flat i, List.length_append, List.length_map, List.length_range]
      have := ih (by omega)
      have := hz1 i (by omega)
      omega
  have fnol : ∀ i j, i < ds.length → j ≤ (m i).length → nolL (((List.range i).flatMap fun i => (List.range (m i).length).map (f i)) ++ (List.range j).map (f i)) = true := by
    intro i j h1 h2
    refine nolL_of fun d hd => ?_
    rcases List.mem_append.mp hd with hd | hd
    · obtain ⟨a, ha, hd⟩ := List.mem_flatMap.mp hd
      obtain ⟨b, hb, e⟩ := List.mem_map.mp hd
      have ha := List.mem_range.mp ha
      have hb := List.mem_range.mp hb
      subst e
      exact hn a b (by omega) hb
    · obtain ⟨b, hb, e⟩ := List.mem_map.mp hd
      have hb := List.mem_range.mp hb
      subst e
      exact hn i b h1 (by omega)
  refine ⟨fun i mm H3 => mm = ds.length - i ∧ i ≤ ds.length ∧ Same H2 H3 ∧ ∃ acc, H3 L = some (.lst acc) ∧ DnL K H3 ((List.range i).flatMap fun i => (List.range (m i).length).map (f i)) acc, ⟨ds.length, by simp, Nat.zero_le _, Same.new hL, [], upd_same, rfl⟩, ?_⟩
  rintro i mm H3 ⟨rfl, hle, z1, acc, z2, z3⟩
  by_cases hlt : i < ds.length
  · refine .inr ⟨w.goes i H3 hlt (hG H3 z1), fun H3 => Same H2 H3 ∧ ∃ acc, H3 L = some (.lst acc) ∧ DnL K H3 ((List.range (i + 1)).flatMap fun i => (List.range (m i).length).map (f i)) acc, fun H' p => ⟨ds.length - (i + 1), by omega, rfl, hlt, p⟩, fun x H4 y => ?_⟩
    obtain ⟨y1, d, y2, y3⟩ := w.yields i H3 x H4 hlt (hG H3 z1) y
    have sH4 : Same H H4 := ((s1.trans s2).trans z1).trans y1
    refine hb i d x H4 y2 sH4 y3 _ fun σ2 hw hi1 hin => ⟨hw, ?_⟩
    dsimp only [tYes]
    rw [if_pos rfl]
    refine hi1 H4 (Same.refl H4) _ fun J1 H5 G1 s5 w1 hG1 => ?_
    have hD4 : H4 L = some (.lst acc) := y1 _ _ z2
    have hL5 : H5 L = some (.lst acc) := s5 _ _ hD4
    have s25 : Same H2 H5 := (z1.trans y1).trans s5
    refine ⟨fun j mm H6 => mm = (m i).length - j ∧ j ≤ (m i).length ∧ Same H2 H6 ∧ (∀ b o, b ≠ L → H5 b = some o → H6 b = some o) ∧ ∃ acc, H6 L = some (.lst acc) ∧ DnL K H6 (((List.range i).flatMap fun i => (List.range (m i).length).map (f i)) ++ (List.range j).map (f i)) acc,
      ⟨(m i).length, by simp, Nat.zero_le _, s25, fun _ _ _ h => h, acc, hL5, by simpa using DnL.same (y1.trans s5) _ z3⟩, ?_⟩
    rintro j mm H6 ⟨rfl, hj, a1, a2, acc2, a3, a4⟩
    have g6 : G1 H6 := hG1 H6 fun b o h1 h2 => a2 b o (fun e => by rw [e, hD4] at h1; cases h1) h2
    by_cases hjl : j < (m i).length
    · refine .inr ⟨w1.goes j H6 hjl g6, fun H6 => Same H2 H6 ∧ (∀ b o, b ≠ L → H5 b = some o → H6 b = some o) ∧ ∃ acc, H6 L = some (.lst acc) ∧ DnL K H6 (((List.range i).flatMap fun i => (List.range (m i).length).map (f i)) ++ (List.range (j + 1)).map (f i)) acc,
        fun H' p => ⟨(m i).length - (j + 1), by omega, rfl, hjl, p⟩, fun x1 H7 y' => ?_⟩
      obtain ⟨b1, e, b2, b3⟩ := w1.yields j H6 x1 H7 hjl g6 y'
      have sH7 : Same H H7 := ((s1.trans s2).trans a1).trans b1
      refine hin j e x1 H7 b2 sH7 b3 _ fun σ3 hw3 he => ⟨hw3, ?_⟩
      dsimp only [tYes]
      rw [if_pos rfl]
      refine he H7 (Same.refl H7) _ fun v H8 s8 hv => ⟨acc2, s8 _ _ (b1 _ _ a3), ?_, ?_, ?_, _, upd_same, ?_⟩
      · have h1 := a4.length
        rw [List.length_append, List.length_map, List.length_range] at h1
        have h2 := flen i (by omega)
        have h3 := hz1 i hlt
        have h4 : i * 300 ≤ 300 * 300 := Nat.mul_le_mul_right _ (by omega)
        exact small_lt (by omega)
      · exact Same.mut ((a1.trans b1).trans s8) hL
      · exact fun b o hb hb5 => by rw [upd_ne hb]; exact s8 _ _ (b1 _ _ (a2 b o hb hb5))
      · have tk : Tk H8 (upd H8 L (.lst (acc2 ++ [v]))) := Tk.lst (s8 _ _ (b1 _ _ a3))
        rw [List.range_succ, List.map_append, ← List.append_assoc]
        exact DnL.snoc (DnL.tk tk _ (fnol i j hlt hj) (DnL.same (b1.trans s8) _ a4)) (Dn.tk tk _ (hn i j hlt hjl) hv)
    · have e : j = (m i).length := by omega
      subst e
      exact .inl ⟨w1.stops H6 g6, a1, acc2, a3, by rw [flat i]; exact a4⟩
  · have e : i = ds.length := by omega
    subst e
    exact .inl ⟨w.stops H3 (hG H3 z1), q _ _ _ (s2.trans z1) (none_of s2 hL) z2 z3⟩
end
end Odd

set_option Elab.async false
set_option linter.all false
set_option maxRecDepth 100000
set_option maxHeartbeats 4000000
/-! Part 7: more evaluation; the data of the chain; promises about a graph. -/
namespace Odd
open PySem PySem.Spec PyProof.Rows L2
def rTupOf (K : PySem.W.Frag) : List V → Hp → VK → Prop := fun xs H Q => ∃ p ys, xs = [.ref p] ∧ ((SqL K H p ys ∧ ∀ l, H l = none → Q (.ref l) (upd H l (.tup ys))) ∨ (SqT K H p ys ∧ Q (.ref p) H))
def rListOf (K : PySem.W.Frag) : List V → Hp → VK → Prop := fun xs H Q => ∃ p ys, xs = [V.ref p] ∧ (SqL K H p ys ∨ SqT K H p ys) ∧ ∀ l, H l = none → Q (.ref l) (upd H l (.lst ys))
def rAbs : List V → Hp → VK → Prop := fun xs H Q => ∃ i, xs = [V.int i] ∧ Q (.int (if i < 0 then -i else i)) H
def rInt1 : List V → Hp → VK → Prop := fun xs H Q => (∃ i, xs = [V.int i] ∧ Q (.int i) H) ∨ ∃ k, xs = [.bl k] ∧ Q (.int (if k then 1 else 0)) H
theorem cr_len {X : Cx} : CallR X (.builtin "len") (rLen X.K) := call_len
theorem cr_tupOf {X : Cx} : CallR X (.type "tuple") (rTupOf X.K) := call_tuple_of
theorem cr_listOf {X : Cx} : CallR X (.type "list") (rListOf X.K) := call_list_of
theorem cr_abs {X : Cx} : CallR X (.builtin "abs") rAbs := call_abs
theorem cr_int1 {X : Cx} : CallR X (.type "int") rInt1 := call_int1
section
variable {K : PySem.W.Frag} {σ : L2.St} {H : Hp} {ta te to : TE} {t : TA} {d : D} {ds : List D}
theorem dn_bls' {H : Hp} {ns : List Bool} {vs : List V} (h : DnL K H (ns.map D.b) vs) : vs = ns.map V.bl := dn_bls h
theorem ev_all (h : EvD K ta σ H (.l ds)) {bs : List Bool} (e : ds = bs.map D.b) : EvD K (tCB (rAll K) (tCons ta tNil)) σ H (.b (bs.all id)) := fun H1 a Q q => h H1 a _ fun v H2 s2 hv => by
  subst e
  obtain ⟨p, vs, h1, h2, h3⟩ := hv
  subst h1
  rw [dn_bls h3] at h2
  exact ⟨p, bs, rfl, SqL.of h2, q _ H2 s2 rfl⟩
theorem ev_any (h : EvD K ta σ H (.l ds)) {bs : List Bool} (e : ds = bs.map D.b) : EvD K (tCB (rAny K) (tCons ta tNil)) σ H (.b (bs.any id)) := fun H1 a Q q => h H1 a _ fun v H2 s2 hv => by
  subst e
  obtain ⟨p, vs, h1, h2, h3⟩ := hv
  subst h1
  rw [dn_bls h3] at h2
  exact ⟨p, bs, rfl, SqL.of h2, q _ H2 s2 rfl⟩
theorem ev_sum (h : EvD K ta σ H (.l ds)) {ns : List Int} (e : ds = ns.map D.i) : EvD K (tCB (rSum K) (tCons ta tNil)) σ H (.i ns.sum) := fun H1 a Q q => h H1 a _ fun v H2 s2 hv => by
  subst e
  obtain ⟨p, vs, h1, h2, h3⟩ := hv
  subst h1
  rw [dn_ints h3] at h2
  exact ⟨p, ns, rfl, SqL.of h2, q _ H2 s2 rfl⟩
/-- tuple([..]) -/
theorem ev_tupOf (h : EvD K ta σ H (.l ds)) (hn : nolL ds = true) : EvD K (tCB (rTupOf K) (tCons ta tNil)) σ H (.t ds) := fun H1 a Q q => h H1 a _ fun v H2 s2 hv => by
  obtain ⟨p, vs, h1, h2, h3⟩ := hv
  subst h1
  exact ⟨p, vs, rfl, .inl ⟨SqL.of h2, fun l hl => q _ _ (s2.trans (Same.new hl)) ⟨l, vs, rfl, upd_same, DnL.same (Same.new hl) ds h3⟩⟩⟩
theorem evF_listOf (h : EvD K ta σ H (.l ds)) : EvF K (tCB (rListOf K) (tCons ta tNil)) σ H ds := fun H1 a Q q => h H1 a _ fun v H2 s2 hv => by
  obtain ⟨p, vs, h1, h2, h3⟩ := hv
  subst h1
  exact ⟨p, vs, rfl, .inl (SqL.of h2), fun l hl => q l vs _ (s2.trans (Same.new hl)) (none_of s2 hl) upd_same (DnL.same (Same.new hl) ds h3)⟩
theorem evF_lst (h : EvA K t σ H ds) (hl : ds.length ≤ 100000 := by exact Nat.le_of_ble_eq_true rfl) : EvF K (tLst t) σ H ds := fun H1 a Q q =>
  h H1 a _ fun vs H2 s2 hv => ⟨small_le (by rw [hv.length]; exact hl), fun p hp => q p vs _ (s2.trans (Same.new hp)) (none_of s2 hp) upd_same (DnL.same (Same.new hp) ds hv)⟩
theorem rgV_eq {n : Nat} : ∀ {H : Hp}, DnL K H (rangeD n) (rgV 0 (n : Int)) := by
  intro H
  have go : ∀ l : List Nat, DnL K H (l.map fun (i : Nat) => D.i (i : Nat)) (l.map fun (i : Nat) => V.int (i : Nat)) := by
    intro l
    induction l with
    | nil => rfl
    | cons a l ih => exact ⟨_, _, rfl, rfl, ih⟩
  have e : rgV 0 (n : Int) = (List.range n).map fun (i : Nat) => V.int (i : Nat) := by
    unfold rgV
    simp
  rw [e]
  exact go _
theorem evF_listRg {n : Nat} {z : Int} (h : EvD K ta σ H (.i z)) (hz : z = (n : Int)) (hb : n ≤ 100000) : EvF K (tLstRg (tRg1 ta)) σ H (rangeD n) := fun H1 a Q q => h H1 a _ fun v H2 s2 hv => by
  subst hz
  exact ⟨(n : Int), hv, RgOk.of_le (by omega) (by omega) (by omega) (by omega), fun p hp => q p _ _ (s2.trans (Same.new hp)) (none_of s2 hp) upd_same rgV_eq⟩
theorem ev_abs {z : Int} (h : EvD K ta σ H (.i z)) : EvD K (tCB rAbs (tCons ta tNil)) σ H (.i (if z < 0 then -z else z)) := fun H1 a Q q => h H1 a _ fun v H2 s2 hv => ⟨z, by rw [show v = .int z from hv], q _ H2 s2 rfl⟩
theorem ev_int_i {z : Int} (h : EvD K ta σ H (.i z)) : EvD K (tCB rInt1 (tCons ta tNil)) σ H (.i z) := fun H1 a Q q => h H1 a _ fun v H2 s2 hv => .inl ⟨z, by rw [show v = .int z from hv], q _ H2 s2 rfl⟩
theorem ev_int_b {z : Bool} (h : EvD K ta σ H (.b z)) : EvD K (tCB rInt1 (tCons ta tNil)) σ H (.i (if z then 1 else 0)) := fun H1 a Q q => h H1 a _ fun v H2 s2 hv => .inr ⟨z, by rw [show v = .bl z from hv], q _ H2 s2 rfl⟩
/-- == of tuples of ints -/
theorem lay_ints : ∀ ns : List Int, PyData.canLayAll0 (ns.map PyData.int) = true
  | [] => rfl
  | _ :: ns => by
    simp only [List.map_cons, PyData.canLayAll0, PyData.canLay0, lay_ints ns, Bool.and_self]
theorem depth_ints : ∀ ns : List Int, PyData.depthAll (ns.map PyData.int) = 0
  | [] => rfl
  | _ :: ns => by
    simp only [List.map_cons, PyData.depthAll, PyData.depth, depth_ints ns, Nat.max_self]
theorem lay_int (ns : List Int) : PyData.canLay0 (.tuple (ns.map PyData.int)) = true := by
  simp only [PyData.canLay0, lay_ints]
theorem depth_int (ns : List Int) : PyData.depth (.tuple (ns.map PyData.int)) = 1 := by
  simp only [PyData.depth, depth_ints]
theorem sh_ints (ns : List Int) : SeqAt.shaped (.tuple (ns.map PyData.int)) = true := by
  unfold SeqAt.shaped
  rw [lay_int, depth_int]
  rfl
theorem lay_tups : ∀ l : List (List Int), PyData.canLayAll0 (l.map fun ns => PyData.tuple (ns.map PyData.int)) = true
  | [] => rfl
  | ns :: l => by
    rw [List.map_cons, PyData.canLayAll0, lay_int, lay_tups l]
    rfl
theorem depth_tups : ∀ l : List (List Int), PyData.depthAll (l.map fun ns => PyData.tuple (ns.map PyData.int)) ≤ 1
  | [] => Nat.zero_le 1
  | ns :: l => by
    rw [List.map_cons, PyData.depthAll, depth_int]
    exact Nat.max_le.mpr ⟨Nat.le_refl 1, depth_tups l⟩
theorem sh_tups (l : List (List Int)) : SeqAt.shaped (.list (l.map fun ns => PyData.tuple (ns.map PyData.int))) = true := by
  unfold SeqAt.shaped
  have h1 : PyData.canLay0 (.list (l.map fun ns => PyData.tuple (ns.map PyData.int))) = true := by
    simp only [PyData.canLay0, lay_tups]
  have h2 : PyData.depth (.list (l.map fun ns => PyData.tuple (ns.map PyData.int))) ≤ 64 := by
    rw [PyData.depth]
    have := depth_tups l
    omega
  rw [h1, decide_eq_true h2]
  rfl
theorem ev_eqT {tb : TE} {ns ms : List Int} (ha : EvD K ta σ H (.c (ns.map D.i))) (hb : EvD K tb σ H (.c (ms.map D.i))) : EvD K (tOp (rEqD K) ta tb) σ H (.b (decide (ns = ms))) := fun H1 a Q q => ha H1 a _ fun v H2 s2 hv => hb H2 (a.trans s2) _ fun u H3 s3 hu =>
  ⟨_, _, dp_c (Dn.same s3 _ hv), dp_c hu, sh_ints ns, sh_ints ms, q _ H3 (s2.trans s3) (by rw [eqv_tups]; rfl)⟩
theorem ev_neT {tb : TE} {ns ms : List Int} (ha : EvD K ta σ H (.c (ns.map D.i))) (hb : EvD K tb σ H (.c (ms.map D.i))) : EvD K (tOp (rNeD K) ta tb) σ H (.b (!decide (ns = ms))) := fun H1 a Q q => ha H1 a _ fun v H2 s2 hv => hb H2 (a.trans s2) _ fun u H3 s3 hu =>
  ⟨_, _, dp_c (Dn.same s3 _ hv), dp_c hu, sh_ints ns, sh_ints ms, q _ H3 (s2.trans s3) (by rw [eqv_tups]; rfl)⟩
theorem ev_eqQ {tb : TE} {a b c e : Int} (ha : EvD K ta σ H (qD a b)) (hb : EvD K tb σ H (qD c e)) : EvD K (tOp (rEqD K) ta tb) σ H (.b (decide ([a, b] = [c, e]))) := ev_eqT (ns := [a, b]) (ms := [c, e]) ha hb
theorem ev_neQ {tb : TE} {a b c e : Int} (ha : EvD K ta σ H (qD a b)) (hb : EvD K tb σ H (qD c e)) : EvD K (tOp (rNeD K) ta tb) σ H (.b (!decide ([a, b] = [c, e]))) := ev_neT (ns := [a, b]) (ms := [c, e]) ha hb
/-- xs.append(e) -/
theorem st_app {t : TS} {E : Ends} {p : Addr} {vs : List V} (ho : EvD K to σ H (.o p)) (hl : H p = some (.lst vs)) (hz : vs.length < 100000) (he : EvD K te σ H d) (k : ∀ v H1, Same H H1 → Dn K H1 d v → H1 p = some (.lst vs) → t E σ (upd H1 p (.lst (vs ++ [v])))) :
    tSeq (tDrop (tBM K "list" rAppend to (tCons te tNil))) t E σ H := ho.run fun v H1 s1 hv => by
  rw [show v = .ref p from hv]
  exact ⟨.inl ⟨rfl, vs, SqL.of (s1 _ _ hl)⟩, he H1 s1 _ fun u H2 s2 hu => ⟨p, vs, u, rfl, rfl, s2 _ _ (s1 _ _ hl), small_lt hz, k u H2 (s1.trans s2) hu (s2 _ _ (s1 _ _ hl))⟩⟩
end
/-! ### the chain as data -/
def nD (n : Nat) : D := .i (n : Nat)
def encB (b : (Nat × Nat) × Nat) : D := .t [qD b.1.1 b.1.2, nD b.2]
def encPt : Pt → D
  | .exit e => .t [.s "exit", nD e]
  | .draw bs => .t [.s "draw", .t (bs.map encB)]
  | .call r ps => .t [.s "call", nD r, .t (ps.map nD)]
  | .reward a q => .t [.s "reward", qD a.1 a.2, nD q]
  | .reject => .t [.s "reject"]
  | .stop => .t [.s "stop"]
def encPr (p : Pr) : D := .t [nD p.1, .t (p.2.map encPt)]
def encL (g : Gr) : List D := g.map encPr
def encG (g : Gr) : D := .t (encL g)
def encP (q : Nat × Nat) : D := .t [nD q.1, nD q.2]
def encU (u : U) : D := .t [nD u.1, nD u.2.1, nD u.2.2]
theorem nol_nD (n : Nat) : nol (nD n) = true := rfl
theorem nol_qD (n d : Int) : nol (qD n d) = true := rfl
theorem nolL_map {α : Type} {f : α → D} (h : ∀ a, nol (f a) = true) (l : List α) : nolL (l.map f) = true := nolL_of fun d hd => by
  obtain ⟨a, _, e⟩ := List.mem_map.mp hd
  rw [← e]
  exact h a
theorem nol_encPt (p : Pt) : nol (encPt p) = true := by
  cases p with
  | draw bs =>
    show (true && (nolL (bs.map encB) && true)) = true
    rw [nolL_map (f := encB) fun _ => rfl]; rfl
  | call r ps =>
    show (true && (true && (nolL (ps.map nD) && true))) = true
    rw [nolL_map (f := nD) fun _ => rfl]; rfl
  | _ => rfl
theorem nol_encPr (p : Pr) : nol (encPr p) = true := by
  show (true && (nolL (p.2.map encPt) && true)) = true
  rw [nolL_map nol_encPt]; rfl
theorem nolL_encL (g : Gr) : nolL (encL g) = true := nolL_map nol_encPr g
theorem encL_len {g : Gr} : (encL g).length = g.length := List.length_map ..
theorem encL_get {g : Gr} {p : Nat} (h : p < g.length) : (encL g)[p]? = some (encPr (g.getD p (0, []))) := by
  unfold encL
  rw [List.getElem?_map, List.getElem?_eq_getElem h, List.getD_eq_getElem?_getD, List.getElem?_eq_getElem h]
  rfl
theorem encL_get' {g : Gr} {p : Nat} {d : D} (h : (encL g)[p]? = some d) : p < g.length ∧ d = encPr (g.getD p (0, [])) := by
  have hp : p < g.length := by
    have q := (List.getElem?_eq_some_iff.mp h).1
    rwa [encL_len] at q
  rw [encL_get hp] at h
  exact ⟨hp, (Option.some.inj h).symm⟩
theorem pts_get {ps : List Pt} {i : Nat} (h : i < ps.length) : (ps.map encPt)[i]? = some (encPt (ps.getD i .stop)) := by
  rw [List.getElem?_map, List.getElem?_eq_getElem h, List.getD_eq_getElem?_getD, List.getElem?_eq_getElem h]
  rfl
theorem map_get' {α : Type} {f : α → D} {l : List α} {i : Nat} {d : D} (h : (l.map f)[i]? = some d) : ∃ a, l[i]? = some a ∧ a ∈ l ∧ d = f a := by
  rw [List.getElem?_map] at h
  cases e : l[i]? with
  | none => rw [e] at h; cases h
  | some a =>
    rw [e] at h
    exact ⟨a, rfl, List.mem_of_getElem? e, (Option.some.inj h).symm⟩
/-- the instance -/
def IsG (K : PySem.W.Frag) (H : Hp) (g : Gr) (a : Addr) : Prop := ∃ dx v, H a = some (.ins (He.ga K "Graph") dx [("procedures", v)]) ∧ Dn K H (encG g) v
variable {K : PySem.W.Frag}
theorem nol_encG (g : Gr) : nol (encG g) = true := nolL_encL g
theorem IsG.tk {H H' : Hp} {g : Gr} {a : Addr} (s : Tk H H') (h : IsG K H g a) : IsG K H' g a := by
  obtain ⟨dx, v, h1, h2⟩ := h
  exact ⟨dx, v, s.2.2 _ _ _ _ h1, Dn.tk s _ (nol_encG g) h2⟩
theorem IsG.same {H H' : Hp} {g : Gr} {a : Addr} (s : Same H H') (h : IsG K H g a) : IsG K H' g a := h.tk (Tk.of s)
/-! ### promises -/
def spG (K : PySem.W.Frag) (R : Gr → List D → D → Prop) : Sp := fun vs H Q _ => ∃ g a ws ds d, vs = .ref a :: ws ∧ Ok g ∧ IsG K H g a ∧ DnL K H ds ws ∧ R g ds d ∧ ∀ v H', Same H H' → Dn K H' d v → Q v H'
def spGF (K : PySem.W.Frag) (R : Gr → List D → List D → Prop) : Sp := fun vs H Q _ => ∃ g a ws ds l, vs = .ref a :: ws ∧ Ok g ∧ IsG K H g a ∧ DnL K H ds ws ∧ R g ds l ∧ ∀ p us H', Same H H' → H p = none → H' p = some (.lst us) → DnL K H' l us → Q (.ref p) H'
/-- data in, a new list out -/
def spF (K : PySem.W.Frag) (R : List D → List D → Prop) : Sp := fun vs H Q _ => ∃ ds l, DnL K H ds vs ∧ R ds l ∧ ∀ p us H', Same H H' → H p = none → H' p = some (.lst us) → DnL K H' l us → Q (.ref p) H'
section
variable {σ : L2.St} {H : Hp} {ta te to : TE} {t : TA} {d : D} {ds l : List D} {g : Gr} {a : Addr} {R : Gr → List D → D → Prop} {RF : Gr → List D → List D → Prop} {R1 : List D → List D → Prop} {m : Str}
theorem ev_callG (ha : EvA K t σ H (.o a :: ds)) (ok : Ok g) (hg : IsG K H g a) (r : R g ds d) : EvD K (tCall (spG K R) [] E0 t) σ H d := fun H1 s1 Q q => ha H1 s1 _ fun vs H2 s2 hv => by
  obtain ⟨v, ws, h1, h2, h3⟩ := hv
  subst h1
  rw [show v = .ref a from h2]
  exact ⟨g, a, ws, ds, d, by rw [List.append_nil], ok, hg.same (s1.trans s2), h3, r, fun v H' s hd => q v H' (s2.trans s) hd⟩
theorem evF_callG (ha : EvA K t σ H (.o a :: ds)) (ok : Ok g) (hg : IsG K H g a) (r : RF g ds l) : EvF K (tCall (spGF K RF) [] E0 t) σ H l := fun H1 s1 Q q => ha H1 s1 _ fun vs H2 s2 hv => by
  obtain ⟨v, ws, h1, h2, h3⟩ := hv
  subst h1
  rw [show v = .ref a from h2]
  exact ⟨g, a, ws, ds, l, by rw [List.append_nil], ok, hg.same (s1.trans s2), h3, r, fun p us H' s hp hl hd => q p us H' (s2.trans s) (none_of s2 hp) hl hd⟩
theorem evF_call (ha : EvA K t σ H ds) (r : R1 ds l) : EvF K (tCall (spF K R1) [] E0 t) σ H l := fun H1 s1 Q q => ha H1 s1 _ fun vs H2 s2 hv =>
  ⟨ds, l, by rw [List.append_nil]; exact hv, r, fun p us H' s hp hl hd => q p us H' (s2.trans s) (none_of s2 hp) hl hd⟩
theorem ev_methG (ho : EvD K to σ H (.o a)) (ha : EvA K t σ H ds) (ok : Ok g) (hg : IsG K H g a) (hm : ("procedures" == m) = false) (r : R g ds d) : EvD K (tMeth (He.ga K "Graph") m (spG K R) [] E0 to t) σ H d := fun H1 s1 Q q => ho H1 s1 _ fun v H2 s2 hv => by
  obtain ⟨dx, w, h1, h2⟩ := hg
  refine ⟨a, dx, _, hv, s2 _ _ (s1 _ _ h1), ?_, ha H2 (s1.trans s2) _ fun vs H3 s3 hvs => ?_⟩
  · show (match m == "procedures" with | true => some w | false => none) = none
    rw [show (m == "procedures") = false from by rw [Bool.eq_false_iff] at hm ⊢; exact fun e => hm (by rw [beq_iff_eq] at e ⊢; exact e.symm)]
  · rw [show v = .ref a from hv]
    exact ⟨g, a, vs, ds, d, by rw [List.append_nil], ok, IsG.same ((s1.trans s2).trans s3) ⟨dx, w, h1, h2⟩, hvs, r, fun v H' s hd => q v H' ((s2.trans s3).trans s) hd⟩
theorem evF_methG (ho : EvD K to σ H (.o a)) (ha : EvA K t σ H ds) (ok : Ok g) (hg : IsG K H g a) (hm : ("procedures" == m) = false) (r : RF g ds l) : EvF K (tMeth (He.ga K "Graph") m (spGF K RF) [] E0 to t) σ H l := fun H1 s1 Q q => ho H1 s1 _ fun v H2 s2 hv => by
  obtain ⟨dx, w, h1, h2⟩ := hg
  refine ⟨a, dx, _, hv, s2 _ _ (s1 _ _ h1), ?_, ha H2 (s1.trans s2) _ fun vs H3 s3 hvs => ?_⟩
  · show (match m == "procedures" with | true => some w | false => none) = none
    rw [show (m == "procedures") = false from by rw [Bool.eq_false_iff] at hm ⊢; exact fun e => hm (by rw [beq_iff_eq] at e ⊢; exact e.symm)]
  · rw [show v = .ref a from hv]
    exact ⟨g, a, vs, ds, l, by rw [List.append_nil], ok, IsG.same ((s1.trans s2).trans s3) ⟨dx, w, h1, h2⟩, hvs, r, fun p us H' s hp hl hd => q p us H' ((s2.trans s3).trans s) (none_of (s2.trans s3) hp) hl hd⟩
/-- self.procedures -/
theorem ev_procs {w : World} {h : Heap} {mg : Str → Option Value} (F : Fs w h K mg) (ho : EvD K to σ H (.o a)) (hg : IsG K H g a) : EvD K (tFld K to "procedures") σ H (encG g) := fun H1 s1 Q q => ho H1 s1 _ fun v H2 s2 hv => by
  obtain ⟨dx, w, h1, h2⟩ := hg
  exact ⟨a, _, dx, _, w, hv, s2 _ _ (s1 _ _ h1), F.cls_Graph, F.no_Graph_procedures, rfl, q w H2 s2 (Dn.same (s1.trans s2) _ h2)⟩
theorem spG_len {n : Nat} (hR : ∀ g ds d, R g ds d → ds.length = n) : ∀ vs H Q E, spG K R vs H Q E → vs.length = n + 1 := fun vs H Q E h => by
  obtain ⟨g, a, ws, ds, d, h1, _, _, h2, h3, _⟩ := h
  rw [h1, List.length_cons, h2.length, hR _ _ _ h3]
theorem spGF_len {n : Nat} (hR : ∀ g ds d, RF g ds d → ds.length = n) : ∀ vs H Q E, spGF K RF vs H Q E → vs.length = n + 1 := fun vs H Q E h => by
  obtain ⟨g, a, ws, ds, d, h1, _, _, h2, h3, _⟩ := h
  rw [h1, List.length_cons, h2.length, hR _ _ _ h3]
theorem spF_len {n : Nat} (hR : ∀ ds d, R1 ds d → ds.length = n) : ∀ vs H Q E, spF K R1 vs H Q E → vs.length = n := fun vs H Q E h => by
  obtain ⟨ds, d, h1, h2, _⟩ := h
  rw [h1.length, hR _ _ h2]
theorem st_retF (h : EvF K te σ H ds) {E : Ends} (k : ∀ p us H1, Same H H1 → H p = none → H1 p = some (.lst us) → DnL K H1 ds us → E.rt (.ref p) H1) : tRet te E σ H := h.run k
theorem st_setF {u : TS} {E : Ends} {i : Nat} (h : EvF K te σ H ds) (k : ∀ p us H1, Same H H1 → H p = none → H1 p = some (.lst us) → DnL K H1 ds us → u E (σ.set i (some (.ref p))) H1) : tSeq (tAsg te (gName i)) u E σ H := h.run k
end
end Odd

set_option Elab.async false
set_option linter.all false
set_option maxRecDepth 100000
set_option maxHeartbeats 4000000
/-! Part 8: the graph's checks. -/
namespace Odd
open PySem PySem.Spec PyProof.Rows L2
variable {P : Program} {w : World} {h : Heap} {K : PySem.W.Frag} {mg : Str → Option Value} {base : Heap}
/-- the pattern of a promise over data -/
abbrev one1 {n : Nat} {R : List D → D → Prop} (hR : ∀ ds d, R ds d → ds.length = n) := @spP_len
theorem qD_qd {n d : Nat} (h : Nat.gcd n d = 1) : qD n d = qd n d := by
  unfold qd
  rw [(r_cop h).1, (r_cop h).2]
abbrev N_is_rational : List Str := ["x", "n", "d"]
theorem sc_is_rational : FnScope N_is_rational ["x"] (defScope s_is_rational) := ⟨rfl, rfl, rfl, by decide +kernel, rfl, by decide +kernel, by decide +kernel⟩
theorem c_is_rational (F : Fs w h K mg) : Cal P w K mg base "is_rational" 2 ["x"] (spP K RIsRat) := by
  have c_is_integer_rationals : Cal P w K mg base "is_integer_rationals" 1 ["x"] (spP K RIsInt) := c_is_integer_rationals F
  refine F.d_is_rational.cal sc_is_rational (fun _ _ _ _ _ _ us hl => match us, hl with | [_], _ => rfl) (spP_len fun ds d r => by obtain ⟨_, _, rfl, _⟩ := r; rfl) fun f cdv A outer s H vs Q E hr hs => ?_
  obtain ⟨ds, r, hv, ⟨n, d, rfl, hd, hg, rfl⟩, k⟩ := hs
  obtain ⟨v1, _, rfl, h1, rfl⟩ := hv
  refine ⟨_, (pss_cons (ps_if (PW.pt (pw_or (pt_not (pt_val (pe_callB (r := rIsi K) call_isi (by rfl) F.f_isinstance bt_isi (pa_cons (pv 0) (pa_cons (pe_bty F.f_tuple bt_tuple) pa_nil))))) (pw_or1 (pt_cmpR op_ne (pe_callB (r := rLen K) cr_len (by rfl) F.f_len boot_len (pa_cons (pv 0) pa_nil)) pe_int (nomark _))))) (pss_one (ps_ret pe_bl)) pss_nil) (pss_cons (ps_asg (pv 0) (pg_tup rfl (pgs_cons (pg_name (i := 1) sc_is_rational.nd rfl (Or.inl rfl)) (pgs_cons (pg_name (i := 2) sc_is_rational.nd rfl (Or.inl rfl)) pgs_nil)))) (pss_one (ps_ret (pe_and (pe_cal c_is_integer_rationals (hr.mono (by decide)) (pa_cons (pv 1) pa_nil)) (pe_and (pe_cal c_is_integer_rationals (hr.mono (by decide)) (pa_cons (pv 2) pa_nil)) (pe_and (pe_cmpR op_gt (pv 2) pe_int (nomark _)) (pe_one (pe_cmpR op_eq (pe_callBfun cr_gcd (by rfl) F.gcd (pa_cons (pv 1) (pa_cons (pv 2) pa_nil))) pe_int (nomark _)))))))))), ?_⟩
  refine st_ifq (b := false) ((et_or (a := false) (b := false) ((et_not (et_B (ev_isi (k := true) (ev_var rfl h1) ty_c ki_tt))).to rfl) fun _ => (et_cmp (ev_neI (ev_lenT (ev_var rfl h1)) ev_int)).to rfl).to rfl) (fun z => nomatch z) fun _ H1 s1 => ?_
  refine (ev_var (σ := [some v1, none, none]) (i := 0) rfl (Dn.same s1 _ h1)).run fun v H2 s2 hv => g_pair hv fun x1 x2 g1 g2 => ?_
  cases (show x1 = .int n from g1)
  cases (show x2 = .int d from g2)
  refine st_ret K (d := .b true) ((ev_and (a := true) (b := true) (ev_call (ea_1 (ev_i rfl)) ⟨_, rfl, rfl⟩) fun _ => (ev_and (a := true) (b := true) (ev_call (ea_1 (ev_i rfl)) ⟨_, rfl, rfl⟩) fun _ => (ev_and (a := true) (b := true) ((ev_cmp0 (g := fun i j => decide (j < i)) (ev_i rfl) ev_int).to ?_) fun _ => (ev_eqI (ev_gcd (ev_i rfl) (ev_i rfl)) ev_int).to ?_).to rfl).to rfl).to rfl) fun v H3 s3 hv => k v H3 ((s1.trans s2).trans s3) hv
  · exact congrArg D.b (decide_eq_true (Int.ofNat_lt.mpr hd))
  · rw [hg]; rfl
abbrev N_is_integer_graphs : List Str := ["value"]
theorem sc_is_integer_graphs : FnScope N_is_integer_graphs ["value"] (defScope s_is_integer_graphs) := ⟨rfl, rfl, rfl, by decide +kernel, rfl, by decide +kernel, by decide +kernel⟩
theorem c_is_integer_graphs (F : Fs w h K mg) : Cal P w K mg base "is_integer_graphs" 1 ["value"] (spP K RIsInt) := by
  refine F.d_is_integer_graphs.cal sc_is_integer_graphs (fun _ _ _ _ _ _ us hl => match us, hl with | [_], _ => rfl) (spP_len fun ds d r => by obtain ⟨n, rfl, _⟩ := r; rfl) fun f cdv A outer s H vs Q E hr hs => ?_
  obtain ⟨ds, d, hv, ⟨n, rfl, rfl⟩, k⟩ := hs
  obtain ⟨v, _, rfl, h1, rfl⟩ := hv
  refine ⟨_, (pss_one (ps_ret (pe_and (pe_callB (r := rIsi K) call_isi (by rfl) F.f_isinstance bt_isi (pa_cons (pv 0) (pa_cons (pe_bty F.f_int bt_int) pa_nil))) (pe_one (pe_not (pe_callB (r := rIsi K) call_isi (by rfl) F.f_isinstance bt_isi (pa_cons (pv 0) (pa_cons (pe_bty F.f_bool bt_bool) pa_nil)))))))), ?_⟩
  exact st_ret K (ev_and (ev_isi (ev_var rfl h1) ty_i ki_ii) fun _ => ev_not (ev_isi (ev_var rfl h1) ty_i ki_ib)) k
def RIsIdx : List D → D → Prop := fun ds d => ∃ n m : Nat, ds = [nD n, nD m] ∧ n < m ∧ d = .b true
abbrev N_is_index : List Str := ["value", "many"]
theorem sc_is_index : FnScope N_is_index ["value", "many"] (defScope s_is_index) := ⟨rfl, rfl, rfl, by decide +kernel, rfl, by decide +kernel, by decide +kernel⟩
theorem c_is_index (F : Fs w h K mg) : Cal P w K mg base "is_index" 2 ["value", "many"] (spP K RIsIdx) := by
  have c_is_integer_graphs : Cal P w K mg base "is_integer_graphs" 1 ["value"] (spP K RIsInt) := c_is_integer_graphs F
  refine F.d_is_index.cal sc_is_index (fun _ _ _ _ _ _ us hl => match us, hl with | [_, _], _ => rfl) (spP_len fun ds d r => by obtain ⟨_, _, rfl, _⟩ := r; rfl) fun f cdv A outer s H vs Q E hr hs => ?_
  obtain ⟨ds, r, hv, ⟨n, m, rfl, hm, rfl⟩, k⟩ := hs
  obtain ⟨v1, _, rfl, h1, v2, _, rfl, h2, rfl⟩ := hv
  cases (show v1 = .int n from h1)
  cases (show v2 = .int m from h2)
  refine ⟨_, (pss_one (ps_ret (pe_and (pe_cal c_is_integer_graphs (hr.mono (by decide)) (pa_cons (pv 0) pa_nil)) (pe_one (pe_chain op_le op_lt pe_int (pv 0) (pv 1)))))), ?_⟩
  refine st_ret K (d := .b true) ((ev_and (a := true) (b := true) (ev_call (ea_1 (ev_i rfl)) ⟨_, rfl, rfl⟩) fun _ => (ev_chainI (g := fun i j => decide (i ≤ j)) (g' := fun i j => decide (i < j)) ev_int (ev_i rfl) (ev_i rfl)).to ?_).to rfl) k
  rw [decide_eq_true (Int.natCast_nonneg n), decide_eq_true (Int.ofNat_lt.mpr hm)]
  rfl
def RChance : List D → D → Prop := fun ds r => ∃ n d : Nat, ds = [qD n d] ∧ 0 < n ∧ 0 < d ∧ d ≤ 60 ∧ Nat.gcd n d = 1 ∧ r = .b true
abbrev N_is_chance : List Str := ["value"]
theorem sc_is_chance : FnScope N_is_chance ["value"] (defScope s_is_chance) := ⟨rfl, rfl, rfl, by decide +kernel, rfl, by decide +kernel, by decide +kernel⟩
theorem c_is_chance (F : Fs w h K mg) : Cal P w K mg base "is_chance" 3 ["value"] (spP K RChance) := by
  have c_is_rational : Cal P w K mg base "is_rational" 2 ["x"] (spP K RIsRat) := c_is_rational F
  obtain ⟨_, hm_MOST_DENOMINATOR, hr_MOST_DENOMINATOR⟩ := F.k_MOST_DENOMINATOR
  refine F.d_is_chance.cal sc_is_chance (fun _ _ _ _ _ _ us hl => match us, hl with | [_], _ => rfl) (spP_len fun ds d r => by obtain ⟨_, _, rfl, _⟩ := r; rfl) fun f cdv A outer s H vs Q E hr hs => ?_
  obtain ⟨ds, r, hv, ⟨n, d, rfl, hn, hd, hb, hg, rfl⟩, k⟩ := hs
  obtain ⟨v1, _, rfl, h1, rfl⟩ := hv
  refine ⟨_, (pss_one (ps_ret (pe_and (pe_cal c_is_rational (hr.mono (by decide)) (pa_cons (pv 0) pa_nil)) (pe_and (pe_cmpR op_gt (pe_ix (r := rIxT K) ix_tup (pv 0) pe_int (fun _ _ => rfl)) pe_int (nomark _)) (pe_one (pe_cmpR op_le (pe_ix (r := rIxT K) ix_tup (pv 0) pe_int (fun _ _ => rfl)) (pe_glob rfl hm_MOST_DENOMINATOR hr_MOST_DENOMINATOR) (nomark _))))))), ?_⟩
  have V0 : EvD K (tVar 0) [some v1] H (qD n d) := ev_var rfl h1
  refine st_ret K (d := .b true) ((ev_and (a := true) (b := true) (ev_call (ea_1 V0) ⟨n, d, rfl, hd, hg, rfl⟩) fun _ => (ev_and (a := true) (b := true) ((ev_cmp0 (g := fun i j => decide (j < i)) (ev_ix (n := 0) V0 ev_int rfl ix0) ev_int).to ?_) fun _ => (ev_cmp0 (g := fun i j => decide (i ≤ j)) (ev_ix (n := 1) V0 ev_int rfl ix1) ev_int).to ?_).to rfl).to rfl) k
  · exact congrArg D.b (decide_eq_true (Int.ofNat_lt.mpr hn))
  · exact congrArg D.b (decide_eq_true (Int.ofNat_le.mpr hb))
def RAmount : List D → D → Prop := fun ds r => ∃ n d : Nat, ds = [qD n d] ∧ n ≤ 1000 ∧ 0 < d ∧ d ≤ 12 ∧ Nat.gcd n d = 1 ∧ r = .b true
abbrev N_is_amount : List Str := ["value"]
theorem sc_is_amount : FnScope N_is_amount ["value"] (defScope s_is_amount) := ⟨rfl, rfl, rfl, by decide +kernel, rfl, by decide +kernel, by decide +kernel⟩
theorem c_is_amount (F : Fs w h K mg) : Cal P w K mg base "is_amount" 3 ["value"] (spP K RAmount) := by
  have c_is_rational : Cal P w K mg base "is_rational" 2 ["x"] (spP K RIsRat) := c_is_rational F
  obtain ⟨_, hm_MOST_AMOUNT, hr_MOST_AMOUNT⟩ := F.k_MOST_AMOUNT
  obtain ⟨_, hm_MOST_AMOUNT_DENOMINATOR, hr_MOST_AMOUNT_DENOMINATOR⟩ := F.k_MOST_AMOUNT_DENOMINATOR
  refine F.d_is_amount.cal sc_is_amount (fun _ _ _ _ _ _ us hl => match us, hl with | [_], _ => rfl) (spP_len fun ds d r => by obtain ⟨_, _, rfl, _⟩ := r; rfl) fun f cdv A outer s H vs Q E hr hs => ?_
  obtain ⟨ds, r, hv, ⟨n, d, rfl, hn, hd, hb, hg, rfl⟩, k⟩ := hs
  obtain ⟨v1, _, rfl, h1, rfl⟩ := hv
  refine ⟨_, (pss_one (ps_ret (pe_and (pe_cal c_is_rational (hr.mono (by decide)) (pa_cons (pv 0) pa_nil)) (pe_and (pe_chain op_le op_le pe_int (pe_ix (r := rIxT K) ix_tup (pv 0) pe_int (fun _ _ => rfl)) (pe_glob rfl hm_MOST_AMOUNT hr_MOST_AMOUNT)) (pe_one (pe_cmpR op_le (pe_ix (r := rIxT K) ix_tup (pv 0) pe_int (fun _ _ => rfl)) (pe_glob rfl hm_MOST_AMOUNT_DENOMINATOR hr_MOST_AMOUNT_DENOMINATOR) (nomark _))))))), ?_⟩
  have V0 : EvD K (tVar 0) [some v1] H (qD n d) := ev_var rfl h1
  refine st_ret K (d := .b true) ((ev_and (a := true) (b := true) (ev_call (ea_1 V0) ⟨n, d, rfl, hd, hg, rfl⟩) fun _ => (ev_and (a := true) (b := true) ((ev_chainI (g := fun i j => decide (i ≤ j)) (g' := fun i j => decide (i ≤ j)) ev_int (ev_ix (n := 0) V0 ev_int rfl ix0) ev_int).to ?_) fun _ => (ev_cmp0 (g := fun i j => decide (i ≤ j)) (ev_ix (n := 1) V0 ev_int rfl ix1) ev_int).to ?_).to rfl).to rfl) k
  · rw [decide_eq_true (Int.natCast_nonneg n), decide_eq_true (show (n : Int) ≤ 1000 by omega)]; rfl
  · exact congrArg D.b (decide_eq_true (Int.ofNat_le.mpr hb))
end Odd

set_option Elab.async false
set_option linter.all false
set_option maxRecDepth 100000
set_option maxHeartbeats 4000000
/-! Part 9: the graph's checks, points. -/
namespace Odd
open PySem PySem.Spec PyProof.Rows L2
variable {P : Program} {w : World} {h : Heap} {K : PySem.W.Frag} {mg : Str → Option Value} {base : Heap}
def wd : Pt → Str
  | .exit _ => "exit" | .draw _ => "draw" | .call _ _ => "call" | .reward _ _ => "reward" | .reject => "reject" | .stop => "stop"
def rst : Pt → List D
  | .exit e => [nD e]
  | .draw bs => [.t (bs.map encB)]
  | .call r ps => [nD r, .t (ps.map nD)]
  | .reward a q => [qD a.1 a.2, nD q]
  | _ => []
theorem encPt_eq (p : Pt) : encPt p = .t (.s (wd p) :: rst p) := by cases p <;> rfl
theorem ev_lenOf (F : Fs w h K mg) {ty tx : TE} {σ : L2.St} {H : Hp} {k : Str} {n z : Int} (hk : EvD K ty σ H (.s k)) (hx : EvD K tx σ H (.i z)) (hm : (k, He.Dv.int n) ∈ lengthsTab) : EvD K (tKGet K w (tC (.ref (He.ga K "LENGTHS"))) ty tx) σ H (.i n) := fun H1 a Q q => by
  obtain ⟨es, m, hT⟩ := F.tab
  refine ⟨_, es, m, rfl, hT, hk H1 a _ fun v H2 s2 hv => hx H2 (a.trans s2) _ fun u H3 s3 hu => ?_⟩
  obtain ⟨u0, q1, q2⟩ := F.lengths hm
  exact ⟨k, u0, .int n, hv, q1, q2, q _ H3 (s2.trans s3) rfl⟩
def RForm : List D → D → Prop := fun ds r => ∃ p : Pt, ds = [encPt p] ∧ (∀ bs, p = .draw bs → bs.length ≤ 4) ∧ r = .b true
abbrev N_has_form : List Str := ["point", "one"]
theorem sc_has_form : FnScope N_has_form ["point"] (defScope s_has_form) := ⟨rfl, rfl, rfl, by decide +kernel, rfl, by decide +kernel, by decide +kernel⟩
theorem c_has_form (F : Fs w h K mg) : Cal P w K mg base "has_form" 2 ["point"] (spP K RForm) := by
  have c_is_integer_graphs : Cal P w K mg base "is_integer_graphs" 1 ["value"] (spP K RIsInt) := c_is_integer_graphs F
  refine F.d_has_form.cal sc_has_form (fun _ _ _ _ _ _ us hl => match us, hl with | [_], _ => rfl) (spP_len fun ds d r => by obtain ⟨_, rfl, _⟩ := r; rfl) fun f cdv A outer s H vs Q E hr hs => ?_
  obtain ⟨ds, r, hv, ⟨p, rfl, hb, rfl⟩, k⟩ := hs
  obtain ⟨v1, _, rfl, h1, rfl⟩ := hv
  rw [encPt_eq] at h1
  refine ⟨_, (pss_cons (ps_if (PW.pt (pw_or (pt_not (pt_val (pe_callB (r := rIsi K) call_isi (by rfl) F.f_isinstance bt_isi (pa_cons (pv 0) (pa_cons (pe_bty F.f_tuple bt_tuple) pa_nil))))) (pw_or (pt_cmpR op_eq (pe_callB (r := rLen K) cr_len (by rfl) F.f_len boot_len (pa_cons (pv 0) pa_nil)) pe_int (nomark _)) (pw_or1 (pt_not (pt_val (pe_callB (r := rIsi K) call_isi (by rfl) F.f_isinstance bt_isi (pa_cons (pe_ix (r := rIxT K) ix_tup (pv 0) pe_int (fun _ _ => rfl)) (pa_cons (pe_bty F.f_str bt_str) pa_nil))))))))) (pss_one (ps_ret pe_bl)) pss_nil) (pss_cons (ps_if (pt_cmpR op_ne (pe_callB (r := rLen K) cr_len (by rfl) F.f_len boot_len (pa_cons (pv 0) pa_nil)) (pe_kget (pe_glob (v := .ref (He.ga K "LENGTHS")) rfl F.g_LENGTHS rfl) (pe_ix (r := rIxT K) ix_tup (pv 0) pe_int (fun _ _ => rfl)) pe_int ⟨rfl, rfl, rfl, rfl⟩) (nomark _)) (pss_one (ps_ret pe_bl)) pss_nil) (pss_cons (ps_if (pt_cmpR op_eq (pe_ix (r := rIxT K) ix_tup (pv 0) pe_int (fun _ _ => rfl)) pe_str (nomark _)) (pss_one (ps_ret (pe_cal c_is_integer_graphs (hr.mono (by decide)) (pa_cons (pe_ix (r := rIxT K) ix_tup (pv 0) pe_int (fun _ _ => rfl)) pa_nil)))) pss_nil) (pss_cons (ps_if (pt_cmpR op_eq (pe_ix (r := rIxT K) ix_tup (pv 0) pe_int (fun _ _ => rfl)) pe_str (nomark _)) (pss_one (ps_ret (pe_and (pe_callB (r := rIsi K) call_isi (by rfl) F.f_isinstance bt_isi (pa_cons (pe_ix (r := rIxT K) ix_tup (pv 0) pe_int (fun _ _ => rfl)) (pa_cons (pe_bty F.f_tuple bt_tuple) pa_nil))) (pe_one (pe_callB (r := rAll K) (cr_all rfl) (by rfl) F.f_all boot_all (pa_cons (pe_lc (own := [("one", 1)]) (g := gName 1) (tt := tYes) rfl sc_has_form.nd (pi_tup (pe_ix (r := rIxT K) ix_tup (pv 0) pe_int (fun _ _ => rfl))) (blkOk_by (N := N_has_form) (sc := defScope s_has_form) (by decide +kernel))  (fun _ _ _ _ _ => (pg_name (i := 1) sc_has_form.nd rfl (Or.inl rfl))) (fun _ _ _ _ _ => pts_nil) (fun _ _ _ _ _ => (pe_and (pe_callB (r := rIsi K) call_isi (by rfl) F.f_isinstance bt_isi (pa_cons (pv 1) (pa_cons (pe_bty F.f_tuple bt_tuple) pa_nil))) (pe_one (pe_cmpR op_eq (pe_callB (r := rLen K) cr_len (by rfl) F.f_len boot_len (pa_cons (pv 1) pa_nil)) pe_int (nomark _)))))) pa_nil)))))) pss_nil) (pss_cons (ps_if (pt_cmpR op_eq (pe_ix (r := rIxT K) ix_tup (pv 0) pe_int (fun _ _ => rfl)) pe_str (nomark _)) (pss_one (ps_ret (pe_callB (r := rIsi K) call_isi (by rfl) F.f_isinstance bt_isi (pa_cons (pe_ix (r := rIxT K) ix_tup (pv 0) pe_int (fun _ _ => rfl)) (pa_cons (pe_bty F.f_tuple bt_tuple) pa_nil))))) pss_nil) (pss_cons (ps_if (pt_cmpR op_eq (pe_ix (r := rIxT K) ix_tup (pv 0) pe_int (fun _ _ => rfl)) pe_str (nomark _)) (pss_one (ps_ret (pe_and (pe_cal c_is_integer_graphs (hr.mono (by decide)) (pa_cons (pe_ix (r := rIxT K) ix_tup (pv 0) pe_int (fun _ _ => rfl)) pa_nil)) (pe_one (pe_callB (r := rIsi K) call_isi (by rfl) F.f_isinstance bt_isi (pa_cons (pe_ix (r := rIxT K) ix_tup (pv 0) pe_int (fun _ _ => rfl)) (pa_cons (pe_bty F.f_tuple bt_tuple) pa_nil))))))) pss_nil) (pss_one (ps_ret pe_bl)))))))), ?_⟩
  have V0 : EvD K (tVar 0) [some v1, none] H (.c (.s (wd p) :: rst p)) := ev_var rfl h1.tc
  have W0 : EvD K (tOp (rIxT K) (tVar 0) (tC (.int 0))) [some v1, none] H (.s (wd p)) := ev_ix (n := 0) V0 ev_int rfl ix0
  refine st_ifq (b := false) ((et_or (a := false) (b := false) ((et_not (et_B (ev_isi (k := true) V0 ty_c ki_tt))).to rfl) fun _ => (et_or (a := false) (b := false) ((et_cmp (ev_eqI (ev_lenT V0) ev_int)).to ?_) fun _ => ((et_not (et_B (ev_isi (k := true) W0 ty_s ki_ss))).to rfl)).to rfl).to rfl) (fun z => nomatch z) fun _ H1 s1 => ?_
  · rw [decide_eq_false_iff_not]; show ¬ ((((rst p).length + 1 : Nat) : Int) = 0); omega
  have tab : ∃ n : Int, (wd p, He.Dv.int n) ∈ lengthsTab ∧ (((rst p).length + 1 : Nat) : Int) = n := by
    unfold lengthsTab
    cases p with
    | exit e => exact ⟨2, .head _, rfl⟩
    | draw bs => exact ⟨2, .tail _ (.head _), rfl⟩
    | call r ps => exact ⟨3, .tail _ (.tail _ (.tail _ (.head _))), rfl⟩
    | reward a q => exact ⟨3, .tail _ (.tail _ (.tail _ (.tail _ (.head _)))), rfl⟩
    | reject => exact ⟨1, .tail _ (.tail _ (.tail _ (.tail _ (.tail _ (.head _))))), rfl⟩
    | stop => exact ⟨1, .tail _ (.tail _ (.tail _ (.tail _ (.tail _ (.tail _ (.head _)))))), rfl⟩
  obtain ⟨n, hn, hln⟩ := tab
  have V0 := V0.mono s1
  have W0 := W0.mono s1
  refine st_ifq (b := false) ((et_cmp (ev_neI (ev_lenT V0) (ev_lenOf F W0 ev_int hn))).to ?_) (fun z => nomatch z) fun _ H2 s2 => ?_
  · show (!decide ((((rst p).length + 1 : Nat) : Int) = n)) = false
    rw [hln]; simp
  have V0 := V0.mono s2
  have W0 := W0.mono s2
  have kk : ∀ v H', Same H2 H' → Dn K H' (.b true) v → Q v H' := fun v H' s' hv => k v H' ((s1.trans s2).trans s') hv
  have W : ∀ z : Str, EvT (tTest (tOp rEq (tOp (rIxT K) (tVar 0) (tC (.int 0))) (tC (.str z)))) [some v1, none] H2 (decide (wd p = z)) := fun z => et_cmp (ev_eqS W0 ev_str)
  cases p with
  | exit e => exact st_ifq ((W "exit").to (show decide (("exit" : Str) = "exit") = true by decide)) (fun _ H3 s3 => st_ret K (ev_call (ea_1 (ev_ix (n := 1) (V0.mono s3) ev_int rfl ix1)) ⟨_, rfl, rfl⟩) fun v H' s' hv => kk v H' (s3.trans s') hv) fun z => nomatch z
  | draw bs =>
    refine st_no ((W "exit").to (show decide (("draw" : Str) = "exit") = false by decide)) fun H3 s3 => ?_
    refine st_ifq (((W "draw").mono s3).to (show decide (("draw" : Str) = "draw") = true by decide)) (fun _ H4 s4 => ?_) fun z => nomatch z
    have B : EvD K (tOp (rIxT K) (tVar 0) (tC (.int 1))) [some v1, none] H4 (.t (bs.map encB)) := ev_ix (n := 1) (V0.mono (s3.trans s4)) ev_int rfl ix1
    refine st_ret K (d := .b true) ((ev_and (a := true) (b := true) (ev_isi B ty_t ki_tt) fun _ => (ev_all (ev_lc (ei_tup B.tc) (fun _ => true) (fun _ => .b true) (fun _ _ => rfl) ?_ ?_).d (bs := (List.range bs.length).map fun _ => true) ?_).to ?_).to rfl) fun v H' s' hv => kk v H' ((s3.trans s4).trans s') hv
    · rw [List.length_map]; have := hb bs rfl; omega
    · intro i d x H' e s' hx k' hk'
      obtain ⟨b, _, _, rfl⟩ := map_get' e
      refine hk' _ rfl et_yes fun _ => ?_
      have X1 : EvD K (tVar 1) [some v1, some x] H' (.t [qD b.1.1 b.1.2, nD b.2]) := ev_var rfl hx
      exact (ev_and (a := true) (b := true) (ev_isi X1 ty_t ki_tt) fun _ => (ev_eqI (ev_lenT X1.tc) ev_int).to rfl).to rfl
    · rw [pick_all, List.length_map, List.map_map]; rfl
    · congr 1
      rw [List.all_map]
      exact List.all_eq_true.mpr fun _ _ => rfl
  | call r ps =>
    refine st_no ((W "exit").to (show decide (("call" : Str) = "exit") = false by decide)) fun H3 s3 => ?_
    refine st_no (((W "draw").mono s3).to (show decide (("call" : Str) = "draw") = false by decide)) fun H4 s4 => ?_
    refine st_no (((W "choose").mono (s3.trans s4)).to (show decide (("call" : Str) = "choose") = false by decide)) fun H5 s5 => ?_
    refine st_ifq (((W "call").mono ((s3.trans s4).trans s5)).to (show decide (("call" : Str) = "call") = true by decide)) (fun _ H6 s6 => ?_) fun z => nomatch z
    have s36 := ((s3.trans s4).trans s5).trans s6
    exact st_ret K (d := .b true) ((ev_and (a := true) (b := true) (ev_call (ea_1 (ev_ix (n := 1) (V0.mono s36) ev_int rfl ix1)) ⟨_, rfl, rfl⟩) fun _ => ev_isi (ev_ix (n := 2) (V0.mono s36) ev_int rfl rfl) ty_t ki_tt).to rfl) fun v H' s' hv => kk v H' (s36.trans s') hv
  | reward a q =>
    refine st_no ((W "exit").to (show decide (("reward" : Str) = "exit") = false by decide)) fun H3 s3 => ?_
    refine st_no (((W "draw").mono s3).to (show decide (("reward" : Str) = "draw") = false by decide)) fun H4 s4 => ?_
    refine st_no (((W "choose").mono (s3.trans s4)).to (show decide (("reward" : Str) = "choose") = false by decide)) fun H5 s5 => ?_
    refine st_no (((W "call").mono ((s3.trans s4).trans s5)).to (show decide (("reward" : Str) = "call") = false by decide)) fun H6 s6 => ?_
    exact st_ret K ev_bl fun v H' s' hv => kk v H' ((((s3.trans s4).trans s5).trans s6).trans s') hv
  | reject =>
    refine st_no ((W "exit").to (show decide (("reject" : Str) = "exit") = false by decide)) fun H3 s3 => ?_
    refine st_no (((W "draw").mono s3).to (show decide (("reject" : Str) = "draw") = false by decide)) fun H4 s4 => ?_
    refine st_no (((W "choose").mono (s3.trans s4)).to (show decide (("reject" : Str) = "choose") = false by decide)) fun H5 s5 => ?_
    refine st_no (((W "call").mono ((s3.trans s4).trans s5)).to (show decide (("reject" : Str) = "call") = false by decide)) fun H6 s6 => ?_
    exact st_ret K ev_bl fun v H' s' hv => kk v H' ((((s3.trans s4).trans s5).trans s6).trans s') hv
  | stop =>
    refine st_no ((W "exit").to (show decide (("stop" : Str) = "exit") = false by decide)) fun H3 s3 => ?_
    refine st_no (((W "draw").mono s3).to (show decide (("stop" : Str) = "draw") = false by decide)) fun H4 s4 => ?_
    refine st_no (((W "choose").mono (s3.trans s4)).to (show decide (("stop" : Str) = "choose") = false by decide)) fun H5 s5 => ?_
    refine st_no (((W "call").mono ((s3.trans s4).trans s5)).to (show decide (("stop" : Str) = "call") = false by decide)) fun H6 s6 => ?_
    exact st_ret K ev_bl fun v H' s' hv => kk v H' ((((s3.trans s4).trans s5).trans s6).trans s') hv
/-! ### draw_problem -/
def wsum (bs : List ((Nat × Nat) × Nat)) : Nat := (bs.map fun b => wt b.1).sum
theorem menu_sum : ∀ cs ∈ menu, (cs.map wt).sum = 60 := by decide
structure DrawOk (bs : List ((Nat × Nat) × Nat)) (many : Nat) : Prop where
  m : bs.map (·.1) ∈ menu
  t : ∀ b ∈ bs, b.2 < many
theorem DrawOk.len {bs : List ((Nat × Nat) × Nat)} {many : Nat} (h : DrawOk bs many) : bs.length ≤ 4 ∧ 1 ≤ bs.length := by
  have z := menu_len _ h.m
  rwa [List.length_map] at z
theorem DrawOk.wt {bs : List ((Nat × Nat) × Nat)} {many : Nat} (h : DrawOk bs many) {b : (Nat × Nat) × Nat} (hb : b ∈ bs) : 0 < b.1.1 ∧ 0 < b.1.2 ∧ b.1.2 ∣ 60 ∧ 0 < wt b.1 ∧ wt b.1 * b.1.2 = 60 * b.1.1 ∧ b.1.1 ≤ 60 ∧ b.1.2 ≤ 60 ∧ Nat.gcd b.1.1 b.1.2 = 1 := menu_wt _ h.m _ (List.mem_map.mpr ⟨b, hb, rfl⟩)
theorem DrawOk.sum {bs : List ((Nat × Nat) × Nat)} {many : Nat} (h : DrawOk bs many) : wsum bs = 60 := by
  have z := menu_sum _ h.m
  rw [List.map_map] at z
  exact z
def RDraw : List D → D → Prop := fun ds r => ∃ bs many, ds = [.c (bs.map encB), nD many] ∧ DrawOk bs many ∧ r = .n
theorem qd_step {T n d : Nat} (hd : 0 < d) (hw : wt (n, d) * d = 60 * n) : qd (T * d + 60 * n) (60 * d) = qd (T + wt (n, d)) 60 := by
  have e1 : T * d + 60 * n = d * (T + wt (n, d)) := by rw [Nat.mul_add, ← hw, Nat.mul_comm d T, Nat.mul_comm d]
  have e2 : 60 * d = d * 60 := Nat.mul_comm ..
  rw [e1, e2]
  unfold qd
  rw [(r_scale hd _ _).1, (r_scale hd _ _).2]
theorem small_lt2 {n : Nat} (h : n < 2 ^ 64) : n < 2 ^ 2000 := Nat.lt_trans h (Nat.pow_lt_pow_right (by decide) (by decide))
abbrev N_draw_problem : List Str := ["branches", "many", "total", "chance", "point"]
theorem sc_draw_problem : FnScope N_draw_problem ["branches", "many"] (defScope s_draw_problem) := ⟨rfl, rfl, rfl, by decide +kernel, rfl, by decide +kernel, by decide +kernel⟩
theorem c_draw_problem (F : Fs w h K mg) : Cal P w K mg base "draw_problem" 4 ["branches", "many"] (spP K RDraw) := by
  have c_is_chance : Cal P w K mg base "is_chance" 3 ["value"] (spP K RChance) := c_is_chance F
  have c_is_index : Cal P w K mg base "is_index" 2 ["value", "many"] (spP K RIsIdx) := c_is_index F
  have c_plus : Cal P w K mg base "plus" 2 ["a", "b"] (spP K RPlus) := c_plus F
  obtain ⟨_, hm_MOST_BRANCHES, hr_MOST_BRANCHES⟩ := F.k_MOST_BRANCHES
  refine F.d_draw_problem.cal sc_draw_problem (fun _ _ _ _ _ _ us hl => match us, hl with | [_, _], _ => rfl) (spP_len fun ds d r => by obtain ⟨_, _, rfl, _⟩ := r; rfl) fun f cdv A outer s H vs Q E hr hs => ?_
  obtain ⟨ds, r, hv, ⟨bs, many, rfl, ok, rfl⟩, k⟩ := hs
  obtain ⟨v1, _, rfl, h1, v2, _, rfl, h2, rfl⟩ := hv
  cases (show v2 = .int many from h2)
  refine ⟨_, (pss_cons (ps_if (pt_not (pt_chain op_le op_le pe_int (pe_callB (r := rLen K) cr_len (by rfl) F.f_len boot_len (pa_cons (pv 0) pa_nil)) (pe_glob rfl hm_MOST_BRANCHES hr_MOST_BRANCHES))) (pss_one (ps_ret pe_str)) pss_nil) (pss_cons (ps_set (i := 2) sc_draw_problem.nd rfl (Or.inl rfl) (pe_tup (pa_cons pe_int (pa_cons pe_int pa_nil)))) (pss_cons (ps_for PassesOwn.never rfl (pi_tup (pv 0)) (pg_tup rfl (pgs_cons (pg_name (i := 3) sc_draw_problem.nd rfl (Or.inl rfl)) (pgs_cons (pg_name (i := 4) sc_draw_problem.nd rfl (Or.inl rfl)) pgs_nil))) (pss_cons (ps_if (pt_not (pt_val (pe_cal c_is_chance (hr.mono (by decide)) (pa_cons (pv 3) pa_nil)))) (pss_one (ps_ret pe_str)) pss_nil) (pss_cons (ps_if (pt_not (pt_val (pe_cal c_is_index (hr.mono (by decide)) (pa_cons (pv 4) (pa_cons (pv 1) pa_nil))))) (pss_one (ps_ret pe_str)) pss_nil) (pss_one (ps_set (i := 2) sc_draw_problem.nd rfl (Or.inl rfl) (pe_cal c_plus (hr.mono (by decide)) (pa_cons (pv 2) (pa_cons (pv 3) pa_nil)))))))) (pss_one (ps_ret (pe_ifExp (pt_cmpR (op_eqD hr.units) (pv 2) (pe_tup (pa_cons pe_int (pa_cons pe_int pa_nil))) (nomark _)) pe_non pe_str)))))), ?_⟩
  have V0 : EvD K (tVar 0) [some v1, some (.int many), none, none, none] H (.c (bs.map encB)) := ev_var rfl h1
  refine st_no ((et_not (et_cmp (b := true) ((ev_chainI (g := fun i j => decide (i ≤ j)) (g' := fun i j => decide (i ≤ j)) ev_int (ev_lenT V0) ev_int).to ?_))).to rfl) fun H1 s1 => ?_
  · have z := ok.len
    rw [List.length_map]
    show D.b (decide ((1 : Int) ≤ (bs.length : Int)) && decide ((bs.length : Int) ≤ 4)) = _
    rw [decide_eq_true (show (1 : Int) ≤ bs.length by omega), decide_eq_true (show (bs.length : Int) ≤ 4 by omega)]
    rfl
  refine st_set K (ev_tup (ea_2 ev_int ev_int)).tc fun t0 H2 s2 ht => ?_
  have V1 : EvD K (tVar 0) [some v1, some (.int many), some t0, none, none] H2 (.c (bs.map encB)) := ev_var rfl (Dn.same (s1.trans s2) _ h1)
  refine for_ev (ei_tup V1) (fun H3 i σ' H' => Same H3 H' ∧ ∃ t x y, σ' = [some v1, some (.int many), some t, x, y] ∧ Dn K H' (qd (wsum (bs.take i)) 60) t) (fun H3 s3 => ⟨Same.refl _, t0, none, none, rfl, ?_⟩) (fun _ _ _ _ _ _ q => q.1) ?_ ?_
  · have e : qd (wsum (bs.take 0)) 60 = qD 0 1 := by
      unfold qd
      show qD (rn 0 60 : Nat) (rd 0 60 : Nat) = _
      rw [(rn_zero (d := 60) (by decide)).1, (rn_zero (d := 60) (by decide)).2]
      rfl
    rw [e]
    exact Dn.same s3 _ ht
  · rintro H3 i d x σ' H' H'' s3 e ⟨z1, t, x0, y0, rfl, z2⟩ z3 hx
    obtain ⟨b, hb1, hb2, rfl⟩ := map_get' e
    have sH : Same H H'' := (((s1.trans s2).trans s3).trans z1).trans z3
    have wb := ok.wt hb2
    refine g_pair hx.tc fun c q hc hq => ?_
    cases (show q = .int b.2 from hq)
    refine st_no ((et_not (et_B (b := true) (ev_call (ea_1 (ev_var rfl hc)) ⟨_, _, rfl, wb.1, wb.2.1, wb.2.2.2.2.2.2.1, wb.2.2.2.2.2.2.2, rfl⟩))).to rfl) fun H4 s4 => ?_
    refine st_no ((et_not (et_B (b := true) (ev_call (ea_2 (ev_i rfl) (ev_i rfl)) ⟨b.2, many, rfl, ok.t b hb2, rfl⟩))).to rfl) fun H5 s5 => ?_
    have hwi : wsum (bs.take i) ≤ 240 := by
      refine Nat.le_trans (sum_le 60 _ fun x hx => ?_) ?_
      · obtain ⟨a, ha, rfl⟩ := List.mem_map.mp hx
        exact menu_w60 _ ok.m _ (List.mem_map.mpr ⟨a, List.mem_of_mem_take ha, rfl⟩)
      · have z := ok.len
        rw [List.length_map, List.length_take]
        have : min i bs.length ≤ 4 := by omega
        omega
    refine (ev_call (K := K) (R := RPlus) (ea_2 (ev_var (σ := [some v1, some (.int many), some t, some c, some (.int b.2)]) (i := 2) rfl (Dn.same ((z3.trans s4).trans s5) _ z2)) (ev_var (i := 3) rfl (Dn.same (s4.trans s5) _ hc))) (r := ?_)).run fun v H6 s6 hv => ⟨((z1.trans z3).trans (s4.trans s5)).trans s6, v, _, _, rfl, hv⟩
    refine ⟨wsum (bs.take i), 60, b.1.1, b.1.2, ?_, by decide, wb.2.1, small_lt2 (by omega), small_lt2 (by decide), small_lt2 (by have := wb.2.2.2.2.2.1; omega), small_lt2 (by have := wb.2.2.2.2.2.2.1; omega), ?_⟩
    · rw [qD_qd wb.2.2.2.2.2.2.2]
    · rw [qd_step wb.2.1 wb.2.2.2.2.1, List.take_add_one, hb1]
      unfold wsum
      rw [List.map_append, List.sum_append]
      rfl
  · rintro H3 σ' H' s3 ⟨z1, t, x0, y0, rfl, z2⟩
    rw [List.length_map, List.take_length, ok.sum] at z2
    have e : qd 60 60 = qD 1 1 := rfl
    rw [e] at z2
    refine st_ret K (ev_if (b := true) (et_cmp ((ev_eqQ (ev_var rfl z2) (ev_tup (ea_2 ev_int ev_int)).tc).to rfl)) (fun _ => ev_non) fun z => nomatch z) fun v H4 s4 hv => k v H4 (((s1.trans s2).trans s3).trans (z1.trans s4)) hv
end Odd

set_option Elab.async false
set_option linter.all false
set_option maxRecDepth 100000
set_option maxHeartbeats 4000000
/-! Part 10: the graph's checks, whole. -/
namespace Odd
open PySem PySem.Spec PyProof.Rows L2
variable {P : Program} {w : World} {h : Heap} {K : PySem.W.Frag} {mg : Str → Option Value} {base : Heap}
def RPts : List D → D → Prop := fun ds r => ∃ (ps : List Nat) (many : Nat), ds = [.c (ps.map nD), nD many] ∧ ps.length ≤ 100 ∧ (∀ q ∈ ps, q < many) ∧ r = .n
abbrev N_points_problem : List Str := ["points", "many", "point"]
theorem sc_points_problem : FnScope N_points_problem ["points", "many"] (defScope s_points_problem) := ⟨rfl, rfl, rfl, by decide +kernel, rfl, by decide +kernel, by decide +kernel⟩
theorem c_points_problem (F : Fs w h K mg) : Cal P w K mg base "points_problem" 3 ["points", "many"] (spP K RPts) := by
  have c_is_index : Cal P w K mg base "is_index" 2 ["value", "many"] (spP K RIsIdx) := c_is_index F
  refine F.d_points_problem.cal sc_points_problem (fun _ _ _ _ _ _ us hl => match us, hl with | [_, _], _ => rfl) (spP_len fun ds d r => by obtain ⟨_, _, rfl, _⟩ := r; rfl) fun f cdv A outer s H vs Q E hr hs => ?_
  obtain ⟨ds, r, hv, ⟨ps, many, rfl, hl, ok, rfl⟩, k⟩ := hs
  obtain ⟨v1, _, rfl, h1, v2, _, rfl, h2, rfl⟩ := hv
  cases (show v2 = .int many from h2)
  refine ⟨_, (pss_cons (ps_if (pt_val (pe_callB (r := rAll K) (cr_all rfl) (by rfl) F.f_all boot_all (pa_cons (pe_lc (own := [("point", 2)]) (g := gName 2) (tt := tYes) rfl sc_points_problem.nd (pi_tup (pv 0)) (blkOk_by (N := N_points_problem) (sc := defScope s_points_problem) (by decide +kernel))  (fun _ _ _ _ _ => (pg_name (i := 2) sc_points_problem.nd rfl (Or.inl rfl))) (fun _ _ _ _ _ => pts_nil) (fun _ _ _ _ _ => (pe_cal c_is_index (hr.mono (by decide)) (pa_cons (pv 2) (pa_cons (pv 1) pa_nil))))) pa_nil))) (pss_one (ps_ret pe_non)) pss_nil) (pss_one (ps_ret pe_str))), ?_⟩
  refine st_ifq (et_B (b := true) ((ev_all (ev_lc (ei_tup (ev_var rfl h1)) (fun _ => true) (fun _ => .b true) (fun _ _ => rfl) ?_ ?_).d (bs := (List.range ps.length).map fun _ => true) ?_).to ?_)) (fun _ H1 s1 => st_ret K ev_non fun v H2 s2 hv => k v H2 (s1.trans s2) hv) fun z => nomatch z
  · rw [List.length_map]; omega
  · intro i d x H' e s' hx k' hk'
    obtain ⟨b, _, hb, rfl⟩ := map_get' e
    cases (show x = .int b from hx)
    exact hk' _ rfl et_yes fun _ => ev_call (ea_2 (ev_i rfl) (ev_i rfl)) ⟨b, many, rfl, ok b hb, rfl⟩
  · rw [pick_all, List.length_map, List.map_map]; rfl
  · congr 1
    rw [List.all_map]
    exact List.all_eq_true.mpr fun _ _ => rfl
def RPoint : List D → D → Prop := fun ds r => ∃ (g : Gr) (pr : Pr) (pt : Pt), ds = [encG g, encPr pr, encPt pt] ∧ Ok g ∧ pr ∈ g ∧ PtOk g pr pt ∧ r = .n
abbrev N_point_problem : List Str := ["procedures", "procedure", "point", "many", "word"]
theorem sc_point_problem : FnScope N_point_problem ["procedures", "procedure", "point"] (defScope s_point_problem) := ⟨rfl, rfl, rfl, by decide +kernel, rfl, by decide +kernel, by decide +kernel⟩
theorem c_point_problem (F : Fs w h K mg) : Cal P w K mg base "point_problem" 5 ["procedures", "procedure", "point"] (spP K RPoint) := by
  have c_has_form : Cal P w K mg base "has_form" 2 ["point"] (spP K RForm) := c_has_form F
  have c_is_index : Cal P w K mg base "is_index" 2 ["value", "many"] (spP K RIsIdx) := c_is_index F
  have c_draw_problem : Cal P w K mg base "draw_problem" 4 ["branches", "many"] (spP K RDraw) := c_draw_problem F
  have c_points_problem : Cal P w K mg base "points_problem" 3 ["points", "many"] (spP K RPts) := c_points_problem F
  have c_is_amount : Cal P w K mg base "is_amount" 3 ["value"] (spP K RAmount) := c_is_amount F
  obtain ⟨_, hm_MOST_BRANCHES, hr_MOST_BRANCHES⟩ := F.k_MOST_BRANCHES
  refine F.d_point_problem.cal sc_point_problem (fun _ _ _ _ _ _ us hl => match us, hl with | [_, _, _], _ => rfl) (spP_len fun ds d r => by obtain ⟨_, _, _, rfl, _⟩ := r; rfl) fun f cdv A outer s H vs Q E hr hs => ?_
  obtain ⟨ds, r, hv, ⟨g, pr, pt, rfl, ok, hpr, hpt, rfl⟩, k⟩ := hs
  obtain ⟨v1, _, rfl, h1, v2, _, rfl, h2, v3, _, rfl, h3, rfl⟩ := hv
  have hml := ok.pr _ hpr
  refine ⟨_, (pss_cons (ps_set (i := 3) sc_point_problem.nd rfl (Or.inl rfl) (pe_callB (r := rLen K) cr_len (by rfl) F.f_len boot_len (pa_cons (pe_ix (r := rIxT K) ix_tup (pv 1) pe_int (fun _ _ => rfl)) pa_nil))) (pss_cons (ps_if (pt_not (pt_val (pe_cal c_has_form (hr.mono (by decide)) (pa_cons (pv 2) pa_nil)))) (pss_one (ps_ret pe_str)) pss_nil) (pss_cons (ps_set (i := 4) sc_point_problem.nd rfl (Or.inl rfl) (pe_ix (r := rIxT K) ix_tup (pv 2) pe_int (fun _ _ => rfl))) (pss_cons (ps_if (pt_cmpR op_eq (pv 4) pe_str (nomark _)) (pss_one (ps_ret (pe_ifExp (pt_val (pe_cal c_is_index (hr.mono (by decide)) (pa_cons (pe_ix (r := rIxT K) ix_tup (pv 2) pe_int (fun _ _ => rfl)) (pa_cons (pe_ix (r := rIxT K) ix_tup (pv 1) pe_int (fun _ _ => rfl)) pa_nil)))) pe_non pe_str))) pss_nil) (pss_cons (ps_if (pt_cmpR op_eq (pv 4) pe_str (nomark _)) (pss_one (ps_ret (pe_cal c_draw_problem (hr.mono (by decide)) (pa_cons (pe_ix (r := rIxT K) ix_tup (pv 2) pe_int (fun _ _ => rfl)) (pa_cons (pv 3) pa_nil))))) pss_nil) (pss_cons (ps_if (pt_cmpR op_eq (pv 4) pe_str (nomark _)) (pss_one (ps_ret (pe_ifExp (pt_chain op_le op_le pe_int (pe_callB (r := rLen K) cr_len (by rfl) F.f_len boot_len (pa_cons (pe_ix (r := rIxT K) ix_tup (pv 2) pe_int (fun _ _ => rfl)) pa_nil)) (pe_glob rfl hm_MOST_BRANCHES hr_MOST_BRANCHES)) (pe_cal c_points_problem (hr.mono (by decide)) (pa_cons (pe_ix (r := rIxT K) ix_tup (pv 2) pe_int (fun _ _ => rfl)) (pa_cons (pv 3) pa_nil))) pe_str))) pss_nil) (pss_cons (ps_if (pt_cmpR op_eq (pv 4) pe_str (nomark _)) (pss_cons (ps_if (pt_not (pt_val (pe_cal c_is_index (hr.mono (by decide)) (pa_cons (pe_ix (r := rIxT K) ix_tup (pv 2) pe_int (fun _ _ => rfl)) (pa_cons (pe_callB (r := rLen K) cr_len (by rfl) F.f_len boot_len (pa_cons (pv 0) pa_nil)) pa_nil))))) (pss_one (ps_ret pe_str)) pss_nil) (pss_cons (ps_if (pt_cmpR op_ne (pe_callB (r := rLen K) cr_len (by rfl) F.f_len boot_len (pa_cons (pe_ix (r := rIxT K) ix_tup (pv 2) pe_int (fun _ _ => rfl)) pa_nil)) (pe_ix (r := rIxT K) ix_tup (pe_ix (r := rIxT K) ix_tup (pv 0) (pe_ix (r := rIxT K) ix_tup (pv 2) pe_int (fun _ _ => rfl)) (fun _ _ => rfl)) pe_int (fun _ _ => rfl)) (nomark _)) (pss_one (ps_ret pe_str)) pss_nil) (pss_one (ps_ret (pe_cal c_points_problem (hr.mono (by decide)) (pa_cons (pe_ix (r := rIxT K) ix_tup (pv 2) pe_int (fun _ _ => rfl)) (pa_cons (pv 3) pa_nil))))))) pss_nil) (pss_cons (ps_if (pt_cmpR op_eq (pv 4) pe_str (nomark _)) (pss_one (ps_ret (pe_ifExp (pt_val (pe_cal c_is_amount (hr.mono (by decide)) (pa_cons (pe_ix (r := rIxT K) ix_tup (pv 2) pe_int (fun _ _ => rfl)) pa_nil))) (pe_cal c_points_problem (hr.mono (by decide)) (pa_cons (pe_tup (pa_cons (pe_ix (r := rIxT K) ix_tup (pv 2) pe_int (fun _ _ => rfl)) pa_nil)) (pa_cons (pv 3) pa_nil))) pe_str))) pss_nil) (pss_one (ps_ret pe_non)))))))))), ?_⟩
  refine st_set K (ev_lenT (ev_ix (n := 1) (ev_var rfl h2.tc) ev_int rfl ix1 : EvD K _ _ H (.t (pr.2.map encPt))).tc) fun t3 H1 s1 ht => ?_
  cases (show t3 = .int (pr.2.map encPt).length from ht)
  rw [List.length_map]
  have hb4 : ∀ bs, pt = .draw bs → bs.length ≤ 4 := by
    rintro bs rfl
    have z : DrawOk bs pr.2.length := ⟨hpt.1, hpt.2⟩
    exact z.len.1
  refine st_no ((et_not (et_B (b := true) (ev_call (ea_1 (ev_var rfl (Dn.same s1 _ h3))) ⟨pt, rfl, hb4, rfl⟩))).to rfl) fun H2 s2 => ?_
  rw [encPt_eq] at h3
  refine st_set K (ev_ix (n := 0) (ev_var (i := 2) (σ := [some v1, some v2, some v3, some (.int pr.2.length), none]) rfl (Dn.same (s1.trans s2) _ h3.tc)) ev_int rfl ix0) fun t4 H3 s3 ht => ?_
  cases (show t4 = .str (wd pt) from ht)
  have sH := (s1.trans s2).trans s3
  have V0 : EvD K (tVar 0) [some v1, some v2, some v3, some (.int pr.2.length), some (.str (wd pt))] H3 (.c (encL g)) := ev_var rfl (Dn.same sH _ h1.tc)
  have V1 : EvD K (tVar 1) [some v1, some v2, some v3, some (.int pr.2.length), some (.str (wd pt))] H3 (.c [nD pr.1, .t (pr.2.map encPt)]) := ev_var rfl (Dn.same sH _ h2.tc)
  have V2 : EvD K (tVar 2) [some v1, some v2, some v3, some (.int pr.2.length), some (.str (wd pt))] H3 (.c (.s (wd pt) :: rst pt)) := ev_var rfl (Dn.same sH _ h3.tc)
  have V3 : EvD K (tVar 3) [some v1, some v2, some v3, some (.int pr.2.length), some (.str (wd pt))] H3 (nD pr.2.length) := ev_i rfl
  have W : ∀ z : Str, EvT (tTest (tOp rEq (tVar 4) (tC (.str z)))) [some v1, some v2, some v3, some (.int pr.2.length), some (.str (wd pt))] H3 (decide (wd pt = z)) := fun z => et_cmp (K := K) (ev_eqS (ev_var rfl rfl) ev_str)
  have kk : ∀ v H', Same H3 H' → Dn K H' .n v → Q v H' := fun v H' s' hv => k v H' (sH.trans s') hv
  cases pt with
  | exit e =>
    refine st_ifq ((W "exit").to (show decide (("exit" : Str) = "exit") = true by decide)) (fun _ H4 s4 => ?_) fun z => nomatch z
    exact st_ret K (ev_if (b := true) (et_B (ev_call (ea_2 (ev_ix (n := 1) (V2.mono s4) ev_int rfl ix1) (ev_ix (n := 0) (V1.mono s4) ev_int rfl ix0)) ⟨e, pr.1, rfl, hpt, rfl⟩)) (fun _ => ev_non) fun z => nomatch z) fun v H' s' hv => kk v H' (s4.trans s') hv
  | draw bs =>
    refine st_no ((W "exit").to (show decide (("draw" : Str) = "exit") = false by decide)) fun H4 s4 => ?_
    refine st_ifq (((W "draw").mono s4).to (show decide (("draw" : Str) = "draw") = true by decide)) (fun _ H5 s5 => ?_) fun z => nomatch z
    have s35 := s4.trans s5
    exact st_ret K (ev_call (ea_2 (ev_ix (n := 1) (V2.mono s35) ev_int rfl ix1 : EvD K _ _ H5 (.t (bs.map encB))).tc (V3.mono s35)) ⟨bs, _, rfl, ⟨hpt.1, hpt.2⟩, rfl⟩) fun v H' s' hv => kk v H' (s35.trans s') hv
  | call r ps =>
    refine st_no ((W "exit").to (show decide (("call" : Str) = "exit") = false by decide)) fun H4 s4 => ?_
    refine st_no (((W "draw").mono s4).to (show decide (("call" : Str) = "draw") = false by decide)) fun H5 s5 => ?_
    refine st_no (((W "choose").mono (s4.trans s5)).to (show decide (("call" : Str) = "choose") = false by decide)) fun H6 s6 => ?_
    refine st_ifq (((W "call").mono ((s4.trans s5).trans s6)).to (show decide (("call" : Str) = "call") = true by decide)) (fun _ H7 s7 => ?_) fun z => nomatch z
    have s37 := ((s4.trans s5).trans s6).trans s7
    have hps : ps.length ≤ 2 := by rw [hpt.2.1]; exact ok.ex hpt.1
    refine st_no ((et_not (et_B (b := true) (ev_call (ea_2 (ev_ix (n := 1) (V2.mono s37) ev_int rfl ix1) (ev_lenT (V0.mono s37))) ⟨r, g.length, by rw [encL_len]; rfl, hpt.1, rfl⟩))).to rfl) fun H8 s8 => ?_
    have s38 := s37.trans s8
    refine st_no ((et_cmp (ev_neI (ev_lenT (ev_ix (n := 2) (V2.mono s38) ev_int rfl rfl : EvD K _ _ H8 (.t (ps.map nD))).tc) (ev_ix (n := 0) (ev_ix (n := r) (V0.mono s38) (ev_ix (n := 1) (V2.mono s38) ev_int rfl ix1) rfl (encL_get hpt.1) : EvD K _ _ H8 (.t [nD (g.getD r (0, [])).1, _])).tc ev_int rfl ix0))).to ?_) fun H9 s9 => ?_
    · rw [List.length_map, hpt.2.1]
      show (!decide (((exitsOf g r : Nat) : Int) = ((exitsOf g r : Nat) : Int))) = false
      simp
    have s39 := s38.trans s9
    exact st_ret K (ev_call (ea_2 (ev_ix (n := 2) (V2.mono s39) ev_int rfl rfl : EvD K _ _ H9 (.t (ps.map nD))).tc (V3.mono s39)) ⟨ps, _, rfl, by omega, hpt.2.2, rfl⟩) fun v H' s' hv => kk v H' (s39.trans s') hv
  | reward a q =>
    refine st_no ((W "exit").to (show decide (("reward" : Str) = "exit") = false by decide)) fun H4 s4 => ?_
    refine st_no (((W "draw").mono s4).to (show decide (("reward" : Str) = "draw") = false by decide)) fun H5 s5 => ?_
    refine st_no (((W "choose").mono (s4.trans s5)).to (show decide (("reward" : Str) = "choose") = false by decide)) fun H6 s6 => ?_
    refine st_no (((W "call").mono ((s4.trans s5).trans s6)).to (show decide (("reward" : Str) = "call") = false by decide)) fun H7 s7 => ?_
    refine st_ifq (((W "reward").mono (((s4.trans s5).trans s6).trans s7)).to (show decide (("reward" : Str) = "reward") = true by decide)) (fun _ H8 s8 => ?_) fun z => nomatch z
    have s38 := ((((s4.trans s5).trans s6).trans s7).trans s8)
    exact st_ret K (ev_if (b := true) (et_B (ev_call (ea_1 (ev_ix (n := 1) (V2.mono s38) ev_int rfl ix1)) ⟨a.1, a.2, rfl, by have := hpt.1; omega, hpt.2.1, hpt.2.2.1, hpt.2.2.2.1, rfl⟩)) (fun _ => ev_call (ea_2 (ev_tup (ea_1 (ev_ix (n := 2) (V2.mono s38) ev_int rfl rfl))).tc (V3.mono s38)) ⟨[q], _, rfl, Nat.le_of_ble_eq_true rfl, fun x hx => by rw [List.mem_singleton.mp hx]; exact hpt.2.2.2.2, rfl⟩) fun z => nomatch z) fun v H' s' hv => kk v H' (s38.trans s') hv
  | reject =>
    refine st_no ((W "exit").to (show decide (("reject" : Str) = "exit") = false by decide)) fun H4 s4 => ?_
    refine st_no (((W "draw").mono s4).to (show decide (("reject" : Str) = "draw") = false by decide)) fun H5 s5 => ?_
    refine st_no (((W "choose").mono (s4.trans s5)).to (show decide (("reject" : Str) = "choose") = false by decide)) fun H6 s6 => ?_
    refine st_no (((W "call").mono ((s4.trans s5).trans s6)).to (show decide (("reject" : Str) = "call") = false by decide)) fun H7 s7 => ?_
    refine st_no (((W "reward").mono (((s4.trans s5).trans s6).trans s7)).to (show decide (("reject" : Str) = "reward") = false by decide)) fun H8 s8 => ?_
    exact st_ret K ev_non fun v H' s' hv => kk v H' (((((s4.trans s5).trans s6).trans s7).trans s8).trans s') hv
  | stop =>
    refine st_no ((W "exit").to (show decide (("stop" : Str) = "exit") = false by decide)) fun H4 s4 => ?_
    refine st_no (((W "draw").mono s4).to (show decide (("stop" : Str) = "draw") = false by decide)) fun H5 s5 => ?_
    refine st_no (((W "choose").mono (s4.trans s5)).to (show decide (("stop" : Str) = "choose") = false by decide)) fun H6 s6 => ?_
    refine st_no (((W "call").mono ((s4.trans s5).trans s6)).to (show decide (("stop" : Str) = "call") = false by decide)) fun H7 s7 => ?_
    refine st_no (((W "reward").mono (((s4.trans s5).trans s6).trans s7)).to (show decide (("stop" : Str) = "reward") = false by decide)) fun H8 s8 => ?_
    exact st_ret K ev_non fun v H' s' hv => kk v H' (((((s4.trans s5).trans s6).trans s7).trans s8).trans s') hv
/-- a def that ends without a return -/
theorem st_last {tt : TT} {t : TS} {σ : L2.St} {H : Hp} {E : Ends} (h : EvT tt σ H false) (k : ∀ H1, Same H H1 → E.nx σ H1) : tIfS tt t tNext E σ H := h.run fun H1 s => iteF (k H1 s)
def RChkPr : List D → D → Prop := fun ds r => ∃ (n : Nat) (g : Gr) (pr : Pr), ds = [nD n, encPr pr] ∧ Ok g ∧ pr ∈ g ∧ r = .n
abbrev N_check_procedure : List Str := ["at", "procedure"]
theorem sc_check_procedure : FnScope N_check_procedure ["at", "procedure"] (defScope s_check_procedure) := ⟨rfl, rfl, rfl, by decide +kernel, rfl, by decide +kernel, by decide +kernel⟩
theorem c_check_procedure (F : Fs w h K mg) : Cal P w K mg base "check_procedure" 2 ["at", "procedure"] (spP K RChkPr) := by
  have c_is_integer_graphs : Cal P w K mg base "is_integer_graphs" 1 ["value"] (spP K RIsInt) := c_is_integer_graphs F
  obtain ⟨_, hm_MOST_EXITS, hr_MOST_EXITS⟩ := F.k_MOST_EXITS
  obtain ⟨_, hm_MOST_POINTS, hr_MOST_POINTS⟩ := F.k_MOST_POINTS
  refine F.d_check_procedure.cal sc_check_procedure (fun _ _ _ _ _ _ us hl => match us, hl with | [_, _], _ => rfl) (spP_len fun ds d r => by obtain ⟨_, _, _, rfl, _⟩ := r; rfl) fun f cdv A outer s H vs Q E hr hs => ?_
  obtain ⟨ds, r, hv, ⟨n, g, pr, rfl, ok, hpr, rfl⟩, k⟩ := hs
  obtain ⟨v1, _, rfl, h1, v2, _, rfl, h2, rfl⟩ := hv
  obtain ⟨m1, m2, m3, _⟩ := ok.pr _ hpr
  refine ⟨_, (pss_cons (ps_if (PW.pt (pw_or (pt_not (pt_val (pe_callB (r := rIsi K) call_isi (by rfl) F.f_isinstance bt_isi (pa_cons (pv 1) (pa_cons (pe_bty F.f_tuple bt_tuple) pa_nil))))) (pw_or1 (pt_cmpR op_ne (pe_callB (r := rLen K) cr_len (by rfl) F.f_len boot_len (pa_cons (pv 1) pa_nil)) pe_int (nomark _))))) pss_never pss_nil) (pss_cons (ps_if (PW.pt (pw_or (pt_not (pt_val (pe_cal c_is_integer_graphs (hr.mono (by decide)) (pa_cons (pe_ix (r := rIxT K) ix_tup (pv 1) pe_int (fun _ _ => rfl)) pa_nil)))) (pw_or1 (pt_not (pt_val (pe_callB (r := rIsi K) call_isi (by rfl) F.f_isinstance bt_isi (pa_cons (pe_ix (r := rIxT K) ix_tup (pv 1) pe_int (fun _ _ => rfl)) (pa_cons (pe_bty F.f_tuple bt_tuple) pa_nil)))))))) pss_never pss_nil) (pss_cons (ps_if (pt_not (pt_chain op_le op_le pe_int (pe_ix (r := rIxT K) ix_tup (pv 1) pe_int (fun _ _ => rfl)) (pe_glob rfl hm_MOST_EXITS hr_MOST_EXITS))) pss_never pss_nil) (pss_one (ps_if (pt_not (pt_chain op_le op_le pe_int (pe_callB (r := rLen K) cr_len (by rfl) F.f_len boot_len (pa_cons (pe_ix (r := rIxT K) ix_tup (pv 1) pe_int (fun _ _ => rfl)) pa_nil)) (pe_glob rfl hm_MOST_POINTS hr_MOST_POINTS))) pss_never pss_nil))))), ?_⟩
  have V1 : ∀ {H'}, Same H H' → EvD K (tVar 1) [some v1, some v2] H' (.c [nD pr.1, .t (pr.2.map encPt)]) := fun s => ev_var rfl (Dn.same s _ h2.tc)
  have P0 : ∀ {H'}, Same H H' → EvD K (tOp (rIxT K) (tVar 1) (tC (.int 0))) [some v1, some v2] H' (nD pr.1) := fun s => ev_ix (n := 0) (V1 s) ev_int rfl ix0
  have P1 : ∀ {H'}, Same H H' → EvD K (tOp (rIxT K) (tVar 1) (tC (.int 1))) [some v1, some v2] H' (.t (pr.2.map encPt)) := fun s => ev_ix (n := 1) (V1 s) ev_int rfl ix1
  refine st_no ((et_or (a := false) (b := false) ((et_not (et_B (ev_isi (k := true) (V1 (Same.refl H)) ty_c ki_tt))).to rfl) fun _ => (et_cmp (ev_neI (ev_lenT (V1 (Same.refl H))) ev_int)).to rfl).to rfl) fun H1 s1 => ?_
  refine st_no ((et_or (a := false) (b := false) ((et_not (et_B (b := true) (ev_call (ea_1 (P0 s1)) ⟨_, rfl, rfl⟩))).to rfl) fun _ => (et_not (et_B (ev_isi (k := true) (P1 s1) ty_t ki_tt))).to rfl).to rfl) fun H2 s2 => ?_
  have s02 := s1.trans s2
  refine st_no ((et_not (et_cmp (b := true) ((ev_chainI (g := fun i j => decide (i ≤ j)) (g' := fun i j => decide (i ≤ j)) ev_int (P0 s02) ev_int).to ?_))).to rfl) fun H3 s3 => ?_
  · rw [decide_eq_true (Int.natCast_nonneg pr.1), decide_eq_true (show (pr.1 : Int) ≤ 3 by omega)]; rfl
  have s03 := s02.trans s3
  refine st_last ((et_not (et_cmp (b := true) ((ev_chainI (g := fun i j => decide (i ≤ j)) (g' := fun i j => decide (i ≤ j)) ev_int (ev_lenT (P1 s03).tc) ev_int).to ?_))).to rfl) fun H4 s4 => ?_
  · rw [List.length_map, decide_eq_true (show (1 : Int) ≤ pr.2.length by omega), decide_eq_true (show (pr.2.length : Int) ≤ 16 by omega)]; rfl
  exact k _ H4 (s03.trans s4) rfl
theorem map_range_getD {α β : Type} {f : α → β} {d : α} (l : List α) : (List.range l.length).map (fun i => f (l.getD i d)) = l.map f := by
  apply List.ext_getElem
  · rw [List.length_map, List.length_map, List.length_range]
  · intro i h1 h2
    have hi : i < l.length := by rwa [List.length_map] at h2
    rw [List.getElem_map, List.getElem_map, List.getElem_range, List.getD_eq_getElem?_getD, List.getElem?_eq_getElem hi]
    rfl
theorem b_none {σ : L2.St} {H : Hp} {i : Nat} (e : σ[i]? = some (some .non)) : EvT (tB (tNotN (tVar i))) σ H false := fun H1 a Q q => ⟨_, e, _, rfl, q H1 (Same.refl H1)⟩
def RChk : List D → D → Prop := fun ds r => ∃ g : Gr, ds = [encG g] ∧ Ok g ∧ r = .n
theorem len_g {g : Gr} (ok : Ok g) : (g.map fun pr => pr.2.length).sum ≤ 10 := by
  refine Nat.le_trans (sum_le 5 _ fun x hx => ?_) ?_
  · obtain ⟨pr, h, rfl⟩ := List.mem_map.mp hx
    exact (ok.pr _ h).2.2.1
  · rw [List.length_map]
    have := ok.l2
    omega
theorem sum_cast : ∀ l : List Nat, (l.map fun n : Nat => (n : Int)).sum = ((l.sum : Nat) : Int)
  | [] => rfl
  | a :: l => by rw [List.map_cons, List.sum_cons, sum_cast l, List.sum_cons, Int.natCast_add]
abbrev N_check_procedures : List Str := ["procedures", "at", "procedure", "i", "point", "problem"]
theorem sc_check_procedures : FnScope N_check_procedures ["procedures"] (defScope s_check_procedures) := ⟨rfl, rfl, rfl, by decide +kernel, rfl, by decide +kernel, by decide +kernel⟩
theorem c_check_procedures (F : Fs w h K mg) : Cal P w K mg base "check_procedures" 6 ["procedures"] (spP K RChk) := by
  have c_check_procedure : Cal P w K mg base "check_procedure" 2 ["at", "procedure"] (spP K RChkPr) := c_check_procedure F
  have c_point_problem : Cal P w K mg base "point_problem" 5 ["procedures", "procedure", "point"] (spP K RPoint) := c_point_problem F
  obtain ⟨_, hm_MOST_PROCEDURES, hr_MOST_PROCEDURES⟩ := F.k_MOST_PROCEDURES
  obtain ⟨_, hm_MOST_IN_ALL, hr_MOST_IN_ALL⟩ := F.k_MOST_IN_ALL
  refine F.d_check_procedures.cal sc_check_procedures (fun _ _ _ _ _ _ us hl => match us, hl with | [_], _ => rfl) (spP_len fun ds d r => by obtain ⟨_, rfl, _⟩ := r; rfl) fun f cdv A outer s H vs Q E hr hs => ?_
  obtain ⟨ds, r, hv, ⟨g, rfl, ok, rfl⟩, k⟩ := hs
  obtain ⟨v1, _, rfl, h1, rfl⟩ := hv
  refine ⟨_, (pss_cons (ps_if (pt_not (pt_val (pe_callB (r := rIsi K) call_isi (by rfl) F.f_isinstance bt_isi (pa_cons (pv 0) (pa_cons (pe_bty F.f_tuple bt_tuple) pa_nil))))) pss_never pss_nil) (pss_cons (ps_if (pt_not (pt_chain op_le op_le pe_int (pe_callB (r := rLen K) cr_len (by rfl) F.f_len boot_len (pa_cons (pv 0) pa_nil)) (pe_glob rfl hm_MOST_PROCEDURES hr_MOST_PROCEDURES))) pss_never pss_nil) (pss_cons (ps_for PassesOwn.never rfl (pi_enumT rfl F.f_enumerate (pa_cons (pv 0) pa_nil)) (pg_tup rfl (pgs_cons (pg_name (i := 1) sc_check_procedures.nd rfl (Or.inl rfl)) (pgs_cons (pg_name (i := 2) sc_check_procedures.nd rfl (Or.inl rfl)) pgs_nil))) (pss_one (ps_expr (pe_cal c_check_procedure (hr.mono (by decide)) (pa_cons (pv 1) (pa_cons (pv 2) pa_nil)))))) (pss_cons (ps_if (pt_cmpR op_gt (pe_callB (r := rSum K) (cr_sum rfl) (by rfl) F.f_sum boot_sum (pa_cons (pe_lc (own := [("procedure", 2)]) (g := gName 2) (tt := tYes) rfl sc_check_procedures.nd (pi_tup (pv 0)) (blkOk_by (N := N_check_procedures) (sc := defScope s_check_procedures) (by decide +kernel))  (fun _ _ _ _ _ => (pg_name (i := 2) sc_check_procedures.nd rfl (Or.inl rfl))) (fun _ _ _ _ _ => pts_nil) (fun _ _ _ _ _ => (pe_callB (r := rLen K) cr_len (by rfl) F.f_len boot_len (pa_cons (pe_ix (r := rIxT K) ix_tup (pv 2) pe_int (fun _ _ => rfl)) pa_nil)))) pa_nil)) (pe_glob rfl hm_MOST_IN_ALL hr_MOST_IN_ALL) (nomark _)) pss_never pss_nil) (pss_one (ps_for PassesOwn.never rfl (pi_enumT rfl F.f_enumerate (pa_cons (pv 0) pa_nil)) (pg_tup rfl (pgs_cons (pg_name (i := 1) sc_check_procedures.nd rfl (Or.inl rfl)) (pgs_cons (pg_name (i := 2) sc_check_procedures.nd rfl (Or.inl rfl)) pgs_nil))) (pss_one (ps_for PassesOwn.never rfl (pi_enumT rfl F.f_enumerate (pa_cons (pe_ix (r := rIxT K) ix_tup (pv 2) pe_int (fun _ _ => rfl)) pa_nil)) (pg_tup rfl (pgs_cons (pg_name (i := 3) sc_check_procedures.nd rfl (Or.inl rfl)) (pgs_cons (pg_name (i := 4) sc_check_procedures.nd rfl (Or.inl rfl)) pgs_nil))) (pss_cons (ps_set (i := 5) sc_check_procedures.nd rfl (Or.inl rfl) (pe_cal c_point_problem (hr.mono (by decide)) (pa_cons (pv 0) (pa_cons (pv 2) (pa_cons (pv 4) pa_nil))))) (pss_one (ps_if (pt_cmp (pc_notN (pv 5))) pss_never pss_nil))))))))))), ?_⟩
  have hg1 := ok.l1
  have hg2 := ok.l2
  have V0 : ∀ {H'} {a b c d e : Option V}, Same H H' → EvD K (tVar 0) [some v1, a, b, c, d, e] H' (.c (encL g)) := fun s => ev_var rfl (Dn.same s _ h1.tc)
  refine st_no ((et_not (et_B (ev_isi (k := true) (V0 (Same.refl H)) ty_c ki_tt))).to rfl) fun H1 s1 => ?_
  refine st_no ((et_not (et_cmp (b := true) ((ev_chainI (g := fun i j => decide (i ≤ j)) (g' := fun i j => decide (i ≤ j)) ev_int (ev_lenT (V0 s1)) ev_int).to ?_))).to rfl) fun H2 s2 => ?_
  · rw [encL_len, decide_eq_true (show (1 : Int) ≤ g.length by omega), decide_eq_true (show (g.length : Int) ≤ 6 by omega)]; rfl
  have s02 := s1.trans s2
  refine for_ev (ei_enum (V0 s02)) (fun H3 i σ' H' => Same H3 H' ∧ ∃ a b c d e, σ' = [some v1, a, b, c, d, e]) (fun H3 s3 => ⟨Same.refl _, _, _, _, _, _, rfl⟩) (fun _ _ _ _ _ _ q => q.1) ?_ ?_
  · rintro H3 i d x σ' H' H'' s3 e ⟨z1, a, b, c, dd, ee, rfl⟩ z3 hx
    have hi : i < g.length := by
      have q := (List.getElem?_eq_some_iff.mp e).1
      rwa [enumD_len, encL_len] at q
    rw [enumD_get (encL_get hi)] at e
    cases e
    refine g_pair hx.tc fun u q hu hq => ?_
    exact (ev_call (K := K) (R := RChkPr) (ea_2 (ev_var rfl hu) (ev_var rfl hq)) ⟨i, g, _, rfl, ok, ok.mem hi, rfl⟩).run fun v H4 s4 _ => ⟨(z1.trans z3).trans s4, _, _, _, _, _, rfl⟩
  · rintro H3 σ' H' s3 ⟨z1, a, b, c, dd, ee, rfl⟩
    have s0 := (s02.trans s3).trans z1
    refine st_no ((et_cmp ((ev_cmp0 (g := fun i j => decide (j < i)) (ev_sum (ev_lc (ei_tup (V0 s0)) (fun _ => true) (fun i => nD (ptsOf g i).length) (fun _ _ => rfl) ?_ ?_).d (ns := (List.range g.length).map fun i => (((ptsOf g i).length : Nat) : Int)) ?_) ev_int).to ?_)).to rfl) fun H4 s4 => ?_
    · rw [encL_len]; omega
    · intro i d x H5 e s' hx k' hk'
      obtain ⟨hi, rfl⟩ := encL_get' e
      refine hk' _ rfl et_yes fun _ => ?_
      exact (ev_lenT (ev_ix (n := 1) (ev_var rfl hx.tc) ev_int rfl ix1 : EvD K _ _ H5 (.t ((g.getD i (0, [])).2.map encPt))).tc).to (by rw [List.length_map]; rfl)
    · rw [pick_all, encL_len, List.map_map]; rfl
    · have e : (List.range g.length).map (fun i => (((ptsOf g i).length : Nat) : Int)) = (g.map fun pr => pr.2.length).map fun n : Nat => (n : Int) := by
        rw [List.map_map]
        exact map_range_getD (f := fun pr : Pr => ((pr.2.length : Nat) : Int)) (d := (0, [])) g
      rw [e, sum_cast]
      have := len_g ok
      exact congrArg D.b (decide_eq_false (by omega))
    have s04 := s0.trans s4
    refine for_ev (tb := _) (ei_enum (V0 s04)) (fun H3 i σ' H' => Same H3 H' ∧ ∃ a b c d e, σ' = [some v1, a, b, c, d, e]) (fun H3 s3 => ⟨Same.refl _, _, _, _, _, _, rfl⟩) (fun _ _ _ _ _ _ q => q.1) ?_ ?_
    · rintro H5 i d x σ' H6 H7 s5 e ⟨z5, a, b, c, dd, ee, rfl⟩ z6 hx
      have hi : i < g.length := by
        have q := (List.getElem?_eq_some_iff.mp e).1
        rwa [enumD_len, encL_len] at q
      rw [enumD_get (encL_get hi)] at e
      cases e
      refine g_pair hx.tc fun u q hu hq => ?_
      have sH7 := ((s04.trans s5).trans z5).trans z6
      have PR : ∀ {H'} {a b c : Option V}, Same H7 H' → EvD K (tVar 2) [some v1, some u, some q, a, b, c] H' (.c [nD (g.getD i (0, [])).1, .t ((g.getD i (0, [])).2.map encPt)]) := fun s => ev_var rfl (Dn.same s _ hq.tc)
      refine for_ev (ei_enum (ev_ix (n := 1) (PR (Same.refl _)) ev_int rfl ix1 : EvD K _ _ H7 (.t ((g.getD i (0, [])).2.map encPt))).tc) (fun H3 i σ' H' => Same H3 H' ∧ ∃ a b c, σ' = [some v1, some u, some q, a, b, c]) (fun H3 s3 => ⟨Same.refl _, _, _, _, rfl⟩) (fun _ _ _ _ _ _ q => q.1) ?_ ?_
      · rintro H8 j d' x' σ' H9 H10 s8 e' ⟨z8, a', b', c', rfl⟩ z9 hx'
        have hj : j < (g.getD i (0, [])).2.length := by
          have q := (List.getElem?_eq_some_iff.mp e').1
          rwa [enumD_len, List.length_map] at q
        rw [enumD_get (pts_get hj)] at e'
        cases e'
        refine g_pair hx'.tc fun u' q' hu' hq' => ?_
        have t0 := (s8.trans z8).trans z9
        refine st_set K (ev_call (R := RPoint) (d := .n) (ea_3 (ev_var rfl (Dn.same (sH7.trans t0) _ h1)) (ev_var rfl (Dn.same t0 _ hq)) (ev_var rfl hq')) ⟨g, _, _, rfl, ok, ok.mem hi, (ok.pr _ (ok.mem hi)).2.2.2 _ (getD_mem _ _ _ hj), rfl⟩) fun v H11 s11 hv => ?_
        cases (show v = .non from hv)
        refine st_last (b_none rfl) fun H12 s12 => ?_
        exact ⟨((z8.trans z9).trans s11).trans s12, _, _, _, rfl⟩
      · rintro H8 σ' H9 s8 ⟨z8, a', b', c', rfl⟩
        exact ⟨((z5.trans z6).trans s8).trans z8, _, _, _, _, _, rfl⟩
    · rintro H5 σ' H6 s5 ⟨z5, a, b, c, dd, ee, rfl⟩
      exact k _ _ ((s04.trans s5).trans z5) rfl
end Odd

set_option Elab.async false
set_option linter.all false
set_option maxRecDepth 100000
set_option maxHeartbeats 4000000
/-! Part 11: the graph's methods. -/
namespace Odd
open PySem PySem.Spec PyProof.Rows L2
variable {P : Program} {w : World} {h : Heap} {K : PySem.W.Frag} {mg : Str → Option Value} {base : Heap}
section
variable {σ : L2.St} {H : Hp} {ta tb te : TE} {ds : List D}
theorem eif_range {n : Nat} {z : Int} (h : EvD K te σ H (.i z)) (hz : z = (n : Int)) (hb : n ≤ 100000) : EvIf K (iRng1 (tCons te tNil)) σ H (rangeD n) := fun H1 a R r => ei_range (Rel := fun _ _ => True) h hz hb H1 a R fun J H2 G s w k => r J H2 G s w fun H3 _ => k H3 trivial
theorem dn_int_at {H : Hp} {ns : List Int} {i : Nat} {x : V} (h : (ns.map V.int)[i]? = some x) : ∃ d, (ns.map D.i)[i]? = some d ∧ Dn K H d x := by
  rw [List.getElem?_map] at h
  cases e : ns[i]? with
  | none => rw [e] at h; cases h
  | some n =>
    rw [e] at h
    cases h
    exact ⟨.i n, by rw [List.getElem?_map, e]; rfl, rfl⟩
theorem eif_lst {ns : List Int} (h : EvF K te σ H (ns.map D.i)) : EvIf K (iList K te) σ H (ns.map D.i) := fun H1 a R r => h H1 a _ fun p vs H2 s2 hp hl hd => by
  have e := dn_ints hd
  subst e
  refine ⟨p, rfl, ⟨_, SqL.of hl⟩, r _ H2 (fun H => H p = some (.lst (ns.map V.int))) s2 ?_ fun H3 k3 => k3 p _ hp hl⟩
  have w := walk_list (K := K) (a := p) (xs := ns.map V.int)
  have hlen : (ns.map V.int).length = (ns.map D.i).length := by rw [List.length_map, List.length_map]
  rw [hlen] at w
  exact w.mono (fun H q => SqL.of q) fun i H' x H'' _ q y => by
    obtain ⟨e, y⟩ := y
    subst e
    exact ⟨Same.refl _, dn_int_at y⟩
end
/-- the points that a point names -/
def tgt : Pt → List Nat
  | .draw bs => bs.map (·.2)
  | .call _ ps => ps
  | .reward _ q => [q]
  | _ => []
def RPof : List D → D → Prop := fun ds r => ∃ pt : Pt, ds = [encPt pt] ∧ (tgt pt).length ≤ 100 ∧ r = .c ((tgt pt).map nD)
theorem ev_inW {K : PySem.W.Frag} {σ : L2.St} {H : Hp} {ta : TE} {z a b : Str} (h : EvD K ta σ H (.s z)) : EvD K (tOp (rIn K false) ta (tTup (tCons (tC (.str a)) (tCons (tC (.str b)) tNil)))) σ H (.b (inV (.str z) [.str a, .str b])) := fun H1 s1 Q q => h H1 s1 _ fun v H2 s2 hv => by
  refine (ev_tup (K := K) (ea_2 (ev_str (z := a)) (ev_str (z := b)))).run fun u H3 s3 hu => ?_
  obtain ⟨p, vs, h1, h2, h3⟩ := hu
  obtain ⟨x, _, rfl, e1, y, _, rfl, e2, rfl⟩ := h3
  rw [show x = .str a from e1, show y = .str b from e2] at h2
  exact ⟨p, _, h1, .inr (SqT.of h2), by rw [show v = .str z from hv]; rfl, rfl, q _ H3 (s2.trans s3) (by rw [show v = .str z from hv]; rfl)⟩
theorem ev_inW3 {K : PySem.W.Frag} {σ : L2.St} {H : Hp} {ta : TE} {z a b c : Str} (h : EvD K ta σ H (.s z)) : EvD K (tOp (rIn K false) ta (tTup (tCons (tC (.str a)) (tCons (tC (.str b)) (tCons (tC (.str c)) tNil))))) σ H (.b (inV (.str z) [.str a, .str b, .str c])) := fun H1 s1 Q q => h H1 s1 _ fun v H2 s2 hv => by
  refine (ev_tup (K := K) (ea_3 (ev_str (z := a)) (ev_str (z := b)) (ev_str (z := c)))).run fun u H3 s3 hu => ?_
  obtain ⟨p, vs, h1, h2, h3⟩ := hu
  obtain ⟨x, _, rfl, e1, y, _, rfl, e2, t, _, rfl, e3, rfl⟩ := h3
  rw [show x = .str a from e1, show y = .str b from e2, show t = .str c from e3] at h2
  exact ⟨p, _, h1, .inr (SqT.of h2), by rw [show v = .str z from hv]; rfl, rfl, q _ H3 (s2.trans s3) (by rw [show v = .str z from hv]; rfl)⟩
abbrev N_points_of : List Str := ["point", "branch"]
theorem sc_points_of : FnScope N_points_of ["point"] (defScope s_points_of) := ⟨rfl, rfl, rfl, by decide +kernel, rfl, by decide +kernel, by decide +kernel⟩
theorem c_points_of (F : Fs w h K mg) : Cal P w K mg base "points_of" 1 ["point"] (spP K RPof) := by
  refine F.d_points_of.cal sc_points_of (fun _ _ _ _ _ _ us hl => match us, hl with | [_], _ => rfl) (spP_len fun ds d r => by obtain ⟨_, rfl, _⟩ := r; rfl) fun f cdv A outer s H vs Q E hr hs => ?_
  obtain ⟨ds, r, hv, ⟨pt, rfl, hl, rfl⟩, k⟩ := hs
  obtain ⟨v1, _, rfl, h1, rfl⟩ := hv
  rw [encPt_eq] at h1
  refine ⟨_, (pss_cons (ps_if (pt_cmpR op_eq (pe_ix (r := rIxT K) ix_tup (pv 0) pe_int (fun _ _ => rfl)) pe_str (nomark _)) (pss_one (ps_ret (pe_callTy (r := rTupOf K) cr_tupOf (by rfl) F.f_tuple bt_tuple (pa_cons (pe_lc (own := [("branch", 1)]) (g := gName 1) (tt := tYes) rfl sc_points_of.nd (pi_tup (pe_ix (r := rIxT K) ix_tup (pv 0) pe_int (fun _ _ => rfl))) (blkOk_by (N := N_points_of) (sc := defScope s_points_of) (by decide +kernel))  (fun _ _ _ _ _ => (pg_name (i := 1) sc_points_of.nd rfl (Or.inl rfl))) (fun _ _ _ _ _ => pts_nil) (fun _ _ _ _ _ => (pe_ix (r := rIxT K) ix_tup (pv 1) pe_int (fun _ _ => rfl)))) pa_nil)))) pss_nil) (pss_cons (ps_if (pt_cmpR op_eq (pe_ix (r := rIxT K) ix_tup (pv 0) pe_int (fun _ _ => rfl)) pe_str (nomark _)) (pss_one (ps_ret (pe_ix (r := rIxT K) ix_tup (pv 0) pe_int (fun _ _ => rfl)))) pss_nil) (pss_cons (ps_if (pt_cmpR op_in_seq (pe_ix (r := rIxT K) ix_tup (pv 0) pe_int (fun _ _ => rfl)) (pe_tup (pa_cons pe_str (pa_cons pe_str pa_nil))) (by rfl)) (pss_one (ps_ret (pe_ifExp (pt_cmpR op_eq (pe_ix (r := rIxT K) ix_tup (pv 0) pe_int (fun _ _ => rfl)) pe_str (nomark _)) (pe_ix (r := rIxT K) ix_tup (pv 0) pe_int (fun _ _ => rfl)) (pe_tup (pa_cons (pe_ix (r := rIxT K) ix_tup (pv 0) pe_int (fun _ _ => rfl)) pa_nil))))) pss_nil) (pss_one (ps_ret (pe_tup pa_nil)))))), ?_⟩
  have V0 : EvD K (tVar 0) [some v1, none] H (.c (.s (wd pt) :: rst pt)) := ev_var rfl h1.tc
  have W0 : EvD K (tOp (rIxT K) (tVar 0) (tC (.int 0))) [some v1, none] H (.s (wd pt)) := ev_ix (n := 0) V0 ev_int rfl ix0
  have W : ∀ z : Str, EvT (tTest (tOp rEq (tOp (rIxT K) (tVar 0) (tC (.int 0))) (tC (.str z)))) [some v1, none] H (decide (wd pt = z)) := fun z => et_cmp (ev_eqS W0 ev_str)
  cases pt with
  | draw bs =>
    refine st_ifq ((W "draw").to (show decide (("draw" : Str) = "draw") = true by decide)) (fun _ H5 s5 => ?_) fun z => nomatch z
    refine st_ret K (ev_tupOf (ev_lc (ei_tup (ev_ix (n := 1) (V0.mono s5) ev_int rfl ix1 : EvD K _ _ H5 (.t (bs.map encB))).tc) (fun _ => true) (fun i => nD (bs.getD i ((0, 0), 0)).2) (fun _ _ => rfl) ?_ ?_).d ?_) fun v H' s' hv => k v H' (s5.trans s') ?_
    · rw [List.length_map]
      have z : (bs.map (·.2)).length ≤ 100 := hl
      rw [List.length_map] at z
      omega
    · intro i d x H' e s' hx k' hk'
      obtain ⟨b, hb1, _, rfl⟩ := map_get' e
      refine hk' _ rfl et_yes fun _ => ?_
      have e2 : bs.getD i ((0, 0), 0) = b := by rw [List.getD_eq_getElem?_getD, hb1]; rfl
      rw [e2]
      exact ev_ix (n := 1) (ev_var rfl hx.tc) ev_int rfl ix1
    · exact pick_nol fun _ _ => rfl
    · rw [pick_all, List.length_map] at hv
      rw [map_range_getD (f := fun b : (Nat × Nat) × Nat => nD b.2) bs] at hv
      show Dn K H' (.c ((bs.map (·.2)).map nD)) v
      rw [List.map_map]
      exact hv.tc
  | call r ps =>
    refine st_no ((W "draw").to (show decide (("call" : Str) = "draw") = false by decide)) fun H4 s4 => ?_
    refine st_no (((W "choose").mono s4).to (show decide (("call" : Str) = "choose") = false by decide)) fun H5 s5 => ?_
    have s35 := s4.trans s5
    refine st_ifq (et_cmp (b := true) ((ev_inW (W0.mono s35)).to rfl)) (fun _ H6 s6 => ?_) fun z => nomatch z
    have s36 := s35.trans s6
    exact st_ret K (ev_if (b := true) (((W "call").mono s36).to (show decide (("call" : Str) = "call") = true by decide)) (fun _ => (ev_ix (n := 2) (V0.mono s36) ev_int rfl rfl : EvD K _ _ H6 (.t (ps.map nD))).tc) fun z => nomatch z) fun v H' s' hv => k v H' (s36.trans s') hv
  | reward a q =>
    refine st_no ((W "draw").to (show decide (("reward" : Str) = "draw") = false by decide)) fun H4 s4 => ?_
    refine st_no (((W "choose").mono s4).to (show decide (("reward" : Str) = "choose") = false by decide)) fun H5 s5 => ?_
    have s35 := s4.trans s5
    refine st_ifq (et_cmp (b := true) ((ev_inW (W0.mono s35)).to rfl)) (fun _ H6 s6 => ?_) fun z => nomatch z
    have s36 := s35.trans s6
    exact st_ret K (ev_if (b := false) (((W "call").mono s36).to (show decide (("reward" : Str) = "call") = false by decide)) (fun z => nomatch z) fun _ => (ev_tup (ea_1 (ev_ix (n := 2) (V0.mono s36) ev_int rfl rfl : EvD K _ _ H6 (nD q)))).tc) fun v H' s' hv => k v H' (s36.trans s') hv
  | exit e =>
    refine st_no ((W "draw").to (show decide (("exit" : Str) = "draw") = false by decide)) fun H4 s4 => ?_
    refine st_no (((W "choose").mono s4).to (show decide (("exit" : Str) = "choose") = false by decide)) fun H5 s5 => ?_
    have s35 := s4.trans s5
    refine st_no (et_cmp (b := false) ((ev_inW (W0.mono s35)).to rfl)) fun H6 s6 => ?_
    exact st_ret K (ev_tup ea_nil).tc fun v H' s' hv => k v H' ((s35.trans s6).trans s') hv
  | reject =>
    refine st_no ((W "draw").to (show decide (("reject" : Str) = "draw") = false by decide)) fun H4 s4 => ?_
    refine st_no (((W "choose").mono s4).to (show decide (("reject" : Str) = "choose") = false by decide)) fun H5 s5 => ?_
    have s35 := s4.trans s5
    refine st_no (et_cmp (b := false) ((ev_inW (W0.mono s35)).to rfl)) fun H6 s6 => ?_
    exact st_ret K (ev_tup ea_nil).tc fun v H' s' hv => k v H' ((s35.trans s6).trans s') hv
  | stop =>
    refine st_no ((W "draw").to (show decide (("stop" : Str) = "draw") = false by decide)) fun H4 s4 => ?_
    refine st_no (((W "choose").mono s4).to (show decide (("stop" : Str) = "choose") = false by decide)) fun H5 s5 => ?_
    have s35 := s4.trans s5
    refine st_no (et_cmp (b := false) ((ev_inW (W0.mono s35)).to rfl)) fun H6 s6 => ?_
    exact st_ret K (ev_tup ea_nil).tc fun v H' s' hv => k v H' ((s35.trans s6).trans s') hv
/-! ### methods -/
def RChain : Gr → List D → D → Prop := fun _ ds r => ds = [] ∧ r = .b true
abbrev N_Graph_is_chain : List Str := ["self", "exits", "points", "point"]
theorem sc_Graph_is_chain : FnScope N_Graph_is_chain ["self"] (defScope s_Graph_is_chain) := ⟨rfl, rfl, rfl, by decide +kernel, rfl, by decide +kernel, by decide +kernel⟩
theorem c_Graph_is_chain (F : Fs w h K mg) : CalM P w K mg base (He.ga K "Graph") "is_chain" 1 ["self"] (spG K RChain) := by
  refine F.d_Graph_is_chain.cal sc_Graph_is_chain (fun _ _ _ _ _ _ us hl => match us, hl with | [_], _ => rfl) (spG_len fun g ds d r => by obtain ⟨rfl, _⟩ := r; rfl) fun f cdv A outer s H vs Q E hr hs => ?_
  obtain ⟨g, a, ws, ds, d, rfl, ok, hg, hv, ⟨rfl, rfl⟩, k⟩ := hs
  cases hv
  refine ⟨_, (pss_cons (ps_for PassesOwn.never rfl (pi_tup (show PE _ _ (tFld K _ _) from pe_fld (pv 0) rfl)) (pg_tup rfl (pgs_cons (pg_name (i := 1) sc_Graph_is_chain.nd rfl (Or.inl rfl)) (pgs_cons (pg_name (i := 2) sc_Graph_is_chain.nd rfl (Or.inl rfl)) pgs_nil))) (pss_one (ps_for PassesOwn.never rfl (pi_tup (pv 2)) (pg_name (i := 3) sc_Graph_is_chain.nd rfl (Or.inl rfl)) (pss_one (ps_if (pt_cmpR op_eq (pe_ix (r := rIxT K) ix_tup (pv 3) pe_int (fun _ _ => rfl)) pe_str (nomark _)) (pss_one (ps_ret pe_bl)) pss_nil))))) (pss_one (ps_ret pe_bl))), ?_⟩
  refine for_ev (ei_tup (ev_procs F (ev_var rfl rfl) hg).tc) (fun H3 i σ' H' => Same H3 H' ∧ ∃ a1 b c, σ' = [some (.ref a), a1, b, c]) (fun H3 s3 => ⟨Same.refl _, _, _, _, rfl⟩) (fun _ _ _ _ _ _ q => q.1) ?_ ?_
  · rintro H3 i d x σ' H' H'' s3 e ⟨z1, a1, b, c, rfl⟩ z3 hx
    obtain ⟨hi, rfl⟩ := encL_get' e
    refine g_pair hx.tc fun u q hu hq => ?_
    refine for_ev (ei_tup (ev_var rfl hq.tc : EvD K (tVar 2) _ H'' (.c ((g.getD i (0, [])).2.map encPt)))) (fun H3 i σ' H' => Same H3 H' ∧ ∃ c, σ' = [some (.ref a), some u, some q, c]) (fun H3 s3 => ⟨Same.refl _, _, rfl⟩) (fun _ _ _ _ _ _ q => q.1) ?_ ?_
    · rintro H8 j d' x' σ' H9 H10 s8 e' ⟨z8, c', rfl⟩ z9 hx'
      obtain ⟨pt, _, _, rfl⟩ := map_get' e'
      rw [encPt_eq] at hx'
      refine st_last (et_cmp (b := false) ((ev_eqS (ev_ix (n := 0) (ev_var (σ := [some (.ref a), some u, some q, some x']) (i := 3) rfl hx'.tc) ev_int rfl ix0) ev_str).to ?_)) fun H11 s11 => ⟨(z8.trans z9).trans s11, _, rfl⟩
      cases pt with
      | exit e => exact congrArg D.b (show decide (("exit" : Str) = "choose") = false by decide)
      | draw e => exact congrArg D.b (show decide (("draw" : Str) = "choose") = false by decide)
      | call r ps => exact congrArg D.b (show decide (("call" : Str) = "choose") = false by decide)
      | reward a q => exact congrArg D.b (show decide (("reward" : Str) = "choose") = false by decide)
      | reject => exact congrArg D.b (show decide (("reject" : Str) = "choose") = false by decide)
      | stop => exact congrArg D.b (show decide (("stop" : Str) = "choose") = false by decide)
    · rintro H8 σ' H9 s8 ⟨z8, c', rfl⟩
      exact ⟨((z1.trans z3).trans s8).trans z8, _, _, _, rfl⟩
  · rintro H3 σ' H' s3 ⟨z1, a1, b, c, rfl⟩
    exact k (.bl true) H' (s3.trans z1) rfl
def RPlaces : Gr → List D → List D → Prop := fun g ds r => ds = [] ∧ r = (plcs g).map encP
theorem plcs_enc {g : Gr} : ((List.range g.length).flatMap fun i => (List.range (ptsOf g i).length).map fun j => encP (i, j)) = (plcs g).map encP := by
  unfold plcs
  rw [List.map_flatMap]
  congr 1
  funext p
  rw [List.map_map]
  rfl
abbrev N_Graph_places : List Str := ["self", "p", "procedure", "i"]
theorem sc_Graph_places : FnScope N_Graph_places ["self"] (defScope s_Graph_places) := ⟨rfl, rfl, rfl, by decide +kernel, rfl, by decide +kernel, by decide +kernel⟩
theorem c_Graph_places (F : Fs w h K mg) : CalM P w K mg base (He.ga K "Graph") "places" 1 ["self"] (spGF K RPlaces) := by
  refine F.d_Graph_places.cal sc_Graph_places (fun _ _ _ _ _ _ us hl => match us, hl with | [_], _ => rfl) (spGF_len fun g ds d r => by obtain ⟨rfl, _⟩ := r; rfl) fun f cdv A outer s H vs Q E hr hs => ?_
  obtain ⟨g, a, ws, ds, d, rfl, ok, hg, hv, ⟨rfl, rfl⟩, k⟩ := hs
  cases hv
  refine ⟨_, (pss_one (ps_ret (pe_lc2 (own := [("p", 1), ("procedure", 2), ("i", 3)]) (vs1 := [3]) (g := gTup K 2 (gCons (gName 1) (gCons (gName 2) gNil))) (tt := tYes) (tt1 := tYes) (g1 := gName 3) rfl sc_Graph_places.nd (pi_enumT rfl F.f_enumerate (pa_cons (show PE _ _ (tFld K _ _) from pe_fld (pv 0) rfl) pa_nil)) (blkOk_by (N := N_Graph_places) (sc := defScope s_Graph_places) (by decide +kernel))  (by decide) (fun _ _ _ _ _ => (pg_tup rfl (pgs_cons (pg_name (i := 1) sc_Graph_places.nd rfl (Or.inl rfl)) (pgs_cons (pg_name (i := 2) sc_Graph_places.nd rfl (Or.inl rfl)) pgs_nil)))) (fun _ _ _ _ _ => pts_nil) (fun _ _ _ _ _ => (pi_range1 rfl F.f_range (pa_cons (pe_callB (r := rLen K) cr_len (by rfl) F.f_len boot_len (pa_cons (pe_ix (r := rIxT K) ix_tup (pv 2) pe_int (fun _ _ => rfl)) pa_nil)) pa_nil))) (fun _ _ _ _ _ => (pg_name (i := 3) sc_Graph_places.nd rfl (Or.inl rfl))) (fun _ _ _ _ _ => pts_nil) (fun _ _ _ _ _ => (pe_tup (pa_cons (pv 1) (pa_cons (pv 3) pa_nil))))))), ?_⟩
  have hl := ok.l2
  have e1 : (enumD (encL g)).length = g.length := by rw [enumD_len, encL_len]
  refine st_retF ((ev_lc2 (ei_enum (ev_procs F (ev_var rfl rfl) hg).tc) (fun i => rangeD (ptsOf g i).length) (fun i j => encP (i, j)) (fun _ _ _ _ => rfl) (by rw [e1]; omega) ?_ ?_).to ?_) k
  · intro i hi
    rw [e1] at hi
    rw [rangeD_len]
    have := (ok.pts hi).2
    omega
  · intro i d x H' e s' hx k1 hk1
    have hi : i < g.length := by
      have q := (List.getElem?_eq_some_iff.mp e).1
      rwa [e1] at q
    rw [enumD_get (encL_get hi)] at e
    cases e
    refine g_pair hx.tc fun u q hu hq => ?_
    cases (show u = .int i from hu)
    refine hk1 _ rfl (eif_range (n := (ptsOf g i).length) (ev_lenT (ev_ix (n := 1) (ev_var rfl hq.tc) ev_int rfl ix1 : EvD K _ _ H' (.t ((g.getD i (0, [])).2.map encPt))).tc) (by rw [List.length_map]; rfl) (by have := (ok.pts hi).2; omega)) ?_
    intro j e y H'' ej _ hy k2 hk2
    obtain ⟨hj, rfl⟩ := rangeD_get ej
    cases (show y = .int j from hy)
    exact hk2 _ rfl (ev_tup (ea_2 (ev_i rfl) (ev_i rfl)))
  · rw [e1, ← plcs_enc]
    congr 1
    funext i
    rw [rangeD_len]
def encPc (q : Nat × Nat) : D := .c [nD q.1, nD q.2]
def RIsPl : Gr → List D → D → Prop := fun g ds r => ∃ q, ds = [encPc q] ∧ q ∈ plcs g ∧ r = .b true
abbrev N_Graph_is_place : List Str := ["self", "value"]
theorem sc_Graph_is_place : FnScope N_Graph_is_place ["self", "value"] (defScope s_Graph_is_place) := ⟨rfl, rfl, rfl, by decide +kernel, rfl, by decide +kernel, by decide +kernel⟩
theorem c_Graph_is_place (F : Fs w h K mg) : CalM P w K mg base (He.ga K "Graph") "is_place" 3 ["self", "value"] (spG K RIsPl) := by
  have c_is_index : Cal P w K mg base "is_index" 2 ["value", "many"] (spP K RIsIdx) := c_is_index F
  refine F.d_Graph_is_place.cal sc_Graph_is_place (fun _ _ _ _ _ _ us hl => match us, hl with | [_, _], _ => rfl) (spG_len fun g ds d r => by obtain ⟨_, rfl, _⟩ := r; rfl) fun f cdv A outer s H vs Q E hr hs => ?_
  obtain ⟨g, a, ws, ds, d, rfl, ok, hg, hv, ⟨q, rfl, hq, rfl⟩, k⟩ := hs
  obtain ⟨v1, _, rfl, h1, rfl⟩ := hv
  obtain ⟨hq1, hq2⟩ := mem_places.mp hq
  refine ⟨_, (pss_cons (ps_if (PW.pt (pw_or (pt_not (pt_val (pe_callB (r := rIsi K) call_isi (by rfl) F.f_isinstance bt_isi (pa_cons (pv 1) (pa_cons (pe_bty F.f_tuple bt_tuple) pa_nil))))) (pw_or (pt_cmpR op_ne (pe_callB (r := rLen K) cr_len (by rfl) F.f_len boot_len (pa_cons (pv 1) pa_nil)) pe_int (nomark _)) (pw_or1 (pt_not (pt_val (pe_cal c_is_index (hr.mono (by decide)) (pa_cons (pe_ix (r := rIxT K) ix_tup (pv 1) pe_int (fun _ _ => rfl)) (pa_cons (pe_callB (r := rLen K) cr_len (by rfl) F.f_len boot_len (pa_cons (show PE _ _ (tFld K _ _) from pe_fld (pv 0) rfl) pa_nil)) pa_nil))))))))) (pss_one (ps_ret pe_bl)) pss_nil) (pss_one (ps_ret (pe_cal c_is_index (hr.mono (by decide)) (pa_cons (pe_ix (r := rIxT K) ix_tup (pv 1) pe_int (fun _ _ => rfl)) (pa_cons (pe_callB (r := rLen K) cr_len (by rfl) F.f_len boot_len (pa_cons (pe_ix (r := rIxT K) ix_tup (pe_ix (r := rIxT K) ix_tup (show PE _ _ (tFld K _ _) from pe_fld (pv 0) rfl) (pe_ix (r := rIxT K) ix_tup (pv 1) pe_int (fun _ _ => rfl)) (fun _ _ => rfl)) pe_int (fun _ _ => rfl)) pa_nil)) pa_nil)))))), ?_⟩
  have V1 : EvD K (tVar 1) [some (.ref a), some v1] H (encPc q) := ev_var rfl h1
  have G0 : EvD K (tFld K (tVar 0) "procedures") [some (.ref a), some v1] H (encG g) := ev_procs F (ev_var rfl rfl) hg
  refine st_no ((et_or (a := false) (b := false) ((et_not (et_B (ev_isi (k := true) V1 ty_c ki_tt))).to rfl) fun _ => (et_or (a := false) (b := false) ((et_cmp (ev_neI (ev_lenT V1) ev_int)).to rfl) fun _ => ((et_not (et_B (b := true) (ev_call (ea_2 (ev_ix (n := 0) V1 ev_int rfl ix0) (ev_lenT G0.tc)) ⟨q.1, g.length, by rw [encL_len]; rfl, hq1, rfl⟩))).to rfl)).to rfl).to rfl) fun H1 s1 => ?_
  refine st_ret K (ev_call (ea_2 (ev_ix (n := 1) (V1.mono s1) ev_int rfl ix1) (ev_lenT (ev_ix (n := 1) (ev_ix (n := q.1) (G0.mono s1).tc (ev_ix (n := 0) (V1.mono s1) ev_int rfl ix0) rfl (encL_get hq1) : EvD K _ _ H1 (.t [nD (g.getD q.1 (0, [])).1, .t ((g.getD q.1 (0, [])).2.map encPt)])).tc ev_int rfl ix1 : EvD K _ _ H1 (.t ((g.getD q.1 (0, [])).2.map encPt))).tc)) ⟨q.2, (ptsOf g q.1).length, by rw [List.length_map]; rfl, hq2, rfl⟩) fun v H2 s2 hv => k v H2 (s1.trans s2) hv
def RChkPl : Gr → List D → D → Prop := fun g ds r => ∃ q, ds = [encPc q] ∧ q ∈ plcs g ∧ r = .n
abbrev N_Graph_check_place : List Str := ["self", "place"]
theorem sc_Graph_check_place : FnScope N_Graph_check_place ["self", "place"] (defScope s_Graph_check_place) := ⟨rfl, rfl, rfl, by decide +kernel, rfl, by decide +kernel, by decide +kernel⟩
theorem c_Graph_check_place (F : Fs w h K mg) : CalM P w K mg base (He.ga K "Graph") "check_place" 4 ["self", "place"] (spG K RChkPl) := by
  have c_Graph_is_place : CalM P w K mg base (He.ga K "Graph") "is_place" 3 ["self", "value"] (spG K RIsPl) := c_Graph_is_place F
  refine F.d_Graph_check_place.cal sc_Graph_check_place (fun _ _ _ _ _ _ us hl => match us, hl with | [_, _], _ => rfl) (spG_len fun g ds d r => by obtain ⟨_, rfl, _⟩ := r; rfl) fun f cdv A outer s H vs Q E hr hs => ?_
  obtain ⟨g, a, ws, ds, d, rfl, ok, hg, hv, ⟨q, rfl, hq, rfl⟩, k⟩ := hs
  obtain ⟨v1, _, rfl, h1, rfl⟩ := hv
  refine ⟨_, (pss_one (ps_if (pt_not (pt_val (pe_calM c_Graph_is_place F.cls_Graph (hr.mono (by decide)) (pv 0) (pa_cons (pv 1) pa_nil)))) pss_never pss_nil)), ?_⟩
  exact st_last ((et_not (et_B (b := true) (ev_methG (ev_var rfl rfl) (ea_1 (ev_var rfl h1)) ok hg (by decide) ⟨q, rfl, hq, rfl⟩))).to rfl) fun H1 s1 => k _ H1 s1 rfl
def RPointAt : Gr → List D → D → Prop := fun g ds r => ∃ q, ds = [encPc q] ∧ q ∈ plcs g ∧ r = encPt (ptAt g q.1 q.2)
abbrev N_Graph_point_at : List Str := ["self", "place"]
theorem sc_Graph_point_at : FnScope N_Graph_point_at ["self", "place"] (defScope s_Graph_point_at) := ⟨rfl, rfl, rfl, by decide +kernel, rfl, by decide +kernel, by decide +kernel⟩
theorem c_Graph_point_at (F : Fs w h K mg) : CalM P w K mg base (He.ga K "Graph") "point_at" 5 ["self", "place"] (spG K RPointAt) := by
  have c_Graph_check_place : CalM P w K mg base (He.ga K "Graph") "check_place" 4 ["self", "place"] (spG K RChkPl) := c_Graph_check_place F
  refine F.d_Graph_point_at.cal sc_Graph_point_at (fun _ _ _ _ _ _ us hl => match us, hl with | [_, _], _ => rfl) (spG_len fun g ds d r => by obtain ⟨_, rfl, _⟩ := r; rfl) fun f cdv A outer s H vs Q E hr hs => ?_
  obtain ⟨g, a, ws, ds, d, rfl, ok, hg, hv, ⟨q, rfl, hq, rfl⟩, k⟩ := hs
  obtain ⟨v1, _, rfl, h1, rfl⟩ := hv
  obtain ⟨hq1, hq2⟩ := mem_places.mp hq
  refine ⟨_, (pss_cons (ps_expr (pe_calM c_Graph_check_place F.cls_Graph (hr.mono (by decide)) (pv 0) (pa_cons (pv 1) pa_nil))) (pss_one (ps_ret (pe_ix (r := rIxT K) ix_tup (pe_ix (r := rIxT K) ix_tup (pe_ix (r := rIxT K) ix_tup (show PE _ _ (tFld K _ _) from pe_fld (pv 0) rfl) (pe_ix (r := rIxT K) ix_tup (pv 1) pe_int (fun _ _ => rfl)) (fun _ _ => rfl)) pe_int (fun _ _ => rfl)) (pe_ix (r := rIxT K) ix_tup (pv 1) pe_int (fun _ _ => rfl)) (fun _ _ => rfl))))), ?_⟩
  refine st_drop K (ev_methG (ev_var rfl rfl) (ea_1 (ev_var rfl h1)) ok hg (by decide) ⟨q, rfl, hq, rfl⟩) fun H1 s1 => ?_
  have V1 : EvD K (tVar 1) [some (.ref a), some v1] H1 (encPc q) := ev_var rfl (Dn.same s1 _ h1)
  have G0 : EvD K (tFld K (tVar 0) "procedures") [some (.ref a), some v1] H1 (encG g) := ev_procs F (ev_var rfl rfl) (hg.same s1)
  exact st_ret K (ev_ix (n := q.2) (ev_ix (n := 1) (ev_ix (n := q.1) G0.tc (ev_ix (n := 0) V1 ev_int rfl ix0) rfl (encL_get hq1) : EvD K _ _ H1 (.t [nD (g.getD q.1 (0, [])).1, .t ((g.getD q.1 (0, [])).2.map encPt)])).tc ev_int rfl ix1 : EvD K _ _ H1 (.t ((g.getD q.1 (0, [])).2.map encPt))).tc (ev_ix (n := 1) V1 ev_int rfl ix1) rfl (pts_get hq2)) fun v H2 s2 hv => k v H2 (s1.trans s2) hv
def RWays : Gr → List D → List D → Prop := fun g ds r => ∃ q, ds = [encPc q] ∧ q ∈ plcs g ∧ r = rangeD (exitsOf g q.1 + 2)
abbrev N_Graph_ways : List Str := ["self", "place"]
theorem sc_Graph_ways : FnScope N_Graph_ways ["self", "place"] (defScope s_Graph_ways) := ⟨rfl, rfl, rfl, by decide +kernel, rfl, by decide +kernel, by decide +kernel⟩
theorem c_Graph_ways (F : Fs w h K mg) : CalM P w K mg base (He.ga K "Graph") "ways" 5 ["self", "place"] (spGF K RWays) := by
  have c_Graph_check_place : CalM P w K mg base (He.ga K "Graph") "check_place" 4 ["self", "place"] (spG K RChkPl) := c_Graph_check_place F
  refine F.d_Graph_ways.cal sc_Graph_ways (fun _ _ _ _ _ _ us hl => match us, hl with | [_, _], _ => rfl) (spGF_len fun g ds d r => by obtain ⟨_, rfl, _⟩ := r; rfl) fun f cdv A outer s H vs Q E hr hs => ?_
  obtain ⟨g, a, ws, ds, d, rfl, ok, hg, hv, ⟨q, rfl, hq, rfl⟩, k⟩ := hs
  obtain ⟨v1, _, rfl, h1, rfl⟩ := hv
  obtain ⟨hq1, hq2⟩ := mem_places.mp hq
  have hex := ok.ex hq1
  refine ⟨_, (pss_cons (ps_expr (pe_calM c_Graph_check_place F.cls_Graph (hr.mono (by decide)) (pv 0) (pa_cons (pv 1) pa_nil))) (pss_one (ps_ret (pe_listRg rfl rfl F.f_list (prg_1 rfl F.f_range (pe_op op_add (pe_ix (r := rIxT K) ix_tup (pe_ix (r := rIxT K) ix_tup (show PE _ _ (tFld K _ _) from pe_fld (pv 0) rfl) (pe_ix (r := rIxT K) ix_tup (pv 1) pe_int (fun _ _ => rfl)) (fun _ _ => rfl)) pe_int (fun _ _ => rfl)) pe_int)))))), ?_⟩
  refine st_drop K (ev_methG (ev_var rfl rfl) (ea_1 (ev_var rfl h1)) ok hg (by decide) ⟨q, rfl, hq, rfl⟩) fun H1 s1 => ?_
  have V1 : EvD K (tVar 1) [some (.ref a), some v1] H1 (encPc q) := ev_var rfl (Dn.same s1 _ h1)
  have G0 : EvD K (tFld K (tVar 0) "procedures") [some (.ref a), some v1] H1 (encG g) := ev_procs F (ev_var rfl rfl) (hg.same s1)
  exact st_retF (evF_listRg (n := exitsOf g q.1 + 2) (ev_op0 (g := fun i j => i + j) (ev_ix (n := 0) (ev_ix (n := q.1) G0.tc (ev_ix (n := 0) V1 ev_int rfl ix0) rfl (encL_get hq1) : EvD K _ _ H1 (.t [nD (g.getD q.1 (0, [])).1, .t ((g.getD q.1 (0, [])).2.map encPt)])).tc ev_int rfl ix0) ev_int) rfl (by omega)) fun p us H2 s2 hp hl hd => k p us H2 (s1.trans s2) (none_of s1 hp) hl hd
end Odd

set_option Elab.async false
set_option linter.all false
set_option maxRecDepth 100000
set_option maxHeartbeats 4000000
/-! Part 12: named, reached. -/
namespace Odd
open PySem PySem.Spec PyProof.Rows L2
variable {P : Program} {w : World} {h : Heap} {K : PySem.W.Frag} {mg : Str → Option Value} {base : Heap}
/-- an if whose two ways meet -/
theorem st_ifj {σ : L2.St} {H : Hp} {tt : TT} {t u r : TS} {E : Ends} {b : Bool} (J : L2.St → Hp → Prop) (h : EvT tt σ H b) (kj : ∀ σ' H', J σ' H' → r E σ' H')
    (k : (∀ σ' H', J σ' H' → r E σ' H') → (b = true → ∀ H1, Same H H1 → t { E with nx := r E } σ H1) ∧ (b = false → ∀ H1, Same H H1 → u { E with nx := r E } σ H1)) : tSeq (tIfS tt t u) r E σ H := st_ifq h (k kj).1 (k kj).2
theorem u65 {k : Nat} {A : Around} (r : Room k A) : A.units + 65 < cLine := by
  have := r.un
  omega
theorem st_app1 {σ : L2.St} {H : Hp} {to te : TE} {d : D} {E : Ends} {p : Addr} {vs : List V} (ho : EvD K to σ H (.o p)) (hl : H p = some (.lst vs)) (hz : vs.length < 100000) (he : EvD K te σ H d) (k : ∀ v H1, Same H H1 → Dn K H1 d v → H1 p = some (.lst vs) → E.nx σ (upd H1 p (.lst (vs ++ [v])))) :
    tDrop (tBM K "list" rAppend to (tCons te tNil)) E σ H := ho.run fun v H1 s1 hv => by
  rw [show v = .ref p from hv]
  exact ⟨.inl ⟨rfl, vs, SqL.of (s1 _ _ hl)⟩, he H1 s1 _ fun u H2 s2 hu => ⟨p, vs, u, rfl, rfl, s2 _ _ (s1 _ _ hl), small_lt hz, k u H2 (s1.trans s2) hu (s2 _ _ (s1 _ _ hl))⟩⟩
theorem st_ext1 {σ : L2.St} {H : Hp} {to te : TE} {ds : List D} {E : Ends} {p : Addr} {vs : List V} (ho : EvD K to σ H (.o p)) (hl : H p = some (.lst vs)) (hz : vs.length + ds.length ≤ 100000) (he : EvF K te σ H ds) (k : ∀ ws H1, Same H H1 → DnL K H1 ds ws → H1 p = some (.lst vs) → E.nx σ (upd H1 p (.lst (vs ++ ws)))) :
    tDrop (tBM K "list" rExtend to (tCons te tNil)) E σ H := ho.run fun v H1 s1 hv => by
  rw [show v = .ref p from hv]
  exact ⟨.inl ⟨rfl, vs, SqL.of (s1 _ _ hl)⟩, he H1 s1 _ fun b ws H2 s2 hb hbl hd => ⟨p, b, vs, ws, rfl, rfl, s2 _ _ (s1 _ _ hl), hbl, small_le (by rw [hd.length]; exact hz), k ws H2 (s1.trans s2) hd (s2 _ _ (s1 _ _ hl))⟩⟩
/-! ### in, not in, a list of tuples of ints -/
def encI (ns : List Int) : D := .t (ns.map D.i)
def pI (q : Nat × Nat) : List Int := [(q.1 : Int), (q.2 : Int)]
def uI (u : U) : List Int := [(u.1 : Int), (u.2.1 : Int), (u.2.2 : Int)]
theorem encP_I (q : Nat × Nat) : encP q = encI (pI q) := rfl
theorem encU_I (u : U) : encU u = encI (uI u) := rfl
theorem pI_inj {a b : Nat × Nat} (e : pI a = pI b) : a = b := by
  unfold pI at e
  simp only [List.cons.injEq, and_true] at e
  exact Prod.ext (Int.ofNat.inj e.1) (Int.ofNat.inj e.2)
theorem uI_inj {a b : U} (e : uI a = uI b) : a = b := by
  unfold uI at e
  simp only [List.cons.injEq, and_true] at e
  exact Prod.ext (Int.ofNat.inj e.1) (Prod.ext (Int.ofNat.inj e.2.1) (Int.ofNat.inj e.2.2))
theorem dp_list {H : Hp} : ∀ {ls : List (List Int)} {vs : List V}, DnL K H (ls.map encI) vs → DpAll K H vs (ls.map fun ns => PyData.tuple (ns.map PyData.int))
  | [], _, h => by cases h; exact .nil
  | ns :: ls, _, h => by
    obtain ⟨v, r, rfl, h2, h3⟩ := h
    exact .cons (dp_c (Dn.tc h2)) (dp_list h3)
theorem any_mem (ns : List Int) : ∀ ls : List (List Int), ((ls.map fun ns => PyData.tuple (ns.map PyData.int)).any fun z => PyData.eqv z (.tuple (ns.map PyData.int))) = decide (ns ∈ ls)
  | [] => by simp
  | a :: ls => by
    rw [List.map_cons, List.any_cons, any_mem ns ls, eqv_tups]
    by_cases h1 : a = ns
    · subst h1; simp
    · by_cases h2 : ns ∈ ls
      · simp [h2]
      · simp [h1, h2]; exact fun e => h1 e.symm
section
variable {σ : L2.St} {H : Hp} {ta tb te to : TE} {ns : List Int} {ls : List (List Int)}
theorem ev_inI (ha : EvD K ta σ H (.c (ns.map D.i))) (hb : EvD K tb σ H (.l (ls.map encI))) : EvD K (tOp (rInD K) ta tb) σ H (.b (decide (ns ∈ ls))) := fun H1 s1 Q q => ha H1 s1 _ fun v H2 s2 hv => hb H2 (s1.trans s2) _ fun u H3 s3 hu => by
  obtain ⟨p, vs, rfl, h2, h3⟩ := hu
  exact ⟨_, _, dp_c (Dn.same s3 _ hv), .lst (SqL.of h2) (dp_list h3), sh_ints ns, sh_tups ls, q _ H3 (s2.trans s3) (by rw [any_mem]; rfl)⟩
theorem ev_ninI (ha : EvD K ta σ H (.c (ns.map D.i))) (hb : EvD K tb σ H (.l (ls.map encI))) : EvD K (tOp (rNotInD K) ta tb) σ H (.b (!decide (ns ∈ ls))) := fun H1 s1 Q q => ha H1 s1 _ fun v H2 s2 hv => hb H2 (s1.trans s2) _ fun u H3 s3 hu => by
  obtain ⟨p, vs, rfl, h2, h3⟩ := hu
  exact ⟨_, _, dp_c (Dn.same s3 _ hv), .lst (SqL.of h2) (dp_list h3), sh_ints ns, sh_tups ls, q _ H3 (s2.trans s3) (by rw [any_mem]; rfl)⟩
theorem mem_pI {q : Nat × Nat} {l : List (Nat × Nat)} : pI q ∈ l.map pI ↔ q ∈ l := ⟨fun h => by
  obtain ⟨a, ha, e⟩ := List.mem_map.mp h
  rw [← pI_inj e]
  exact ha, fun h => List.mem_map.mpr ⟨q, h, rfl⟩⟩
theorem mem_uI {q : U} {l : List U} : uI q ∈ l.map uI ↔ q ∈ l := ⟨fun h => by
  obtain ⟨a, ha, e⟩ := List.mem_map.mp h
  rw [← uI_inj e]
  exact ha, fun h => List.mem_map.mpr ⟨q, h, rfl⟩⟩
theorem map_encP (l : List (Nat × Nat)) : l.map encP = (l.map pI).map encI := by rw [List.map_map]; rfl
theorem map_encU (l : List U) : l.map encU = (l.map uI).map encI := by rw [List.map_map]; rfl
theorem ev_inP {q : Nat × Nat} {l : List (Nat × Nat)} (ha : EvD K ta σ H (encPc q)) (hb : EvD K tb σ H (.l (l.map encP))) : EvD K (tOp (rInD K) ta tb) σ H (.b (decide (q ∈ l))) := by
  rw [map_encP] at hb
  refine (ev_inI (ns := pI q) ha hb).to ?_
  rw [decide_eq_decide.mpr mem_pI]
theorem ev_ninP {q : Nat × Nat} {l : List (Nat × Nat)} (ha : EvD K ta σ H (encPc q)) (hb : EvD K tb σ H (.l (l.map encP))) : EvD K (tOp (rNotInD K) ta tb) σ H (.b (!decide (q ∈ l))) := by
  rw [map_encP] at hb
  refine (ev_ninI (ns := pI q) ha hb).to ?_
  rw [decide_eq_decide.mpr mem_pI]
theorem ev_inU {u : U} {l : List U} (ha : EvD K ta σ H (encU u)) (hb : EvD K tb σ H (.l (l.map encU))) : EvD K (tOp (rInD K) ta tb) σ H (.b (decide (u ∈ l))) := by
  rw [map_encU] at hb
  refine (ev_inI (ns := uI u) ha.tc hb).to ?_
  rw [decide_eq_decide.mpr mem_uI]
end
theorem pick_filter {α : Type} {p : α → Bool} {f : α → D} {d : α} (l : List α) : pick (fun i => p (l.getD i d)) (fun i => f (l.getD i d)) l.length = (l.filter p).map f := by
  have e : l = (List.range l.length).map fun i => l.getD i d := by
    have z := map_range_getD (f := fun x : α => x) (d := d) l
    rw [List.map_id'] at z
    exact z.symm
  unfold pick
  conv => rhs; rw [e, List.filter_map, List.map_map]
  rfl
/-! ### named -/
def callee : Pt → List (Nat × Nat)
  | .call r _ => [(r, 0)]
  | _ => []
/-- the places that a place names -/
def nm (g : Gr) (q : Nat × Nat) : List (Nat × Nat) := (tgt (ptAt g q.1 q.2)).map (fun i => (q.1, i)) ++ callee (ptAt g q.1 q.2)
theorem nm_plcs {g : Gr} (ok : Ok g) {q : Nat × Nat} (hq : q ∈ plcs g) : ∀ x ∈ nm g q, x ∈ plcs g := by
  obtain ⟨h1, h2⟩ := mem_places.mp hq
  have z := ok.at h1 h2
  intro x hx
  rcases List.mem_append.mp hx with hx | hx
  · obtain ⟨i, hi, rfl⟩ := List.mem_map.mp hx
    refine mem_places.mpr ⟨h1, ?_⟩
    show i < (g.getD q.1 (0, [])).2.length
    cases e : ptAt g q.1 q.2 with
    | draw bs =>
      rw [e] at hi z
      obtain ⟨b, hb, rfl⟩ := List.mem_map.mp hi
      exact z.2 b hb
    | call r ps => rw [e] at hi z; exact z.2.2 i hi
    | reward a t =>
      rw [e] at hi z
      rw [List.mem_singleton.mp hi]
      exact z.2.2.2.2
    | exit _ => rw [e] at hi; cases hi
    | reject => rw [e] at hi; cases hi
    | stop => rw [e] at hi; cases hi
  · cases e : ptAt g q.1 q.2 with
    | call r ps =>
      rw [e] at hx z
      rw [List.mem_singleton.mp hx]
      refine mem_places.mpr ⟨z.1, ?_⟩
      have := (ok.pts z.1).1
      show 0 < (ptsOf g r).length
      omega
    | draw bs => rw [e] at hx; cases hx
    | reward a t => rw [e] at hx; cases hx
    | exit _ => rw [e] at hx; cases hx
    | reject => rw [e] at hx; cases hx
    | stop => rw [e] at hx; cases hx
theorem tgt_len {g : Gr} (ok : Ok g) {q : Nat × Nat} (hq : q ∈ plcs g) : (tgt (ptAt g q.1 q.2)).length ≤ 4 := by
  obtain ⟨h1, h2⟩ := mem_places.mp hq
  have z := ok.at h1 h2
  cases e : ptAt g q.1 q.2 with
  | draw bs =>
    rw [e] at z
    have y : DrawOk bs (g.getD q.1 (0, [])).2.length := ⟨z.1, z.2⟩
    show (bs.map (·.2)).length ≤ 4
    rw [List.length_map]
    exact y.len.1
  | call r ps =>
    rw [e] at z
    show ps.length ≤ 4
    rw [z.2.1]
    have := ok.ex z.1
    omega
  | reward a t => exact Nat.le_of_ble_eq_true rfl
  | exit _ => exact Nat.zero_le 4
  | reject => exact Nat.zero_le 4
  | stop => exact Nat.zero_le 4
def RNamed : Gr → List D → List D → Prop := fun g ds r => ∃ q, ds = [encPc q] ∧ q ∈ plcs g ∧ r = ((plcs g).filter fun x => decide (x ∈ nm g q)).map encP
abbrev N_Graph_named : List Str := ["self", "place", "point", "found", "i", "other"]
theorem sc_Graph_named : FnScope N_Graph_named ["self", "place"] (defScope s_Graph_named) := ⟨rfl, rfl, rfl, by decide +kernel, rfl, by decide +kernel, by decide +kernel⟩
theorem c_Graph_named (F : Fs w h K mg) : CalM P w K mg base (He.ga K "Graph") "named" 6 ["self", "place"] (spGF K RNamed) := by
  have c_Graph_point_at : CalM P w K mg base (He.ga K "Graph") "point_at" 5 ["self", "place"] (spG K RPointAt) := c_Graph_point_at F
  have c_Graph_places : CalM P w K mg base (He.ga K "Graph") "places" 1 ["self"] (spGF K RPlaces) := c_Graph_places F
  have c_points_of : Cal P w K mg base "points_of" 1 ["point"] (spP K RPof) := c_points_of F
  refine F.d_Graph_named.cal sc_Graph_named (fun _ _ _ _ _ _ us hl => match us, hl with | [_, _], _ => rfl) (spGF_len fun g ds d r => by obtain ⟨_, rfl, _⟩ := r; rfl) fun f cdv A outer s H vs Q E hr hs => ?_
  obtain ⟨g, a, ws, ds, d, rfl, ok, hg, hv, ⟨q, rfl, hq, rfl⟩, k⟩ := hs
  obtain ⟨v1, _, rfl, h1, rfl⟩ := hv
  refine ⟨_, (pss_cons (ps_set (i := 2) sc_Graph_named.nd rfl (Or.inl rfl) (pe_calM c_Graph_point_at F.cls_Graph (hr.mono (by decide)) (pv 0) (pa_cons (pv 1) pa_nil))) (pss_cons (ps_set (i := 3) sc_Graph_named.nd rfl (Or.inr rfl) (pe_lc (own := [("i", 4)]) (g := gName 4) (tt := tYes) rfl sc_Graph_named.nd (pi_tup (pe_cal c_points_of (hr.mono (by decide)) (pa_cons (pv 2) pa_nil))) (blkOk_by (N := N_Graph_named) (sc := defScope s_Graph_named) (by decide +kernel))  (fun _ _ _ _ _ => (pg_name (i := 4) sc_Graph_named.nd rfl (Or.inl rfl))) (fun _ _ _ _ _ => pts_nil) (fun _ _ _ _ _ => (pe_tup (pa_cons (pe_ix (r := rIxT K) ix_tup (pv 1) pe_int (fun _ _ => rfl)) (pa_cons (pv 4) pa_nil)))))) (pss_cons (ps_if (pt_cmpR op_eq (pe_ix (r := rIxT K) ix_tup (pv 2) pe_int (fun _ _ => rfl)) pe_str (nomark _)) (pss_one (ps_expr (pe_bm PySem.F.plainAttrs_list PySem.F.slot_list_append PySem.F.type_list_append mt_append (pv 3) (pa_cons (pe_tup (pa_cons (pe_ix (r := rIxT K) ix_tup (pv 2) pe_int (fun _ _ => rfl)) (pa_cons pe_int pa_nil))) pa_nil)))) pss_nil) (pss_one (ps_ret (pe_lc (own := [("other", 5)]) (g := gName 5) rfl sc_Graph_named.nd (pi_list (pe_calM0 c_Graph_places F.cls_Graph (hr.mono (by decide)) (pv 0))) (blkOk_by (N := N_Graph_named) (sc := defScope s_Graph_named) (by decide +kernel))  (fun _ _ _ _ _ => (pg_name (i := 5) sc_Graph_named.nd rfl (Or.inl rfl))) (fun _ _ _ _ _ => (pts_one (pt_cmpR (r := rInD K) (op_inD (u65 hr)) (pv 5) (pv 3) (by rfl)))) (fun _ _ _ _ _ => (pv 5)))))))), ?_⟩
  obtain ⟨hq1, hq2⟩ := mem_places.mp hq
  have ht4 := tgt_len ok hq
  refine st_set K (ev_methG (ev_var rfl rfl) (ea_1 (ev_var rfl h1)) ok hg (by decide) ⟨q, rfl, hq, rfl⟩) fun pv H1 s1 hpv => ?_
  have hlen : ((tgt (ptAt g q.1 q.2)).map nD).length = (tgt (ptAt g q.1 q.2)).length := List.length_map ..
  refine st_setF ((ev_lc (ei_tup (ev_call (R := RPof) (d := .c ((tgt (ptAt g q.1 q.2)).map nD)) (ea_1 (ev_var rfl hpv)) ⟨ptAt g q.1 q.2, rfl, by omega, rfl⟩)) (fun _ => true) (fun i => encP (q.1, (tgt (ptAt g q.1 q.2)).getD i 0)) (fun _ _ => rfl) (by omega) ?_).to (es := (tgt (ptAt g q.1 q.2)).map fun i => encP (q.1, i)) (by rw [pick_all, hlen]; exact map_range_getD (f := fun i => encP (q.1, i)) _)) fun p us H2 s2 hp hl hd => ?_
  · intro i d x H' e s' hx k' hk'
    obtain ⟨b, hb1, _, rfl⟩ := map_get' e
    cases (show x = .int b from hx)
    have e2 : (tgt (ptAt g q.1 q.2)).getD i 0 = b := by rw [List.getD_eq_getElem?_getD, hb1]; rfl
    refine hk' _ rfl et_yes fun _ => ?_
    rw [e2]
    exact ev_tup (ea_2 (ev_ix (n := 0) (ev_var (i := 1) rfl (Dn.same (s1.trans s') _ h1) : EvD K _ _ H' (encPc q)) ev_int rfl ix0) (ev_i rfl))
  have s02 := s1.trans s2
  have hp0 : H p = none := none_of s1 hp
  have hpv2 := Dn.same s2 _ hpv
  rw [encPt_eq] at hpv2
  refine st_ifj (b := decide (wd (ptAt g q.1 q.2) = "call")) (fun σ' H' => σ' = [some (.ref a), some v1, some pv, some (.ref p), none, none] ∧ Same H H' ∧ ∃ vs, H' p = some (.lst vs) ∧ DnL K H' ((nm g q).map encP) vs)
    (et_cmp (ev_eqS (ev_ix (n := 0) (ev_var (i := 2) rfl hpv2.tc) ev_int rfl ix0) ev_str)) ?_ fun kj => ⟨fun hb H3 s3 => ?_, fun hb H3 s3 => kj _ H3 ⟨rfl, s02.trans s3, us, s3 _ _ hl, ?_⟩⟩
  · rintro σ' H' ⟨rfl, z1, vs, z2, z3⟩
    have hpl : ((plcs g).map encP).length = (plcs g).length := List.length_map ..
    have hl10 := len_places ok
    refine st_retF ((ev_lc (ei_lst (evF_methG (RF := RPlaces) (l := (plcs g).map encP) (ev_var rfl rfl) ea_nil ok (hg.same z1) (by decide) ⟨rfl, rfl⟩).d) (fun i => decide ((plcs g).getD i (0, 0) ∈ nm g q)) (fun i => encP ((plcs g).getD i (0, 0))) (fun _ _ => rfl) (by omega) ?_).to (by rw [hpl]; exact pick_filter (p := fun x => decide (x ∈ nm g q)) (f := encP) _)) fun p us H2 s2 hp hl hd => k p us H2 (z1.trans s2) (none_of z1 hp) hl hd
    intro i d x H5 e s' hx k' hk'
    obtain ⟨b, hb1, _, rfl⟩ := map_get' e
    have e2 : (plcs g).getD i (0, 0) = b := by rw [List.getD_eq_getElem?_getD, hb1]; rfl
    have X5 : EvD K (tVar 5) [some (.ref a), some v1, some pv, some (.ref p), none, some x] H5 (encP b) := ev_var rfl hx
    refine hk' _ rfl ?_ fun _ => ?_
    · rw [e2]
      exact et_cmp (ev_inP (EvD.tc X5) (ev_var rfl ⟨p, vs, rfl, s' _ _ z2, DnL.same s' _ z3⟩))
    · rw [e2]; exact X5
  · have hb := of_decide_eq_true hb
    cases e : ptAt g q.1 q.2 with
    | call r ps =>
      rw [e] at hpv2 hd hlen
      have hul : us.length < 100000 := by rw [hd.length, List.length_map]; have := ht4; rw [e] at this; omega
      refine st_app1 (ev_var rfl rfl) (s3 _ _ hl) hul (ev_tup (ea_2 (ev_ix (n := 1) (ev_var (i := 2) rfl (Dn.same s3 _ hpv2).tc) ev_int rfl ix1) ev_int)) fun v H4 s4 hv hl4 => kj _ _ ⟨rfl, Same.mut ((s02.trans s3).trans s4) hp0, _, upd_same, ?_⟩
      have tk : Tk H4 (upd H4 p (.lst (us ++ [v]))) := Tk.lst hl4
      unfold nm
      rw [e, List.map_append]
      refine DnL.snoc (DnL.tk tk _ (nolL_map (f := encP) (fun _ => rfl) _) ?_) (Dn.tk tk (.t [nD r, nD 0]) rfl hv)
      rw [List.map_map]
      exact DnL.same (s3.trans s4) _ hd
    | draw bs => rw [e] at hb; exact absurd hb (of_decide_eq_false (show decide (("draw" : Str) = "call") = false by decide))
    | reward x y => rw [e] at hb; exact absurd hb (of_decide_eq_false (show decide (("reward" : Str) = "call") = false by decide))
    | exit x => rw [e] at hb; exact absurd hb (of_decide_eq_false (show decide (("exit" : Str) = "call") = false by decide))
    | reject => rw [e] at hb; exact absurd hb (of_decide_eq_false (show decide (("reject" : Str) = "call") = false by decide))
    | stop => rw [e] at hb; exact absurd hb (of_decide_eq_false (show decide (("stop" : Str) = "call") = false by decide))
  · have hb := of_decide_eq_false hb
    have e0 : callee (ptAt g q.1 q.2) = [] := by
      cases e : ptAt g q.1 q.2 with
      | call r ps => rw [e] at hb; exact absurd rfl hb
      | _ => rfl
    unfold nm
    rw [e0, List.append_nil, List.map_map]
    exact DnL.same s3 _ hd
end Odd

set_option Elab.async false
set_option linter.all false
set_option maxRecDepth 100000
set_option maxHeartbeats 4000000
/-! Part 13: reached. -/
namespace Odd
open PySem PySem.Spec PyProof.Rows L2
variable {P : Program} {w : World} {h : Heap} {K : PySem.W.Frag} {mg : Str → Option Value} {base : Heap}
theorem while_ev {c : TT} {tb : TS} {E : Ends} {σ : L2.St} {H : Hp} (Pv : L2.St → Hp → Prop) (μ : L2.St → Nat) (b : L2.St → Hp → Bool) (h0 : Pv σ H) (hc : ∀ σ H, Pv σ H → EvT c σ H (b σ H))
    (hs : ∀ σ H, Pv σ H → b σ H = true → ∀ H1, Same H H1 → tb { E with nx := fun σ' H' => Pv σ' H' ∧ μ σ' < μ σ, ct := fun σ' H' => Pv σ' H' ∧ μ σ' < μ σ, bk := E.nx } σ H1)
    (hd : ∀ σ H, Pv σ H → b σ H = false → ∀ H1, Same H H1 → E.nx σ H1) (hmono : ∀ σ H Q Q', (∀ b H1, Q b H1 → Q' b H1) → c σ H Q → c σ H Q') : tWhile c tb E σ H :=
  while_by Pv (fun σ _ => μ σ) h0 (fun σ H p => (hc σ H p).run fun H1 s1 => by
    cases e : b σ H with
    | true => exact hs σ H p e H1 s1
    | false => exact hd σ H p e H1 s1) hmono
theorem filter_split {α : Type} (p q : α → Bool) : ∀ l : List α, (l.filter fun x => p x && q x).length + (l.filter fun x => p x && !q x).length = (l.filter p).length
  | [] => rfl
  | a :: l => by
    have ih := filter_split p q l
    simp only [List.filter_cons]
    cases p a <;> cases q a <;> simp only [Bool.true_and, Bool.false_and, Bool.not_true, Bool.not_false, if_true, if_false, List.length_cons, Bool.false_eq_true] <;> omega
theorem filter_le {α : Type} {p q : α → Bool} : ∀ {l : List α}, (∀ x ∈ l, p x = true → q x = true) → (l.filter p).length ≤ (l.filter q).length
  | [], _ => Nat.le_refl 0
  | a :: l, h => by
    have ih := filter_le (l := l) fun x hx => h x (List.mem_cons_of_mem _ hx)
    have h0 := h a List.mem_cons_self
    simp only [List.filter_cons]
    cases hp : p a with
    | true => rw [h0 hp]; simp only [if_true, List.length_cons]; omega
    | false => cases q a <;> simp only [Bool.false_eq_true, if_false, if_true, List.length_cons] <;> omega
theorem DnL.perm {K : PySem.W.Frag} {H : Hp} {α : Type} {f : α → D} {vs ys : List V} (hp : ys.Perm vs) : ∀ {l : List α}, DnL K H (l.map f) vs → ∃ l' : List α, l'.Perm l ∧ DnL K H (l'.map f) ys := by
  induction hp with
  | nil => intro l h; exact ⟨l, .refl l, h⟩
  | cons x _ ih =>
    intro l h
    cases l with
    | nil => cases h
    | cons a l =>
      obtain ⟨v, r, e, h2, h3⟩ := h
      cases e
      obtain ⟨l', p, q⟩ := ih h3
      exact ⟨a :: l', p.cons a, _, _, rfl, h2, q⟩
  | swap x y t =>
    intro l h
    cases l with
    | nil => cases h
    | cons a l =>
      obtain ⟨v, r, e, h2, h3⟩ := h
      cases e
      cases l with
      | nil => cases h3
      | cons b l =>
        obtain ⟨v', r', e', h2', h3'⟩ := h3
        cases e'
        exact ⟨b :: a :: l, .swap a b l, _, _, rfl, h2', _, _, rfl, h2, h3'⟩
  | trans _ _ ih1 ih2 =>
    intro l h
    obtain ⟨l', p, q⟩ := ih2 h
    obtain ⟨l'', p', q'⟩ := ih1 q
    exact ⟨l'', p'.trans p, q'⟩
theorem nodup_plcs (g : Gr) : (plcs g).Nodup := by
  refine List.pairwise_flatMap.mpr ⟨fun p _ => List.pairwise_map.mpr (List.Pairwise.imp (fun {a b} h e => h (by cases e; rfl)) (List.nodup_range (n := (ptsOf g p).length))), ?_⟩
  refine List.Pairwise.imp (fun {a b} h x hx y hy e => ?_) (List.nodup_range (n := g.length))
  obtain ⟨i, _, rfl⟩ := List.mem_map.mp hx
  obtain ⟨j, _, rfl⟩ := List.mem_map.mp hy
  cases e
  exact h rfl
theorem nodup_filter {α : Type} {p : α → Bool} {l : List α} (h : l.Nodup) : (l.filter p).Nodup := List.Pairwise.filter p h
/-- what reached(place) yields -/
structure Reach (g : Gr) (q : Nat × Nat) (l : List (Nat × Nat)) : Prop where
  here : q ∈ l
  sub : ∀ x ∈ l, x ∈ plcs g
  clo : ∀ x ∈ l, ∀ y ∈ nm g x, y ∈ l
  len : l.length ≤ 10
  nd : l.Nodup
def spReach (K : PySem.W.Frag) : Sp := fun vs H Q _ => ∃ g a v q, vs = [.ref a, v] ∧ Ok g ∧ IsG K H g a ∧ Dn K H (encP q) v ∧ q ∈ plcs g ∧ ∀ l p us H', Reach g q l → Same H H' → H p = none → H' p = some (.lst us) → DnL K H' (l.map encP) us → Q (.ref p) H'
theorem bd_P {g : Gr} (ok : Ok g) {q : Nat × Nat} (hq : q ∈ plcs g) : TS.Bd 64 (pI q) := by
  obtain ⟨h1, h2⟩ := mem_places.mp hq
  have z := (ok.pts h1).2
  have z2 := ok.l2
  intro m hm
  unfold pI at hm
  simp only [List.mem_cons, List.not_mem_nil, or_false] at hm
  rcases hm with rfl | rfl <;> constructor <;> omega
def nAt (σ : L2.St) (i : Nat) : Int := match (σ[i]? : Option (Option V)) with
  | some (some (V.int n)) => n
  | _ => 0
def rOf (σ : L2.St) : Nat := 11 - (nAt σ 3).toNat
def ltB (p : Addr) (σ : L2.St) (H : Hp) : Bool := match H p with
  | some (.lst vs) => decide (nAt σ 3 < (vs.length : Int))
  | _ => false
theorem ltB_eq {p : Addr} {σ : L2.St} {H : Hp} {vs : List V} (h : H p = some (.lst vs)) : ltB p σ H = decide (nAt σ 3 < (vs.length : Int)) := by
  unfold ltB
  rw [h]
abbrev N_Graph_reached : List Str := ["self", "place", "found", "at", "other"]
theorem sc_Graph_reached : FnScope N_Graph_reached ["self", "place"] (defScope s_Graph_reached) := ⟨rfl, rfl, rfl, by decide +kernel, rfl, by decide +kernel, by decide +kernel⟩
theorem c_Graph_reached (F : Fs w h K mg) : CalM P w K mg base (He.ga K "Graph") "reached" 7 ["self", "place"] (spReach K) := by
  have c_Graph_check_place : CalM P w K mg base (He.ga K "Graph") "check_place" 4 ["self", "place"] (spG K RChkPl) := c_Graph_check_place F
  have c_Graph_named : CalM P w K mg base (He.ga K "Graph") "named" 6 ["self", "place"] (spGF K RNamed) := c_Graph_named F
  refine F.d_Graph_reached.cal sc_Graph_reached (fun _ _ _ _ _ _ us hl => match us, hl with | [_, _], _ => rfl) (fun vs H Q E h => by obtain ⟨_, _, _, _, rfl, _⟩ := h; rfl) fun f cdv A outer s H vs Q E hr hs => ?_
  obtain ⟨g, a, v1, q, rfl, ok, hg, h1, hq, k⟩ := hs
  have hl10 := len_places ok
  refine ⟨_, (pss_cons (ps_expr (pe_calM c_Graph_check_place F.cls_Graph (hr.mono (by decide)) (pv 0) (pa_cons (pv 1) pa_nil))) (pss_cons (ps_set (i := 2) sc_Graph_reached.nd rfl (Or.inr rfl) (pe_lst (pa_cons (pv 1) pa_nil))) (pss_cons (ps_set (i := 3) sc_Graph_reached.nd rfl (Or.inl rfl) pe_int) (pss_cons (ps_while PassesOwn.never (pt_cmpR op_lt (pv 3) (pe_callB (r := rLen K) cr_len (by rfl) F.f_len boot_len (pa_cons (pv 2) pa_nil)) (nomark _)) (pss_cons (ps_expr (pe_bm PySem.F.plainAttrs_list PySem.F.slot_list_extend PySem.F.type_list_extend mt_extend (pv 2) (pa_cons (pe_lc (own := [("other", 4)]) (g := gName 4) rfl sc_Graph_reached.nd (pi_list (pe_calM c_Graph_named F.cls_Graph (hr.mono (by decide)) (pv 0) (pa_cons (pe_ix (r := rIxL K) ix_list (pv 2) (pv 3) (fun _ _ => rfl)) pa_nil))) (blkOk_by (N := N_Graph_reached) (sc := defScope s_Graph_reached) (by decide +kernel))  (fun _ _ _ _ _ => (pg_name (i := 4) sc_Graph_reached.nd rfl (Or.inl rfl))) (fun _ _ _ _ _ => (pts_one (pt_cmpR (r := rNotInD K) (op_notInD (u65 hr)) (pv 4) (pv 2) (by rfl)))) (fun _ _ _ _ _ => (pv 4))) pa_nil))) (pss_one (ps_set (i := 3) sc_Graph_reached.nd rfl (Or.inl rfl) (pe_op op_add (pv 3) pe_int))))) (pss_one (ps_ret (pe_callB (r := rSortU K 2 64) (cr_sortT (by decide)) (by rfl) F.f_sorted boot_sorted (pa_cons (pv 2) pa_nil)))))))), ?_⟩
  refine st_drop K (ev_methG (ev_var rfl rfl) (ea_1 (ev_var rfl h1.tc)) ok hg (by decide) ⟨q, rfl, hq, rfl⟩) fun H1 s1 => ?_
  refine st_setF (evF_lst (ea_1 (ev_var (i := 1) rfl (Dn.same s1 _ h1)))) fun p us H2 s2 hp hl hd => ?_
  refine st_set K ev_int fun t3 H3 s3 ht => ?_
  cases (show t3 = .int 0 from ht)
  have hp0 : H p = none := none_of s1 hp
  have s03 := (s1.trans s2).trans s3
  let Pv : L2.St → Hp → Prop := fun σ' H' => ∃ (l : List (Nat × Nat)) (vs : List V) (n : Nat) (x : Option V), σ' = [some (.ref a), some v1, some (.ref p), some (.int n), x] ∧ Same H H' ∧ H' p = some (.lst vs) ∧ DnL K H' (l.map encP) vs ∧
    q ∈ l ∧ (∀ x ∈ l, x ∈ plcs g) ∧ l.length + ((plcs g).filter fun x => !decide (x ∈ l)).length ≤ (plcs g).length ∧ n ≤ l.length ∧ (∀ j, j < n → ∀ y ∈ nm g (l.getD j (0, 0)), y ∈ l) ∧ l.Nodup
  refine while_ev Pv rOf (ltB p) ?_ ?_ ?_ ?_ ?_
  · refine ⟨[q], us, 0, none, rfl, s03, s3 _ _ hl, DnL.same s3 _ hd, List.mem_singleton.mpr rfl, fun x hx => by rw [List.mem_singleton.mp hx]; exact hq, ?_, Nat.zero_le _, fun j hj => absurd hj (Nat.not_lt_zero j), List.pairwise_singleton _ q⟩
    have z := filter_split (fun _ => true) (fun x => decide (x ∈ [q])) (plcs g)
    have z2 : 1 ≤ ((plcs g).filter fun x => true && decide (x ∈ [q])).length := List.length_pos_of_mem (a := q) (List.mem_filter.mpr ⟨hq, by simp⟩)
    simp only [Bool.true_and] at z z2
    rw [List.filter_eq_self.mpr fun _ _ => rfl] at z
    show 1 + _ ≤ _
    omega
  · rintro σ' H' ⟨l, vs, n, x, rfl, z1, z2, z3, z4, z5, z6, z7, z8, z9⟩
    rw [ltB_eq z2]
    refine (et_cmp (K := K) (ev_cmp0 (g := fun i j => decide (i < j)) (ev_i rfl) (ev_lenL (l := l.map encP) (ev_var rfl ⟨p, vs, rfl, z2, z3⟩)))).to ?_
    rw [z3.length]
    rfl
  · rintro σ' H' ⟨l, vs, n, x, rfl, z1, z2, z3, z4, z5, z6, z7, z8, z9⟩ hb H4 s4
    rw [ltB_eq z2] at hb
    have hb : (n : Int) < (vs.length : Int) := of_decide_eq_true hb
    rw [z3.length, List.length_map] at hb
    have hn : n < l.length := by omega
    have z2 := s4 _ _ z2
    have z3 := DnL.same s4 _ z3
    have z1 := z1.trans s4
    have hm : l.getD n (0, 0) ∈ l := getD_mem l n _ hn
    have hmp := z5 _ hm
    let L0 := (plcs g).filter fun x => decide (x ∈ nm g (l.getD n (0, 0)))
    have hL0 : L0.length ≤ 10 := Nat.le_trans (List.length_filter_le _ _) hl10
    have hlv : vs.length = l.length := by rw [z3.length, List.length_map]
    have FD : ∀ {H5 x}, Same H4 H5 → EvD K (tVar 2) [some (.ref a), some v1, some (.ref p), some (.int n), x] H5 (.l (l.map encP)) := fun s => ev_var rfl ⟨p, vs, rfl, s _ _ z2, DnL.same s _ z3⟩
    refine st_ext1 (p := p) (ds := (L0.filter fun x => !decide (x ∈ l)).map encP) (ev_var rfl rfl) z2 ?_ ((ev_lc (ds := L0.map encP) (ei_lst (evF_methG (RF := RNamed) (l := L0.map encP) (ev_var rfl rfl) (ea_1 (EvD.tc (ev_ixL (n := n) (FD (Same.refl _)) (ev_i rfl) rfl (by rw [List.getElem?_map, List.getElem?_eq_getElem hn]; rfl)))) ok (hg.same z1) (by decide) ⟨l.getD n (0, 0), by rw [List.getD_eq_getElem?_getD, List.getElem?_eq_getElem hn]; rfl, hmp, rfl⟩).d)
      (fun i => !decide (L0.getD i (0, 0) ∈ l)) (fun i => encP (L0.getD i (0, 0))) (fun _ _ => rfl) (by rw [List.length_map]; omega) ?_).to (by rw [List.length_map]; exact pick_filter (p := fun x => !decide (x ∈ l)) (f := encP) _)) ?_
    · have : (L0.filter fun x => !decide (x ∈ l)).length ≤ L0.length := List.length_filter_le _ _
      rw [List.length_map]
      have : l.length ≤ 10 := by omega
      omega
    · intro i d x H5 e s' hx k' hk'
      obtain ⟨b, hb1, _, rfl⟩ := map_get' e
      have e2 : L0.getD i (0, 0) = b := by rw [List.getD_eq_getElem?_getD, hb1]; rfl
      have X5 : EvD K (tVar 4) [some (.ref a), some v1, some (.ref p), some (.int n), some x] H5 (encP b) := ev_var rfl hx
      refine hk' _ rfl ?_ fun _ => ?_
      · rw [e2]
        exact et_cmp (ev_ninP (EvD.tc X5) (FD s'))
      · rw [e2]; exact X5
    · intro ws H5 s5 hws hp5
      refine st_set (E := { nx := _, rt := _, bk := _, ct := _ }) (u := fun E σ H => E.nx σ H) (σ := [some (.ref a), some v1, some (.ref p), some (.int n), x]) (i := 3) K (ev_op0 (g := fun i j => i + j) (ev_i rfl) ev_int) fun t H6 s6 ht => ?_
      cases (show t = .int ((n : Int) + 1) from ht)
      have tk : Tk H5 (upd H5 p (.lst (vs ++ ws))) := Tk.lst hp5
      refine ⟨⟨l ++ (L0.filter fun x => !decide (x ∈ l)), vs ++ ws, n + 1, x, rfl, (Same.mut (z1.trans s5) hp0).trans s6, s6 _ _ upd_same, ?_, List.mem_append.mpr (.inl z4), ?_, ?_, ?_, ?_, ?_⟩, ?_⟩
      · rw [List.map_append]
        exact DnL.same s6 _ (DnL.append (DnL.tk tk _ (nolL_map (f := encP) (fun _ => rfl) _) (DnL.same s5 _ z3)) (DnL.tk tk _ (nolL_map (f := encP) (fun _ => rfl) _) hws))
      · intro y hy
        rcases List.mem_append.mp hy with hy | hy
        · exact z5 y hy
        · exact (List.mem_filter.mp (List.mem_filter.mp hy).1).1
      · have y1 := filter_split (fun x => !decide (x ∈ l)) (fun x => decide (x ∈ nm g (l.getD n (0, 0)))) (plcs g)
        have y2 : (L0.filter fun x => !decide (x ∈ l)) = (plcs g).filter fun x => !decide (x ∈ l) && decide (x ∈ nm g (l.getD n (0, 0))) := List.filter_filter ..
        have y3 : ((plcs g).filter fun x => !decide (x ∈ l ++ L0.filter fun x => !decide (x ∈ l))).length ≤ ((plcs g).filter fun x => !decide (x ∈ l) && !decide (x ∈ nm g (l.getD n (0, 0)))).length := filter_le fun x hx h => by
          have h := of_decide_eq_false (Bool.not_eq_true' _ ▸ h : decide _ = false)
          rw [List.mem_append, not_or] at h
          rw [decide_eq_false h.1]
          have h2 : ¬ x ∈ nm g (l.getD n (0, 0)) := fun z => h.2 (List.mem_filter.mpr ⟨List.mem_filter.mpr ⟨hx, decide_eq_true z⟩, by rw [decide_eq_false h.1]; rfl⟩)
          rw [decide_eq_false h2]
          rfl
        rw [← y2] at y1
        rw [List.length_append]
        omega
      · rw [List.length_append]; omega
      · intro j hj y hy
        by_cases hjn : j = n
        · subst hjn
          have e3 : (l ++ L0.filter fun x => !decide (x ∈ l)).getD j (0, 0) = l.getD j (0, 0) := by
            rw [List.getD_eq_getElem?_getD, List.getD_eq_getElem?_getD, List.getElem?_append_left hn]
          rw [e3] at hy
          by_cases hyl : y ∈ l
          · exact List.mem_append.mpr (.inl hyl)
          · exact List.mem_append.mpr (.inr (List.mem_filter.mpr ⟨List.mem_filter.mpr ⟨nm_plcs ok hmp y hy, decide_eq_true hy⟩, by rw [decide_eq_false hyl]; rfl⟩))
        · have hj' : j < n := by omega
          have e3 : (l ++ L0.filter fun x => !decide (x ∈ l)).getD j (0, 0) = l.getD j (0, 0) := by
            rw [List.getD_eq_getElem?_getD, List.getD_eq_getElem?_getD, List.getElem?_append_left (by omega)]
          rw [e3] at hy
          exact List.mem_append.mpr (.inl (z8 j hj' y hy))
      · refine List.nodup_append.mpr ⟨z9, nodup_filter (nodup_filter (nodup_plcs g)), fun x hx y hy e => ?_⟩
        subst e
        have z := (List.mem_filter.mp hy).2
        rw [decide_eq_true hx] at z
        cases z
      · show 11 - ((n : Int) + 1).toNat < 11 - (n : Int).toNat
        omega
  · rintro σ' H' ⟨l, vs, n, x, rfl, z1, z2, z3, z4, z5, z6, z7, z8, z9⟩ hb H4 s4
    rw [ltB_eq z2] at hb
    have hb : ¬ (n : Int) < (vs.length : Int) := of_decide_eq_false hb
    have hlv : vs.length = l.length := by rw [z3.length, List.length_map]
    have hn : n = l.length := by omega
    have z2 := s4 _ _ z2
    have z3 := DnL.same s4 _ z3
    have z1 := z1.trans s4
    have hlen : l.length ≤ 10 := by omega
    refine ⟨_, rfl, p, vs, rfl, SqL.of z2, by omega, ?_, ?_⟩
    · intro x hx
      obtain ⟨i, hi, e⟩ := List.getElem_of_mem hx
      obtain ⟨d, q1, q2⟩ := z3.get' (List.getElem?_eq_getElem hi)
      rw [e] at q2
      obtain ⟨b, _, hb, rfl⟩ := map_get' q1
      refine ⟨pI b, ?_, rfl, bd_P ok (z5 b hb)⟩
      obtain ⟨t, xs, h1, h2, h3⟩ := q2
      have h3 : xs = (pI b).map V.int := dn_ints (ns := pI b) h3
      subst h3
      exact ⟨t, h1, SqT.of h2⟩
    · intro ys pr hperm _ hpr
      obtain ⟨l', hl', hd'⟩ := DnL.perm hperm z3
      refine k l' pr ys _ ⟨hl'.mem_iff.mpr z4, fun x hx => z5 x (hl'.mem_iff.mp hx), fun x hx y hy => ?_, by rw [hl'.length_eq]; exact hlen, hl'.nodup_iff.mpr z9⟩ (z1.trans (Same.new hpr)) (none_of z1 hpr) upd_same (DnL.same (Same.new hpr) _ hd')
      have hx := hl'.mem_iff.mp hx
      obtain ⟨i, hi, e⟩ := List.getElem_of_mem hx
      refine hl'.mem_iff.mpr (z8 i (by omega) y ?_)
      rw [List.getD_eq_getElem?_getD, List.getElem?_eq_getElem hi, e]
      exact hy
  · intro σ H Q Q' hq hc
    obtain ⟨v, e, u, e2, y, n', f1, f2, i, j, g1, g2, b', g3, g4⟩ := hc
    exact ⟨v, e, u, e2, y, n', f1, f2, i, j, g1, g2, b', g3, hq _ _ g4⟩
end Odd

set_option Elab.async false
set_option linter.all false
set_option maxRecDepth 100000
set_option maxHeartbeats 4000000
/-! Part 14: the chain's equations: unknowns, terms; small checks. -/
namespace Odd
open PySem PySem.Spec PyProof.Rows L2
variable {P : Program} {w : World} {h : Heap} {K : PySem.W.Frag} {mg : Str → Option Value} {base : Heap}
theorem ev_isG (F : Fs w h K mg) {σ : L2.St} {H : Hp} {ta : TE} {a : Addr} {g : Gr} (ha : EvD K ta σ H (.o a)) (hg : IsG K H g a) : EvD K (tCB (rIsi K) (tCons ta (tCons (tC (.ref (He.ga K "Graph"))) tNil))) σ H (.b true) := fun H1 s1 Q q => ha H1 s1 _ fun v H2 s2 hv => by
  obtain ⟨dx, u, h1, _⟩ := hg
  have z := F.isi
  unfold isiB at z
  obtain ⟨z1, z⟩ := He.ba z
  obtain ⟨z2, z⟩ := He.ba z
  obtain ⟨z3, z⟩ := He.ba z
  obtain ⟨z4, z5⟩ := He.ba z
  exact ⟨v, _, .ref (He.ga K "Graph"), .ref (He.ga K "Graph"), true, rfl, .own _, by rw [show v = .ref a from hv]; exact .base (.ins (s2 _ _ (s1 _ _ h1)) F.cls_Graph (He.eqO_ok z1) (He.eqO_ok z2) (of_decide_eq_true z3) (of_decide_eq_true z4)), of_decide_eq_true z5, q _ H2 s2 rfl⟩
theorem ev_nisG (F : Fs w h K mg) {σ : L2.St} {H : Hp} {ta : TE} {a : Addr} {g : Gr} (ha : EvD K ta σ H (.o a)) (hg : IsG K H g a) : EvT (tNot (tB (tCB (rIsi K) (tCons ta (tCons (tC (.ref (He.ga K "Graph"))) tNil))))) σ H false := (et_not (et_B (ev_isG F ha hg))).to rfl
def RNone : Gr → List D → D → Prop := fun _ ds r => ds = [] ∧ r = .n
theorem ev_chain? {σ : L2.St} {H : Hp} {ta : TE} {a : Addr} {g : Gr} (ha : EvD K ta σ H (.o a)) (ok : Ok g) (hg : IsG K H g a) : EvT (tNot (tB (tMeth (He.ga K "Graph") "is_chain" (spG K RChain) [] E0 ta tNil))) σ H false := (et_not (et_B (b := true) (ev_methG ha ea_nil ok hg (by decide) ⟨rfl, rfl⟩))).to rfl
abbrev N_check_chain_equations : List Str := ["graph"]
theorem sc_check_chain_equations : FnScope N_check_chain_equations ["graph"] (defScope s_check_chain_equations) := ⟨rfl, rfl, rfl, by decide +kernel, rfl, by decide +kernel, by decide +kernel⟩
theorem c_check_chain_equations (F : Fs w h K mg) : Cal P w K mg base "check_chain_equations" 2 ["graph"] (spG K RNone) := by
  have c_Graph_is_chain : CalM P w K mg base (He.ga K "Graph") "is_chain" 1 ["self"] (spG K RChain) := c_Graph_is_chain F
  refine F.d_check_chain_equations.cal sc_check_chain_equations (fun _ _ _ _ _ _ us hl => match us, hl with | [_], _ => rfl) (spG_len fun g ds d r => by obtain ⟨rfl, _⟩ := r; rfl) fun f cdv A outer s H vs Q E hr hs => ?_
  obtain ⟨g, a, ws, ds, d, rfl, ok, hg, hv, ⟨rfl, rfl⟩, k⟩ := hs
  cases hv
  refine ⟨_, (pss_cons (ps_if (pt_not (pt_val (pe_callB (r := rIsi K) call_isi (by rfl) F.f_isinstance bt_isi (pa_cons (pv 0) (pa_cons (pe_glob (v := .ref (He.ga K "Graph")) rfl F.g_Graph rfl) pa_nil))))) pss_never pss_nil) (pss_one (ps_if (pt_not (pt_val (pe_calM0 c_Graph_is_chain F.cls_Graph (hr.mono (by decide)) (pv 0)))) pss_never pss_nil))), ?_⟩
  refine st_no (ev_nisG F (ev_var rfl rfl) hg) fun H1 s1 => ?_
  exact st_last (ev_chain? (ev_var rfl rfl) ok (hg.same s1)) fun H2 s2 => k _ H2 (s1.trans s2) rfl
abbrev N_check_graph : List Str := ["graph"]
theorem sc_check_graph : FnScope N_check_graph ["graph"] (defScope s_check_graph) := ⟨rfl, rfl, rfl, by decide +kernel, rfl, by decide +kernel, by decide +kernel⟩
theorem c_check_graph (F : Fs w h K mg) : Cal P w K mg base "check_graph" 1 ["graph"] (spG K RNone) := by
  refine F.d_check_graph.cal sc_check_graph (fun _ _ _ _ _ _ us hl => match us, hl with | [_], _ => rfl) (spG_len fun g ds d r => by obtain ⟨rfl, _⟩ := r; rfl) fun f cdv A outer s H vs Q E hr hs => ?_
  obtain ⟨g, a, ws, ds, d, rfl, ok, hg, hv, ⟨rfl, rfl⟩, k⟩ := hs
  cases hv
  refine ⟨_, (pss_one (ps_if (pt_not (pt_val (pe_callB (r := rIsi K) call_isi (by rfl) F.f_isinstance bt_isi (pa_cons (pv 0) (pa_cons (pe_glob (v := .ref (He.ga K "Graph")) rfl F.g_Graph rfl) pa_nil))))) pss_never pss_nil)), ?_⟩
  exact st_last (ev_nisG F (ev_var rfl rfl) hg) fun H2 s2 => k _ H2 s2 rfl
abbrev N_check_chain_masses : List Str := ["graph"]
theorem sc_check_chain_masses : FnScope N_check_chain_masses ["graph"] (defScope s_check_chain_masses) := ⟨rfl, rfl, rfl, by decide +kernel, rfl, by decide +kernel, by decide +kernel⟩
theorem c_check_chain_masses (F : Fs w h K mg) : Cal P w K mg base "check_chain_masses" 2 ["graph"] (spG K RNone) := by
  have c_Graph_is_chain : CalM P w K mg base (He.ga K "Graph") "is_chain" 1 ["self"] (spG K RChain) := c_Graph_is_chain F
  have c_check_graph : Cal P w K mg base "check_graph" 1 ["graph"] (spG K RNone) := c_check_graph F
  refine F.d_check_chain_masses.cal sc_check_chain_masses (fun _ _ _ _ _ _ us hl => match us, hl with | [_], _ => rfl) (spG_len fun g ds d r => by obtain ⟨rfl, _⟩ := r; rfl) fun f cdv A outer s H vs Q E hr hs => ?_
  obtain ⟨g, a, ws, ds, d, rfl, ok, hg, hv, ⟨rfl, rfl⟩, k⟩ := hs
  cases hv
  refine ⟨_, (pss_cons (ps_expr (pe_cal c_check_graph (hr.mono (by decide)) (pa_cons (pv 0) pa_nil))) (pss_one (ps_if (pt_not (pt_val (pe_calM0 c_Graph_is_chain F.cls_Graph (hr.mono (by decide)) (pv 0)))) pss_never pss_nil))), ?_⟩
  refine st_drop K (ev_callG (R := RNone) (d := .n) (ds := []) (ea_1 (ev_var rfl rfl)) ok hg ⟨rfl, rfl⟩) fun H1 s1 => ?_
  exact st_last (ev_chain? (ev_var rfl rfl) ok (hg.same s1)) fun H2 s2 => k _ H2 (s1.trans s2) rfl
abbrev N_check_place : List Str := ["graph", "place"]
theorem sc_check_place : FnScope N_check_place ["graph", "place"] (defScope s_check_place) := ⟨rfl, rfl, rfl, by decide +kernel, rfl, by decide +kernel, by decide +kernel⟩
theorem c_check_place (F : Fs w h K mg) : Cal P w K mg base "check_place" 4 ["graph", "place"] (spG K RChkPl) := by
  have c_Graph_is_place : CalM P w K mg base (He.ga K "Graph") "is_place" 3 ["self", "value"] (spG K RIsPl) := c_Graph_is_place F
  have c_check_graph : Cal P w K mg base "check_graph" 1 ["graph"] (spG K RNone) := c_check_graph F
  refine F.d_check_place.cal sc_check_place (fun _ _ _ _ _ _ us hl => match us, hl with | [_, _], _ => rfl) (spG_len fun g ds d r => by obtain ⟨_, rfl, _⟩ := r; rfl) fun f cdv A outer s H vs Q E hr hs => ?_
  obtain ⟨g, a, ws, ds, d, rfl, ok, hg, hv, ⟨q, rfl, hq, rfl⟩, k⟩ := hs
  obtain ⟨v1, _, rfl, h1, rfl⟩ := hv
  refine ⟨_, (pss_cons (ps_expr (pe_cal c_check_graph (hr.mono (by decide)) (pa_cons (pv 0) pa_nil))) (pss_one (ps_if (pt_not (pt_val (pe_calM c_Graph_is_place F.cls_Graph (hr.mono (by decide)) (pv 0) (pa_cons (pv 1) pa_nil)))) pss_never pss_nil))), ?_⟩
  refine st_drop K (ev_callG (R := RNone) (d := .n) (ds := []) (ea_1 (ev_var rfl rfl)) ok hg ⟨rfl, rfl⟩) fun H1 s1 => ?_
  exact st_last ((et_not (et_B (b := true) (ev_methG (ev_var rfl rfl) (ea_1 (ev_var rfl (Dn.same s1 _ h1))) ok (hg.same s1) (by decide) ⟨q, rfl, hq, rfl⟩))).to rfl) fun H2 s2 => k _ H2 (s1.trans s2) rfl
def RExits : Gr → List D → D → Prop := fun g ds r => ∃ q, ds = [encPc q] ∧ q ∈ plcs g ∧ r = nD (exitsOf g q.1)
/-- graph.procedures[place[0]][0] -/
theorem ev_ex {σ : L2.St} {H : Hp} {ta tb : TE} {g : Gr} {p : Nat} (ha : EvD K ta σ H (encG g)) (hb : EvD K tb σ H (nD p)) (hp : p < g.length) : EvD K (tOp (rIxT K) (tOp (rIxT K) ta tb) (tC (.int 0))) σ H (nD (exitsOf g p)) :=
  ev_ix (n := 0) (ev_ix (n := p) ha.tc hb rfl (encL_get hp) : EvD K _ _ H (.t [nD (g.getD p (0, [])).1, .t ((g.getD p (0, [])).2.map encPt)])).tc ev_int rfl ix0
abbrev N_exits_of : List Str := ["graph", "place"]
theorem sc_exits_of : FnScope N_exits_of ["graph", "place"] (defScope s_exits_of) := ⟨rfl, rfl, rfl, by decide +kernel, rfl, by decide +kernel, by decide +kernel⟩
theorem c_exits_of (F : Fs w h K mg) : Cal P w K mg base "exits_of" 1 ["graph", "place"] (spG K RExits) := by
  refine F.d_exits_of.cal sc_exits_of (fun _ _ _ _ _ _ us hl => match us, hl with | [_, _], _ => rfl) (spG_len fun g ds d r => by obtain ⟨_, rfl, _⟩ := r; rfl) fun f cdv A outer s H vs Q E hr hs => ?_
  obtain ⟨g, a, ws, ds, d, rfl, ok, hg, hv, ⟨q, rfl, hq, rfl⟩, k⟩ := hs
  obtain ⟨v1, _, rfl, h1, rfl⟩ := hv
  refine ⟨_, (pss_one (ps_ret (pe_ix (r := rIxT K) ix_tup (pe_ix (r := rIxT K) ix_tup (show PE _ _ (tFld K _ _) from pe_fld (pv 0) rfl) (pe_ix (r := rIxT K) ix_tup (pv 1) pe_int (fun _ _ => rfl)) (fun _ _ => rfl)) pe_int (fun _ _ => rfl)))), ?_⟩
  exact st_ret K (ev_ex (ev_procs F (ev_var rfl rfl) hg) (ev_ix (n := 0) (ev_var rfl h1) ev_int rfl ix0) (mem_places.mp hq).1) k
def RChkWay : Gr → List D → D → Prop := fun g ds r => ∃ (q : Nat × Nat) (x : Nat), ds = [encPc q, nD x] ∧ q ∈ plcs g ∧ x < exitsOf g q.1 + 2 ∧ r = .n
abbrev N_check_way : List Str := ["graph", "place", "way"]
theorem sc_check_way : FnScope N_check_way ["graph", "place", "way"] (defScope s_check_way) := ⟨rfl, rfl, rfl, by decide +kernel, rfl, by decide +kernel, by decide +kernel⟩
theorem c_check_way (F : Fs w h K mg) : Cal P w K mg base "check_way" 2 ["graph", "place", "way"] (spG K RChkWay) := by
  have c_is_integer_rationals : Cal P w K mg base "is_integer_rationals" 1 ["x"] (spP K RIsInt) := c_is_integer_rationals F
  have c_exits_of : Cal P w K mg base "exits_of" 1 ["graph", "place"] (spG K RExits) := c_exits_of F
  refine F.d_check_way.cal sc_check_way (fun _ _ _ _ _ _ us hl => match us, hl with | [_, _, _], _ => rfl) (spG_len fun g ds d r => by obtain ⟨_, _, rfl, _⟩ := r; rfl) fun f cdv A outer s H vs Q E hr hs => ?_
  obtain ⟨g, a, ws, ds, d, rfl, ok, hg, hv, ⟨q, x, rfl, hq, hx, rfl⟩, k⟩ := hs
  obtain ⟨v1, _, rfl, h1, v2, _, rfl, h2, rfl⟩ := hv
  cases (show v2 = .int x from h2)
  refine ⟨_, (pss_one (ps_if (PW.pt (pw_or (pt_not (pt_val (pe_cal c_is_integer_rationals (hr.mono (by decide)) (pa_cons (pv 2) pa_nil)))) (pw_or1 (pt_not (pt_chain op_le op_lt pe_int (pv 2) (pe_op op_add (pe_cal c_exits_of (hr.mono (by decide)) (pa_cons (pv 0) (pa_cons (pv 1) pa_nil))) pe_int)))))) pss_never pss_nil)), ?_⟩
  refine st_last ((et_or (a := false) (b := false) ((et_not (et_B (b := true) (ev_call (ea_1 (ev_i rfl)) ⟨_, rfl, rfl⟩))).to rfl) fun _ => (et_not (et_cmp (K := K) (b := true) ((ev_chainI (g := fun i j => decide (i ≤ j)) (g' := fun i j => decide (i < j)) ev_int (ev_i rfl) (ev_op0 (g := fun i j => i + j) (ev_callG (R := RExits) (d := nD (exitsOf g q.1)) (ea_2 (ev_var rfl rfl) (ev_var rfl h1)) ok hg ⟨q, rfl, hq, rfl⟩) ev_int)).to ?_))).to rfl).to rfl) fun H1 s1 => k _ H1 s1 rfl
  rw [decide_eq_true (Int.natCast_nonneg x), decide_eq_true (show (x : Int) < ((exitsOf g q.1 : Nat) : Int) + 2 by omega)]; rfl
def RDepth : List D → D → Prop := fun ds r => ∃ n : Nat, ds = [nD n] ∧ n ≤ 40 ∧ r = .n
abbrev N_check_depth : List Str := ["depth"]
theorem sc_check_depth : FnScope N_check_depth ["depth"] (defScope s_check_depth) := ⟨rfl, rfl, rfl, by decide +kernel, rfl, by decide +kernel, by decide +kernel⟩
theorem c_check_depth (F : Fs w h K mg) : Cal P w K mg base "check_depth" 2 ["depth"] (spP K RDepth) := by
  have c_is_integer_rationals : Cal P w K mg base "is_integer_rationals" 1 ["x"] (spP K RIsInt) := c_is_integer_rationals F
  obtain ⟨_, hm_MOST_DEPTH, hr_MOST_DEPTH⟩ := F.k_MOST_DEPTH
  refine F.d_check_depth.cal sc_check_depth (fun _ _ _ _ _ _ us hl => match us, hl with | [_], _ => rfl) (spP_len fun ds d r => by obtain ⟨_, rfl, _⟩ := r; rfl) fun f cdv A outer s H vs Q E hr hs => ?_
  obtain ⟨ds, r, hv, ⟨n, rfl, hn, rfl⟩, k⟩ := hs
  obtain ⟨v1, _, rfl, h1, rfl⟩ := hv
  cases (show v1 = .int n from h1)
  refine ⟨_, (pss_one (ps_if (PW.pt (pw_or (pt_not (pt_val (pe_cal c_is_integer_rationals (hr.mono (by decide)) (pa_cons (pv 0) pa_nil)))) (pw_or1 (pt_not (pt_chain op_le op_le pe_int (pv 0) (pe_glob rfl hm_MOST_DEPTH hr_MOST_DEPTH)))))) pss_never pss_nil)), ?_⟩
  refine st_last ((et_or (a := false) (b := false) ((et_not (et_B (b := true) (ev_call (ea_1 (ev_i rfl)) ⟨_, rfl, rfl⟩))).to rfl) fun _ => (et_not (et_cmp (K := K) (b := true) ((ev_chainI (g := fun i j => decide (i ≤ j)) (g' := fun i j => decide (i ≤ j)) ev_int (ev_i rfl) ev_int).to ?_))).to rfl).to rfl) fun H1 s1 => k _ H1 s1 rfl
  rw [decide_eq_true (Int.natCast_nonneg n), decide_eq_true (show (n : Int) ≤ 40 by omega)]; rfl
def REnded : Gr → List D → D → Prop := fun g ds r => ∃ q, ds = [encPc q] ∧ q ∈ plcs g ∧ (ptAt g q.1 q.2).ends = true ∧ r = nD (endWay g q.1 (ptAt g q.1 q.2))
abbrev N_ended_way : List Str := ["graph", "place", "point"]
theorem sc_ended_way : FnScope N_ended_way ["graph", "place"] (defScope s_ended_way) := ⟨rfl, rfl, rfl, by decide +kernel, rfl, by decide +kernel, by decide +kernel⟩
theorem c_ended_way (F : Fs w h K mg) : Cal P w K mg base "ended_way" 6 ["graph", "place"] (spG K REnded) := by
  have c_Graph_point_at : CalM P w K mg base (He.ga K "Graph") "point_at" 5 ["self", "place"] (spG K RPointAt) := c_Graph_point_at F
  have c_exits_of : Cal P w K mg base "exits_of" 1 ["graph", "place"] (spG K RExits) := c_exits_of F
  refine F.d_ended_way.cal sc_ended_way (fun _ _ _ _ _ _ us hl => match us, hl with | [_, _], _ => rfl) (spG_len fun g ds d r => by obtain ⟨_, rfl, _⟩ := r; rfl) fun f cdv A outer s H vs Q E hr hs => ?_
  obtain ⟨g, a, ws, ds, d, rfl, ok, hg, hv, ⟨q, rfl, hq, he, rfl⟩, k⟩ := hs
  obtain ⟨v1, _, rfl, h1, rfl⟩ := hv
  refine ⟨_, (pss_cons (ps_set (i := 2) sc_ended_way.nd rfl (Or.inl rfl) (pe_calM c_Graph_point_at F.cls_Graph (hr.mono (by decide)) (pv 0) (pa_cons (pv 1) pa_nil))) (pss_cons (ps_if (pt_cmpR op_eq (pe_ix (r := rIxT K) ix_tup (pv 2) pe_int (fun _ _ => rfl)) pe_str (nomark _)) (pss_one (ps_ret (pe_ix (r := rIxT K) ix_tup (pv 2) pe_int (fun _ _ => rfl)))) pss_nil) (pss_cons (ps_if (pt_cmpR op_eq (pe_ix (r := rIxT K) ix_tup (pv 2) pe_int (fun _ _ => rfl)) pe_str (nomark _)) (pss_one (ps_ret (pe_cal c_exits_of (hr.mono (by decide)) (pa_cons (pv 0) (pa_cons (pv 1) pa_nil))))) pss_nil) (pss_cons (ps_if (pt_cmpR op_eq (pe_ix (r := rIxT K) ix_tup (pv 2) pe_int (fun _ _ => rfl)) pe_str (nomark _)) (pss_one (ps_ret (pe_op op_add (pe_cal c_exits_of (hr.mono (by decide)) (pa_cons (pv 0) (pa_cons (pv 1) pa_nil))) pe_int))) pss_nil) (pss_one (ps_ret pe_non)))))), ?_⟩
  refine st_set K (ev_methG (ev_var rfl rfl) (ea_1 (ev_var rfl h1)) ok hg (by decide) ⟨q, rfl, hq, rfl⟩) fun pv H1 s1 hp => ?_
  rw [encPt_eq] at hp
  have V2 : EvD K (tVar 2) [some (.ref a), some v1, some pv] H1 (.c (.s (wd (ptAt g q.1 q.2)) :: rst (ptAt g q.1 q.2))) := ev_var rfl hp.tc
  have W : ∀ z : Str, EvT (tTest (tOp rEq (tOp (rIxT K) (tVar 2) (tC (.int 0))) (tC (.str z)))) [some (.ref a), some v1, some pv] H1 (decide (wd (ptAt g q.1 q.2) = z)) := fun z => et_cmp (ev_eqS (ev_ix (n := 0) V2 ev_int rfl ix0) ev_str)
  have X : ∀ {H'}, Same H1 H' → EvD K (tCall (spG K RExits) [] E0 (tCons (tVar 0) (tCons (tVar 1) tNil))) [some (.ref a), some v1, some pv] H' (nD (exitsOf g q.1)) := fun s => ev_callG (ea_2 (ev_var rfl rfl) (ev_var rfl (Dn.same (s1.trans s) _ h1))) ok (hg.same (s1.trans s)) ⟨q, rfl, hq, rfl⟩
  have kk : ∀ v H', Same H1 H' → Dn K H' (nD (endWay g q.1 (ptAt g q.1 q.2))) v → Q v H' := fun v H' s' hv => k v H' (s1.trans s') hv
  cases e : ptAt g q.1 q.2 with
  | exit x =>
    rw [e] at W V2 kk
    exact st_ifq ((W "exit").to (show decide (("exit" : Str) = "exit") = true by decide)) (fun _ H3 s3 => st_ret K (ev_ix (n := 1) (V2.mono s3) ev_int rfl ix1) fun v H' s' hv => kk v H' (s3.trans s') hv) fun z => nomatch z
  | reject =>
    rw [e] at W V2 kk
    refine st_no ((W "exit").to (show decide (("reject" : Str) = "exit") = false by decide)) fun H3 s3 => ?_
    exact st_ifq (((W "reject").mono s3).to (show decide (("reject" : Str) = "reject") = true by decide)) (fun _ H4 s4 => st_ret K (X (s3.trans s4)) fun v H' s' hv => kk v H' ((s3.trans s4).trans s') hv) fun z => nomatch z
  | stop =>
    rw [e] at W V2 kk
    refine st_no ((W "exit").to (show decide (("stop" : Str) = "exit") = false by decide)) fun H3 s3 => ?_
    refine st_no (((W "reject").mono s3).to (show decide (("stop" : Str) = "reject") = false by decide)) fun H4 s4 => ?_
    exact st_ifq (((W "stop").mono (s3.trans s4)).to (show decide (("stop" : Str) = "stop") = true by decide)) (fun _ H5 s5 => st_ret K (ev_op0 (g := fun i j => i + j) (X ((s3.trans s4).trans s5)) ev_int) fun v H' s' hv => kk v H' (((s3.trans s4).trans s5).trans s') hv) fun z => nomatch z
  | draw bs => rw [e] at he; cases he
  | call r ps => rw [e] at he; cases he
  | reward x y => rw [e] at he; cases he
/-! ### unknowns and terms -/
def RUnks : Gr → List D → List D → Prop := fun g ds r => ds = [] ∧ r = (unks g).map encU
theorem flatMap_getD {α β : Type} {f : α → List β} {d : α} (l : List α) : ((List.range l.length).flatMap fun i => f (l.getD i d)) = l.flatMap f := by
  rw [← List.flatMap_map]
  rw [show (List.range l.length).map (fun i => l.getD i d) = l from by
    have z := map_range_getD (f := fun x : α => x) (d := d) l
    rw [List.map_id'] at z
    exact z]
theorem unks_enc {g : Gr} : ((List.range (plcs g).length).flatMap fun i => (List.range (rangeD (exitsOf g ((plcs g).getD i (0, 0)).1 + 2)).length).map fun j => encU (((plcs g).getD i (0, 0)).1, ((plcs g).getD i (0, 0)).2, j)) = (unks g).map encU := by
  unfold unks
  rw [List.map_flatMap, ← flatMap_getD (d := (0, 0)) (plcs g)]
  congr 1
  funext i
  rw [rangeD_len, List.map_map]
  rfl
abbrev N_all_unknowns : List Str := ["graph", "procedure", "point", "way"]
theorem sc_all_unknowns : FnScope N_all_unknowns ["graph"] (defScope s_all_unknowns) := ⟨rfl, rfl, rfl, by decide +kernel, rfl, by decide +kernel, by decide +kernel⟩
theorem c_all_unknowns (F : Fs w h K mg) : Cal P w K mg base "all_unknowns" 6 ["graph"] (spGF K RUnks) := by
  have c_Graph_places : CalM P w K mg base (He.ga K "Graph") "places" 1 ["self"] (spGF K RPlaces) := c_Graph_places F
  have c_Graph_ways : CalM P w K mg base (He.ga K "Graph") "ways" 5 ["self", "place"] (spGF K RWays) := c_Graph_ways F
  refine F.d_all_unknowns.cal sc_all_unknowns (fun _ _ _ _ _ _ us hl => match us, hl with | [_], _ => rfl) (spGF_len fun g ds d r => by obtain ⟨rfl, _⟩ := r; rfl) fun f cdv A outer s H vs Q E hr hs => ?_
  obtain ⟨g, a, ws, ds, d, rfl, ok, hg, hv, ⟨rfl, rfl⟩, k⟩ := hs
  cases hv
  refine ⟨_, (pss_one (ps_ret (pe_lc2 (wi1 := iList K _) (own := [("procedure", 1), ("point", 2), ("way", 3)]) (vs1 := [3]) (g := gTup K 2 (gCons (gName 1) (gCons (gName 2) gNil))) (tt := tYes) (tt1 := tYes) (g1 := gName 3) rfl sc_all_unknowns.nd (pi_list (pe_calM0 c_Graph_places F.cls_Graph (hr.mono (by decide)) (pv 0))) (blkOk_by (N := N_all_unknowns) (sc := defScope s_all_unknowns) (by decide +kernel))  (by decide) (fun _ _ _ _ _ => (pg_tup rfl (pgs_cons (pg_name (i := 1) sc_all_unknowns.nd rfl (Or.inl rfl)) (pgs_cons (pg_name (i := 2) sc_all_unknowns.nd rfl (Or.inl rfl)) pgs_nil)))) (fun _ _ _ _ _ => pts_nil) (fun _ _ _ _ _ => (pi_list (pe_calM c_Graph_ways F.cls_Graph (hr.mono (by decide)) (pv 0) (pa_cons (pe_tup (pa_cons (pv 1) (pa_cons (pv 2) pa_nil))) pa_nil)))) (fun _ _ _ _ _ => (pg_name (i := 3) sc_all_unknowns.nd rfl (Or.inl rfl))) (fun _ _ _ _ _ => pts_nil) (fun _ _ _ _ _ => (pe_tup (pa_cons (pv 1) (pa_cons (pv 2) (pa_cons (pv 3) pa_nil)))))))), ?_⟩
  have hl10 := len_places ok
  have hpl : ((plcs g).map encP).length = (plcs g).length := List.length_map ..
  have hq : ∀ i, i < (plcs g).length → (plcs g).getD i (0, 0) ∈ plcs g := fun i hi => getD_mem _ _ _ hi
  refine st_retF ((ev_lc2 (ei_lst (evF_methG (RF := RPlaces) (l := (plcs g).map encP) (ev_var rfl rfl) ea_nil ok hg (by decide) ⟨rfl, rfl⟩).d) (fun i => rangeD (exitsOf g ((plcs g).getD i (0, 0)).1 + 2)) (fun i j => encU (((plcs g).getD i (0, 0)).1, ((plcs g).getD i (0, 0)).2, j)) (fun _ _ _ _ => rfl) (by omega) ?_ ?_).to (by rw [hpl]; exact unks_enc)) k
  · intro i hi
    rw [hpl] at hi
    rw [rangeD_len]
    have := ok.ex (mem_places.mp (hq i hi)).1
    omega
  · intro i d x H' e s' hx k1 hk1
    obtain ⟨b, hb1, hb2, rfl⟩ := map_get' e
    have e2 : (plcs g).getD i (0, 0) = b := by rw [List.getD_eq_getElem?_getD, hb1]; rfl
    refine g_pair hx.tc fun u q' hu hq' => ?_
    cases (show u = .int b.1 from hu)
    cases (show q' = .int b.2 from hq')
    have hex := ok.ex (mem_places.mp hb2).1
    subst e2
    refine hk1 _ rfl (eif_lst (ns := (List.range (exitsOf g ((plcs g).getD i (0, 0)).1 + 2)).map fun i : Nat => (i : Int)) ((evF_methG (RF := RWays) (ev_var rfl rfl) (ea_1 (ev_tup (ea_2 (ev_i rfl) (ev_i rfl))).tc) ok (hg.same s') (by decide) ⟨_, rfl, hb2, rfl⟩).to (by rw [List.map_map]; rfl)) |> fun z => by rw [List.map_map] at z; exact z) ?_
    intro j e y H'' ej _ hy k2 hk2
    obtain ⟨hj, rfl⟩ := rangeD_get ej
    cases (show y = .int j from hy)
    exact hk2 _ rfl (ev_tup (ea_3 (ev_i rfl) (ev_i rfl) (ev_i rfl)))
end Odd

set_option Elab.async false
set_option linter.all false
set_option maxRecDepth 100000
set_option maxHeartbeats 4000000
/-! Part 15: the terms. -/
namespace Odd
open PySem PySem.Spec PyProof.Rows L2
variable {P : Program} {w : World} {h : Heap} {K : PySem.W.Frag} {mg : Str → Option Value} {base : Heap}
def encTm (t : Tm) : D := .t [qD t.1.1 t.1.2, .t (t.2.map encU)]
theorem nol_encTm (t : Tm) : nol (encTm t) = true := by
  show (true && (nolL (t.2.map encU) && true)) = true
  rw [nolL_map (f := encU) fun _ => rfl]; rfl
theorem encU_dn {H : Hp} {u : U} {v : V} (h : Dn K H (encU u) v) : Dn K H (.c [nD u.1, nD u.2.1, nD u.2.2]) v := Dn.tc h
theorem ev_oneE (F : Fs w h K mg) {σ : L2.St} {H : Hp} : EvD K (tC (.ref (He.ga K "ONE_equations"))) σ H (qD 1 1) := ev_c ⟨_, _, rfl, F.oneE H, _, _, rfl, rfl, _, _, rfl, rfl, rfl⟩
theorem ev_oneR (F : Fs w h K mg) {σ : L2.St} {H : Hp} : EvD K (tC (.ref (He.ga K "ONE_rationals"))) σ H (qD 1 1) := ev_c ⟨_, _, rfl, F.oneR H, _, _, rfl, rfl, _, _, rfl, rfl, rfl⟩
theorem ev_zero (F : Fs w h K mg) {σ : L2.St} {H : Hp} : EvD K (tC (.ref (He.ga K "ZERO"))) σ H (qD 0 1) := ev_c ⟨_, _, rfl, F.zero H, _, _, rfl, rfl, _, _, rfl, rfl, rfl⟩
theorem evF_if {σ : L2.St} {H : Hp} {t : TT} {ta tb : TE} {b : Bool} {ds : List D} (ht : EvT t σ H b) (h1 : b = true → EvF K ta σ H ds) (h2 : b = false → EvF K tb σ H ds) : EvF K (tIf t ta tb) σ H ds := fun H1 e Q q => ht H1 e _ fun H2 e2 => by
  cases b with
  | true => exact iteT (h1 rfl H2 (e.trans e2) Q fun p vs H3 e3 hp hl h3 => q p vs H3 (e2.trans e3) (none_of e2 hp) hl h3)
  | false => exact iteF (h2 rfl H2 (e.trans e2) Q fun p vs H3 e3 hp hl h3 => q p vs H3 (e2.trans e3) (none_of e2 hp) hl h3)
/-- the terms of a call, by place -/
def callTm (u : U) (r : Nat) (x : Nat × Nat) : Tm := ((1, 1), [(r, 0, x.2), (u.1, x.1, u.2.2)])
theorem zip_get {l : List Nat} {i a : Nat} (h : l[i]? = some a) : l.zipIdx[i]? = some (a, i) := by
  rw [List.getElem?_zipIdx, h]
  simp
theorem take_snoc {α : Type} {l : List α} {i : Nat} {a : α} (h : l[i]? = some a) : l.take (i + 1) = l.take i ++ [a] := by
  rw [List.take_add_one, h]
  rfl
def RCallT : Gr → List D → List D → Prop := fun g ds l => ∃ (u : U) (r : Nat) (ps : List Nat), ds = [encU u, encPt (.call r ps)] ∧ u ∈ unks g ∧ ptAt g u.1 u.2.1 = .call r ps ∧ l = (terms g u).map encTm
abbrev N_call_terms : List Str := ["graph", "unknown", "point", "procedure", "_", "way", "called", "found", "exit_at", "goes_on", "beyond"]
theorem sc_call_terms : FnScope N_call_terms ["graph", "unknown", "point"] (defScope s_call_terms) := ⟨rfl, rfl, rfl, by decide +kernel, rfl, by decide +kernel, by decide +kernel⟩
theorem c_call_terms (F : Fs w h K mg) : Cal P w K mg base "call_terms" 1 ["graph", "unknown", "point"] (spGF K RCallT) := by
  refine F.d_call_terms.cal sc_call_terms (fun _ _ _ _ _ _ us hl => match us, hl with | [_, _, _], _ => rfl) (spGF_len fun g ds d r => by obtain ⟨_, _, _, rfl, _⟩ := r; rfl) fun f cdv A outer s H vs Q E hr hs => ?_
  obtain ⟨g, a, ws, ds, d, rfl, ok, hg, hv, ⟨u, r, ps, rfl, hu, hpt, rfl⟩, k⟩ := hs
  obtain ⟨v1, _, rfl, h1, v2, _, rfl, h2, rfl⟩ := hv
  obtain ⟨hu1, hu2, hu3⟩ := mem_us.mp hu
  have hok := ok.at hu1 hu2
  rw [hpt] at hok
  obtain ⟨hr1, hr2, hr3⟩ := hok
  have hps : ps.length ≤ 2 := by rw [hr2]; exact ok.ex hr1
  have hex := ok.ex hu1
  refine ⟨_, (pss_cons (ps_asg (pv 1) (pg_tup rfl (pgs_cons (pg_name (i := 3) sc_call_terms.nd rfl (Or.inl rfl)) (pgs_cons (pg_name (i := 4) sc_call_terms.nd rfl (Or.inl rfl)) (pgs_cons (pg_name (i := 5) sc_call_terms.nd rfl (Or.inl rfl)) pgs_nil))))) (pss_cons (ps_set (i := 6) sc_call_terms.nd rfl (Or.inl rfl) (pe_ix (r := rIxT K) ix_tup (pv 2) pe_int (fun _ _ => rfl))) (pss_cons (ps_set (i := 7) sc_call_terms.nd rfl (Or.inl rfl) (pe_lst pa_nil)) (pss_cons (ps_for PassesOwn.never rfl (pi_enumT rfl F.f_enumerate (pa_cons (pe_ix (r := rIxT K) ix_tup (pv 2) pe_int (fun _ _ => rfl)) pa_nil)) (pg_tup rfl (pgs_cons (pg_name (i := 8) sc_call_terms.nd rfl (Or.inl rfl)) (pgs_cons (pg_name (i := 9) sc_call_terms.nd rfl (Or.inl rfl)) pgs_nil))) (pss_one (ps_expr (pe_bm PySem.F.plainAttrs_list PySem.F.slot_list_append PySem.F.type_list_append mt_append (pv 7) (pa_cons (pe_tup (pa_cons (pe_glob (v := .ref (He.ga K "ONE_equations")) rfl F.g_ONE_equations rfl) (pa_cons (pe_tup (pa_cons (pe_tup (pa_cons (pv 6) (pa_cons pe_int (pa_cons (pv 8) pa_nil)))) (pa_cons (pe_tup (pa_cons (pv 3) (pa_cons (pv 9) (pa_cons (pv 5) pa_nil)))) pa_nil))) pa_nil))) pa_nil))))) (pss_cons (ps_set (i := 10) sc_call_terms.nd rfl (Or.inl rfl) (pe_op op_sub (pv 5) (pe_ix (r := rIxT K) ix_tup (pe_ix (r := rIxT K) ix_tup (show PE _ _ (tFld K _ _) from pe_fld (pv 0) rfl) (pv 3) (fun _ _ => rfl)) pe_int (fun _ _ => rfl)))) (pss_cons (ps_if (pt_cmpR op_ge (pv 10) pe_int (nomark _)) (pss_one (ps_expr (pe_bm PySem.F.plainAttrs_list PySem.F.slot_list_append PySem.F.type_list_append mt_append (pv 7) (pa_cons (pe_tup (pa_cons (pe_glob (v := .ref (He.ga K "ONE_equations")) rfl F.g_ONE_equations rfl) (pa_cons (pe_tup (pa_cons (pe_tup (pa_cons (pv 6) (pa_cons pe_int (pa_cons (pe_op op_add (pe_ix (r := rIxT K) ix_tup (pe_ix (r := rIxT K) ix_tup (show PE _ _ (tFld K _ _) from pe_fld (pv 0) rfl) (pv 6) (fun _ _ => rfl)) pe_int (fun _ _ => rfl)) (pv 10)) pa_nil)))) pa_nil)) pa_nil))) pa_nil)))) pss_nil) (pss_one (ps_ret (pv 7))))))))), ?_⟩
  refine (ev_var (K := K) (i := 1) (d := .c [nD u.1, nD u.2.1, nD u.2.2]) rfl (Dn.tc h1)).run fun v H1 s1 hv => g_trip hv fun x1 x2 x3 g1 g2 g3 => ?_
  cases (show x1 = .int u.1 from g1)
  cases (show x2 = .int u.2.1 from g2)
  cases (show x3 = .int u.2.2 from g3)
  have V2 : ∀ {σ : L2.St} {H'}, σ[2]? = some (some v2) → Tk H H' → EvD K (tVar 2) σ H' (.c [.s "call", nD r, .t (ps.map nD)]) := fun e s => ev_var e (Dn.tk s (.c [.s "call", nD r, .t (ps.map nD)]) (nol_encPt (.call r ps)) h2.tc)
  refine st_set K (ev_ix (n := 1) (V2 rfl (Tk.of s1)) ev_int rfl ix1) fun t H2 s2 ht => ?_
  cases (show t = .int r from ht)
  refine st_setF (K := K) (evF_lst ea_nil) fun p us H3 s3 hp hl hd => ?_
  cases hd
  have s03 := (s1.trans s2).trans s3
  have hp0 : H p = none := none_of (s1.trans s2) hp
  let Pv : Hp → Nat → L2.St → Hp → Prop := fun H4 i σ' H' => Same H H' ∧ Tk H4 H' ∧ ∃ vs x y, σ' = [some (.ref a), some v1, some v2, some (.int u.1), some (.int u.2.1), some (.int u.2.2), some (.int r), some (.ref p), x, y, none] ∧
    H' p = some (.lst vs) ∧ DnL K H' ((ps.zipIdx.take i).map fun x => encTm (callTm u r x)) vs
  refine for_ev (ei_enumK (ev_ix (n := 2) (V2 rfl (Tk.of s03)) ev_int rfl rfl : EvD K _ _ H3 (.t (ps.map nD))).tc (nolL_map (f := nD) (fun _ => rfl) _)) Pv (fun H4 s4 => ⟨s03.trans s4, Tk.refl _, [], none, none, rfl, s4 _ _ hl, rfl⟩) (fun _ _ _ _ _ _ q => q.2.1) ?_ ?_
  · rintro H4 i d x σ' H5 H6 s4 e ⟨z1, z2, vs, x0, y0, rfl, z3, z4⟩ z5 hx
    have hi : i < ps.length := by
      have q := (List.getElem?_eq_some_iff.mp e).1
      rwa [enumD_len, List.length_map] at q
    have hget : ps[i]? = some (ps.getD i 0) := by rw [List.getD_eq_getElem?_getD, List.getElem?_eq_getElem hi]; rfl
    have hget' : (ps.map nD)[i]? = some (nD (ps.getD i 0)) := by rw [List.getElem?_map, hget]; rfl
    rw [enumD_get hget'] at e
    cases e
    refine g_pair hx.tc fun c1 c2 hc1 hc2 => ?_
    cases (show c1 = .int i from hc1)
    cases (show c2 = .int (ps.getD i 0) from hc2)
    have hvl : vs.length ≤ 100 := by rw [z4.length, List.length_map, List.length_take, List.length_zipIdx]; omega
    refine st_app1 (d := encTm (callTm u r (ps.getD i 0, i))) (ev_var rfl rfl) (z5 _ _ z3) (by omega) (ev_tup (ea_2 (ev_oneE F) (ev_tup (ea_2 (ev_tup (ea_3 (ev_i rfl) ev_int (ev_i rfl))) (ev_tup (ea_3 (ev_i rfl) (ev_i rfl) (ev_i rfl))))))) fun v H7 s7 hv hl7 => ?_
    have tk : Tk H7 (upd H7 p (.lst (vs ++ [v]))) := Tk.lst hl7
    refine ⟨Same.mut ((z1.trans z5).trans s7) hp0, (z2.trans (Tk.of (z5.trans s7))).trans tk, _, _, _, rfl, upd_same, ?_⟩
    rw [take_snoc (zip_get hget), List.map_append]
    exact DnL.snoc (DnL.tk tk _ (nolL_map (fun _ => nol_encTm _) _) (DnL.same (z5.trans s7) _ z4)) (Dn.tk tk _ (nol_encTm _) hv)
  · rintro H4 σ' H5 s4 ⟨z1, z2, vs, x0, y0, rfl, z3, z4⟩
    rw [enumD_len, List.length_map] at z4
    rw [show ps.zipIdx.take ps.length = ps.zipIdx from by rw [← List.length_zipIdx (l := ps), List.take_length]] at z4
    have G0 : ∀ {σ : L2.St} {H'}, σ[0]? = some (some (.ref a)) → Same H H' → EvD K (tFld K (tVar 0) "procedures") σ H' (encG g) := fun e s => ev_procs F (ev_var e rfl) (hg.same s)
    refine st_set K (ev_op0 (g := fun i j => i - j) (ev_i rfl) (ev_ex (G0 rfl z1) (ev_i rfl) hu1)) fun t H6 s6 ht => ?_
    cases (show t = .int ((u.2.2 : Int) - (exitsOf g u.1 : Nat)) from ht)
    have hvl : vs.length ≤ 100 := by rw [z4.length, List.length_map, List.length_zipIdx]; omega
    have et : (terms g u).map encTm = (ps.zipIdx.map fun x => encTm (callTm u r x)) ++ ((if exitsOf g u.1 ≤ u.2.2 then [((1, 1), [(r, 0, exitsOf g r + (u.2.2 - exitsOf g u.1))])] else [] : List Tm).map encTm) := by
      unfold terms
      rw [hpt]
      show List.map encTm (_ ++ _) = _
      rw [List.map_append, List.map_map]
      rfl
    refine st_ifj (b := decide (0 ≤ ((u.2.2 : Int) - (exitsOf g u.1 : Nat)))) (fun σ' H' => σ' = [some (.ref a), some v1, some v2, some (.int u.1), some (.int u.2.1), some (.int u.2.2), some (.int r), some (.ref p), x0, y0, some (.int ((u.2.2 : Int) - (exitsOf g u.1 : Nat)))] ∧ Same H H' ∧ ∃ vs, H' p = some (.lst vs) ∧ DnL K H' ((terms g u).map encTm) vs)
      (et_cmp (K := K) (ev_cmp0 (g := fun i j => decide (j ≤ i)) (ev_i rfl) ev_int)) ?_ fun kj => ⟨fun hb H7 s7 => ?_, fun hb H7 s7 => kj _ _ ⟨rfl, (z1.trans s6).trans s7, vs, s7 _ _ (s6 _ _ z3), ?_⟩⟩
    · rintro σ' H' ⟨rfl, y1, vs, y2, y3⟩
      exact ⟨_, rfl, k p vs H' y1 hp0 y2 y3⟩
    · have hb := of_decide_eq_true hb
      have hle : exitsOf g u.1 ≤ u.2.2 := by omega
      refine st_app1 (d := encTm ((1, 1), [(r, 0, exitsOf g r + (u.2.2 - exitsOf g u.1))])) (ev_var rfl rfl) (s7 _ _ (s6 _ _ z3)) (by omega) (ev_tup (ea_2 (ev_oneE F) (ev_tup (ea_1 (ev_tup (ea_3 (ev_i rfl) ev_int ((ev_op0 (g := fun i j => i + j) (ev_ex (G0 rfl ((z1.trans s6).trans s7)) (ev_i rfl) hr1) (ev_i rfl)).to ?_))))))) fun v H8 s8 hv hl8 => ?_
      · show D.i (((exitsOf g r : Nat) : Int) + ((u.2.2 : Int) - (exitsOf g u.1 : Nat))) = D.i ((exitsOf g r + (u.2.2 - exitsOf g u.1) : Nat) : Int)
        congr 1
        omega
      · have tk : Tk H8 (upd H8 p (.lst (vs ++ [v]))) := Tk.lst hl8
        refine kj _ _ ⟨rfl, Same.mut (((z1.trans s6).trans s7).trans s8) hp0, _, upd_same, ?_⟩
        rw [et, if_pos hle]
        exact DnL.snoc (DnL.tk tk _ (nolL_map (fun _ => nol_encTm _) _) (DnL.same ((s6.trans s7).trans s8) _ z4)) (Dn.tk tk _ (nol_encTm _) hv)
    · have hb := of_decide_eq_false hb
      rw [et, if_neg (by omega)]
      show DnL K H7 (_ ++ []) vs
      rw [List.append_nil]
      exact DnL.same (s6.trans s7) _ z4
def RAllT : Gr → List D → List D → Prop := fun g ds l => ∃ u : U, ds = [encU u] ∧ u ∈ unks g ∧ l = (terms g u).map encTm
theorem cut2 {H : Hp} {te : TE} {σ : L2.St} {a b c : D} (h : EvD K te σ H (.t [a, b, c])) : EvD K (tSl (rSlT K) te tNoPart (tPart (tC (.int 2)))) σ H (.t [a, b]) := fun H1 s1 Q q => h H1 s1 _ fun v H2 s2 hv => by
  obtain ⟨p, vs, h1, h2, x, _, rfl, hx, y, _, rfl, hy, z, _, rfl, hz, rfl⟩ := hv
  subst h1
  refine ⟨2, rfl, p, _, rfl, SqT.of h2, fun z => absurd (show HT.sIx 3 3 (some 2) = 3 from z.2) (by decide), fun r hr => q _ _ (s2.trans (Same.new hr)) ⟨r, [x, y], rfl, upd_same, x, _, rfl, Dn.same (Same.new hr) a hx, y, _, rfl, Dn.same (Same.new hr) b hy, rfl⟩⟩
abbrev N_all_terms : List Str := ["graph", "unknown", "procedure", "_", "way", "point", "word", "exits", "ends", "chance", "goes_on"]
theorem sc_all_terms : FnScope N_all_terms ["graph", "unknown"] (defScope s_all_terms) := ⟨rfl, rfl, rfl, by decide +kernel, rfl, by decide +kernel, by decide +kernel⟩
theorem c_all_terms (F : Fs w h K mg) : Cal P w K mg base "all_terms" 6 ["graph", "unknown"] (spGF K RAllT) := by
  have c_Graph_point_at : CalM P w K mg base (He.ga K "Graph") "point_at" 5 ["self", "place"] (spG K RPointAt) := c_Graph_point_at F
  have c_call_terms : Cal P w K mg base "call_terms" 1 ["graph", "unknown", "point"] (spGF K RCallT) := c_call_terms F
  refine F.d_all_terms.cal sc_all_terms (fun _ _ _ _ _ _ us hl => match us, hl with | [_, _], _ => rfl) (spGF_len fun g ds d r => by obtain ⟨_, rfl, _⟩ := r; rfl) fun f cdv A outer s H vs Q E hr hs => ?_
  obtain ⟨g, a, ws, ds, d, rfl, ok, hg, hv, ⟨u, rfl, hu, rfl⟩, k⟩ := hs
  obtain ⟨v1, _, rfl, h1, rfl⟩ := hv
  obtain ⟨hu1, hu2, hu3⟩ := mem_us.mp hu
  have hpl : (u.1, u.2.1) ∈ plcs g := mem_places.mpr ⟨hu1, hu2⟩
  have hok := ok.at hu1 hu2
  refine ⟨_, (pss_cons (ps_asg (pv 1) (pg_tup rfl (pgs_cons (pg_name (i := 2) sc_all_terms.nd rfl (Or.inr rfl)) (pgs_cons (pg_name (i := 3) sc_all_terms.nd rfl (Or.inl rfl)) (pgs_cons (pg_name (i := 4) sc_all_terms.nd rfl (Or.inr rfl)) pgs_nil))))) (pss_cons (ps_set (i := 5) sc_all_terms.nd rfl (Or.inl rfl) (pe_calM c_Graph_point_at F.cls_Graph (hr.mono (by decide)) (pv 0) (pa_cons (pe_slice sl_tup (pv 1) po_none (po_some pe_int)) pa_nil))) (pss_cons (ps_set (i := 6) sc_all_terms.nd rfl (Or.inl rfl) (pe_ix (r := rIxT K) ix_tup (pv 5) pe_int (fun _ _ => rfl))) (pss_cons (ps_set (i := 7) sc_all_terms.nd rfl (Or.inl rfl) (pe_ix (r := rIxT K) ix_tup (pe_ix (r := rIxT K) ix_tup (show PE _ _ (tFld K _ _) from pe_fld (pv 0) rfl) (pv 2) (fun _ _ => rfl)) pe_int (fun _ _ => rfl))) (pss_cons (ps_if (pt_cmpR op_eq (pv 6) pe_str (nomark _)) (pss_one (ps_ret (pe_lc (own := [("chance", 9), ("goes_on", 10)]) (g := gTup K 2 (gCons (gName 9) (gCons (gName 10) gNil))) (tt := tYes) rfl sc_all_terms.nd (pi_tup (pe_ix (r := rIxT K) ix_tup (pv 5) pe_int (fun _ _ => rfl))) (blkOk_by (N := N_all_terms) (sc := defScope s_all_terms) (by decide +kernel))  (fun _ _ _ _ _ => (pg_tup rfl (pgs_cons (pg_name (i := 9) sc_all_terms.nd rfl (Or.inl rfl)) (pgs_cons (pg_name (i := 10) sc_all_terms.nd rfl (Or.inl rfl)) pgs_nil)))) (fun _ _ _ _ _ => pts_nil) (fun _ _ _ _ _ => (pe_tup (pa_cons (pv 9) (pa_cons (pe_tup (pa_cons (pe_tup (pa_cons (pv 2) (pa_cons (pv 10) (pa_cons (pv 4) pa_nil)))) pa_nil)) pa_nil))))))) pss_nil) (pss_cons (ps_if (pt_cmpR op_eq (pv 6) pe_str (nomark _)) (pss_one (ps_ret (pe_lst (pa_cons (pe_tup (pa_cons (pe_glob (v := .ref (He.ga K "ONE_equations")) rfl F.g_ONE_equations rfl) (pa_cons (pe_tup (pa_cons (pe_tup (pa_cons (pv 2) (pa_cons (pe_ix (r := rIxT K) ix_tup (pv 5) pe_int (fun _ _ => rfl)) (pa_cons (pv 4) pa_nil)))) pa_nil)) pa_nil))) pa_nil)))) pss_nil) (pss_cons (ps_if (pt_cmpR op_eq (pv 6) pe_str (nomark _)) (pss_one (ps_ret (pe_cal c_call_terms (hr.mono (by decide)) (pa_cons (pv 0) (pa_cons (pv 1) (pa_cons (pv 5) pa_nil)))))) pss_nil) (pss_cons (ps_set (i := 8) sc_all_terms.nd rfl (Or.inl rfl) (pe_op op_add (pv 7) (pe_callTy cr_int1 (by rfl) F.f_int bt_int (pa_cons (pe_cmpR op_eq (pv 6) pe_str (nomark _)) pa_nil)))) (pss_cons (ps_if (pt_cmpR op_eq (pv 6) pe_str (nomark _)) (pss_one (ps_set (i := 8) sc_all_terms.nd rfl (Or.inl rfl) (pe_ix (r := rIxT K) ix_tup (pv 5) pe_int (fun _ _ => rfl)))) pss_nil) (pss_one (ps_ret (pe_ifExp (pt_cmpR op_eq (pv 4) (pv 8) (nomark _)) (pe_lst (pa_cons (pe_tup (pa_cons (pe_glob (v := .ref (He.ga K "ONE_equations")) rfl F.g_ONE_equations rfl) (pa_cons (pe_tup pa_nil) pa_nil))) pa_nil)) (pe_lst pa_nil))))))))))))), ?_⟩
  refine (ev_var (K := K) (i := 1) (d := .c [nD u.1, nD u.2.1, nD u.2.2]) rfl (Dn.tc h1)).run fun v H1 s1 hv => g_trip hv fun x1 x2 x3 g1 g2 g3 => ?_
  cases (show x1 = .int u.1 from g1)
  cases (show x2 = .int u.2.1 from g2)
  cases (show x3 = .int u.2.2 from g3)
  refine st_set K (ev_methG (R := RPointAt) (d := encPt (ptAt g u.1 u.2.1)) (ev_var rfl rfl) (ea_1 (cut2 (ev_var (i := 1) rfl (Dn.same s1 _ h1) : EvD K _ _ H1 (.t [nD u.1, nD u.2.1, nD u.2.2]))).tc) ok (hg.same s1) (by decide) ⟨(u.1, u.2.1), rfl, hpl, rfl⟩) fun pv H2 s2 hp => ?_
  have hp0 := hp
  rw [encPt_eq] at hp
  refine st_set K (ev_ix (n := 0) (ev_var (i := 5) rfl hp.tc) ev_int rfl ix0) fun t H3 s3 ht => ?_
  cases (show t = .str (wd (ptAt g u.1 u.2.1)) from ht)
  have s03 := (s1.trans s2).trans s3
  refine st_set K (ev_ex (ev_procs F (ev_var rfl rfl) (hg.same s03)) (ev_i rfl) hu1) fun t H4 s4 ht => ?_
  cases (show t = .int (exitsOf g u.1 : Nat) from ht)
  have s04 := s03.trans s4
  have W : ∀ z : Str, EvT (tTest (tOp rEq (tVar 6) (tC (.str z)))) [some (.ref a), some v1, some (.int u.1), some (.int u.2.1), some (.int u.2.2), some pv, some (.str (wd (ptAt g u.1 u.2.1))), some (.int (exitsOf g u.1 : Nat)), none, none, none] H4 (decide (wd (ptAt g u.1 u.2.1) = z)) := fun z => et_cmp (K := K) (ev_eqS (ev_var rfl rfl) ev_str)
  have kk : ∀ p us H', Same H4 H' → H4 p = none → H' p = some (.lst us) → DnL K H' ((terms g u).map encTm) us → Q (.ref p) H' := fun p us H' s hp hl hd => k p us H' (s04.trans s) (none_of s04 hp) hl hd
  have hp4 := Dn.same (s3.trans s4) _ hp
  have hp04 := Dn.same (s3.trans s4) _ hp0
  -- an end
  have fin : ∀ {e : Nat} {z : V} {H'} (s' : Same H4 H') (hz : z = .int e), (ptAt g u.1 u.2.1).ends = true → endWay g u.1 (ptAt g u.1 u.2.1) = e → ∀ {E' : Ends}, E'.rt = Q →
      tRet (tIf (tTest (tOp rEq (tVar 4) (tVar 8))) (tLst (tCons (tTup (tCons (tC (.ref (He.ga K "ONE_equations"))) (tCons (tTup tNil) tNil))) tNil)) (tLst tNil)) E'
        [some (.ref a), some v1, some (.int u.1), some (.int u.2.1), some (.int u.2.2), some pv, some (.str (wd (ptAt g u.1 u.2.1))), some (.int (exitsOf g u.1 : Nat)), some z, none, none] H' := by
    intro e z H' s' hz hends he E' hE
    subst hz
    refine st_retF (K := K) (ds := (terms g u).map encTm) (evF_if (b := decide ((u.2.2 : Int) = e)) (et_cmp (K := K) (ev_eqI (ev_i rfl) (ev_i rfl))) (fun hb => ?_) fun hb => ?_) fun p us H'' s'' hp hl hd => by rw [hE]; exact kk p us H'' (s'.trans s'') (none_of s' hp) hl hd
    · have hb : (u.2.2 : Int) = e := of_decide_eq_true hb
      rw [terms_end hends, if_pos (by rw [he]; omega)]
      exact evF_lst (ea_1 (ev_tup (ea_2 (ev_oneE F) (ev_tup ea_nil))))
    · have hb : ¬ (u.2.2 : Int) = e := of_decide_eq_false hb
      rw [terms_end hends, if_neg (by rw [he]; omega)]
      exact evF_lst ea_nil
  cases e : ptAt g u.1 u.2.1 with
  | draw bs =>
    rw [e] at W hp4 hok
    refine st_ifq ((W "draw").to (show decide (("draw" : Str) = "draw") = true by decide)) (fun _ H5 s5 => ?_) fun z => nomatch z
    have et : (terms g u).map encTm = bs.map fun b => encTm (b.1, [(u.1, b.2, u.2.2)]) := by
      unfold terms
      rw [e]
      show List.map encTm (List.map _ bs) = _
      rw [List.map_map]
      rfl
    have hbl : (bs.map encB).length = bs.length := List.length_map ..
    have hb4 : DrawOk bs (g.getD u.1 (0, [])).2.length := ⟨hok.1, hok.2⟩
    refine st_retF ((ev_lc (ei_tup (ev_ix (n := 1) (ev_var (i := 5) rfl (Dn.same s5 _ hp4).tc) ev_int rfl ix1 : EvD K _ _ H5 (.t (bs.map encB))).tc) (fun _ => true) (fun i => encTm ((bs.getD i ((0, 0), 0)).1, [(u.1, (bs.getD i ((0, 0), 0)).2, u.2.2)])) (fun _ _ => nol_encTm _) (by have := hb4.len; omega) ?_).to (es := (terms g u).map encTm) ?_) fun p us H6 s6 hp hl hd => kk p us H6 (s5.trans s6) (none_of s5 hp) hl hd
    · intro i d x H' e' s' hx k' hk'
      obtain ⟨b, hb1, _, rfl⟩ := map_get' e'
      have e2 : bs.getD i ((0, 0), 0) = b := by rw [List.getD_eq_getElem?_getD, hb1]; rfl
      refine g_pair hx.tc fun c1 c2 hc1 hc2 => ?_
      cases (show c2 = .int b.2 from hc2)
      refine hk' _ rfl et_yes fun _ => ?_
      rw [e2]
      exact ev_tup (ea_2 (ev_var rfl hc1) (ev_tup (ea_1 (ev_tup (ea_3 (ev_i rfl) (ev_i rfl) (ev_i rfl))))))
    · rw [pick_all, hbl, et]
      exact map_range_getD (f := fun b : (Nat × Nat) × Nat => encTm (b.1, [(u.1, b.2, u.2.2)])) bs
  | reward x y =>
    rw [e] at W hp4
    refine st_no ((W "draw").to (show decide (("reward" : Str) = "draw") = false by decide)) fun H5 s5 => ?_
    refine st_ifq (((W "reward").mono s5).to (show decide (("reward" : Str) = "reward") = true by decide)) (fun _ H6 s6 => ?_) fun z => nomatch z
    have s46 := s5.trans s6
    have et : (terms g u).map encTm = [encTm ((1, 1), [(u.1, y, u.2.2)])] := by
      unfold terms
      rw [e]
      rfl
    refine st_retF (ds := [encTm ((1, 1), [(u.1, y, u.2.2)])]) (evF_lst (ea_1 (ev_tup (ea_2 (ev_oneE F) (ev_tup (ea_1 (ev_tup (ea_3 (ev_i rfl) (ev_ix (n := 2) (ev_var (i := 5) rfl (Dn.same s46 _ hp4).tc) ev_int rfl rfl) (ev_i rfl))))))))) fun p us H7 s7 hp hl hd => kk p us H7 (s46.trans s7) (none_of s46 hp) hl (by rw [et]; exact hd)
  | call r ps =>
    rw [e] at W hp4 hp04
    refine st_no ((W "draw").to (show decide (("call" : Str) = "draw") = false by decide)) fun H5 s5 => ?_
    refine st_no (((W "reward").mono s5).to (show decide (("call" : Str) = "reward") = false by decide)) fun H6 s6 => ?_
    refine st_ifq (((W "call").mono (s5.trans s6)).to (show decide (("call" : Str) = "call") = true by decide)) (fun _ H7 s7 => ?_) fun z => nomatch z
    have s47 := (s5.trans s6).trans s7
    exact st_retF (evF_callG (RF := RCallT) (ea_3 (ev_var rfl rfl) (ev_var rfl (Dn.same (s04.trans s47) _ h1)) (ev_var rfl (Dn.same s47 _ hp04))) ok (hg.same (s04.trans s47)) ⟨u, r, ps, rfl, hu, e, rfl⟩) fun p us H8 s8 hp hl hd => kk p us H8 (s47.trans s8) (none_of s47 hp) hl hd
  | exit x =>
    rw [e] at W hp4 fin
    refine st_no ((W "draw").to (show decide (("exit" : Str) = "draw") = false by decide)) fun H5 s5 => ?_
    refine st_no (((W "reward").mono s5).to (show decide (("exit" : Str) = "reward") = false by decide)) fun H6 s6 => ?_
    refine st_no (((W "call").mono (s5.trans s6)).to (show decide (("exit" : Str) = "call") = false by decide)) fun H7 s7 => ?_
    have s47 := (s5.trans s6).trans s7
    refine st_set K (ev_op0 (g := fun i j => i + j) (ev_i rfl) (ev_int_b (ev_eqS (ev_var rfl rfl) ev_str))) fun t H8 s8 ht => ?_
    refine st_ifq ((et_cmp (K := K) (ev_eqS (ev_var (i := 6) rfl rfl) ev_str)).to (show decide (("exit" : Str) = "exit") = true by decide)) (fun _ H9 s9 => ?_) fun z => nomatch z
    refine (ev_ix (n := 1) (ev_var (i := 5) rfl (Dn.same ((s47.trans s8).trans s9) _ hp4).tc) ev_int rfl ix1 : EvD K _ _ H9 (nD x)).run fun v H10 s10 hv => ?_
    exact fin (e := x) (((s47.trans s8).trans s9).trans s10) hv rfl rfl rfl
  | reject =>
    rw [e] at W hp4 fin
    refine st_no ((W "draw").to (show decide (("reject" : Str) = "draw") = false by decide)) fun H5 s5 => ?_
    refine st_no (((W "reward").mono s5).to (show decide (("reject" : Str) = "reward") = false by decide)) fun H6 s6 => ?_
    refine st_no (((W "call").mono (s5.trans s6)).to (show decide (("reject" : Str) = "call") = false by decide)) fun H7 s7 => ?_
    have s47 := (s5.trans s6).trans s7
    refine st_set K (ev_op0 (g := fun i j => i + j) (ev_i rfl) (ev_int_b ((ev_eqS (ev_var rfl rfl) ev_str).to (f := .b false) (congrArg D.b (show decide (("reject" : Str) = "stop") = false by decide))))) fun t H8 s8 ht => ?_
    refine st_no ((et_cmp (K := K) (ev_eqS (ev_var (i := 6) rfl rfl) ev_str)).to (show decide (("reject" : Str) = "exit") = false by decide)) fun H9 s9 => ?_
    exact fin (e := exitsOf g u.1) ((s47.trans s8).trans s9) (by rw [show t = _ from ht]; rfl) rfl rfl rfl
  | stop =>
    rw [e] at W hp4 fin
    refine st_no ((W "draw").to (show decide (("stop" : Str) = "draw") = false by decide)) fun H5 s5 => ?_
    refine st_no (((W "reward").mono s5).to (show decide (("stop" : Str) = "reward") = false by decide)) fun H6 s6 => ?_
    refine st_no (((W "call").mono (s5.trans s6)).to (show decide (("stop" : Str) = "call") = false by decide)) fun H7 s7 => ?_
    have s47 := (s5.trans s6).trans s7
    refine st_set K (ev_op0 (g := fun i j => i + j) (ev_i rfl) (ev_int_b ((ev_eqS (ev_var rfl rfl) ev_str).to (f := .b true) (congrArg D.b (show decide (("stop" : Str) = "stop") = true by decide))))) fun t H8 s8 ht => ?_
    refine st_no ((et_cmp (K := K) (ev_eqS (ev_var (i := 6) rfl rfl) ev_str)).to (show decide (("stop" : Str) = "exit") = false by decide)) fun H9 s9 => ?_
    exact fin (e := exitsOf g u.1 + 1) ((s47.trans s8).trans s9) (by rw [show t = _ from ht]; rfl) rfl rfl rfl
end Odd

set_option Elab.async false
set_option linter.all false
set_option maxRecDepth 100000
set_option maxHeartbeats 4000000
/-! Part 16: dicts whose keys are unknowns. -/
namespace Odd
open PySem PySem.Spec PyProof.Rows L2
variable {K : PySem.W.Frag}
/-- all but the dicts is kept -/
def isDT : HO → Bool
  | .dT _ => true
  | .frz _ (.dT _) => true
  | _ => false
def Nd (H H' : Hp) : Prop := ∀ a o, H a = some o → isDT o = false → H' a = some o
theorem Nd.refl (H : Hp) : Nd H H := fun _ _ h _ => h
theorem Nd.trans {H H1 H2 : Hp} (a : Nd H H1) (b : Nd H1 H2) : Nd H H2 := fun x o h k => b x o (a x o h k) k
theorem Nd.of {H H' : Hp} (s : Same H H') : Nd H H' := fun a o h _ => s a o h
theorem Nd.up {H : Hp} {d : Addr} {u o : HO} (e : H d = some u) (k : isDT u = true) : Nd H (upd H d o) := fun a v h hv => by
  rw [upd_ne (fun q => by subst q; rw [e] at h; cases h; rw [k] at hv; cases hv)]
  exact h
theorem Nd.tk {H H' : Hp} (e : Nd H H') : Tk H H' := ⟨fun _ _ h => e _ _ h rfl, fun _ _ _ h => e _ _ h rfl, fun _ _ _ _ h => e _ _ h rfl⟩
mutual
theorem Dn.nd {H H' : Hp} (e : Nd H H') : ∀ (d : D) {v : V}, Dn K H d v → Dn K H' d v
  | .i _, _, h => h
  | .s _, _, h => h
  | .b _, _, h => h
  | .n, _, h => h
  | .t l, _, h => by
    obtain ⟨a, vs, h1, h2, h3⟩ := h
    exact ⟨a, vs, h1, e _ _ h2 rfl, DnL.nd e l h3⟩
  | .c l, _, h => by
    obtain ⟨a, vs, h1, h2, h3⟩ := h
    exact ⟨a, vs, h1, tk_sqT e.tk h2, DnL.nd e l h3⟩
  | .l l, _, h => by
    obtain ⟨a, vs, h1, h2, h3⟩ := h
    exact ⟨a, vs, h1, e _ _ h2 rfl, DnL.nd e l h3⟩
  | .o _, _, h => h
theorem DnL.nd {H H' : Hp} (e : Nd H H') : ∀ (l : List D) {vs : List V}, DnL K H l vs → DnL K H' l vs
  | [], _, h => h
  | d :: ds, _, h => by
    obtain ⟨v, r, h1, h2, h3⟩ := h
    exact ⟨v, r, h1, Dn.nd e d h2, DnL.nd e ds h3⟩
end
theorem ei_lstN {σ : L2.St} {H : Hp} {te : TE} {ds : List D} (h : EvD K te σ H (.l ds)) : EvI K Nd (iList K te) σ H ds := fun H1 a R r => h H1 a _ fun v H2 s2 hv => by
  obtain ⟨p, vs, h1, h2, h3⟩ := hv
  refine ⟨p, h1, ⟨vs, SqL.of h2⟩, r _ H2 (fun H => SqL K H p vs ∧ DnL K H ds vs) s2 ?_ fun H3 s3 => ⟨SqL.of (s3 _ _ h2 rfl), DnL.nd s3 ds h3⟩⟩
  rw [← h3.length]
  exact walk_list.mono (fun H q => q.1) fun i H' x H'' _ q y => by
    obtain ⟨e, y⟩ := y
    subst e
    obtain ⟨d, q1, q2⟩ := q.2.get' y
    exact ⟨Same.refl _, d, q1, q2⟩
/-! ### keys -/
def kU (u : U) : List Key := (uI u).map Sum.inl
theorem kU_inj {a b : U} (e : kU a = kU b) : a = b := uI_inj ((List.map_inj_right fun _ _ h => Sum.inl.inj h).mp e)
theorem kU_v (u : U) : (kU u).map kV = (uI u).map V.int := by unfold kU; rw [List.map_map]; rfl
theorem keyU {H : Hp} {u : U} {v : V} (h : Dn K H (encU u) v) : ∃ b, v = .ref b ∧ H b = some (.tup ((kU u).map kV)) := by
  obtain ⟨b, vs, h1, h2, h3⟩ := h
  have e : vs = (uI u).map V.int := dn_ints (ns := uI u) h3
  rw [e] at h2
  exact ⟨b, h1, by rw [kU_v]; exact h2⟩
theorem keyU' {H : Hp} {u : U} {b : Addr} (h : H b = some (.tup ((kU u).map kV))) : Dn K H (encU u) (.ref b) := by
  rw [kU_v] at h
  exact ⟨b, _, rfl, h, _, _, rfl, rfl, _, _, rfl, rfl, _, _, rfl, rfl, rfl⟩
theorem valV_some {kvs : List (List Key × V)} {k : List Key} : (valV kvs k).isSome = true ↔ k ∈ kvs.map (·.1) := by
  induction kvs with
  | nil => simp [valV_nil]
  | cons p r ih =>
    by_cases e : p.1 = k
    · rw [valV_pos e]; simp [e]
    · rw [valV_neg e, ih, List.map_cons, List.mem_cons]
      constructor
      · exact .inr
      · rintro (z | z)
        · exact absurd z.symm e
        · exact z
theorem putK_mem {kvs : List (List Key × V)} {k : List Key} (v : V) (h : k ∈ kvs.map (·.1)) : (putK kvs k v).map (·.1) = kvs.map (·.1) := by
  unfold putK
  have h1 : (kvs.any fun kv => decide (kv.1 = k)) = true := by
    obtain ⟨p, hp, e⟩ := List.mem_map.mp h
    exact List.any_eq_true.mpr ⟨p, hp, decide_eq_true e⟩
  rw [if_pos h1, List.map_map]
  congr 1
  funext kv
  show (if kv.1 = k then (kv.1, v) else kv).1 = kv.1
  split <;> rfl
theorem putK_nmem {kvs : List (List Key × V)} {k : List Key} (v : V) (h : ¬ k ∈ kvs.map (·.1)) : (putK kvs k v).map (·.1) = kvs.map (·.1) ++ [k] := by
  unfold putK
  have h1 : ¬ (kvs.any fun kv => decide (kv.1 = k)) = true := fun z => by
    obtain ⟨p, hp, e⟩ := List.any_eq_true.mp z
    exact h (List.mem_map.mpr ⟨p, hp, of_decide_eq_true e⟩)
  rw [if_neg h1, List.map_append]
  rfl
/-- a list of unknowns with one more -/
def addU (us : List U) (u : U) : List U := if u ∈ us then us else us ++ [u]
theorem mem_addU {us : List U} {u x : U} : x ∈ addU us u ↔ x ∈ us ∨ x = u := by
  unfold addU
  by_cases h : u ∈ us
  · rw [if_pos h]
    exact ⟨.inl, fun z => z.elim id fun e => by rw [e]; exact h⟩
  · rw [if_neg h, List.mem_append, List.mem_singleton]
theorem len_addU (us : List U) (u : U) : (addU us u).length ≤ us.length + 1 := by
  unfold addU
  split
  · omega
  · rw [List.length_append]; exact Nat.le_refl _
theorem mem_kU {u : U} {us : List U} : kU u ∈ us.map kU ↔ u ∈ us := ⟨fun h => by
  obtain ⟨a, ha, e⟩ := List.mem_map.mp h
  rw [← kU_inj e]
  exact ha, fun h => List.mem_map.mpr ⟨u, h, rfl⟩⟩
theorem putU_keys {kvs : List (List Key × V)} {us : List U} (e : kvs.map (·.1) = us.map kU) (u : U) (v : V) : (putK kvs (kU u) v).map (·.1) = (addU us u).map kU := by
  unfold addU
  by_cases h : u ∈ us
  · rw [if_pos h, putK_mem v (by rw [e]; exact mem_kU.mpr h), e]
  · rw [if_neg h, putK_nmem v (by rw [e]; exact fun z => h (mem_kU.mp z)), List.map_append, e]
    rfl
theorem valU_some {kvs : List (List Key × V)} {us : List U} (e : kvs.map (·.1) = us.map kU) {u : U} : (valV kvs (kU u)).isSome = decide (u ∈ us) := by
  by_cases h : u ∈ us
  · rw [decide_eq_true h]
    exact valV_some.mpr (by rw [e]; exact mem_kU.mpr h)
  · rw [decide_eq_false h, Bool.eq_false_iff]
    exact fun z => h (mem_kU.mp (by rw [← e]; exact valV_some.mp z))
section
variable {σ : L2.St} {H : Hp} {ta td te : TE} {u : U} {d : Addr} {kvs : List (List Key × V)}
theorem dgetU {H : Hp} {v : V} (h : Rd H d (.dT kvs)) (hu : Dn K H (encU u) v) : DGet H d v (valV kvs (kU u)) := by
  obtain ⟨b, h1, h2⟩ := keyU hu
  exact .inr ⟨kvs, kU u, b, h, h1, h2, rfl⟩
theorem rd_same {H H' : Hp} (s : Same H H') (h : Rd H d (.dT kvs)) : Rd H' d (.dT kvs) := by
  rcases h with h | ⟨o, h⟩
  · exact .inl (s _ _ h)
  · exact .inr ⟨o, s _ _ h⟩
theorem ev_dinU (ha : EvD K ta σ H (encU u)) (hd : EvD K td σ H (.o d)) (h : Rd H d (.dT kvs)) : EvD K (tDIn ta td) σ H (.b (valV kvs (kU u)).isSome) := fun H1 s1 Q q => ha H1 s1 _ fun v H2 s2 hv => hd H2 (s1.trans s2) _ fun x H3 s3 hx =>
  ⟨d, _, hx, dgetU (rd_same ((s1.trans s2).trans s3) h) (Dn.same s3 _ hv), q _ H3 (s2.trans s3) rfl⟩
theorem ev_dninU (ha : EvD K ta σ H (encU u)) (hd : EvD K td σ H (.o d)) (h : Rd H d (.dT kvs)) : EvD K (tDNotIn ta td) σ H (.b (!(valV kvs (kU u)).isSome)) := fun H1 s1 Q q => ha H1 s1 _ fun v H2 s2 hv => hd H2 (s1.trans s2) _ fun x H3 s3 hx =>
  ⟨d, _, hx, dgetU (rd_same ((s1.trans s2).trans s3) h) (Dn.same s3 _ hv), q _ H3 (s2.trans s3) rfl⟩
theorem ev_dgetU {e : D} {v : V} (hd : EvD K td σ H (.o d)) (ha : EvD K ta σ H (encU u)) (h : Rd H d (.dT kvs)) (hv : valV kvs (kU u) = some v) (he : Dn K H e v) : EvD K (tDGet td ta) σ H e := fun H1 s1 Q q => hd H1 s1 _ fun x H2 s2 hx => ha H2 (s1.trans s2) _ fun y H3 s3 hy =>
  ⟨d, v, hx, by rw [← hv]; exact dgetU (rd_same ((s1.trans s2).trans s3) h) hy, q v H3 (s2.trans s3) (Dn.same ((s1.trans s2).trans s3) _ he)⟩
/-- d[u] = e -/
theorem st_dputU {E : Ends} {e : D} (hv : EvD K te σ H e) (hd : EvD K td σ H (.o d)) (ha : EvD K ta σ H (encU u)) (h : H d = some (.dT kvs)) (hl : kvs.length < 100000) (k : ∀ v H1, Same H H1 → Dn K H1 e v → H1 d = some (.dT kvs) → E.nx σ (upd H1 d (.dT (putK kvs (kU u) v)))) : sDPut td ta te E σ H :=
  hv.run fun v H1 s1 hv => hd H1 s1 _ fun x H2 s2 hx => ha H2 (s1.trans s2) _ fun y H3 s3 hy => by
    obtain ⟨b, h1, h2⟩ := keyU hy
    have s03 := (s1.trans s2).trans s3
    refine ⟨d, _, hx, ?_, k v H3 s03 (Dn.same (s2.trans s3) _ hv) (s03 _ _ h)⟩
    rw [h1]
    exact DPut.t (s03 _ _ h) h2 (small_lt hl)
end
/-! ### a dict comprehension over unknowns, each value a new list -/
/-- what the table holds -/
structure TabT (K : PySem.W.Frag) (H : Hp) (ls : U → List D) (us : List U) (kvs : List (List Key × V)) : Prop where
  keys : ∃ ks : List U, kvs.map (·.1) = ks.map kU ∧ ks.length ≤ us.length ∧ ∀ u, u ∈ ks ↔ u ∈ us
  vals : ∀ u ∈ us, ∃ v, valV kvs (kU u) = some v ∧ Dn K H (.l (ls u)) v
theorem TabT.nd {H H' : Hp} {ls : U → List D} {us : List U} {kvs : List (List Key × V)} (s : Nd H H') (h : TabT K H ls us kvs) : TabT K H' ls us kvs := ⟨h.keys, fun u hu => by
  obtain ⟨v, h1, h2⟩ := h.vals u hu
  exact ⟨v, h1, Dn.nd s _ h2⟩⟩
theorem TabT.put {H : Hp} {ls : U → List D} {us : List U} {kvs : List (List Key × V)} (h : TabT K H ls us kvs) {u : U} {v : V} (hv : Dn K H (.l (ls u)) v) : TabT K H ls (us ++ [u]) (putK kvs (kU u) v) := by
  obtain ⟨ks, k1, k2, k3⟩ := h.keys
  refine ⟨⟨addU ks u, putU_keys k1 u v, ?_, fun x => ?_⟩, fun x hx => ?_⟩
  · have := len_addU ks u
    rw [List.length_append]
    show _ ≤ _ + 1
    omega
  · rw [mem_addU, k3, List.mem_append, List.mem_singleton]
  · rw [valV_put]
    by_cases e : x = u
    · subst e
      rw [if_pos rfl]
      exact ⟨v, rfl, hv⟩
    · rw [if_neg (fun z => e (kU_inj z))]
      rcases List.mem_append.mp hx with hx | hx
      · exact h.vals x hx
      · exact absurd (List.mem_singleton.mp hx) e
theorem ev_dcT {σ : L2.St} {H : Hp} {wi : TI} {g : TG} {tk tv : TE} {vs : List Nat} {us : List U} {ls : U → List D} (hi : EvI K Same wi σ H (us.map encU)) (hz : us.length ≤ 1000)
    (hb : ∀ u x H', u ∈ us → Same H H' → Dn K H' (encU u) x → ∀ k : L2.St → Hp → Prop, (∀ σ2, wipe σ2 vs = wipe σ vs → EvD K tk σ2 H' (encU u) → EvF K tv σ2 H' (ls u) → k σ2 H') → g x (wipe σ vs) H' k) {Q : VK}
    (q : ∀ L kvs H', Same H H' → H L = none → H' L = some (.dT kvs) → TabT K H' ls us kvs → Q (.ref L) H') : tDcT wi g tk tv vs σ H Q := hi H (Same.refl H) _ fun J H2 G s2 w hG L hL => by
  have hlen : (us.map encU).length = us.length := List.length_map ..
  rw [hlen] at w
  refine ⟨fun i m H3 => m = us.length - i ∧ i ≤ us.length ∧ Same H2 H3 ∧ ∃ kvs, H3 L = some (.dT kvs) ∧ TabT K H3 ls (us.take i) kvs, ⟨us.length, by simp, Nat.zero_le _, Same.new hL, [], upd_same, ⟨[], rfl, Nat.zero_le _, fun _ => Iff.rfl⟩, fun _ h => nomatch h⟩, ?_⟩
  rintro i m H3 ⟨rfl, hle, z1, kvs, z2, z3⟩
  by_cases hlt : i < us.length
  · refine .inr ⟨w.goes i H3 hlt (hG H3 z1), fun H3 => i < us.length ∧ Same H2 H3 ∧ ∃ kvs, H3 L = some (.dT kvs) ∧ TabT K H3 ls (us.take (i + 1)) kvs, fun H' p => ⟨us.length - (i + 1), by omega, rfl, hlt, p.2⟩, fun x H4 y => ?_⟩
    obtain ⟨y1, d, y2, y3⟩ := w.yields i H3 x H4 hlt (hG H3 z1) y
    obtain ⟨u, u1, u2, rfl⟩ := map_get' y2
    refine hb u x H4 u2 ((s2.trans z1).trans y1) y3 _ fun σ2 hw hk hv => ⟨hw, hk.run fun kv H5 s5 hkv => hv H5 s5 _ fun p ws H6 s6 hp hpl hpd => ?_⟩
    obtain ⟨b, h1, h2⟩ := keyU (Dn.same s6 _ hkv)
    have hL6 : H6 L = some (.dT kvs) := s6 _ _ (s5 _ _ (y1 _ _ z2))
    have nd : Nd H6 (upd H6 L (.dT (putK kvs (kU u) (.ref p)))) := Nd.up hL6 rfl
    obtain ⟨ks, k1, k2, k3⟩ := z3.keys
    have hkl : kvs.length = ks.length := by rw [← List.length_map (f := (·.1)), k1, List.length_map]
    refine ⟨b, kvs, kU u, h1, h2, hL6, small_lt (by rw [List.length_take] at k2; omega), hlt, Same.mut (((z1.trans y1).trans s5).trans s6) hL, _, upd_same, ?_⟩
    rw [take_snoc u1]
    exact TabT.put (z3.nd ((Nd.of ((y1.trans s5).trans s6)).trans nd)) (Dn.nd nd (.l (ls u)) ⟨p, ws, rfl, hpl, hpd⟩)
  · have e : i = us.length := by omega
    subst e
    rw [List.take_length] at z3
    exact .inl ⟨w.stops H3 (hG H3 z1), q _ _ _ (s2.trans z1) (none_of s2 hL) z2 z3⟩
/-! ### for u in d -/
theorem lock_for {σ : L2.St} {H : Hp} {E : Ends} {g : TG} {tb : TS} {i : Nat} {T : Addr} {kvs : List (List Key × V)} (hT : H T = some (.dT kvs)) (hi : σ[i]? = some (some (.ref T))) (Pv : Obj → Nat → L2.St → Hp → Prop)
    (h0 : ∀ od, Pv od 0 σ (upd H T (.frz od (.dT kvs)))) (hk : ∀ od n σ' H', Pv od n σ' H' → H' T = some (.frz od (.dT kvs)))
    (hs : ∀ od n k v q σ' H', kvs[n]? = some (k, v) → H' q = some (.tup (k.map kV)) → Pv od n σ' H' → ∀ E' : Ends, g (.ref q) σ' H' fun σ2 H2 => tb { E' with nx := Pv od (n + 1), ct := Pv od (n + 1), bk := E'.nx } σ2 H2)
    (hd : ∀ od σ' H', Pv od kvs.length σ' H' → E.nx σ' (upd H' T (.dT kvs))) : tLock (tFor (iKeys (tVar i)) g tb) E σ H :=
  ⟨T, _, hT, trivial, fun od => ⟨.ref T, hi, T, od, rfl, .inr ⟨kvs, upd_same, by
    have w : Walk (Itkt T od kvs) kvs.length (fun H => H T = some (.frz od (.dT kvs))) (fun i H x H' => H' = H ∧ ∃ (k : List Key) (v : V) (q : Addr), kvs[i]? = some (k, v) ∧ x = .ref q ∧ H q = some (.tup (k.map kV))) :=
      ⟨fun i H hi h => ⟨h, hi⟩, fun H h => ⟨h, Nat.le_refl _⟩, fun i H x H' hi h y => y⟩
    exact for_it w (Pv od) (h0 od) (fun n σ' H' _ p => hk od n σ' H' p) (fun n x σ' H' H'' hn p y => by
      obtain ⟨rfl, k, v, q, e1, rfl, e2⟩ := y
      exact hs od n k v q σ' _ e1 e2 p _) fun σ' H' p => ⟨hk od _ σ' H' p, hd od σ' H' p⟩⟩⟩⟩
end Odd

set_option Elab.async false
set_option linter.all false
set_option maxRecDepth 100000
set_option maxHeartbeats 4000000
/-! Part 17: system_of, positives. -/
namespace Odd
open PySem PySem.Spec PyProof.Rows L2
variable {P : Program} {w : World} {h : Heap} {K : PySem.W.Frag} {mg : Str → Option Value} {base : Heap}
theorem while_evH {c : TT} {tb : TS} {E : Ends} {σ : L2.St} {H : Hp} (Pv : L2.St → Hp → Prop) (μ : L2.St → Hp → Nat) (b : L2.St → Hp → Bool) (h0 : Pv σ H) (hc : ∀ σ H, Pv σ H → EvT c σ H (b σ H))
    (hs : ∀ σ H, Pv σ H → b σ H = true → ∀ H1, Same H H1 → tb { E with nx := fun σ' H' => Pv σ' H' ∧ μ σ' H' < μ σ H, ct := fun σ' H' => Pv σ' H' ∧ μ σ' H' < μ σ H, bk := E.nx } σ H1)
    (hd : ∀ σ H, Pv σ H → b σ H = false → ∀ H1, Same H H1 → E.nx σ H1) (hmono : ∀ σ H Q Q', (∀ b H1, Q b H1 → Q' b H1) → c σ H Q → c σ H Q') : tWhile c tb E σ H :=
  while_by Pv μ h0 (fun σ H p => (hc σ H p).run fun H1 s1 => by
    cases e : b σ H with
    | true => exact hs σ H p e H1 s1
    | false => exact hd σ H p e H1 s1) hmono
theorem st_setDc {σ : L2.St} {H : Hp} {wi : TI} {g : TG} {tk tv : TE} {vs : List Nat} {us : List U} {ls : U → List D} {i : Nat} {t : TS} {E : Ends} (hi : EvI K Same wi σ H (us.map encU)) (hz : us.length ≤ 1000)
    (hb : ∀ u x H', u ∈ us → Same H H' → Dn K H' (encU u) x → ∀ k : L2.St → Hp → Prop, (∀ σ2, wipe σ2 vs = wipe σ vs → EvD K tk σ2 H' (encU u) → EvF K tv σ2 H' (ls u) → k σ2 H') → g x (wipe σ vs) H' k)
    (q : ∀ L kvs H', Same H H' → H L = none → H' L = some (.dT kvs) → TabT K H' ls us kvs → t E (σ.set i (some (.ref L))) H') : tSeq (tAsg (tDcT wi g tk tv vs) (gName i)) t E σ H := by
  show tDcT wi g tk tv vs σ H fun v H1 => gName i v σ H1 (t E)
  exact ev_dcT hi hz hb (Q := fun v H1 => gName i v σ H1 (t E)) q
theorem st_newT {σ : L2.St} {H : Hp} {i : Nat} {t : TS} {E : Ends} (k : ∀ p, H p = none → t E (σ.set i (some (.ref p))) (upd H p (.dT []))) : tSeq (tAsg tDNewT (gName i)) t E σ H := k
/-- for x in p, p a list that stands while dicts change -/
theorem for_dn {tl : TE} {g : TG} {tb : TS} {E : Ends} {σ : L2.St} {H : Hp} {ds0 : List U} (ht : ∀ Q : VK, (∀ (p : Addr) (ys : List V) (us : List U) (H1 : Hp), us.Perm ds0 → Same H H1 → H1 p = some (.lst ys) → DnL K H1 (us.map encU) ys → Q (.ref p) H1) → tl σ H Q)
    (Pv : List U → Hp → Nat → L2.St → Hp → Prop) (h0 : ∀ us H1, us.Perm ds0 → Same H H1 → Pv us H1 0 σ H1) (hk : ∀ us H1 i σ' H', Pv us H1 i σ' H' → Nd H1 H')
    (hs : ∀ us H1 i u x σ' H', us.Perm ds0 → us[i]? = some u → u ∈ ds0 → Pv us H1 i σ' H' → Dn K H' (encU u) x → g x σ' H' fun σ2 H2 => tb { E with nx := Pv us H1 (i + 1), ct := Pv us H1 (i + 1), bk := E.nx } σ2 H2)
    (hd : ∀ us H1 σ' H', us.Perm ds0 → Pv us H1 us.length σ' H' → E.nx σ' H') : tFor (iList K tl) g tb E σ H := ht _ fun p ys us H1 hp s1 hl hd' => by
  refine ⟨p, rfl, ⟨ys, SqL.of hl⟩, ?_⟩
  have hlen : ys.length = us.length := by rw [hd'.length, List.length_map]
  have w := walk_list (K := K) (a := p) (xs := ys)
  rw [hlen] at w
  have w2 := w.mono (G' := fun H => H p = some (.lst ys) ∧ DnL K H (us.map encU) ys) (Y' := fun i H' x H'' => H'' = H' ∧ ∃ u, us[i]? = some u ∧ Dn K H'' (encU u) x) (fun H q => SqL.of q.1) (fun i H' x H'' _ q y => by
    obtain ⟨e, y⟩ := y
    subst e
    obtain ⟨d, q1, q2⟩ := q.2.get' y
    obtain ⟨u, u1, _, rfl⟩ := map_get' q1
    exact ⟨rfl, u, u1, q2⟩)
  exact for_it w2 (Pv us H1) (h0 us H1 hp s1) (fun i σ' H' hi p => ⟨hk us H1 i σ' H' p _ _ hl rfl, DnL.nd (hk us H1 i σ' H' p) _ hd'⟩) (fun i x σ' H' H'' hi p y => by
    obtain ⟨rfl, u, u1, u2⟩ := y
    exact hs us H1 i u x σ' _ hp u1 (hp.mem_iff.mp (List.mem_of_getElem? u1)) p u2) fun σ' H' p => hd us H1 σ' H' hp p
/-- all([f in d for f in fs]) -/
theorem ev_allU {σ : L2.St} {H : Hp} {tx td : TE} {fs S : List U} {j : Nat} {d : Addr} {kvs : List (List Key × V)} (hx : EvD K tx σ H (.c (fs.map encU))) (hj : j < σ.length) (hd : ∀ x H', Same H H' → EvD K td ((σ.set j none).set j (some x)) H' (.o d)) (h : Rd H d (.dT kvs)) (e : kvs.map (·.1) = S.map kU) (hz : fs.length ≤ 1000) :
    EvD K (tCB (rAll K) (tCons (tLc (iTup K tx) (gName j) tYes (tDIn (tVar j) td) [j]) tNil)) σ H (.b (fs.all fun f => decide (f ∈ S))) := by
  have hlen : (fs.map encU).length = fs.length := List.length_map ..
  refine (ev_all (ev_lc (ei_tup hx) (fun _ => true) (fun i => .b (decide (fs.getD i (0, 0, 0) ∈ S))) (fun _ _ => rfl) (by omega) ?_).d (bs := (List.range fs.length).map fun i => decide (fs.getD i (0, 0, 0) ∈ S)) ?_).to ?_
  · intro i d' x H' e' s' hx' k' hk'
    obtain ⟨b, hb1, _, rfl⟩ := map_get' e'
    have e2 : fs.getD i (0, 0, 0) = b := by rw [List.getD_eq_getElem?_getD, hb1]; rfl
    refine hk' ((σ.set j none).set j (some x)) (by show ((σ.set j none).set j (some x)).set j none = σ.set j none; rw [List.set_set, List.set_set]) et_yes fun _ => ?_
    refine (ev_dinU (u := b) (ev_var (v := x) ?_ hx') (hd x H' s') (rd_same s' h)).to ?_
    · rw [List.getElem?_set_self (by rw [List.length_set]; exact hj)]
    · rw [e2, valU_some e]
  · rw [pick_all, hlen, List.map_map]; rfl
  · rw [map_range_getD (f := fun f : U => decide (f ∈ S)) fs, List.all_map]
    rfl
def inS (S : List U) (t : Tm) : Bool := t.2.all fun f => decide (f ∈ S)
theorem inS_iff {S : List U} {t : Tm} : inS S t = true ↔ ∀ f ∈ t.2, f ∈ S := by
  unfold inS
  rw [List.all_eq_true]
  exact ⟨fun h f hf => of_decide_eq_true (h f hf), fun h f hf => decide_eq_true (h f hf)⟩
def cnt (g : Gr) (S : List U) : Nat := (unks g).countP fun u => !decide (u ∈ S)
theorem cnt_lt {g : Gr} {S S' : List U} {u : U} (hs : ∀ x ∈ S, x ∈ S') (hu : u ∈ unks g) (h1 : u ∈ S') (h2 : ¬ u ∈ S) : cnt g S' < cnt g S := countP_lt (fun x _ h => by
  have h : ¬ x ∈ S' := of_decide_eq_false (Bool.not_eq_true' _ ▸ h : decide _ = false)
  rw [decide_eq_false fun z => h (hs x z)]; rfl) ⟨u, hu, by rw [decide_eq_true h1]; rfl, by rw [decide_eq_false h2]; rfl⟩
theorem tm_len {g : Gr} {u : U} {t : Tm} (h : t ∈ terms g u) : t.2.length ≤ 2 := by
  unfold terms at h
  cases e : ptAt g u.1 u.2.1 with
  | draw bs =>
    rw [e] at h
    obtain ⟨b, _, rfl⟩ := List.mem_map.mp h
    exact Nat.le_of_ble_eq_true rfl
  | reward a q =>
    rw [e] at h
    rw [List.mem_singleton.mp h]
    exact Nat.le_of_ble_eq_true rfl
  | call r ps =>
    rw [e] at h
    rcases List.mem_append.mp h with h | h
    · obtain ⟨b, _, rfl⟩ := List.mem_map.mp h
      exact Nat.le_refl 2
    · split at h
      · rw [List.mem_singleton.mp h]
        exact Nat.le_of_ble_eq_true rfl
      · cases h
  | exit x =>
    rw [e] at h
    simp only at h
    split at h
    · rw [List.mem_singleton.mp h]; exact Nat.zero_le 2
    · cases h
  | reject =>
    rw [e] at h
    simp only at h
    split at h
    · rw [List.mem_singleton.mp h]; exact Nat.zero_le 2
    · cases h
  | stop =>
    rw [e] at h
    simp only at h
    split at h
    · rw [List.mem_singleton.mp h]; exact Nat.zero_le 2
    · cases h
theorem tms_len {g : Gr} (ok : Ok g) {u : U} (hu : u ∈ unks g) : (terms g u).length ≤ 5 := by
  obtain ⟨h1, h2, h3⟩ := mem_us.mp hu
  have z := ok.at h1 h2
  unfold terms
  cases e : ptAt g u.1 u.2.1 with
  | draw bs =>
    rw [e] at z
    have y : DrawOk bs (g.getD u.1 (0, [])).2.length := ⟨z.1, z.2⟩
    show (List.map _ bs).length ≤ 5
    rw [List.length_map]
    have := y.len
    omega
  | reward a q => exact Nat.le_of_ble_eq_true rfl
  | call r ps =>
    rw [e] at z
    have := ok.ex z.1
    have h4 := z.2.1
    show (List.map _ ps.zipIdx ++ _).length ≤ 5
    rw [List.length_append, List.length_map, List.length_zipIdx]
    split
    · show ps.length + 1 ≤ 5
      omega
    · show ps.length + 0 ≤ 5
      omega
  | exit x => simp only; split <;> exact Nat.le_of_ble_eq_true rfl
  | reject => simp only; split <;> exact Nat.le_of_ble_eq_true rfl
  | stop => simp only; split <;> exact Nat.le_of_ble_eq_true rfl
theorem isKeys_dn {H : Hp} : ∀ {kvs : List (List Key × V)} {bs : List Addr} {S : List U}, IsKeys H kvs bs → kvs.map (·.1) = S.map kU → DnL K H (S.map encU) (bs.map V.ref)
  | [], _, S, h, e => by
    cases S with
    | nil => cases h; rfl
    | cons a l => cases e
  | p :: kvs, _, S, h, e => by
    cases S with
    | nil => cases e
    | cons a l =>
      cases h with
      | cons h1 h2 =>
        simp only [List.map_cons, List.cons.injEq] at e
        exact ⟨_, _, rfl, keyU' (by rw [← e.1]; exact h1), isKeys_dn h2 e.2⟩
def spSys (K : PySem.W.Frag) : Sp := fun vs H Q _ => ∃ g a, vs = [.ref a] ∧ Ok g ∧ IsG K H g a ∧ ∀ (us : List U) (d : Addr) (kvs : List (List Key × V)) (H' : Hp), (∀ u ∈ us, u ∈ unks g) → (∀ u ∈ unks g, u ∈ us ↔ Posi g u) → us.length ≤ 40 → kvs.map (·.1) = us.map kU → Same H H' → H' d = some (.dT kvs) → Q (.ref d) H'
structure SysS (g : Gr) (S : List U) : Prop where
  mem : ∀ u ∈ S, u ∈ unks g ∧ Posi g u
  len : S.length + cnt g S ≤ (unks g).length
def wB (σ : L2.St) : Bool := match (σ[3]? : Option (Option V)) with
  | some (some (V.bl c)) => c
  | _ => false
def wM (g : Gr) (p : Addr) (σ : L2.St) (H : Hp) : Nat := (match H p with
  | some (.dT kvs) => 2 * (unks g).countP fun u => !(valV kvs (kU u)).isSome
  | _ => 0) + if wB σ = true then 1 else 0
theorem wM_eq {g : Gr} {p : Addr} {σ : L2.St} {H : Hp} {kvs : List (List Key × V)} {S : List U} (h : H p = some (.dT kvs)) (e : kvs.map (·.1) = S.map kU) : wM g p σ H = 2 * cnt g S + if wB σ = true then 1 else 0 := by
  unfold wM cnt
  rw [h]
  simp only [valU_some e]
abbrev N_system_of : List Str := ["graph", "terms", "positive", "changed", "unknown", "found", "live", "term", "_", "factors", "factor"]
theorem sc_system_of : FnScope N_system_of ["graph"] (defScope s_system_of) := ⟨rfl, rfl, rfl, by decide +kernel, rfl, by decide +kernel, by decide +kernel⟩
theorem c_system_of (F : Fs w h K mg) : Cal P w K mg base "system_of" 7 ["graph"] (spSys K) := by
  have c_all_terms : Cal P w K mg base "all_terms" 6 ["graph", "unknown"] (spGF K RAllT) := c_all_terms F
  have c_all_unknowns : Cal P w K mg base "all_unknowns" 6 ["graph"] (spGF K RUnks) := c_all_unknowns F
  refine F.d_system_of.cal sc_system_of (fun _ _ _ _ _ _ us hl => match us, hl with | [_], _ => rfl) (fun vs H Q E h => by obtain ⟨_, _, rfl, _⟩ := h; rfl) fun f cdv A outer s H vs Q E hr hs => ?_
  obtain ⟨g, a, rfl, ok, hg, k⟩ := hs
  have hl40 := len_us ok
  refine ⟨_, (pss_cons (ps_setDcT (own := [("unknown", 4)]) (i := 1) (g := gName 4) (hu_of hr) rfl sc_system_of.nd rfl rfl (swDc rfl rfl rfl (by decide +kernel)) (pi_list (pe_cal c_all_unknowns (hr.mono (by decide)) (pa_cons (pv 0) pa_nil))) (blkOk_by (N := N_system_of) (sc := defScope s_system_of) (by decide +kernel))  (fun _ _ _ _ _ => (pg_name (i := 4) sc_system_of.nd rfl (Or.inl rfl))) (fun _ _ _ _ _ => (pv 4)) (fun _ _ _ _ _ => (pe_cal c_all_terms (hr.mono (by decide)) (pa_cons (pv 0) (pa_cons (pv 4) pa_nil))))) (pss_cons (ps_set (i := 2) sc_system_of.nd rfl (Or.inr rfl) pe_dnewT) (pss_cons (ps_set (i := 3) sc_system_of.nd rfl (Or.inl rfl) pe_bl) (pss_cons (ps_while PassesOwn.never (pt_val (pv 3)) (pss_cons (ps_set (i := 3) sc_system_of.nd rfl (Or.inl rfl) pe_bl) (pss_one (ps_lock (ps_for PassesOwn.never rfl (pi_keys (pv 1)) (pg_name (i := 4) sc_system_of.nd rfl (Or.inl rfl)) (pss_one (ps_if (pt_cmp (pc_dnotin (hu_of hr) (pv 4) (pv 2))) (pss_one (ps_if (pt_val (pe_callB (r := rAny K) (cr_any rfl) (by rfl) F.f_any boot_any (pa_cons (pe_lc (own := [("_", 8), ("factors", 9)]) (g := gTup K 2 (gCons (gName 8) (gCons (gName 9) gNil))) (tt := tYes) rfl sc_system_of.nd (pi_list (pe_dget (hu_of hr) (pv 1) (pv 4) (fun _ _ => rfl))) (blkOk_by (N := N_system_of) (sc := defScope s_system_of) (by decide +kernel))  (fun _ _ _ _ _ => (pg_tup rfl (pgs_cons (pg_name (i := 8) sc_system_of.nd rfl (Or.inl rfl)) (pgs_cons (pg_name (i := 9) sc_system_of.nd rfl (Or.inl rfl)) pgs_nil)))) (fun _ _ _ _ _ => pts_nil) (fun _ _ _ _ _ => (pe_callB (r := rAll K) (cr_all rfl) (by rfl) F.f_all boot_all (pa_cons (pe_lc (own := [("factor", 10)]) (g := gName 10) (tt := tYes) (wi := iTup K _) rfl sc_system_of.nd (pi_tup (pv 9)) (blkOk_by (N := N_system_of) (sc := { kind := ScopeKind.function, names := [(".0", NameKind.local), ("_", NameKind.local), ("factors", NameKind.local), ("all", NameKind.globalImplicit), ("positive", NameKind.cell)], isGenerator := false, isCoroutine := false }) (by decide +kernel))  (fun _ _ _ _ _ => (pg_name (i := 10) sc_system_of.nd rfl (Or.inl rfl))) (fun _ _ _ _ _ => pts_nil) (fun _ _ _ _ _ => (pe_cmp (pc_din (hu_of hr) (pv 10) (pv 2))))) pa_nil)))) pa_nil))) (pss_cons (ps_dput (hu_of hr) (pv 2) (pv 4) pe_bl rfl) (pss_one (ps_set (i := 3) sc_system_of.nd rfl (Or.inl rfl) pe_bl))) pss_nil)) pss_nil))))))) (pss_cons (ps_set (i := 5) sc_system_of.nd rfl (Or.inl rfl) pe_dnewT) (pss_cons (ps_for PassesOwn.never rfl (pi_list (pe_callB (r := rSortD 3 64) (cr_sortD rfl (by decide)) (by rfl) F.f_sorted boot_sorted (pa_cons (pv 2) pa_nil))) (pg_name (i := 4) sc_system_of.nd rfl (Or.inl rfl)) (pss_cons (ps_setLc (own := [("term", 7)]) (i := 6) (g := gName 7) rfl sc_system_of.nd rfl rfl (sw_true rfl rfl rfl (by decide +kernel)) (pi_list (pe_dget (hu_of hr) (pv 1) (pv 4) (fun _ _ => rfl))) (blkOk_by (N := N_system_of) (sc := defScope s_system_of) (by decide +kernel))  (fun _ _ _ _ _ => (pg_name (i := 7) sc_system_of.nd rfl (Or.inl rfl))) (fun _ _ _ _ _ => (pts_one (pt_val (pe_callB (r := rAll K) (cr_all rfl) (by rfl) F.f_all boot_all (pa_cons (pe_lc (own := [("factor", 10)]) (g := gName 10) (tt := tYes) (wi := iTup K _) rfl sc_system_of.nd (pi_tup (pe_ix (r := rIxT K) ix_tup (pv 7) pe_int (fun _ _ => rfl))) (blkOk_by (N := N_system_of) (sc := { kind := ScopeKind.function, names := [(".0", NameKind.local), ("term", NameKind.local), ("all", NameKind.globalImplicit), ("positive", NameKind.cell)], isGenerator := false, isCoroutine := false }) (by decide +kernel))  (fun _ _ _ _ _ => (pg_name (i := 10) sc_system_of.nd rfl (Or.inl rfl))) (fun _ _ _ _ _ => pts_nil) (fun _ _ _ _ _ => (pe_cmp (pc_din (hu_of hr) (pv 10) (pv 2))))) pa_nil))))) (fun _ _ _ _ _ => (pv 7))) (pss_one (ps_dput (hu_of hr) (pv 5) (pv 4) (pv 6) rfl)))) (pss_one (ps_ret (pv 5))))))))), ?_⟩
  refine st_setDc (us := unks g) (ls := fun u => (terms g u).map encTm) (ei_lst (evF_callG (RF := RUnks) (l := (unks g).map encU) (ds := []) (ea_1 (ev_var rfl rfl)) ok hg ⟨rfl, rfl⟩).d) (by omega) ?_ ?_
  · intro u x H' hu s' hx k' hk'
    exact hk' _ rfl (ev_var rfl hx) (evF_callG (RF := RAllT) (ea_2 (ev_var rfl rfl) (ev_var rfl hx)) ok (hg.same s') ⟨u, rfl, hu, rfl⟩)
  intro T kT H1 s1 hT0 hT hTab
  refine st_newT fun p hp0 => ?_
  have hp00 : H p = none := none_of s1 hp0
  have hTp : p ≠ T := fun e => by subst e; rw [hT] at hp0; cases hp0
  refine st_set K ev_bl fun c0 H3 s3 hc0 => ?_
  cases (show c0 = .bl true from hc0)
  have s13 : Same H1 H3 := (Same.new hp0).trans s3
  have hp3 : H3 p = some (.dT []) := s3 _ _ upd_same
  have hT3 := s13 _ _ hT
  have hTab := hTab.nd (Nd.of s13)
  have s03 := s1.trans s13
  obtain ⟨ks, ks1, ks2, ks3⟩ := hTab.keys
  have kTl : kT.length = ks.length := by rw [← List.length_map (f := (·.1)), ks1, List.length_map]
  let Pv : L2.St → Hp → Prop := fun σ' H' => ∃ (S : List U) (c : Bool) (kp : List (List Key × V)) (x4 : Option V), σ' = [some (.ref a), some (.ref T), some (.ref p), some (.bl c), x4, none, none, none, none, none, none] ∧ Same H H' ∧ Nd H3 H' ∧
    H' T = some (.dT kT) ∧ H' p = some (.dT kp) ∧ kp.map (·.1) = S.map kU ∧ SysS g S ∧ (c = false → ∀ u ∈ unks g, ∀ t ∈ terms g u, (∀ f ∈ t.2, f ∈ S) → u ∈ S)
  -- any([all([factor in positive for factor in factors]) for _, factors in terms[unknown]])
  have anyE : ∀ {S : List U} {kp : List (List Key × V)} {c x5 x6 : Option V} {y : V} {u : U} {H' : Hp}, u ∈ unks g → Dn K H' (encU u) y → Nd H3 H' → Rd H' T (.dT kT) → H' p = some (.dT kp) → kp.map (·.1) = S.map kU →
      EvD K (tLc (iList K (tDGet (tVar 1) (tVar 4))) (gTup K 2 (gCons (gName 8) (gCons (gName 9) gNil))) tYes (tCB (rAll K) (tCons (tLc (iTup K (tVar 9)) (gName 10) tYes (tDIn (tVar 10) (tVar 2)) [10]) tNil)) [8, 9])
        [some (.ref a), some (.ref T), some (.ref p), c, some y, x5, x6, none, none, none, none] H' (.l ((List.range (terms g u).length).map fun i => .b (inS S ((terms g u).getD i ((0, 0), []))))) := by
    intro S kp c x5 x6 y u H' hu hy hnd hrT hrp hkp
    obtain ⟨v, v1, v2⟩ := hTab.vals u hu
    have hlen : ((terms g u).map encTm).length = (terms g u).length := List.length_map ..
    have htl := tms_len ok hu
    refine (EvF.to (ev_lc (ei_lst (ev_dgetU (ev_var rfl rfl) (ev_var rfl hy) hrT v1 (Dn.nd hnd _ v2))) (fun _ => true) (fun i => .b (inS S ((terms g u).getD i ((0, 0), [])))) (fun _ _ => rfl) (by omega) ?_) (by rw [pick_all, hlen])).d
    intro i d x H'' e s'' hx k' hk'
    obtain ⟨t, t1, t2, rfl⟩ := map_get' e
    have e2 : (terms g u).getD i ((0, 0), []) = t := by rw [List.getD_eq_getElem?_getD, t1]; rfl
    refine g_pair hx.tc fun q1 q2 hq1 hq2 => hk' _ rfl et_yes fun _ => ?_
    rw [e2]
    exact ev_allU (ev_var rfl hq2.tc) (Nat.le_of_ble_eq_true rfl) (fun x H5 s5 => ev_var rfl rfl) (.inl (s'' _ _ hrp)) hkp (by have := tm_len t2; omega)
  refine while_evH Pv (wM g p) (fun σ' _ => wB σ') ?_ ?_ ?_ ?_ ?_
  · exact ⟨[], true, [], none, rfl, s03, Nd.refl _, hT3, hp3, rfl, ⟨fun _ h => (nomatch h), (by show 0 + cnt g [] ≤ _; rw [Nat.zero_add]; exact List.countP_le_length)⟩, fun z => (nomatch z)⟩
  · rintro σ' H' ⟨S, c, kp, x4, rfl, _⟩
    exact et_B (K := K) (ev_var rfl rfl)
  · rintro σ' H' ⟨S0, c, kp0, x4, rfl, z1, z2, z3, z4, z5, z6, z7⟩ hb H4 s4
    have hμ : wM g p [some (.ref a), some (.ref T), some (.ref p), some (.bl c), x4, none, none, none, none, none, none] H' = 2 * cnt g S0 + 1 := by
      rw [wM_eq z4 z5, if_pos hb]
    rw [hμ]
    refine st_set K ev_bl fun c1 H5 s5 hc1 => ?_
    cases (show c1 = .bl false from hc1)
    have z1 := (z1.trans s4).trans s5
    have z2 := z2.trans (Nd.of (s4.trans s5))
    have z3 := s5 _ _ (s4 _ _ z3)
    have z4 := s5 _ _ (s4 _ _ z4)
    let Pv2 : Obj → Nat → L2.St → Hp → Prop := fun od n σ' H' => ∃ (S : List U) (c : Bool) (kp : List (List Key × V)) (x4 : Option V), σ' = [some (.ref a), some (.ref T), some (.ref p), some (.bl c), x4, none, none, none, none, none, none] ∧ Same H H' ∧ Nd H3 H' ∧
      H' T = some (.frz od (.dT kT)) ∧ H' p = some (.dT kp) ∧ kp.map (·.1) = S.map kU ∧ SysS g S ∧ (∀ u ∈ S0, u ∈ S) ∧ (c = true → cnt g S < cnt g S0) ∧
      (c = false → (∀ u ∈ S, u ∈ S0) ∧ ∀ j, j < n → ∀ u, ks[j]? = some u → ∀ t ∈ terms g u, (∀ f ∈ t.2, f ∈ S0) → u ∈ S0)
    refine lock_for (i := 1) z3 rfl Pv2 ?_ ?_ ?_ ?_
    · intro od
      exact ⟨S0, false, kp0, x4, rfl, Same.mut z1 hT0, z2.trans (Nd.up z3 rfl), upd_same, by rw [upd_ne hTp]; exact z4, z5, z6, fun _ h => h, fun z => (nomatch z), fun _ => ⟨fun _ h => h, fun j hj => absurd hj (Nat.not_lt_zero j)⟩⟩
    · rintro od n σ' H' ⟨S, c, kp, x4, _, _, _, q, _⟩
      exact q
    · rintro od n key v q σ' H6 hkv hq ⟨S, c, kp, x4', rfl, y1, y2, y3, y4, y5, y6, y7, y8, y9⟩ E'
      have hk1 : (kT.map (·.1))[n]? = some key := by rw [List.getElem?_map, hkv]; rfl
      rw [ks1] at hk1
      have hku : ∃ u, ks[n]? = some u ∧ key = kU u := by
        rw [List.getElem?_map] at hk1
        cases e : ks[n]? with
        | none => rw [e] at hk1; cases hk1
        | some u => rw [e] at hk1; exact ⟨u, rfl, (Option.some.inj hk1).symm⟩
      obtain ⟨u, hu1, rfl⟩ := hku
      have hu : u ∈ unks g := (ks3 u).mp (List.mem_of_getElem? hu1)
      have hdu : Dn K H6 (encU u) (.ref q) := keyU' hq
      -- nothing is stored
      have skip : ∀ {H'}, Same H6 H' → (u ∈ S ∨ ∀ t ∈ terms g u, ¬ ∀ f ∈ t.2, f ∈ S) → Pv2 od (n + 1) [some (.ref a), some (.ref T), some (.ref p), some (.bl c), some (.ref q), none, none, none, none, none, none] H' := fun {H'} s' hor =>
        ⟨S, c, kp, _, rfl, y1.trans s', y2.trans (Nd.of s'), s' _ _ y3, s' _ _ y4, y5, y6, y7, y8, fun hc => ⟨(y9 hc).1, fun j hj u' hu' t ht hall => by
          by_cases hjn : j < n
          · exact (y9 hc).2 j hjn u' hu' t ht hall
          · have e : j = n := by omega
            subst e
            rw [hu1] at hu'
            cases hu'
            rcases hor with hor | hor
            · exact (y9 hc).1 u hor
            · exact absurd (fun f hf => y7 f (hall f hf)) (hor t ht)⟩⟩
      refine st_if (b := !decide (u ∈ S)) (et_B ((ev_dninU (ev_var rfl hdu) (ev_var rfl rfl) (.inl y4)).to (by rw [valU_some y5]))) (fun hb H7 s7 => ?_) fun hb H7 s7 => skip s7 (.inl (of_decide_eq_true (by rw [Bool.not_eq_false'] at hb; exact hb)))
      have hnu : ¬ u ∈ S := of_decide_eq_false (by rw [Bool.not_eq_true'] at hb; exact hb)
      refine st_if (b := (terms g u).any (inS S)) (et_B ((ev_any (bs := (List.range (terms g u).length).map fun i => inS S ((terms g u).getD i ((0, 0), []))) (anyE hu (Dn.same s7 _ hdu) (y2.trans (Nd.of s7)) (.inr ⟨od, s7 _ _ y3⟩) (s7 _ _ y4) y5) (by rw [List.map_map]; rfl)).to ?_)) (fun hb H8 s8 => ?_) fun hb H8 s8 => skip (s7.trans s8) (.inr fun t ht hall => ?_)
      · rw [map_range_getD (f := inS S) (terms g u), List.any_map]
        rfl
      · obtain ⟨t, ht, hin⟩ := List.any_eq_true.mp hb
        have hin := inS_iff.mp hin
        have hkl : kp.length = S.length := by rw [← List.length_map (f := (·.1)), y5, List.length_map]
        have hSl := y6.len
        have s68 := s7.trans s8
        refine st_dputU (kvs := kp) ev_bl (ev_var (i := 2) rfl rfl) (ev_var (i := 4) rfl (Dn.same s68 _ hdu)) (s68 _ _ y4) (by omega) fun v1 H9 s9 hv1 hp9 => ?_
        refine st_set (E := { nx := _, rt := _, bk := _, ct := _ }) (u := fun E σ H => E.nx σ H) K ev_bl fun c2 H10 s10 hc2 => ?_
        cases (show c2 = .bl true from hc2)
        have hc1 : cnt g (addU S u) < cnt g S := cnt_lt (fun x hx => mem_addU.mpr (.inl hx)) hu (mem_addU.mpr (.inr rfl)) hnu
        have hc2 : cnt g (addU S u) < cnt g S0 := cnt_lt (fun x hx => mem_addU.mpr (.inl (y7 x hx))) hu (mem_addU.mpr (.inr rfl)) fun z => hnu (y7 u z)
        refine ⟨addU S u, true, _, _, rfl, (Same.mut ((y1.trans s68).trans s9) hp00).trans s10, (y2.trans (Nd.of (s68.trans s9))).trans ((Nd.up hp9 rfl).trans (Nd.of s10)), s10 _ _ (by rw [upd_ne (Ne.symm hTp)]; exact s9 _ _ (s68 _ _ y3)), s10 _ _ upd_same, putU_keys y5 u _, ⟨fun x hx => ?_, ?_⟩, fun x hx => mem_addU.mpr (.inl (y7 x hx)), fun _ => hc2, fun z => nomatch z⟩
        · rcases mem_addU.mp hx with hx | rfl
          · exact y6.mem x hx
          · exact ⟨hu, pos_step ok hu ht fun f hf => (y6.mem f (hin f hf)).2⟩
        · have := len_addU S u
          omega
      · have hb := hb
        rw [List.any_eq_false] at hb
        exact hb t ht (inS_iff.mpr hall)
    · rintro od σ' H6 ⟨S, c, kp, x4', rfl, y1, y2, y3, y4, y5, y6, y7, y8, y9⟩
      have hp6 : upd H6 T (.dT kT) p = some (.dT kp) := by rw [upd_ne hTp]; exact y4
      have hcl : cnt g S ≤ cnt g S0 := List.countP_mono_left fun x _ h => by
        have h : ¬ x ∈ S := of_decide_eq_false (Bool.not_eq_true' _ ▸ h : decide _ = false)
        rw [decide_eq_false fun z => h (y7 x z)]; rfl
      refine ⟨⟨S, c, kp, x4', rfl, Same.mut y1 hT0, y2.trans (Nd.up y3 rfl), upd_same, hp6, y5, y6, fun hc u hu t ht hall => ?_⟩, ?_⟩
      · obtain ⟨h1, h2⟩ := y9 hc
        obtain ⟨j, hj, e⟩ := List.getElem_of_mem ((ks3 u).mpr hu)
        exact y7 u (h2 j (by omega) u (by rw [List.getElem?_eq_getElem hj, e]) t ht fun f hf => h1 f (hall f hf))
      · rw [wM_eq hp6 y5]
        cases c with
        | true => show 2 * cnt g S + 1 < 2 * cnt g S0 + 1; have := y8 rfl; omega
        | false => show 2 * cnt g S + 0 < 2 * cnt g S0 + 1; omega
  · rintro σ' H' ⟨S, c, kp, x4, rfl, z1, z2, z3, z4, z5, z6, z7⟩ hb H4 s4
    have hc : c = false := hb
    have hclo := z7 hc
    have z1 := z1.trans s4
    have z2 := z2.trans (Nd.of s4)
    have z3 := s4 _ _ z3
    have z4 := s4 _ _ z4
    have hSl := z6.len
    have hkl : kp.length = S.length := by rw [← List.length_map (f := (·.1)), z5, List.length_map]
    have hiff : ∀ u ∈ unks g, u ∈ S ↔ Posi g u := fun u hu => ⟨fun h => (z6.mem u h).2, fun h => pos_least ok (S := fun u => u ∈ S) hclo hu h⟩
    refine st_newT fun fd hfd => ?_
    have hfT : T ≠ fd := fun e => by subst e; rw [hfd] at z3; cases z3
    have hfp : p ≠ fd := fun e => by subst e; rw [hfd] at z4; cases z4
    have hfd0 : H fd = none := none_of z1 hfd
    refine for_dn (ds0 := S) (fun Q q => ?_) (fun us H5 i σ' H' => ∃ (us2 : List U) (kf : List (List Key × V)) (x4 x6 : Option V), σ' = [some (.ref a), some (.ref T), some (.ref p), some (.bl c), x4, some (.ref fd), x6, none, none, none, none] ∧ Same H H' ∧ Nd H3 H' ∧ Nd H5 H' ∧ H' T = some (.dT kT) ∧ H' p = some (.dT kp) ∧ H' fd = some (.dT kf) ∧
      kf.map (·.1) = us2.map kU ∧ us2.length ≤ i ∧ ∀ x, x ∈ us2 ↔ x ∈ us.take i) ?_ ?_ ?_ ?_
    · refine ⟨_, rfl, p, kp, rfl, .inl (by rw [upd_ne hfp]; exact z4), by omega, fun x hx => ?_, fun ys bs pr hk hperm hpr => ?_⟩
      · obtain ⟨u, hu, e⟩ := List.mem_map.mp (show x.1 ∈ S.map kU by rw [← z5]; exact List.mem_map.mpr ⟨x, hx, rfl⟩)
        obtain ⟨m1, m2, m3⟩ := mem_us.mp (z6.mem u hu).1
        have b1 := ok.l2
        have b2 := (ok.pts m1).2
        have b3 := ok.ex m1
        refine ⟨uI u, e.symm, rfl, fun m hm => ?_⟩
        unfold uI at hm
        simp only [List.mem_cons, List.not_mem_nil, or_false] at hm
        rcases hm with rfl | rfl | rfl <;> constructor <;> omega
      · obtain ⟨us, hus, hd⟩ := DnL.perm hperm (isKeys_dn hk z5)
        exact q pr ys us _ hus (Same.new hpr) upd_same (DnL.same (Same.new hpr) _ hd)
    · intro us H5 hus s5
      refine ⟨[], [], _, _, rfl, (z1.trans (Same.new hfd)).trans s5, z2.trans (Nd.of ((Same.new hfd).trans s5)), Nd.refl _, s5 _ _ (by rw [upd_ne hfT]; exact z3), s5 _ _ (by rw [upd_ne hfp]; exact z4), s5 _ _ upd_same, rfl, Nat.zero_le _, fun _ => Iff.rfl⟩
    · rintro us H5 i σ' H' ⟨us2, kf, x4, x6, _, _, _, q, _⟩
      exact q
    · rintro us H5 i u x σ' H6 hus hui huS ⟨us2, kf, x4', x6', rfl, y1, y2, y3, y4, y5, y6, y7, y8, y9⟩ hx
      have hu := (z6.mem u huS).1
      obtain ⟨v, v1, v2⟩ := hTab.vals u hu
      have hlen : ((terms g u).map encTm).length = (terms g u).length := List.length_map ..
      have htl := tms_len ok hu
      refine st_setF (ev_lc (ei_lst (ev_dgetU (ev_var rfl rfl) (ev_var rfl hx) (.inl y4) v1 (Dn.nd y2 _ v2))) (fun i => inS S ((terms g u).getD i ((0, 0), []))) (fun i => encTm ((terms g u).getD i ((0, 0), []))) (fun _ _ => nol_encTm _) (by omega) ?_) fun p7 us7 H7 s7 hp7 hl7 hd7 => ?_
      · intro i' d x' H'' e s'' hx' k' hk'
        obtain ⟨t, t1, t2, rfl⟩ := map_get' e
        have e2 : (terms g u).getD i' ((0, 0), []) = t := by rw [List.getD_eq_getElem?_getD, t1]; rfl
        refine hk' _ rfl ?_ fun _ => ?_
        · rw [e2]
          exact et_B (ev_allU (ev_ix (n := 1) (ev_var (i := 7) rfl hx'.tc) ev_int rfl ix1 : EvD K _ _ H'' (.t (t.2.map encU))).tc (Nat.le_of_ble_eq_true rfl) (fun x H5 s5 => ev_var rfl rfl) (.inl (s'' _ _ y5)) z5 (by have := tm_len t2; omega))
        · rw [e2]
          exact ev_var rfl hx'
      · have hus2 : us2.length ≤ 40 := by
          have h1 := (List.getElem?_eq_some_iff.mp hui).1
          have h2 := hus.length_eq
          omega
        have hkfl : kf.length = us2.length := by rw [← List.length_map (f := (·.1)), y7, List.length_map]
        refine st_dputU (kvs := kf) (d := fd) (u := u) (e := .o p7) (ev_var (i := 6) rfl rfl) (ev_var (i := 5) rfl rfl) (ev_var (i := 4) rfl (Dn.same s7 _ hx)) (s7 _ _ y6) (by omega) fun v8 H8 s8 hv8 hfd8 => ?_
        have nd : Nd H8 (upd H8 fd (.dT (putK kf (kU u) v8))) := Nd.up hfd8 rfl
        have s68 := s7.trans s8
        refine ⟨addU us2 u, _, _, _, rfl, Same.mut (y1.trans s68) hfd0, y2.trans ((Nd.of s68).trans nd), y3.trans ((Nd.of s68).trans nd), by rw [upd_ne hfT]; exact s68 _ _ y4, by rw [upd_ne hfp]; exact s68 _ _ y5, upd_same, putU_keys y7 u _, ?_, fun x => ?_⟩
        · have := len_addU us2 u
          omega
        · rw [mem_addU, y9, take_snoc hui, List.mem_append, List.mem_singleton]
    · rintro us H5 σ' H6 hus ⟨us2, kf, x4', x6', rfl, y1, y2, y3, y4, y5, y6, y7, y8, y9⟩
      rw [List.take_length] at y9
      have hus3 : ∀ x, x ∈ us2 ↔ x ∈ S := fun x => (y9 x).trans hus.mem_iff
      exact ⟨_, rfl, k us2 fd kf H6 (fun u hu => (z6.mem u ((hus3 u).mp hu)).1) (fun u hu => (hus3 u).trans (hiff u hu)) (by have := hus.length_eq; omega) y7 y1 y6⟩
  · intro σ H Q Q' hq hc
    obtain ⟨v, e, b, e2, q⟩ := hc
    exact ⟨v, e, b, e2, hq _ _ q⟩
end Odd

set_option Elab.async false
set_option linter.all false
set_option maxRecDepth 100000
set_option maxHeartbeats 4000000
/-! Part 18: positives. -/
namespace Odd
open PySem PySem.Spec PyProof.Rows L2
variable {P : Program} {w : World} {h : Heap} {K : PySem.W.Frag} {mg : Str → Option Value} {base : Heap}
def rListDT : List V → Hp → VK → Prop := fun xs H Q => ∃ d kvs, xs = [V.ref d] ∧ Rd H d (.dT kvs) ∧ ∀ p bs, H p = none → IsKeys H kvs bs → Q (.ref p) (upd H p (.lst (bs.map V.ref)))
theorem cr_listDT {X : Cx} (hc : X.calm = true) : CallR X (.type "list") rListDT := call_list_dT hc
def spPos (K : PySem.W.Frag) : Sp := fun vs H Q _ => ∃ g a, vs = [.ref a] ∧ Ok g ∧ IsG K H g a ∧ ∀ (us : List U) (p : Addr) (ws : List V) (H' : Hp), (∀ u ∈ unks g, u ∈ us ↔ Posi g u) → us.length ≤ 40 → Same H H' → H p = none → H' p = some (.lst ws) → DnL K H' (us.map encU) ws → Q (.ref p) H'
abbrev N_positives : List Str := ["graph"]
theorem sc_positives : FnScope N_positives ["graph"] (defScope s_positives) := ⟨rfl, rfl, rfl, by decide +kernel, rfl, by decide +kernel, by decide +kernel⟩
theorem c_positives (F : Fs w h K mg) : Cal P w K mg base "positives" 8 ["graph"] (spPos K) := by
  have c_check_chain_equations : Cal P w K mg base "check_chain_equations" 2 ["graph"] (spG K RNone) := c_check_chain_equations F
  have c_system_of : Cal P w K mg base "system_of" 7 ["graph"] (spSys K) := c_system_of F
  refine F.d_positives.cal sc_positives (fun _ _ _ _ _ _ us hl => match us, hl with | [_], _ => rfl) (fun vs H Q E h => by obtain ⟨_, _, rfl, _⟩ := h; rfl) fun f cdv A outer s H vs Q E hr hs => ?_
  obtain ⟨g, a, rfl, ok, hg, k⟩ := hs
  refine ⟨_, (pss_cons (ps_expr (pe_cal c_check_chain_equations (hr.mono (by decide)) (pa_cons (pv 0) pa_nil))) (pss_one (ps_ret (pe_callTy (r := rListDT) (cr_listDT rfl) (by rfl) F.f_list boot_list (pa_cons (pe_cal c_system_of (hr.mono (by decide)) (pa_cons (pv 0) pa_nil)) pa_nil))))), ?_⟩
  refine st_drop K (ev_callG (R := RNone) (d := .n) (ds := []) (ea_1 (ev_var rfl rfl)) ok hg ⟨rfl, rfl⟩) fun H1 s1 => ?_
  refine ⟨.ref a, rfl, g, a, rfl, ok, hg.same s1, fun us d kvs H2 hm hiff hl hk s2 hd => ⟨d, kvs, rfl, .inl hd, fun p bs hp hb => ?_⟩⟩
  exact k us p _ _ hiff hl ((s1.trans s2).trans (Same.new hp)) (none_of (s1.trans s2) hp) upd_same (DnL.same (Same.new hp) _ (isKeys_dn hb hk))
end Odd

set_option Elab.async false
set_option linter.all false
set_option maxRecDepth 100000
set_option maxHeartbeats 4000000
set_option exponentiation.threshold 3000
/-! Part 19: the table of lengths. -/
namespace Odd
open PySem PySem.Spec PyProof.Rows L2
variable {K : PySem.W.Frag}
theorem qd_eq {a d b e : Nat} (hd : 0 < d) (he : 0 < e) (h : a * e = b * d) : qd a d = qd b e := by
  unfold qd
  rw [(r_eq hd he h).1, (r_eq hd he h).2]
def kP (q : Nat × Nat) : List Key := (pI q).map Sum.inl
theorem kP_inj {a b : Nat × Nat} (e : kP a = kP b) : a = b := pI_inj ((List.map_inj_right fun _ _ h => Sum.inl.inj h).mp e)
theorem kP_v (q : Nat × Nat) : (kP q).map kV = (pI q).map V.int := by unfold kP; rw [List.map_map]; rfl
theorem keyP {H : Hp} {q : Nat × Nat} {v : V} (h : Dn K H (encP q) v) : ∃ b, v = .ref b ∧ H b = some (.tup ((kP q).map kV)) := by
  obtain ⟨b, vs, h1, h2, h3⟩ := h
  have e : vs = (pI q).map V.int := dn_ints (ns := pI q) h3
  rw [e] at h2
  exact ⟨b, h1, by rw [kP_v]; exact h2⟩
theorem dgetP {H : Hp} {d : Addr} {kvs : List (List Key × V)} {q : Nat × Nat} {v : V} (h : Rd H d (.dT kvs)) (hu : Dn K H (encP q) v) : DGet H d v (valV kvs (kP q)) := by
  obtain ⟨b, h1, h2⟩ := keyP hu
  exact .inr ⟨kvs, kP q, b, h, h1, h2, rfl⟩
/-- the unknowns of these places -/
def dom (g : Gr) (l : List (Nat × Nat)) (u : U) : Prop := (u.1, u.2.1) ∈ l ∧ u.2.2 < exitsOf g u.1 + 2
/-- where the table lies -/
structure LP where
  self : Addr
  a : Addr
  pl : Addr
  rd : Addr
  ol : Nat × Nat → Addr
  ad : U → Addr
  kvs : List (List Key × V)
  pls : List V
def rowV (g : Gr) (p : LP) (q : Nat × Nat) : List V := (List.range (exitsOf g q.1 + 2)).map fun w => .ref (p.ad (q.1, q.2, w))
/-- what stands -/
structure LS (K : PySem.W.Frag) (g : Gr) (l : List (Nat × Nat)) (p : LP) (H : Hp) : Prop where
  ins : ∃ dx, H p.self = some (.ins (He.ga K "Lengths") dx [("graph", .ref p.a), ("places", .ref p.pl), ("rows", .ref p.rd)])
  gr : IsG K H g p.a
  pl : H p.pl = some (.lst p.pls)
  pd : DnL K H (l.map encP) p.pls
  rd : H p.rd = some (.dT p.kvs)
  row : ∀ q ∈ l, valV p.kvs (kP q) = some (.ref (p.ol q)) ∧ H (p.ol q) = some (.lst (rowV g p q))
  inj : ∀ u v, dom g l u → dom g l v → p.ad u = p.ad v → u = v
  so : ∀ u q, dom g l u → q ∈ l → p.ad u ≠ p.ol q
  sp : ∀ u, dom g l u → p.ad u ≠ p.pl
/-- a length's chance -/
def vl (g : Gr) (u : U) (k : Nat) : D := qd (Nn g k u) (60 ^ k)
def vls (g : Gr) (u : U) (n : Nat) : List D := (List.range n).map (vl g u)
theorem nol_vls (g : Gr) (u : U) (n : Nat) : nolL (vls g u n) = true := nolL_map (f := vl g u) (fun _ => rfl) _
theorem vls_len (g : Gr) (u : U) (n : Nat) : (vls g u n).length = n := by unfold vls; rw [List.length_map, List.length_range]
theorem vls_get {g : Gr} {u : U} {n k : Nat} (h : k < n) : (vls g u n)[k]? = some (vl g u k) := by
  unfold vls
  rw [List.getElem?_map, List.getElem?_range h]
  rfl
/-- what the lists hold -/
def LV (K : PySem.W.Frag) (g : Gr) (l : List (Nat × Nat)) (p : LP) (ln : U → Nat) (H : Hp) : Prop := ∀ u, dom g l u → Dn K H (.l (vls g u (ln u))) (.ref (p.ad u))
theorem LV.get {g : Gr} {l : List (Nat × Nat)} {p : LP} {ln : U → Nat} {H : Hp} (h : LV K g l p ln H) {u : U} (hu : dom g l u) : ∃ vs, H (p.ad u) = some (.lst vs) ∧ DnL K H (vls g u (ln u)) vs := by
  obtain ⟨b, vs, h1, h2, h3⟩ := h u hu
  cases h1
  exact ⟨vs, h2, h3⟩
section
variable {g : Gr} {l : List (Nat × Nat)} {p : LP} {ln : U → Nat} {H H' : Hp}
theorem LS.same (s : Same H H') (h : LS K g l p H) : LS K g l p H' := ⟨by obtain ⟨dx, z⟩ := h.ins; exact ⟨dx, s _ _ z⟩, h.gr.same s, s _ _ h.pl, DnL.same s _ h.pd, s _ _ h.rd, fun q hq => ⟨(h.row q hq).1, s _ _ (h.row q hq).2⟩, h.inj, h.so, h.sp⟩
theorem LV.same (s : Same H H') (h : LV K g l p ln H) : LV K g l p ln H' := fun u hu => Dn.same s _ (h u hu)
/-- all but the innermost lists is kept -/
def Fr (g : Gr) (l : List (Nat × Nat)) (p : LP) (H H' : Hp) : Prop := ∀ b o, (∀ u, dom g l u → b ≠ p.ad u) → H b = some o → H' b = some o
theorem Fr.refl (H : Hp) : Fr g l p H H := fun _ _ _ h => h
theorem Fr.of (s : Same H H') : Fr g l p H H' := fun b o _ h => s b o h
theorem Fr.trans {H2 : Hp} (a : Fr g l p H H') (b : Fr g l p H' H2) : Fr g l p H H2 := fun x o h k => b x o h (a x o h k)
/-- one more at u -/
theorem app_one (h : LS K g l p H) (hv : LV K g l p ln H) {u : U} (hu : dom g l u) {vs : List V} (hl : H (p.ad u) = some (.lst vs)) {v : V} (hd : Dn K H (vl g u (ln u)) v) :
    LS K g l p (upd H (p.ad u) (.lst (vs ++ [v]))) ∧ LV K g l p (fun x => if x = u then ln u + 1 else ln x) (upd H (p.ad u) (.lst (vs ++ [v]))) ∧ Fr g l p H (upd H (p.ad u) (.lst (vs ++ [v]))) := by
  have tk : Tk H (upd H (p.ad u) (.lst (vs ++ [v]))) := Tk.lst hl
  have hrd : p.rd ≠ p.ad u := fun e => by have z := h.rd; rw [e, hl] at z; cases z
  refine ⟨⟨?_, h.gr.tk tk, ?_, DnL.tk tk _ (nolL_map (f := encP) (fun _ => rfl) _) h.pd, ?_, fun q hq => ⟨(h.row q hq).1, ?_⟩, h.inj, h.so, h.sp⟩, fun x hx => ?_, fun b o hb ho => ?_⟩
  · obtain ⟨dx, z⟩ := h.ins
    exact ⟨dx, tk.2.2 _ _ _ _ z⟩
  · rw [upd_ne (Ne.symm (h.sp u hu))]; exact h.pl
  · rw [upd_ne hrd]; exact h.rd
  · rw [upd_ne (Ne.symm (h.so u q hu hq))]; exact (h.row q hq).2
  · show Dn K _ (.l (vls g x (if x = u then ln u + 1 else ln x))) _
    by_cases e : x = u
    · subst e
      rw [if_pos rfl]
      obtain ⟨vs', l1, l2⟩ := hv.get hu
      rw [hl] at l1
      cases l1
      refine ⟨_, _, rfl, upd_same, ?_⟩
      unfold vls
      rw [List.range_succ, List.map_append]
      exact DnL.snoc (DnL.tk tk _ (nol_vls g x _) l2) (Dn.tk tk _ rfl hd)
    · rw [if_neg e]
      obtain ⟨vs', l1, l2⟩ := hv.get hx
      exact ⟨_, vs', rfl, by rw [upd_ne fun z => e (h.inj x u hx hu z)]; exact l1, DnL.tk tk _ (nol_vls g x _) l2⟩
  · rw [upd_ne (hb u hu)]; exact ho
end
/-! ### reading the table -/
section
variable {g : Gr} {l : List (Nat × Nat)} {p : LP} {ln : U → Nat} {H H' : Hp} {w : World} {h : Heap} {mg : Str → Option Value} {σ : L2.St} {to tk tw ti : TE}
theorem ev_rows (F : Fs w h K mg) (ho : EvD K to σ H (.o p.self)) (hs : LS K g l p H) : EvD K (tFld K to "rows") σ H (.o p.rd) := fun H1 s1 Q q => ho H1 s1 _ fun v H2 s2 hv => by
  obtain ⟨dx, z⟩ := hs.ins
  exact ⟨_, _, dx, _, _, hv, s2 _ _ (s1 _ _ z), F.cls_Lengths, F.no_Lengths_rows, rfl, q _ H2 s2 rfl⟩
theorem ev_graph (F : Fs w h K mg) (ho : EvD K to σ H (.o p.self)) (hs : LS K g l p H) : EvD K (tFld K to "graph") σ H (.o p.a) := fun H1 s1 Q q => ho H1 s1 _ fun v H2 s2 hv => by
  obtain ⟨dx, z⟩ := hs.ins
  exact ⟨_, _, dx, _, _, hv, s2 _ _ (s1 _ _ z), F.cls_Lengths, F.no_Lengths_graph, rfl, q _ H2 s2 rfl⟩
theorem ev_places (F : Fs w h K mg) (ho : EvD K to σ H (.o p.self)) (hs : LS K g l p H) : EvD K (tFld K to "places") σ H (.l (l.map encP)) := fun H1 s1 Q q => ho H1 s1 _ fun v H2 s2 hv => by
  obtain ⟨dx, z⟩ := hs.ins
  exact ⟨_, _, dx, _, _, hv, s2 _ _ (s1 _ _ z), F.cls_Lengths, F.no_Lengths_places, rfl, q _ H2 s2 ⟨_, _, rfl, s2 _ _ (s1 _ _ hs.pl), DnL.same (s1.trans s2) _ hs.pd⟩⟩
/-- rows[q], the list of its ways -/
theorem ev_rowq (F : Fs w h K mg) (ho : EvD K to σ H (.o p.self)) (hs : LS K g l p H) {q : Nat × Nat} (hq : q ∈ l) (hk : EvD K tk σ H (encP q)) : EvD K (tDGet (tFld K to "rows") tk) σ H (.l ((List.range (exitsOf g q.1 + 2)).map fun w => .o (p.ad (q.1, q.2, w)))) := fun H1 s1 Q q' =>
  ev_rows F ho hs H1 s1 _ fun x H2 s2 hx => hk H2 (s1.trans s2) _ fun y H3 s3 hy => by
    have s03 := (s1.trans s2).trans s3
    obtain ⟨r1, r2⟩ := hs.row q hq
    refine ⟨p.rd, _, hx, by rw [← r1]; exact dgetP (.inl (s03 _ _ hs.rd)) hy, q' _ H3 (s2.trans s3) ⟨_, _, rfl, s03 _ _ r2, ?_⟩⟩
    have go : ∀ m : List Nat, DnL K H3 (m.map fun w => .o (p.ad (q.1, q.2, w))) (m.map fun w => .ref (p.ad (q.1, q.2, w))) := by
      intro m
      induction m with
      | nil => rfl
      | cons a m ih => exact ⟨_, _, rfl, rfl, ih⟩
    exact go _
theorem ev_at {w : Nat} {q : Nat × Nat} {tr : TE} (hr : EvD K tr σ H (.l ((List.range (exitsOf g q.1 + 2)).map fun w => .o (p.ad (q.1, q.2, w))))) (hw : EvD K tw σ H (nD w)) (hl : w < exitsOf g q.1 + 2) : EvD K (tOp (rIxL K) tr tw) σ H (.o (p.ad (q.1, q.2, w))) :=
  ev_ixL (n := w) hr hw rfl (by rw [List.getElem?_map, List.getElem?_range hl]; rfl)
theorem ev_val {u : U} {k : Nat} {ta : TE} (ha : EvD K ta σ H (.o (p.ad u))) (hv : LV K g l p ln H) (hu : dom g l u) (hi : EvD K ti σ H (nD k)) (hk : k < ln u) : EvD K (tOp (rIxL K) ta ti) σ H (vl g u k) := by
  refine ev_ixL (l := vls g u (ln u)) (n := k) (fun H1 s1 Q q => ha H1 s1 _ fun v H2 s2 hv' => ?_) hi rfl (vls_get hk)
  rw [show v = .ref (p.ad u) from hv']
  exact q _ H2 s2 (Dn.same (s1.trans s2) _ (hv u hu))
end
end Odd

set_option Elab.async false
set_option linter.all false
set_option maxRecDepth 100000
set_option maxHeartbeats 4000000
set_option exponentiation.threshold 3000
/-! Part 20: the chance of a length. -/
namespace Odd
open PySem PySem.Spec PyProof.Rows L2
variable {P : Program} {w : World} {h : Heap} {K : PySem.W.Frag} {mg : Str → Option Value} {base : Heap}
/-! ### numbers -/
theorem p60 (k : Nat) : 0 < 60 ^ k := Nat.pow_pos (by decide)
theorem qd_add {D c : Nat} (hD : 0 < D) (T N : Nat) : qd (T * D + (c * D) * N) ((c * D) * D) = qd (T + c * N) (c * D) := by
  have e1 : T * D + (c * D) * N = D * (T + c * N) := by
    rw [Nat.mul_add, Nat.mul_comm T D, Nat.mul_comm c D, Nat.mul_assoc]
  rw [e1, Nat.mul_comm (c * D) D]
  unfold qd
  rw [(r_scale hD _ _).1, (r_scale hD _ _).2]
theorem qd_draw {T N n d x E : Nat} (hd : 0 < d) (hE : 0 < E) (hw : x * d = 60 * n) : qd (T * (d * E) + (60 * E) * (n * N)) ((60 * E) * (d * E)) = qd (T + x * N) (60 * E) := by
  have e2 : 60 * E * (n * N) = d * E * (x * N) := by
    have : 60 * E * (n * N) = (60 * n) * (E * N) := by
      rw [Nat.mul_assoc, Nat.mul_assoc]
      congr 1
      rw [← Nat.mul_assoc, ← Nat.mul_assoc, Nat.mul_comm E n]
    rw [this, ← hw]
    rw [Nat.mul_comm x d, Nat.mul_assoc, Nat.mul_assoc]
    congr 1
    rw [← Nat.mul_assoc, ← Nat.mul_assoc, Nat.mul_comm x E]
  have e1 : T * (d * E) + (60 * E) * (n * N) = (d * E) * (T + x * N) := by
    rw [Nat.mul_add, e2, Nat.mul_comm T]
  rw [e1, Nat.mul_comm (60 * E) (d * E)]
  unfold qd
  rw [(r_scale (Nat.mul_pos hd hE) _ _).1, (r_scale (Nat.mul_pos hd hE) _ _).2]
theorem qd_zero {d : Nat} (hd : 0 < d) : qd 0 d = qD 0 1 := by
  unfold qd
  rw [(rn_zero hd).1, (rn_zero hd).2]
  rfl
/-- is it (0, 1)? -/
theorem qd_is0 {n d : Nat} (hd : 0 < d) : decide ([((rn n d : Nat) : Int), ((rd n d : Nat) : Int)] = [0, 1]) = decide (n = 0) := by
  by_cases h : n = 0
  · subst h
    rw [(rn_zero hd).1, (rn_zero hd).2]
    rfl
  · rw [decide_eq_false h]
    refine decide_eq_false fun e => ?_
    simp only [List.cons.injEq, and_true] at e
    have z := rn_pos (d := d) (Nat.pos_of_ne_zero h)
    have z2 : ((rn n d : Nat) : Int) = 0 := e.1
    omega
def Mx : Nat := Bb ^ 41
theorem Nn_le {g : Gr} (ok : Ok g) {u : U} (hu : u ∈ unks g) {k : Nat} (hk : k ≤ 41) : Nn g k u ≤ Mx := Nat.le_trans (N_le_all ok k (by omega) u hu) (Nat.pow_le_pow_right (by decide) hk)
theorem mx_lt : Mx < 2 ^ 2000 := by decide +kernel
theorem p60_lt {k : Nat} (h : k ≤ 82) : 60 ^ k < 2 ^ 1000 := Nat.lt_of_le_of_lt (Nat.pow_le_pow_right (by decide) h) (by decide +kernel)
theorem lt1000 {n : Nat} (h : n < 2 ^ 1000) : n < 2 ^ 2000 := Nat.lt_trans h (by decide +kernel)
/-- what is asked, what stands -/
structure CH (K : PySem.W.Frag) (g : Gr) (l : List (Nat × Nat)) (p : LP) (ln : U → Nat) (k : Nat) (u : U) (v : V) (H : Hp) : Prop where
  ok : Ok g
  ls : LS K g l p H
  lv : LV K g l p ln H
  dn : Dn K H (encP (u.1, u.2.1)) v
  dm : dom g l u
  rc : ∃ q, Reach g q l
  hk : k ≤ 41
  has : ∀ x, dom g l x → k ≤ ln x
def spCH (K : PySem.W.Frag) (C : Gr → U → Nat → Prop) : Sp := fun vs H Q _ => ∃ g l p ln k u v, vs = [.ref p.self, v, .int u.2.2, .int (k : Nat)] ∧ CH K g l p ln k u v H ∧ C g u k ∧ ∀ v' H', Same H H' → Dn K H' (vl g u k) v' → Q v' H'
theorem dom_unk {g : Gr} {l : List (Nat × Nat)} {u : U} (hd : dom g l u) (hr : ∃ q, Reach g q l) : u ∈ unks g := by
  obtain ⟨q, r⟩ := hr
  obtain ⟨h1, h2⟩ := mem_places.mp (r.sub _ hd.1)
  exact mem_us.mpr ⟨h1, h2, hd.2⟩
theorem Reach.step {g : Gr} {q : Nat × Nat} {l : List (Nat × Nat)} (r : Reach g q l) {u : U} (hu : (u.1, u.2.1) ∈ l) {i : Nat} (hi : i ∈ tgt (ptAt g u.1 u.2.1)) : (u.1, i) ∈ l := r.clo _ hu _ (List.mem_append.mpr (.inl (List.mem_map.mpr ⟨i, hi, rfl⟩)))
theorem vl_def (g : Gr) (u : U) (k : Nat) : vl g u k = qd (Nn g k u) (60 ^ k) := rfl
/-- plus of two -/
theorem ev_plus {σ : L2.St} {H : Hp} {ta tb : TE} {a d b e : Nat} {r : D} (ha : EvD K ta σ H (qd a d)) (hb : EvD K tb σ H (qd b e)) (h : 0 < d ∧ 0 < e ∧ a < 2 ^ 2000 ∧ d < 2 ^ 2000 ∧ b < 2 ^ 2000 ∧ e < 2 ^ 2000) (hr : qd (a * e + d * b) (d * e) = r) : EvD K (tCall (spP K RPlus) [] E0 (tCons ta (tCons tb tNil))) σ H r :=
  ev_call (ea_2 ha hb) ⟨a, d, b, e, rfl, h.1, h.2.1, h.2.2.1, h.2.2.2.1, h.2.2.2.2.1, h.2.2.2.2.2, hr.symm⟩
theorem ev_times {σ : L2.St} {H : Hp} {ta tb : TE} {a d b e : Nat} (ha : EvD K ta σ H (qd a d)) (hb : EvD K tb σ H (qd b e)) (h : 0 < d ∧ 0 < e ∧ a < 2 ^ 2000 ∧ d < 2 ^ 2000 ∧ b < 2 ^ 2000 ∧ e < 2 ^ 2000) : EvD K (tCall (spP K RTimes) [] E0 (tCons ta (tCons tb tNil))) σ H (qd (a * b) (d * e)) :=
  ev_call (ea_2 ha hb) ⟨a, d, b, e, rfl, h.1, h.2.1, h.2.2.1, h.2.2.2.1, h.2.2.2.2.1, h.2.2.2.2.2, rfl⟩
def cs (g : Gr) (a b : U) (k i : Nat) : Nat := ((List.range i).map fun j => 3600 * (Nn g j a * Nn g (k - 1 - j) b)).sum
theorem cs_conv (g : Gr) (a b : U) (k : Nat) : cs g a b k k = conv (Nn g) a b k := rfl
theorem cs_succ (g : Gr) (a b : U) (k i : Nat) : cs g a b k (i + 1) = cs g a b k i + 3600 * (Nn g i a * Nn g (k - 1 - i) b) := by
  unfold cs
  rw [List.range_succ, List.map_append, List.sum_append]
  simp
def Cx1 : Nat := 3600 * (Mx * Mx)
theorem cs_le {g : Gr} (ok : Ok g) {a b : U} (ha : a ∈ unks g) (hb : b ∈ unks g) {k : Nat} (hk : k ≤ 41) : ∀ i, i ≤ k → cs g a b k i ≤ 41 * Cx1 := fun i hi => by
  refine Nat.le_trans (sum_le Cx1 _ fun x hx => ?_) ?_
  · obtain ⟨j, hj, rfl⟩ := List.mem_map.mp hx
    have hj := List.mem_range.mp hj
    exact Nat.mul_le_mul_left 3600 (Nat.mul_le_mul (Nn_le ok ha (by omega)) (Nn_le ok hb (by omega)))
  · rw [List.length_map, List.length_range]
    exact Nat.mul_le_mul_right _ (by omega)
/-- the sum over the first places -/
def os (g : Gr) (u : U) (r : Nat) (ps : List Nat) (k t : Nat) : Nat := ((ps.zipIdx.take t).map fun x => conv (Nn g) (r, 0, x.2) (u.1, x.1, u.2.2) k).sum
theorem bnd_lt : 4 * (41 * Cx1) < 2 ^ 1500 := by decide +kernel
theorem lt1500 {n : Nat} (h : n < 2 ^ 1500) : n < 2 ^ 2000 := Nat.lt_trans h (by decide +kernel)
abbrev N_Lengths_chance_of_call : List Str := ["self", "place", "way", "length", "_", "called", "points", "inner", "total", "taken", "at", "outer", "first", "lost"]
theorem sc_Lengths_chance_of_call : FnScope N_Lengths_chance_of_call ["self", "place", "way", "length"] (defScope s_Lengths_chance_of_call) := ⟨rfl, rfl, rfl, by decide +kernel, rfl, by decide +kernel, by decide +kernel⟩
theorem c_Lengths_chance_of_call (F : Fs w h K mg) : CalM P w K mg base (He.ga K "Lengths") "chance_of_call" 6 ["self", "place", "way", "length"] (spCH K fun g u k => (∃ r ps, ptAt g u.1 u.2.1 = .call r ps) ∧ 0 < k) := by
  have c_Graph_point_at : CalM P w K mg base (He.ga K "Graph") "point_at" 5 ["self", "place"] (spG K RPointAt) := c_Graph_point_at F
  have c_exits_of : Cal P w K mg base "exits_of" 1 ["graph", "place"] (spG K RExits) := c_exits_of F
  have c_plus : Cal P w K mg base "plus" 2 ["a", "b"] (spP K RPlus) := c_plus F
  have c_times : Cal P w K mg base "times" 2 ["a", "b"] (spP K RTimes) := c_times F
  refine F.d_Lengths_chance_of_call.cal sc_Lengths_chance_of_call (fun _ _ _ _ _ _ us hl => match us, hl with | [_, _, _, _], _ => rfl) (fun vs H Q E h => by obtain ⟨_, _, _, _, _, _, _, rfl, _⟩ := h; rfl) fun f cdv A outer s H vs Q E hr hs => ?_
  obtain ⟨g, l, p, ln, k1, u, v, rfl, ch, ⟨⟨r, ps, hpt⟩, hk0⟩, k⟩ := hs
  obtain ⟨kk, rfl⟩ : ∃ j, k1 = j + 1 := ⟨k1 - 1, by omega⟩
  obtain ⟨q0, rc⟩ := ch.rc
  have hu := dom_unk ch.dm ch.rc
  obtain ⟨hu1, hu2, hu3⟩ := mem_us.mp hu
  have ok := ch.ok
  have hok := ok.at hu1 hu2
  rw [hpt] at hok
  obtain ⟨hr1, hr2, hr3⟩ := hok
  have hex := ok.ex hu1
  have hexr := ok.ex hr1
  have hkk : kk ≤ 40 := by have := ch.hk; omega
  have hplc : (u.1, u.2.1) ∈ plcs g := rc.sub _ ch.dm.1
  have hrl : (r, 0) ∈ l := rc.clo _ ch.dm.1 _ (List.mem_append.mpr (.inr (by rw [hpt]; exact List.mem_singleton.mpr rfl)))
  have hto : ∀ i ∈ ps, (u.1, i) ∈ l := fun i hi => rc.step ch.dm.1 (by rw [hpt]; exact hi)
  have hps : ps.length = exitsOf g r := hr2
  refine ⟨_, (pss_cons (ps_asg (pe_calM c_Graph_point_at F.cls_Graph (hr.mono (by decide)) (show PE _ _ (tFld K _ _) from pe_fld (pv 0) rfl) (pa_cons (pv 1) pa_nil)) (pg_tup rfl (pgs_cons (pg_name (i := 4) sc_Lengths_chance_of_call.nd rfl (Or.inl rfl)) (pgs_cons (pg_name (i := 5) sc_Lengths_chance_of_call.nd rfl (Or.inl rfl)) (pgs_cons (pg_name (i := 6) sc_Lengths_chance_of_call.nd rfl (Or.inl rfl)) pgs_nil))))) (pss_cons (ps_set (i := 7) sc_Lengths_chance_of_call.nd rfl (Or.inl rfl) (pe_dget (hu_of hr) (show PE _ _ (tFld K _ _) from pe_fld (pv 0) rfl) (pe_tup (pa_cons (pv 5) (pa_cons pe_int pa_nil))) (fun _ _ => rfl))) (pss_cons (ps_set (i := 8) sc_Lengths_chance_of_call.nd rfl (Or.inl rfl) (pe_glob (v := .ref (He.ga K "ZERO")) rfl F.g_ZERO rfl)) (pss_cons (ps_for PassesOwn.never rfl (pi_enumT rfl F.f_enumerate (pa_cons (pv 6) pa_nil)) (pg_tup rfl (pgs_cons (pg_name (i := 9) sc_Lengths_chance_of_call.nd rfl (Or.inl rfl)) (pgs_cons (pg_name (i := 10) sc_Lengths_chance_of_call.nd rfl (Or.inl rfl)) pgs_nil))) (pss_cons (ps_set (i := 11) sc_Lengths_chance_of_call.nd rfl (Or.inl rfl) (pe_ix (r := rIxL K) ix_list (pe_dget (hu_of hr) (show PE _ _ (tFld K _ _) from pe_fld (pv 0) rfl) (pe_tup (pa_cons (pe_ix (r := rIxT K) ix_tup (pv 1) pe_int (fun _ _ => rfl)) (pa_cons (pv 10) pa_nil))) (fun _ _ => rfl)) (pv 2) (fun _ _ => rfl))) (pss_one (ps_for PassesOwn.never rfl (pi_range1 rfl F.f_range (pa_cons (pe_op op_sub (pv 3) pe_int) pa_nil)) (pg_name (i := 12) sc_Lengths_chance_of_call.nd rfl (Or.inl rfl)) (pss_one (ps_if (pt_cmpR (op_neD hr.units) (pe_ix (r := rIxL K) ix_list (pe_ix (r := rIxL K) ix_list (pv 7) (pv 9) (fun _ _ => rfl)) (pv 12) (fun _ _ => rfl)) (pe_glob (v := .ref (He.ga K "ZERO")) rfl F.g_ZERO rfl) (nomark _)) (pss_one (ps_set (i := 8) sc_Lengths_chance_of_call.nd rfl (Or.inl rfl) (pe_cal c_plus (hr.mono (by decide)) (pa_cons (pv 8) (pa_cons (pe_cal c_times (hr.mono (by decide)) (pa_cons (pe_ix (r := rIxL K) ix_list (pe_ix (r := rIxL K) ix_list (pv 7) (pv 9) (fun _ _ => rfl)) (pv 12) (fun _ _ => rfl)) (pa_cons (pe_ix (r := rIxL K) ix_list (pv 11) (pe_op op_sub (pe_op op_sub (pv 3) pe_int) (pv 12)) (fun _ _ => rfl)) pa_nil))) pa_nil))))) pss_nil)))))) (pss_cons (ps_set (i := 13) sc_Lengths_chance_of_call.nd rfl (Or.inl rfl) (pe_op op_sub (pv 2) (pe_cal c_exits_of (hr.mono (by decide)) (pa_cons (show PE _ _ (tFld K _ _) from pe_fld (pv 0) rfl) (pa_cons (pv 1) pa_nil))))) (pss_cons (ps_if (pt_cmpR op_ge (pv 13) pe_int (nomark _)) (pss_one (ps_set (i := 8) sc_Lengths_chance_of_call.nd rfl (Or.inl rfl) (pe_cal c_plus (hr.mono (by decide)) (pa_cons (pv 8) (pa_cons (pe_ix (r := rIxL K) ix_list (pe_ix (r := rIxL K) ix_list (pv 7) (pe_op op_add (pe_callB (r := rLen K) cr_len (by rfl) F.f_len boot_len (pa_cons (pv 6) pa_nil)) (pv 13)) (fun _ _ => rfl)) (pe_op op_sub (pv 3) pe_int) (fun _ _ => rfl)) pa_nil))))) pss_nil) (pss_one (ps_ret (pv 8))))))))), ?_⟩
  have LSs : ∀ {H'}, Same H H' → LS K g l p H' := fun s => ch.ls.same s
  have LVs : ∀ {H'}, Same H H' → LV K g l p ln H' := fun s => ch.lv.same s
  have hhas : ∀ x, dom g l x → kk < ln x := fun x hx => ch.has x hx
  refine (ev_methG (R := RPointAt) (d := encPt (ptAt g u.1 u.2.1)) (ev_graph F (ev_var rfl rfl) ch.ls) (ea_1 (ev_var (i := 1) rfl ch.dn.tc)) ok ch.ls.gr (by decide) ⟨(u.1, u.2.1), rfl, hplc, rfl⟩).run fun pv H1 s1 hp => ?_
  rw [hpt] at hp
  refine g_trip (d1 := .s "call") (d2 := nD r) (d3 := .t (ps.map nD)) (show Dn K H1 (.c [.s "call", nD r, .t (ps.map nD)]) pv from hp.tc) fun x1 x2 x3 g1 g2 g3 => ?_
  cases (show x2 = .int r from g2)
  refine st_set K (ev_rowq F (ev_var (i := 0) rfl rfl) (LSs s1) hrl (ev_tup (ea_2 (ev_i rfl) ev_int))) fun inn H2 s2 hin => ?_
  refine st_set K (ev_zero F) fun t0 H3 s3 ht0 => ?_
  have s03 := (s1.trans s2).trans s3
  have PTS : ∀ {σ : L2.St} {H'}, σ[6]? = some (some x3) → Same H1 H' → EvD K (tVar 6) σ H' (.c (ps.map nD)) := fun e s => ev_var e (Dn.same s _ g3.tc)
  have INN : ∀ {σ : L2.St} {H'}, σ[7]? = some (some inn) → Same H2 H' → EvD K (tVar 7) σ H' (.l ((List.range (exitsOf g (r, 0).1 + 2)).map fun w => .o (p.ad ((r, 0).1, (r, 0).2, w)))) := fun e s => ev_var e (Dn.same s _ hin)
  have dR : ∀ w, w < exitsOf g r + 2 → dom g l (r, 0, w) := fun w hw => ⟨hrl, hw⟩
  have h3600 : ∀ i j, i + j + 2 = kk + 1 → 60 ^ (kk + 1) = 3600 * (60 ^ i * 60 ^ j) := fun i j e => by
    rw [← e, Nat.pow_add, Nat.pow_add, Nat.mul_comm]
  have bC : ∀ t, t ≤ ps.length → os g u r ps kk t ≤ 2 * (41 * Cx1) := fun t ht => by
    refine Nat.le_trans (sum_le (41 * Cx1) _ fun x hx => ?_) ?_
    · obtain ⟨⟨to, i⟩, hz, rfl⟩ := List.mem_map.mp hx
      have hz := List.mem_of_mem_take hz
      obtain ⟨_, h2, h3⟩ := List.mem_zipIdx hz
      have hi : i < ps.length := by simpa using h2
      have hm : to ∈ ps := by rw [h3]; exact List.getElem_mem _
      rw [← cs_conv]
      exact cs_le ok (dom_unk (dR i (by omega)) ch.rc) (dom_unk (l := l) (u := (u.1, to, u.2.2)) ⟨hto to hm, ch.dm.2⟩ ch.rc) (by omega) kk (Nat.le_refl _)
    · rw [List.length_map, List.length_take, List.length_zipIdx]
      exact Nat.mul_le_mul_right _ (by omega)
  refine for_ev (ei_enum (PTS rfl (s2.trans s3))) (fun H4 t σ' H' => Same H4 H' ∧ ∃ (tv : V) (a9 a10 a11 a12 : Option V), σ' = [some (.ref p.self), some v, some (.int u.2.2), some (.int ((kk + 1 : Nat) : Int)), some x1, some (.int r), some x3, some inn, some tv, a9, a10, a11, a12, none] ∧
    Dn K H' (qd (os g u r ps kk t) (60 ^ (kk + 1))) tv) (fun H4 s4 => ⟨Same.refl _, t0, none, none, none, none, rfl, ?_⟩) (fun _ _ _ _ _ _ q => q.1) ?_ ?_
  · show Dn K H4 (qd 0 (60 ^ (kk + 1))) t0
    rw [qd_zero (p60 _)]
    exact Dn.same s4 _ ht0
  · rintro H4 t d x σ' H5 H6 s4 e ⟨z1, tv, a9, a10, a11, a12, rfl, z2⟩ z3 hx
    have hi : t < ps.length := by
      have q := (List.getElem?_eq_some_iff.mp e).1
      rwa [enumD_len, List.length_map] at q
    obtain ⟨to, hget⟩ : ∃ to, ps[t]? = some to := ⟨_, List.getElem?_eq_getElem hi⟩
    have hget' : (ps.map nD)[t]? = some (nD to) := by rw [List.getElem?_map, hget]; rfl
    rw [enumD_get hget'] at e
    cases e
    have htol : (u.1, to) ∈ l := hto to (List.mem_of_getElem? hget)
    have dT : dom g l (u.1, to, u.2.2) := ⟨htol, ch.dm.2⟩
    have dI : dom g l (r, 0, t) := dR t (by omega)
    refine g_pair hx.tc fun c1 c2 hc1 hc2 => ?_
    cases (show c1 = .int t from hc1)
    cases (show c2 = .int to from hc2)
    have s06 := ((s03.trans s4).trans z1).trans z3
    refine st_set K (ev_at (ev_rowq F (ev_var (i := 0) rfl rfl) (LSs s06) (q := (u.1, to)) htol (ev_tup (ea_2 (ev_ix (n := 0) (ev_var (i := 1) rfl (Dn.same s06 _ ch.dn).tc : EvD K _ _ H6 (.c [nD u.1, nD u.2.1])) ev_int rfl ix0) (ev_i rfl)))) (ev_i rfl) ch.dm.2) fun outv H7 s7 ho => ?_
    cases (show outv = .ref (p.ad (u.1, to, u.2.2)) from ho)
    refine for_ev (K := K) (Rel := fun _ _ => True) (ei_range (n := kk) (ev_op0 (g := fun i j => i - j) (ev_i rfl) ev_int) (by omega) (by omega)) (fun H8 i σ' H' => Same H8 H' ∧ ∃ (tv : V) (a12 : Option V), σ' = [some (.ref p.self), some v, some (.int u.2.2), some (.int ((kk + 1 : Nat) : Int)), some x1, some (.int r), some x3, some inn, some tv, some (.int t), some (.int to), some (.ref (p.ad (u.1, to, u.2.2))), a12, none] ∧
      Dn K H' (qd (os g u r ps kk t + cs g (r, 0, t) (u.1, to, u.2.2) kk i) (60 ^ (kk + 1))) tv) (fun H8 s8 => ⟨Same.refl _, tv, a12, rfl, Dn.same ((z3.trans s7).trans s8) _ z2⟩) (fun _ _ _ _ _ _ _ => trivial) ?_ ?_
    · rintro H8 i d x σ' H9 H10 s8 e ⟨y1, tv', a12', rfl, y2⟩ y3 hx
      obtain ⟨hik, rfl⟩ := rangeD_get e
      cases (show x = .int i from hx)
      have s010 := (((s06.trans s7).trans s8).trans y1).trans y3
      have s210 : Same H2 H10 := (((((s3.trans s4).trans z1).trans z3).trans s7).trans s8).trans (y1.trans y3)
      have IV : ∀ {H'}, Same H10 H' → EvD K (tOp (rIxL K) (tOp (rIxL K) (tVar 7) (tVar 9)) (tVar 12)) [some (.ref p.self), some v, some (.int u.2.2), some (.int ((kk + 1 : Nat) : Int)), some x1, some (.int r), some x3, some inn, some tv', some (.int t), some (.int to), some (.ref (p.ad (u.1, to, u.2.2))), some (.int i), none] H' (vl g (r, 0, t) i) := fun s =>
        ev_val (ev_at (q := (r, 0)) (INN rfl (s210.trans s)) (ev_i rfl) (by show t < exitsOf g r + 2; omega)) (LVs (s010.trans s)) dI (ev_i rfl) (by have := hhas _ dI; omega)
      have hcs := cs_succ g (r, 0, t) (u.1, to, u.2.2) kk i
      refine st_if (b := !decide (Nn g i (r, 0, t) = 0)) (et_cmp ((ev_neQ (IV (Same.refl _)) (ev_zero F)).to ?_)) (fun hb H11 s11 => ?_) fun hb H11 s11 => ⟨(y1.trans y3).trans s11, tv', _, rfl, ?_⟩
      · rw [qd_is0 (p60 i)]
      · have hj : i + (kk - 1 - i) + 2 = kk + 1 := by omega
        have hD := h3600 i (kk - 1 - i) hj
        have hDp : 0 < 60 ^ i * 60 ^ (kk - 1 - i) := Nat.mul_pos (p60 _) (p60 _)
        have hNi := Nn_le ok (dom_unk dI ch.rc) (k := i) (by omega)
        have hNj := Nn_le ok (dom_unk dT ch.rc) (k := kk - 1 - i) (by omega)
        have b1 := bC t (by omega)
        have b2 := cs_le ok (dom_unk dI ch.rc) (dom_unk dT ch.rc) (k := kk) (by omega) i (by omega)
        have b3 := bnd_lt
        have b4 : Nn g i (r, 0, t) * Nn g (kk - 1 - i) (u.1, to, u.2.2) < 2 ^ 2000 := Nat.lt_of_le_of_lt (Nat.mul_le_mul hNi hNj) (by decide +kernel)
        have b5 : 60 ^ i * 60 ^ (kk - 1 - i) < 2 ^ 2000 := by rw [← Nat.pow_add]; exact lt1000 (p60_lt (by omega))
        refine (ev_plus (K := K) (r := qd (os g u r ps kk t + cs g (r, 0, t) (u.1, to, u.2.2) kk (i + 1)) (60 ^ (kk + 1))) (ev_var (i := 8) rfl (Dn.same (y3.trans s11) _ y2)) (ev_times (IV s11) (ev_val (ev_var (i := 11) rfl rfl) (LVs (s010.trans s11)) dT ((ev_op0 (g := fun i j => i - j) (ev_op0 (g := fun i j => i - j) (ev_i (i := 3) rfl) ev_int) (ev_i (i := 12) rfl)).to (f := nD (kk - 1 - i)) ?_) (by have := hhas _ dT; omega)) ⟨p60 _, p60 _, Nat.lt_of_le_of_lt hNi mx_lt, lt1000 (p60_lt (by omega)), Nat.lt_of_le_of_lt hNj mx_lt, lt1000 (p60_lt (by omega))⟩)
          ⟨p60 _, hDp, lt1500 (by omega), lt1000 (p60_lt (by omega)), b4, b5⟩ ?_).run fun v' H12 s12 hv' => ⟨((y1.trans y3).trans s11).trans s12, v', _, rfl, hv'⟩
        · show D.i _ = D.i _
          congr 1
          omega
        · rw [hD, qd_add hDp, hcs, Nat.add_assoc]
      · have hb : Nn g i (r, 0, t) = 0 := of_decide_eq_true (by rw [Bool.not_eq_false'] at hb; exact hb)
        rw [hcs, hb, Nat.zero_mul, Nat.mul_zero, Nat.add_zero]
        exact Dn.same (y3.trans s11) _ y2
    · rintro H8 σ' H9 s8 ⟨y1, tv', a12', rfl, y2⟩
      refine ⟨(((z1.trans z3).trans s7).trans s8).trans y1, tv', _, _, _, _, rfl, ?_⟩
      rw [rangeD_len, cs_conv] at y2
      have e : os g u r ps kk (t + 1) = os g u r ps kk t + conv (Nn g) (r, 0, t) (u.1, to, u.2.2) kk := by
        unfold os
        rw [take_snoc (zip_get hget), List.map_append, List.sum_append]
        simp
      rw [e]
      exact y2
  · rintro H4 σ' H5 s4 ⟨z1, tv, a9, a10, a11, a12, rfl, z2⟩
    rw [enumD_len, List.length_map] at z2
    have s05 := (s03.trans s4).trans z1
    have hN := N_call hpt kk
    have eos : os g u r ps kk ps.length = (ps.zipIdx.map fun x => conv (Nn g) (r, 0, x.2) (u.1, x.1, u.2.2) kk).sum := by
      unfold os
      rw [← List.length_zipIdx (l := ps), List.take_length]
    refine st_set K (ev_op0 (g := fun i j => i - j) (ev_i (i := 2) rfl) (ev_callG (R := RExits) (d := nD (exitsOf g u.1)) (ea_2 (ev_graph F (ev_var (i := 0) rfl rfl) (LSs s05)) (ev_var (i := 1) rfl (Dn.same s05 _ ch.dn).tc)) ok (ch.ls.gr.same s05) ⟨(u.1, u.2.1), rfl, hplc, rfl⟩)) fun lv H6 s6 hlv => ?_
    cases (show lv = .int ((u.2.2 : Int) - (exitsOf g u.1 : Nat)) from hlv)
    have s06 := s05.trans s6
    have s26 : Same H2 H6 := ((s3.trans s4).trans z1).trans s6
    refine st_ifj (b := decide (0 ≤ ((u.2.2 : Int) - (exitsOf g u.1 : Nat)))) (fun σ' H' => ∃ (tv : V), σ' = [some (.ref p.self), some v, some (.int u.2.2), some (.int ((kk + 1 : Nat) : Int)), some x1, some (.int r), some x3, some inn, some tv, a9, a10, a11, a12, some (.int ((u.2.2 : Int) - (exitsOf g u.1 : Nat)))] ∧ Same H H' ∧ Dn K H' (vl g u (kk + 1)) tv)
      (et_cmp (K := K) (ev_cmp0 (g := fun i j => decide (j ≤ i)) (ev_i (i := 13) rfl) ev_int)) ?_ fun kj => ⟨fun hb H7 s7 => ?_, fun hb H7 s7 => kj _ _ ⟨tv, rfl, s06.trans s7, ?_⟩⟩
    · rintro σ' H' ⟨tv, rfl, y1, y2⟩
      exact ⟨_, rfl, k tv H' y1 y2⟩
    · have hb : 0 ≤ ((u.2.2 : Int) - (exitsOf g u.1 : Nat)) := of_decide_eq_true hb
      have hle : exitsOf g u.1 ≤ u.2.2 := by omega
      have hw := ch.dm.2
      have dI : dom g l (r, 0, exitsOf g r + (u.2.2 - exitsOf g u.1)) := dR _ (by omega)
      have hNi := Nn_le ok (dom_unk dI ch.rc) (k := kk) (by omega)
      have b1 := bC ps.length (Nat.le_refl _)
      have b3 := bnd_lt
      refine (ev_plus (K := K) (r := vl g u (kk + 1)) (ev_var (i := 8) rfl (Dn.same (s6.trans s7) _ z2)) (ev_val (ev_at (q := (r, 0)) (w := exitsOf g r + (u.2.2 - exitsOf g u.1)) (INN rfl (s26.trans s7)) ((ev_op0 (g := fun i j => i + j) (ev_lenT (PTS rfl (s2.trans (s26.trans s7)))) (ev_i (i := 13) rfl)).to ?_) (by show _ < exitsOf g r + 2; omega)) (LVs (s06.trans s7)) dI ((ev_op0 (g := fun i j => i - j) (ev_i (i := 3) rfl) ev_int).to (f := nD kk) ?_) (by have := hhas _ dI; omega))
        ⟨p60 _, p60 _, lt1500 (by omega), lt1000 (p60_lt (by omega)), Nat.lt_of_le_of_lt hNi mx_lt, lt1000 (p60_lt (by omega))⟩ ?_).run fun v' H8 s8 hv' => kj _ _ ⟨v', rfl, (s06.trans s7).trans s8, hv'⟩
      · rw [List.length_map, hps]
        show D.i _ = D.i _
        congr 1
        omega
      · show D.i _ = D.i _
        congr 1
        omega
      · rw [vl_def, hN, if_pos hle, ← eos]
        have e60 : 60 ^ (kk + 1) = 60 * 60 ^ kk := by rw [Nat.pow_succ, Nat.mul_comm]
        rw [e60, qd_add (p60 kk)]
    · have hb : ¬ 0 ≤ ((u.2.2 : Int) - (exitsOf g u.1 : Nat)) := of_decide_eq_false hb
      rw [vl_def, hN, if_neg (by omega), Nat.add_zero, ← eos]
      exact Dn.same (s6.trans s7) _ z2
end Odd

set_option Elab.async false
set_option linter.all false
set_option maxRecDepth 100000
set_option maxHeartbeats 4000000
set_option exponentiation.threshold 3000
/-! Part 21: chance_of, add_length. -/
namespace Odd
open PySem PySem.Spec PyProof.Rows L2
variable {P : Program} {w : World} {h : Heap} {K : PySem.W.Frag} {mg : Str → Option Value} {base : Heap}
theorem ev_chance {σ : L2.St} {H : Hp} {to : TE} {t : TA} {g : Gr} {l : List (Nat × Nat)} {p : LP} {ln : U → Nat} {k : Nat} {u : U} {C : Gr → U → Nat → Prop} {m : Str} (ho : EvD K to σ H (.o p.self)) (ha : EvA K t σ H [encP (u.1, u.2.1), nD u.2.2, nD k]) (ok : Ok g) (ls : LS K g l p H) (lv : LV K g l p ln H) (dm : dom g l u) (rc : ∃ q, Reach g q l) (hk : k ≤ 41) (has : ∀ x, dom g l x → k ≤ ln x) (hc : C g u k)
    (hm : (m == "graph") = false ∧ (m == "places") = false ∧ (m == "rows") = false) : EvD K (tMeth (He.ga K "Lengths") m (spCH K C) [] E0 to t) σ H (vl g u k) := fun H1 s1 Q q => ho H1 s1 _ fun v H2 s2 hv => by
  obtain ⟨dx, hi⟩ := ls.ins
  refine ⟨p.self, dx, _, hv, s2 _ _ (s1 _ _ hi), ?_, ha H2 (s1.trans s2) _ fun vs H3 s3 hvs => ?_⟩
  · show (match m == "graph" with | true => _ | false => match m == "places" with | true => _ | false => match m == "rows" with | true => _ | false => none) = none
    rw [hm.1, hm.2.1, hm.2.2]
  · obtain ⟨v1, _, rfl, h1, v2, _, rfl, h2, v3, _, rfl, h3, rfl⟩ := hvs
    have s03 := (s1.trans s2).trans s3
    rw [show v = .ref p.self from hv, show v2 = .int u.2.2 from h2, show v3 = .int (k : Nat) from h3]
    exact ⟨g, l, p, ln, k, u, v1, rfl, ⟨ok, ls.same s03, lv.same s03, h1, dm, rc, hk, has⟩, hc, fun v' H' s hd => q v' H' ((s2.trans s3).trans s) hd⟩
def ds (g : Gr) (u : U) (bs : List ((Nat × Nat) × Nat)) (k i : Nat) : Nat := ((bs.take i).map fun b => wt b.1 * Nn g k (u.1, b.2, u.2.2)).sum
theorem bnd4 : 4 * (60 * Mx) < 2 ^ 1500 := by decide +kernel
theorem bnd60 : 60 * Mx < 2 ^ 2000 := by decide +kernel
theorem qd11 : qd 1 (60 ^ 0) = qD 1 1 := rfl
abbrev N_Lengths_chance_of : List Str := ["self", "place", "way", "length", "point", "total", "chance", "at"]
theorem sc_Lengths_chance_of : FnScope N_Lengths_chance_of ["self", "place", "way", "length"] (defScope s_Lengths_chance_of) := ⟨rfl, rfl, rfl, by decide +kernel, rfl, by decide +kernel, by decide +kernel⟩
theorem c_Lengths_chance_of (F : Fs w h K mg) : CalM P w K mg base (He.ga K "Lengths") "chance_of" 7 ["self", "place", "way", "length"] (spCH K fun _ _ _ => True) := by
  have c_Graph_point_at : CalM P w K mg base (He.ga K "Graph") "point_at" 5 ["self", "place"] (spG K RPointAt) := c_Graph_point_at F
  have c_ended_way : Cal P w K mg base "ended_way" 6 ["graph", "place"] (spG K REnded) := c_ended_way F
  have c_plus : Cal P w K mg base "plus" 2 ["a", "b"] (spP K RPlus) := c_plus F
  have c_times : Cal P w K mg base "times" 2 ["a", "b"] (spP K RTimes) := c_times F
  have c_Lengths_chance_of_call : CalM P w K mg base (He.ga K "Lengths") "chance_of_call" 6 ["self", "place", "way", "length"] (spCH K fun g u k => (∃ r ps, ptAt g u.1 u.2.1 = .call r ps) ∧ 0 < k) := c_Lengths_chance_of_call F
  refine F.d_Lengths_chance_of.cal sc_Lengths_chance_of (fun _ _ _ _ _ _ us hl => match us, hl with | [_, _, _, _], _ => rfl) (fun vs H Q E h => by obtain ⟨_, _, _, _, _, _, _, rfl, _⟩ := h; rfl) fun f cdv A outer s H vs Q E hr hs => ?_
  obtain ⟨g, l, p, ln, k1, u, v, rfl, ch, _, k⟩ := hs
  obtain ⟨q0, rc⟩ := ch.rc
  have hu := dom_unk ch.dm ch.rc
  obtain ⟨hu1, hu2, hu3⟩ := mem_us.mp hu
  have ok := ch.ok
  have hok := ok.at hu1 hu2
  have hk41 := ch.hk
  have hplc : (u.1, u.2.1) ∈ plcs g := rc.sub _ ch.dm.1
  refine ⟨_, (pss_cons (ps_set (i := 4) sc_Lengths_chance_of.nd rfl (Or.inl rfl) (pe_calM c_Graph_point_at F.cls_Graph (hr.mono (by decide)) (show PE _ _ (tFld K _ _) from pe_fld (pv 0) rfl) (pa_cons (pv 1) pa_nil))) (pss_cons (ps_if (pt_cmpR (r := rIn K false) op_in_seq (pe_ix (r := rIxT K) ix_tup (pv 4) pe_int (fun _ _ => rfl)) (pe_tup (pa_cons pe_str (pa_cons pe_str (pa_cons pe_str pa_nil)))) (by rfl)) (pss_one (ps_ret (pe_ifExp (PW.pt (pw_and (pt_cmpR op_eq (pv 3) pe_int (nomark _)) (pw_and1 (pt_cmpR op_eq (pe_cal c_ended_way (hr.mono (by decide)) (pa_cons (show PE _ _ (tFld K _ _) from pe_fld (pv 0) rfl) (pa_cons (pv 1) pa_nil))) (pv 2) (nomark _))))) (pe_glob (v := .ref (He.ga K "ONE_rationals")) rfl F.g_ONE_rationals rfl) (pe_glob (v := .ref (He.ga K "ZERO")) rfl F.g_ZERO rfl)))) pss_nil) (pss_cons (ps_if (pt_cmpR op_eq (pv 3) pe_int (nomark _)) (pss_one (ps_ret (pe_glob (v := .ref (He.ga K "ZERO")) rfl F.g_ZERO rfl))) pss_nil) (pss_cons (ps_if (pt_cmpR op_eq (pe_ix (r := rIxT K) ix_tup (pv 4) pe_int (fun _ _ => rfl)) pe_str (nomark _)) (pss_cons (ps_set (i := 5) sc_Lengths_chance_of.nd rfl (Or.inl rfl) (pe_glob (v := .ref (He.ga K "ZERO")) rfl F.g_ZERO rfl)) (pss_cons (ps_for PassesOwn.never rfl (pi_tup (pe_ix (r := rIxT K) ix_tup (pv 4) pe_int (fun _ _ => rfl))) (pg_tup rfl (pgs_cons (pg_name (i := 6) sc_Lengths_chance_of.nd rfl (Or.inl rfl)) (pgs_cons (pg_name (i := 7) sc_Lengths_chance_of.nd rfl (Or.inl rfl)) pgs_nil))) (pss_one (ps_set (i := 5) sc_Lengths_chance_of.nd rfl (Or.inl rfl) (pe_cal c_plus (hr.mono (by decide)) (pa_cons (pv 5) (pa_cons (pe_cal c_times (hr.mono (by decide)) (pa_cons (pv 6) (pa_cons (pe_ix (r := rIxL K) ix_list (pe_ix (r := rIxL K) ix_list (pe_dget (hu_of hr) (show PE _ _ (tFld K _ _) from pe_fld (pv 0) rfl) (pe_tup (pa_cons (pe_ix (r := rIxT K) ix_tup (pv 1) pe_int (fun _ _ => rfl)) (pa_cons (pv 7) pa_nil))) (fun _ _ => rfl)) (pv 2) (fun _ _ => rfl)) (pe_op op_sub (pv 3) pe_int) (fun _ _ => rfl)) pa_nil))) pa_nil)))))) (pss_one (ps_ret (pv 5))))) pss_nil) (pss_cons (ps_if (pt_cmpR op_eq (pe_ix (r := rIxT K) ix_tup (pv 4) pe_int (fun _ _ => rfl)) pe_str (nomark _)) (pss_one (ps_ret (pe_ix (r := rIxL K) ix_list (pe_ix (r := rIxL K) ix_list (pe_dget (hu_of hr) (show PE _ _ (tFld K _ _) from pe_fld (pv 0) rfl) (pe_tup (pa_cons (pe_ix (r := rIxT K) ix_tup (pv 1) pe_int (fun _ _ => rfl)) (pa_cons (pe_ix (r := rIxT K) ix_tup (pv 4) pe_int (fun _ _ => rfl)) pa_nil))) (fun _ _ => rfl)) (pv 2) (fun _ _ => rfl)) (pe_op op_sub (pv 3) pe_int) (fun _ _ => rfl)))) pss_nil) (pss_one (ps_ret (pe_calM c_Lengths_chance_of_call F.cls_Lengths (hr.mono (by decide)) (pv 0) (pa_cons (pv 1) (pa_cons (pv 2) (pa_cons (pv 3) pa_nil))))))))))), ?_⟩
  have LSs : ∀ {H'}, Same H H' → LS K g l p H' := fun s => ch.ls.same s
  have LVs : ∀ {H'}, Same H H' → LV K g l p ln H' := fun s => ch.lv.same s
  refine st_set K (ev_methG (R := RPointAt) (d := encPt (ptAt g u.1 u.2.1)) (ev_graph F (ev_var (i := 0) rfl rfl) ch.ls) (ea_1 (ev_var (i := 1) rfl ch.dn.tc)) ok ch.ls.gr (by decide) ⟨(u.1, u.2.1), rfl, hplc, rfl⟩) fun pv H1 s1 hp => ?_
  rw [encPt_eq] at hp
  have V4 : ∀ {H'} {a b c : Option V}, Same H1 H' → EvD K (tVar 4) [some (.ref p.self), some v, some (.int u.2.2), some (.int (k1 : Nat)), some pv, a, b, c] H' (.c (.s (wd (ptAt g u.1 u.2.1)) :: rst (ptAt g u.1 u.2.1))) := fun s => ev_var rfl (Dn.same s _ hp.tc)
  have W0 : ∀ {H'}, Same H1 H' → EvD K (tOp (rIxT K) (tVar 4) (tC (.int 0))) [some (.ref p.self), some v, some (.int u.2.2), some (.int (k1 : Nat)), some pv, none, none, none] H' (.s (wd (ptAt g u.1 u.2.1))) := fun s => ev_ix (n := 0) (V4 s) ev_int rfl ix0
  have PL : ∀ {H'} {a b c : Option V}, Same H H' → EvD K (tOp (rIxT K) (tVar 1) (tC (.int 0))) [some (.ref p.self), some v, some (.int u.2.2), some (.int (k1 : Nat)), some pv, a, b, c] H' (nD u.1) := fun s => ev_ix (n := 0) (ev_var (i := 1) rfl (Dn.same s _ ch.dn).tc : EvD K _ _ _ (.c [nD u.1, nD u.2.1])) ev_int rfl ix0
  have kk : ∀ v' H', Same H1 H' → Dn K H' (vl g u k1) v' → Q v' H' := fun v' H' s hd => k v' H' (s1.trans s) hd
  -- an end
  have endc : (ptAt g u.1 u.2.1).ends = true → ∀ {H'}, Same H1 H' → EvD K (tIf (tAnd (tTest (tOp rEq (tVar 3) (tC (.int 0)))) (tTest (tOp rEq (tCall (spG K REnded) [] E0 (tCons (tFld K (tVar 0) "graph") (tCons (tVar 1) tNil))) (tVar 2)))) (tC (.ref (He.ga K "ONE_rationals"))) (tC (.ref (He.ga K "ZERO"))))
      [some (.ref p.self), some v, some (.int u.2.2), some (.int (k1 : Nat)), some pv, none, none, none] H' (vl g u k1) := fun he H' s => by
    have e0 : (((k1 : Nat) : Int) = 0) = (k1 = 0) := propext ⟨fun z => by omega, fun z => by omega⟩
    refine ev_if (b := decide ((k1 : Int) = 0) && decide (((endWay g u.1 (ptAt g u.1 u.2.1) : Nat) : Int) = u.2.2)) (et_and (et_cmp (K := K) (ev_eqI (ev_i rfl) ev_int)) fun _ => et_cmp (ev_eqI (ev_callG (R := REnded) (d := nD (endWay g u.1 (ptAt g u.1 u.2.1))) (ea_2 (ev_graph F (ev_var (i := 0) rfl rfl) (LSs (s1.trans s))) (ev_var (i := 1) rfl (Dn.same (s1.trans s) _ ch.dn).tc)) ok (ch.ls.gr.same (s1.trans s)) ⟨(u.1, u.2.1), rfl, hplc, he, rfl⟩) (ev_i rfl))) (fun hb => ?_) fun hb => ?_
    · obtain ⟨b1, b2⟩ := He.ba hb
      have b1 : (k1 : Int) = 0 := of_decide_eq_true b1
      have b2 : ((endWay g u.1 (ptAt g u.1 u.2.1) : Nat) : Int) = u.2.2 := of_decide_eq_true b2
      have b1 : k1 = 0 := by omega
      subst b1
      rw [vl_def, N_end0 he, if_pos (by omega)]
      exact ev_oneR F
    · have e : Nn g k1 u = 0 := by
        cases k1 with
        | zero =>
          rw [N_end0 he, if_neg]
          intro z
          rw [z, decide_eq_true rfl] at hb
          simp at hb
        | succ j => exact N_endS he j
      rw [vl_def, e, qd_zero (p60 _)]
      exact ev_zero F
  cases e : ptAt g u.1 u.2.1 with
  | exit x =>
    rw [e] at W0 endc
    exact st_ifq (et_cmp (b := true) ((ev_inW3 (W0 (Same.refl _))).to rfl)) (fun _ H2 s2 => st_ret K (endc rfl s2) fun v' H' s hd => kk v' H' (s2.trans s) hd) fun z => nomatch z
  | reject =>
    rw [e] at W0 endc
    exact st_ifq (et_cmp (b := true) ((ev_inW3 (W0 (Same.refl _))).to rfl)) (fun _ H2 s2 => st_ret K (endc rfl s2) fun v' H' s hd => kk v' H' (s2.trans s) hd) fun z => nomatch z
  | stop =>
    rw [e] at W0 endc
    exact st_ifq (et_cmp (b := true) ((ev_inW3 (W0 (Same.refl _))).to rfl)) (fun _ H2 s2 => st_ret K (endc rfl s2) fun v' H' s hd => kk v' H' (s2.trans s) hd) fun z => nomatch z
  | draw bs =>
    rw [e] at W0 V4 hok
    refine st_no (et_cmp (b := false) ((ev_inW3 (W0 (Same.refl _))).to rfl)) fun H2 s2 => ?_
    refine st_ifq (b := decide ((k1 : Int) = 0)) (et_cmp (K := K) (ev_eqI (ev_i rfl) ev_int)) (fun hb H3 s3 => st_ret K (ev_zero F) fun v' H' s hd => kk v' H' ((s2.trans s3).trans s) ?_) fun hb H3 s3 => ?_
    · have hb : (k1 : Int) = 0 := of_decide_eq_true hb
      have : k1 = 0 := by omega
      subst this
      rw [vl_def, N_zero (by rw [e]; rfl), qd_zero (p60 _)]
      exact hd
    have hb : ¬ (k1 : Int) = 0 := of_decide_eq_false hb
    obtain ⟨j, rfl⟩ : ∃ j, k1 = j + 1 := ⟨k1 - 1, by omega⟩
    have dok : DrawOk bs (g.getD u.1 (0, [])).2.length := ⟨hok.1, hok.2⟩
    refine st_ifq ((et_cmp (ev_eqS (W0 (s2.trans s3)) ev_str)).to (show decide (("draw" : Str) = "draw") = true by decide)) (fun _ H4 s4 => ?_) fun z => nomatch z
    refine st_set K (ev_zero F) fun t0 H5 s5 ht0 => ?_
    have s15 := ((s2.trans s3).trans s4).trans s5
    refine for_ev (ei_tup (ev_ix (n := 1) (V4 s15) ev_int rfl ix1 : EvD K _ _ H5 (.t (bs.map encB))).tc) (fun H6 i σ' H' => Same H6 H' ∧ ∃ (tv : V) (a6 a7 : Option V), σ' = [some (.ref p.self), some v, some (.int u.2.2), some (.int ((j + 1 : Nat) : Int)), some pv, some tv, a6, a7] ∧ Dn K H' (qd (ds g u bs j i) (60 ^ (j + 1))) tv)
      (fun H6 s6 => ⟨Same.refl _, t0, none, none, rfl, ?_⟩) (fun _ _ _ _ _ _ q => q.1) ?_ ?_
    · show Dn K H6 (qd 0 (60 ^ (j + 1))) t0
      rw [qd_zero (p60 _)]
      exact Dn.same s6 _ ht0
    · rintro H6 i d x σ' H7 H8 s6 e' ⟨z1, tv, a6, a7, rfl, z2⟩ z3 hx
      obtain ⟨b, hb1, hb2, rfl⟩ := map_get' e'
      have wb := dok.wt hb2
      refine g_pair hx.tc fun c q hc hq => ?_
      cases (show q = .int b.2 from hq)
      have s08 := (((s1.trans s15).trans s6).trans z1).trans z3
      have htl : (u.1, b.2) ∈ l := rc.step ch.dm.1 (by rw [e]; exact List.mem_map.mpr ⟨b, hb2, rfl⟩)
      have dT : dom g l (u.1, b.2, u.2.2) := ⟨htl, ch.dm.2⟩
      have hN := Nn_le ok (dom_unk dT ch.rc) (k := j) (by omega)
      have hT : ds g u bs j i ≤ 4 * (60 * Mx) := by
        refine Nat.le_trans (sum_le (60 * Mx) _ fun x hx => ?_) ?_
        · obtain ⟨b', hb', rfl⟩ := List.mem_map.mp hx
          have hb' := List.mem_of_mem_take hb'
          have htl' : (u.1, b'.2) ∈ l := rc.step ch.dm.1 (by rw [e]; exact List.mem_map.mpr ⟨b', hb', rfl⟩)
          exact Nat.mul_le_mul (menu_w60 _ dok.m _ (List.mem_map.mpr ⟨b', hb', rfl⟩)) (Nn_le ok (dom_unk (l := l) (u := (u.1, b'.2, u.2.2)) ⟨htl', ch.dm.2⟩ ch.rc) (by omega))
        · rw [List.length_map, List.length_take]
          have := dok.len
          exact Nat.mul_le_mul_right _ (by omega)
      have b4 := bnd4
      have b5 : b.1.1 * Nn g j (u.1, b.2, u.2.2) < 2 ^ 2000 := Nat.lt_of_le_of_lt (Nat.mul_le_mul wb.2.2.2.2.2.1 hN) bnd60
      have b6 : b.1.2 * 60 ^ j < 2 ^ 2000 := by
        refine Nat.lt_of_le_of_lt (Nat.mul_le_mul_right _ wb.2.2.2.2.2.2.1) ?_
        rw [Nat.mul_comm, ← Nat.pow_succ]
        exact lt1000 (p60_lt (by omega))
      have e60 : 60 ^ (j + 1) = 60 * 60 ^ j := by rw [Nat.pow_succ, Nat.mul_comm]
      refine (ev_plus (K := K) (r := qd (ds g u bs j (i + 1)) (60 ^ (j + 1))) (ev_var (i := 5) rfl (Dn.same z3 _ z2)) (ev_times (a := b.1.1) (d := b.1.2) (ev_var (i := 6) rfl (by rw [← qD_qd wb.2.2.2.2.2.2.2]; exact hc)) (ev_val (ev_at (ev_rowq F (ev_var (i := 0) rfl rfl) (LSs s08) (q := (u.1, b.2)) htl (ev_tup (ea_2 (PL s08) (ev_i (i := 7) rfl)))) (ev_i (i := 2) rfl) ch.dm.2) (LVs s08) dT ((ev_op0 (g := fun i j => i - j) (ev_i (i := 3) rfl) ev_int).to (f := nD j) ?_) (Nat.lt_of_lt_of_le (Nat.lt_succ_self j) (ch.has _ dT))) ⟨wb.2.1, p60 _, small_lt2 (by have := wb.2.2.2.2.2.1; omega), small_lt2 (by have := wb.2.2.2.2.2.2.1; omega), Nat.lt_of_le_of_lt hN mx_lt, lt1000 (p60_lt (by omega))⟩)
        ⟨p60 _, Nat.mul_pos wb.2.1 (p60 _), lt1500 (by omega), lt1000 (p60_lt (by omega)), b5, b6⟩ ?_).run fun v' H9 s9 hv' => ⟨(z1.trans z3).trans s9, v', _, _, rfl, hv'⟩
      · show D.i _ = D.i _
        congr 1
        omega
      · have eds : ds g u bs j (i + 1) = ds g u bs j i + wt b.1 * Nn g j (u.1, b.2, u.2.2) := by
          unfold ds
          rw [take_snoc hb1, List.map_append, List.sum_append]
          simp
        rw [e60, eds]
        exact qd_draw wb.2.1 (p60 j) wb.2.2.2.2.1
    · rintro H6 σ' H7 s6 ⟨z1, tv, a6, a7, rfl, z2⟩
      rw [List.length_map] at z2
      have eds : ds g u bs j bs.length = Nn g (j + 1) u := by
        unfold ds
        rw [List.take_length, N_draw e]
      rw [eds] at z2
      exact ⟨_, rfl, kk tv H7 ((s15.trans s6).trans z1) z2⟩
  | reward x y =>
    rw [e] at W0 V4
    refine st_no (et_cmp (b := false) ((ev_inW3 (W0 (Same.refl _))).to rfl)) fun H2 s2 => ?_
    refine st_ifq (b := decide ((k1 : Int) = 0)) (et_cmp (K := K) (ev_eqI (ev_i rfl) ev_int)) (fun hb H3 s3 => st_ret K (ev_zero F) fun v' H' s hd => kk v' H' ((s2.trans s3).trans s) ?_) fun hb H3 s3 => ?_
    · have hb : (k1 : Int) = 0 := of_decide_eq_true hb
      have : k1 = 0 := by omega
      subst this
      rw [vl_def, N_zero (by rw [e]; rfl), qd_zero (p60 _)]
      exact hd
    have hb : ¬ (k1 : Int) = 0 := of_decide_eq_false hb
    obtain ⟨j, rfl⟩ : ∃ j, k1 = j + 1 := ⟨k1 - 1, by omega⟩
    refine st_no ((et_cmp (ev_eqS (W0 (s2.trans s3)) ev_str)).to (show decide (("reward" : Str) = "draw") = false by decide)) fun H4 s4 => ?_
    refine st_ifq ((et_cmp (ev_eqS (W0 ((s2.trans s3).trans s4)) ev_str)).to (show decide (("reward" : Str) = "reward") = true by decide)) (fun _ H5 s5 => ?_) fun z => nomatch z
    have s15 := ((s2.trans s3).trans s4).trans s5
    have s05 := s1.trans s15
    have htl : (u.1, y) ∈ l := rc.step ch.dm.1 (by rw [e]; exact List.mem_singleton.mpr rfl)
    have dT : dom g l (u.1, y, u.2.2) := ⟨htl, ch.dm.2⟩
    refine st_ret K (ev_val (k := j) (ev_at (ev_rowq F (ev_var (i := 0) rfl rfl) (LSs s05) (q := (u.1, y)) htl (ev_tup (ea_2 (PL s05) (ev_ix (n := 2) (V4 s15) ev_int rfl rfl)))) (ev_i (i := 2) rfl) ch.dm.2) (LVs s05) dT ((ev_op0 (g := fun i j => i - j) (ev_i (i := 3) rfl) ev_int).to (f := nD j) ?_) (Nat.lt_of_lt_of_le (Nat.lt_succ_self j) (ch.has _ dT))) fun v' H' s hd => kk v' H' (s15.trans s) ?_
    · show D.i _ = D.i _
      congr 1
      omega
    · rw [vl_def, N_reward e]
      rw [vl_def] at hd
      rw [qd_eq (a := 60 * Nn g j (u.1, y, u.2.2)) (b := Nn g j (u.1, y, u.2.2)) (e := 60 ^ j) (p60 _) (p60 _) (by rw [Nat.pow_succ, Nat.mul_comm 60, Nat.mul_assoc, Nat.mul_comm (60 ^ j)])]
      exact hd
  | call r ps =>
    rw [e] at W0
    refine st_no (et_cmp (b := false) ((ev_inW3 (W0 (Same.refl _))).to rfl)) fun H2 s2 => ?_
    refine st_ifq (b := decide ((k1 : Int) = 0)) (et_cmp (K := K) (ev_eqI (ev_i rfl) ev_int)) (fun hb H3 s3 => st_ret K (ev_zero F) fun v' H' s hd => kk v' H' ((s2.trans s3).trans s) ?_) fun hb H3 s3 => ?_
    · have hb : (k1 : Int) = 0 := of_decide_eq_true hb
      have : k1 = 0 := by omega
      subst this
      rw [vl_def, N_zero (by rw [e]; rfl), qd_zero (p60 _)]
      exact hd
    have hb : ¬ (k1 : Int) = 0 := of_decide_eq_false hb
    refine st_no ((et_cmp (ev_eqS (W0 (s2.trans s3)) ev_str)).to (show decide (("call" : Str) = "draw") = false by decide)) fun H4 s4 => ?_
    refine st_no ((et_cmp (ev_eqS (W0 ((s2.trans s3).trans s4)) ev_str)).to (show decide (("call" : Str) = "reward") = false by decide)) fun H5 s5 => ?_
    have s15 := ((s2.trans s3).trans s4).trans s5
    have s05 := s1.trans s15
    exact st_ret K (ev_chance (u := u) (k := k1) (ln := ln) (ev_var (i := 0) rfl rfl) (ea_3 (ev_var (i := 1) rfl (Dn.same s05 _ ch.dn)) (ev_i rfl) (ev_i rfl)) ok (LSs s05) (LVs s05) ch.dm ch.rc hk41 ch.has ⟨⟨r, ps, e⟩, by omega⟩ ⟨by decide, by decide, by decide⟩) fun v' H' s hd => kk v' H' (s15.trans s) hd
end Odd

set_option Elab.async false
set_option linter.all false
set_option maxRecDepth 100000
set_option maxHeartbeats 4000000
set_option exponentiation.threshold 3000
/-! Part 22: add_length, sum_of. -/
namespace Odd
open PySem PySem.Spec PyProof.Rows L2
variable {P : Program} {w : World} {h : Heap} {K : PySem.W.Frag} {mg : Str → Option Value} {base : Heap}
def RelF (g : Gr) (l : List (Nat × Nat)) (p : LP) (H H' : Hp) : Prop := Fr g l p H H' ∧ Tk H H'
theorem ei_places (F : Fs w h K mg) {σ : L2.St} {H : Hp} {to : TE} {g : Gr} {l : List (Nat × Nat)} {p : LP} (ho : EvD K to σ H (.o p.self)) (hs : LS K g l p H) : EvI K (RelF g l p) (iList K (tFld K to "places")) σ H (l.map encP) := fun H1 a R r => ho H1 a _ fun v H2 s2 hv => by
  obtain ⟨dx, z⟩ := hs.ins
  have s02 := a.trans s2
  refine ⟨p.self, _, dx, _, _, hv, s02 _ _ z, F.cls_Lengths, F.no_Lengths_places, rfl, p.pl, rfl, ⟨p.pls, SqL.of (s02 _ _ hs.pl)⟩, r _ H2 (fun H => H p.pl = some (.lst p.pls) ∧ DnL K H (l.map encP) p.pls) s2 ?_ fun H3 s3 => ⟨s3.1 _ _ (fun u hu e => hs.sp u hu e.symm) (s02 _ _ hs.pl), DnL.tk s3.2 _ (nolL_map (f := encP) (fun _ => rfl) _) (DnL.same s02 _ hs.pd)⟩⟩
  rw [← hs.pd.length]
  exact walk_list.mono (fun H q => SqL.of q.1) fun i H' x H'' _ q y => by
    obtain ⟨e, y⟩ := y
    subst e
    obtain ⟨d, q1, q2⟩ := q.2.get' y
    exact ⟨Same.refl _, d, q1, q2⟩
def spAdd (K : PySem.W.Frag) : Sp := fun vs H Q _ => ∃ g l p k, vs = [.ref p.self, .int (k : Nat)] ∧ Ok g ∧ LS K g l p H ∧ LV K g l p (fun _ => k) H ∧ (∃ q, Reach g q l) ∧ k ≤ 40 ∧ ∀ H', Fr g l p H H' → Tk H H' → LS K g l p H' → LV K g l p (fun _ => k + 1) H' → Q .non H'
abbrev N_Lengths_add_length : List Str := ["self", "length", "at", "way"]
theorem sc_Lengths_add_length : FnScope N_Lengths_add_length ["self", "length"] (defScope s_Lengths_add_length) := ⟨rfl, rfl, rfl, by decide +kernel, rfl, by decide +kernel, by decide +kernel⟩
theorem c_Lengths_add_length (F : Fs w h K mg) : CalM P w K mg base (He.ga K "Lengths") "add_length" 8 ["self", "length"] (spAdd K) := by
  have c_Lengths_chance_of : CalM P w K mg base (He.ga K "Lengths") "chance_of" 7 ["self", "place", "way", "length"] (spCH K fun _ _ _ => True) := c_Lengths_chance_of F
  refine F.d_Lengths_add_length.cal sc_Lengths_add_length (fun _ _ _ _ _ _ us hl => match us, hl with | [_, _], _ => rfl) (fun vs H Q E h => by obtain ⟨_, _, _, _, rfl, _⟩ := h; rfl) fun f cdv A outer s H vs Q E hr hs => ?_
  obtain ⟨g, l, p, k1, rfl, ok, ls, lv, ⟨q0, rc⟩, hk, k⟩ := hs
  refine ⟨_, (pss_one (ps_for PassesOwn.never rfl (pi_list (show PE _ _ (tFld K _ _) from pe_fld (pv 0) rfl)) (pg_name (i := 2) sc_Lengths_add_length.nd rfl (Or.inl rfl)) (pss_one (ps_for PassesOwn.never rfl (pi_range1 rfl F.f_range (pa_cons (pe_callB (r := rLen K) cr_len (by rfl) F.f_len boot_len (pa_cons (pe_dget (hu_of hr) (show PE _ _ (tFld K _ _) from pe_fld (pv 0) rfl) (pv 2) (fun _ _ => rfl)) pa_nil)) pa_nil)) (pg_name (i := 3) sc_Lengths_add_length.nd rfl (Or.inl rfl)) (pss_one (ps_expr (pe_bm PySem.F.plainAttrs_list PySem.F.slot_list_append PySem.F.type_list_append mt_append (pe_ix (r := rIxL K) ix_list (pe_dget (hu_of hr) (show PE _ _ (tFld K _ _) from pe_fld (pv 0) rfl) (pv 2) (fun _ _ => rfl)) (pv 3) (fun _ _ => rfl)) (pa_cons (pe_calM c_Lengths_chance_of F.cls_Lengths (hr.mono (by decide)) (pv 0) (pa_cons (pv 2) (pa_cons (pv 3) (pa_cons (pv 1) pa_nil)))) pa_nil)))))))), ?_⟩
  refine for_ev (ei_places F (ev_var (i := 0) rfl rfl) ls) (fun H3 i σ' H' => RelF g l p H3 H' ∧ LS K g l p H' ∧ ∃ (ln : U → Nat) (a2 a3 : Option V), σ' = [some (.ref p.self), some (.int (k1 : Nat)), a2, a3] ∧ LV K g l p ln H' ∧ ∀ u, dom g l u → ln u = if (u.1, u.2.1) ∈ l.take i then k1 + 1 else k1)
    (fun H3 s3 => ⟨⟨Fr.refl _, Tk.refl _⟩, ls.same s3, fun _ => k1, none, none, rfl, lv.same s3, fun u _ => rfl⟩) (fun _ _ _ _ _ _ q => q.1) ?_ ?_
  · rintro H3 i d x σ' H4 H5 s3 e ⟨z1, z2, ln, a2, a3, rfl, z3, z4⟩ z5 hx
    obtain ⟨q, q1, q2, rfl⟩ := map_get' e
    have hnq : ¬ q ∈ l.take i := fun hm => by
      obtain ⟨j, hj, e⟩ := List.getElem_of_mem hm
      rw [List.length_take] at hj
      have hij : j < i := by omega
      obtain ⟨hi, e2⟩ := List.getElem?_eq_some_iff.mp q1
      have z := List.pairwise_iff_getElem.mp rc.nd j i (by omega) hi hij
      rw [List.getElem_take] at e
      exact z (e.trans e2.symm)
    have hq := mem_places.mp (rc.sub q q2)
    have hex := ok.ex hq.1
    have ls5 := z2.same z5
    refine for_ev (K := K) (Rel := fun _ _ => True) (ei_range (n := exitsOf g q.1 + 2) ((ev_lenL (ev_rowq F (ev_var (i := 0) rfl rfl) ls5 q2 (ev_var (i := 2) (d := encP q) rfl hx))).to rfl) (by rw [List.length_map, List.length_range]) (by omega)) (fun H6 j σ' H' => RelF g l p H6 H' ∧ LS K g l p H' ∧ ∃ (ln : U → Nat) (a3 : Option V), σ' = [some (.ref p.self), some (.int (k1 : Nat)), some x, a3] ∧ LV K g l p ln H' ∧ ∀ u, dom g l u → ln u = if (u.1, u.2.1) ∈ l.take i ∨ ((u.1, u.2.1) = q ∧ u.2.2 < j) then k1 + 1 else k1)
      (fun H6 s6 => ⟨⟨Fr.refl _, Tk.refl _⟩, ls5.same s6, ln, a3, rfl, (z3.same z5).same s6, fun u hu => ?_⟩) (fun _ _ _ _ _ _ _ => trivial) ?_ ?_
    · rw [z4 u hu]
      by_cases hm : (u.1, u.2.1) ∈ l.take i
      · rw [if_pos hm, if_pos (.inl hm)]
      · rw [if_neg hm, if_neg fun z => z.elim hm fun z => absurd z.2 (Nat.not_lt_zero _)]
    · rintro H6 j d x' σ' H7 H8 s6 e' ⟨y1, y2, ln', a3', rfl, y3, y4⟩ y5 hx'
      obtain ⟨hj, rfl⟩ := rangeD_get e'
      cases (show x' = .int j from hx')
      have ls8 := y2.same y5
      have lv8 := y3.same y5
      have du : dom g l (q.1, q.2, j) := ⟨q2, hj⟩
      have hln : ln' (q.1, q.2, j) = k1 := by
        rw [y4 _ du, if_neg]
        rintro (z | z)
        · exact hnq z
        · exact absurd z.2 (Nat.lt_irrefl j)
      have tk58 : Tk H5 H8 := ((Tk.of s6).trans y1.2).trans (Tk.of y5)
      have X2 : ∀ {H'}, Same H8 H' → Dn K H' (encP q) x := fun s => Dn.same s _ (Dn.tk tk58 (encP q) rfl hx)
      obtain ⟨vs, v1, v2⟩ := lv8.get du
      rw [hln] at v2
      refine st_app1 (p := p.ad (q.1, q.2, j)) (d := vl g (q.1, q.2, j) k1) (ev_at (ev_rowq F (ev_var (i := 0) rfl rfl) ls8 q2 (ev_var (i := 2) rfl (X2 (Same.refl _)))) (ev_i rfl) hj) v1 (by rw [v2.length, vls_len]; omega) (ev_chance (u := (q.1, q.2, j)) (k := k1) (ln := ln') (ev_var (i := 0) rfl rfl) (ea_3 (ev_var (i := 2) rfl (X2 (Same.refl _))) (ev_i rfl) (ev_i rfl)) ok ls8 lv8 du ⟨q0, rc⟩ (by omega) (fun u hu => by rw [y4 u hu]; split <;> omega) trivial ⟨by decide, by decide, by decide⟩) fun v H9 s9 hv hl9 => ?_
      obtain ⟨f1, f2, f3⟩ := app_one (ls8.same s9) (lv8.same s9) du hl9 (v := v) (by rw [hln]; exact hv)
      refine ⟨⟨(y1.1.trans (Fr.of (y5.trans s9))).trans f3, (y1.2.trans (Tk.of (y5.trans s9))).trans (Tk.lst hl9)⟩, f1, _, _, rfl, f2, fun u hu => ?_⟩
      show (if u = (q.1, q.2, j) then ln' (q.1, q.2, j) + 1 else ln' u) = _
      by_cases eu : u = (q.1, q.2, j)
      · subst eu
        rw [if_pos rfl, hln, if_pos (.inr ⟨rfl, Nat.lt_succ_self j⟩)]
      · rw [if_neg eu, y4 u hu]
        by_cases c1 : (u.1, u.2.1) ∈ l.take i ∨ ((u.1, u.2.1) = q ∧ u.2.2 < j)
        · rw [if_pos c1, if_pos (c1.imp id fun z => ⟨z.1, Nat.lt_succ_of_lt z.2⟩)]
        · rw [if_neg c1, if_neg]
          rintro (z | ⟨z1, z2⟩)
          · exact c1 (.inl z)
          · refine c1 (.inr ⟨z1, ?_⟩)
            have : u.2.2 ≠ j := fun e3 => eu (by rw [← z1, ← e3])
            omega
    · rintro H6 σ' H7 s6 ⟨y1, y2, ln', a3', rfl, y3, y4⟩
      rw [rangeD_len] at y4
      refine ⟨⟨((z1.1.trans (Fr.of z5)).trans (Fr.of s6)).trans y1.1, ((z1.2.trans (Tk.of z5)).trans (Tk.of s6)).trans y1.2⟩, y2, ln', _, _, rfl, y3, fun u hu => ?_⟩
      rw [y4 u hu, take_snoc q1]
      by_cases c1 : (u.1, u.2.1) ∈ l.take i ++ [q]
      · rw [if_pos c1, if_pos]
        rcases List.mem_append.mp c1 with z | z
        · exact .inl z
        · have z := List.mem_singleton.mp z
          exact .inr ⟨z, by rw [← z]; exact hu.2⟩
      · rw [if_neg c1, if_neg]
        rintro (z | ⟨z, _⟩)
        · exact c1 (List.mem_append.mpr (.inl z))
        · exact c1 (List.mem_append.mpr (.inr (List.mem_singleton.mpr z)))
  · rintro H3 σ' H4 s3 ⟨z1, z2, ln, a2, a3, rfl, z3, z4⟩
    refine k H4 ((Fr.of s3).trans z1.1) ((Tk.of s3).trans z1.2) z2 fun u hu => ?_
    have e : ln u = k1 + 1 := by
      rw [z4 u hu, if_pos]
      rw [List.length_map, List.take_length]
      exact hu.1
    have z := z3 u hu
    rw [e] at z
    exact z
/-! ### sum_of -/
def Ts (g : Gr) (u : U) : Nat → Nat
  | 0 => 0
  | j + 1 => 60 * (Ts g u j + Nn g j u)
theorem Ts_le {g : Gr} (ok : Ok g) {u : U} (hu : u ∈ unks g) : ∀ j, j ≤ 42 → Ts g u j ≤ Bb ^ (j + 1)
  | 0, _ => Nat.zero_le _
  | j + 1, h => by
    have h1 := Ts_le ok hu j (by omega)
    have h2 := N_le_all ok j (by omega) u hu
    have h3 : Bb ^ j ≤ Bb ^ (j + 1) := Nat.pow_le_pow_right (by decide) (by omega)
    show 60 * (Ts g u j + Nn g j u) ≤ Bb ^ (j + 1 + 1)
    have e : Bb ^ (j + 1 + 1) = 8192 * Bb ^ (j + 1) := by rw [Nat.pow_succ, Nat.mul_comm]; rfl
    omega
theorem Ts_zero {g : Gr} {u : U} : ∀ {j : Nat}, (∀ i, i < j → Nn g i u = 0) → Ts g u j = 0
  | 0, _ => rfl
  | j + 1, h => by
    show 60 * (Ts g u j + Nn g j u) = 0
    rw [Ts_zero fun i hi => h i (by omega), h j (Nat.lt_succ_self j)]
theorem Ts_pos {g : Gr} {u : U} {n : Nat} (h : 0 < Nn g n u) : 0 < Ts g u (n + 1) := by
  show 0 < 60 * (Ts g u n + Nn g n u)
  omega
theorem bnd43 : Bb ^ 43 < 2 ^ 2000 := by decide +kernel
def RSum : List D → D → Prop := fun ds r => ∃ g u m, ds = [.l (vls g u m)] ∧ Ok g ∧ u ∈ unks g ∧ m ≤ 41 ∧ r = qd (Ts g u m) (60 ^ m)
abbrev N_sum_of : List Str := ["numbers", "total", "number"]
theorem sc_sum_of : FnScope N_sum_of ["numbers"] (defScope s_sum_of) := ⟨rfl, rfl, rfl, by decide +kernel, rfl, by decide +kernel, by decide +kernel⟩
theorem c_sum_of (F : Fs w h K mg) : Cal P w K mg base "sum_of" 3 ["numbers"] (spP K RSum) := by
  have c_plus : Cal P w K mg base "plus" 2 ["a", "b"] (spP K RPlus) := c_plus F
  refine F.d_sum_of.cal sc_sum_of (fun _ _ _ _ _ _ us hl => match us, hl with | [_], _ => rfl) (spP_len fun ds d r => by obtain ⟨_, _, _, rfl, _⟩ := r; rfl) fun f cdv A outer s H vs Q E hr hs => ?_
  obtain ⟨ds, r, hv, ⟨g, u, m, rfl, ok, hu, hm, rfl⟩, k⟩ := hs
  obtain ⟨v1, _, rfl, h1, rfl⟩ := hv
  refine ⟨_, (pss_cons (ps_set (i := 1) sc_sum_of.nd rfl (Or.inl rfl) (pe_glob (v := .ref (He.ga K "ZERO")) rfl F.g_ZERO rfl)) (pss_cons (ps_for PassesOwn.never rfl (pi_list (pv 0)) (pg_name (i := 2) sc_sum_of.nd rfl (Or.inl rfl)) (pss_one (ps_set (i := 1) sc_sum_of.nd rfl (Or.inl rfl) (pe_cal c_plus (hr.mono (by decide)) (pa_cons (pv 1) (pa_cons (pv 2) pa_nil)))))) (pss_one (ps_ret (pv 1))))), ?_⟩
  refine st_set K (ev_zero F) fun t0 H1 s1 ht0 => ?_
  refine for_ev (ei_lst (ev_var (i := 0) rfl (Dn.same s1 _ h1))) (fun H3 i σ' H' => Same H3 H' ∧ ∃ (tv : V) (a2 : Option V), σ' = [some v1, some tv, a2] ∧ Dn K H' (qd (Ts g u i) (60 ^ i)) tv) (fun H3 s3 => ⟨Same.refl _, t0, none, rfl, ?_⟩) (fun _ _ _ _ _ _ q => q.1) ?_ ?_
  · show Dn K H3 (qd 0 (60 ^ 0)) t0
    rw [qd_zero (p60 _)]
    exact Dn.same s3 _ ht0
  · rintro H3 i d x σ' H4 H5 s3 e ⟨z1, tv, a2, rfl, z2⟩ z3 hx
    have hi : i < m := by
      have q := (List.getElem?_eq_some_iff.mp e).1
      rwa [vls_len] at q
    rw [vls_get hi] at e
    cases e
    have b1 := Ts_le ok hu i (by omega)
    have b2 := Nn_le ok hu (k := i) (by omega)
    have b3 : Bb ^ (i + 1) ≤ Bb ^ 43 := Nat.pow_le_pow_right (by decide) (by omega)
    have b4 := bnd43
    refine (ev_plus (K := K) (r := qd (Ts g u (i + 1)) (60 ^ (i + 1))) (ev_var (i := 1) rfl (Dn.same z3 _ z2)) (ev_var (i := 2) rfl hx) ⟨p60 _, p60 _, Nat.lt_of_le_of_lt (Nat.le_trans b1 b3) b4, lt1000 (p60_lt (by omega)), Nat.lt_of_le_of_lt b2 mx_lt, lt1000 (p60_lt (by omega))⟩ ?_).run fun v' H9 s9 hv' => ⟨(z1.trans z3).trans s9, v', _, rfl, hv'⟩
    show _ = qd (60 * (Ts g u i + Nn g i u)) (60 ^ (i + 1))
    have e1 : Ts g u i * 60 ^ i + 60 ^ i * Nn g i u = 60 ^ i * (Ts g u i + Nn g i u) := by rw [Nat.mul_add, Nat.mul_comm]
    rw [e1, Nat.pow_succ, Nat.mul_comm (60 ^ i) 60]
    refine (?_ : qd (60 ^ i * (Ts g u i + Nn g i u)) (60 ^ i * 60 ^ i) = qd (Ts g u i + Nn g i u) (60 ^ i)).trans (?_ : qd (Ts g u i + Nn g i u) (60 ^ i) = _)
    · unfold qd
      rw [(r_scale (p60 i) _ _).1, (r_scale (p60 i) _ _).2]
    · unfold qd
      rw [(r_scale (by decide : 0 < 60) _ _).1, (r_scale (by decide : 0 < 60) _ _).2]
  · rintro H3 σ' H4 s3 ⟨z1, tv, a2, rfl, z2⟩
    rw [vls_len] at z2
    exact ⟨_, rfl, k tv H4 ((s1.trans s3).trans z1) z2⟩
end Odd

set_option Elab.async false
set_option linter.all false
set_option maxRecDepth 100000
set_option maxHeartbeats 4000000
set_option exponentiation.threshold 3000
/-! Part 23: Lengths(..). -/
namespace Odd
open PySem PySem.Spec PyProof.Rows L2
variable {P : Program} {w : World} {h : Heap} {K : PySem.W.Frag} {mg : Str → Option Value} {base : Heap}
theorem fun_ok {m qual : Str} {st : Stmt} {f : Addr} {fd : FuncData} {N ps : List Str} {k : Nat} {sp : Sp} (d : FunD K m qual (defArgs st) (defBody st) (defScope st) [] [] f fd) (S : FnScope N ps (defScope st)) (hb : BindOk m qual st ps) (len : ∀ vs H Q E, sp vs H Q E → vs.length = ps.length) (body : BodyOk P w K mg base qual st N k sp) :
    Binds K fd ps [] ∧ FnOk P w K mg base CX0 (k + 1) f fd ps sp := by
  refine ⟨d.bindsN hb, d.ok S len fun cdv A outer s H vs Q E hr h => ?_⟩
  obtain ⟨t, q1, q2⟩ := body f cdv A outer s H vs Q E hr h
  exact ⟨t, q1.nox, q2⟩
/-- the tuples are kept -/
def Tq (H H' : Hp) : Prop := (∀ a xs, H a = some (.tup xs) → H' a = some (.tup xs)) ∧ ∀ a o xs, H a = some (.frz o (.tup xs)) → H' a = some (.frz o (.tup xs))
mutual
theorem Dn.tq {H H' : Hp} (e : Tq H H') : ∀ (d : D) {v : V}, nol d = true → Dn K H d v → Dn K H' d v
  | .i _, _, _, h => h
  | .s _, _, _, h => h
  | .b _, _, _, h => h
  | .n, _, _, h => h
  | .t l, _, q, h => by
    obtain ⟨a, vs, h1, h2, h3⟩ := h
    exact ⟨a, vs, h1, e.1 _ _ h2, DnL.tq e l q h3⟩
  | .c l, _, q, h => by
    obtain ⟨a, vs, h1, h2, h3⟩ := h
    refine ⟨a, vs, h1, ?_, DnL.tq e l q h3⟩
    rcases h2 with (h | ⟨o, h⟩) | h
    · exact .inl (.inl (e.1 _ _ h))
    · exact .inl (.inr ⟨o, e.2 _ _ _ h⟩)
    · exact .inr h
  | .l _, _, q, _ => by cases q
  | .o _, _, _, h => h
theorem DnL.tq {H H' : Hp} (e : Tq H H') : ∀ (l : List D) {vs : List V}, nolL l = true → DnL K H l vs → DnL K H' l vs
  | [], _, _, h => h
  | d :: ds, _, q, h => by
    obtain ⟨v, r, h1, h2, h3⟩ := h
    have q' : (nol d && nolL ds) = true := q
    rw [Bool.and_eq_true] at q'
    exact ⟨v, r, h1, Dn.tq e d q'.1 h2, DnL.tq e ds q'.2 h3⟩
end
/-- [[] for _ in range(n)] -/
theorem ev_empties {σ : L2.St} {H : Hp} {te : TE} {j n : Nat} {z : Int} (h : EvD K te σ H (.i z)) (hz : z = (n : Int)) (hn : n ≤ 1000) {Q : VK}
    (q : ∀ (o : Addr) (ps : List Addr) (H' : Hp), Same H H' → H o = none → H' o = some (.lst (ps.map V.ref)) → ps.length = n → ps.Nodup → (∀ b ∈ ps, H b = none ∧ b ≠ o ∧ H' b = some (.lst [])) → Q (.ref o) H') : tLc (iRng1 (tCons te tNil)) (gName j) tYes (tLst tNil) [j] σ H Q :=
  ei_range (Rel := fun _ _ => True) h hz (by omega) H (Same.refl H) _ fun J H2 G s2 w hG L hL => by
    rw [rangeD_len] at w
    refine lc_it w (fun i H3 => Same H2 H3 ∧ ∃ ps : List Addr, H3 L = some (.lst (ps.map V.ref)) ∧ ps.length = i ∧ ps.Nodup ∧ ∀ b ∈ ps, H2 b = none ∧ b ≠ L ∧ H3 b = some (.lst [])) ⟨Same.new hL, [], upd_same, rfl, List.Pairwise.nil, fun _ h => (nomatch h)⟩ (fun i H3 _ _ => hG H3 trivial) (fun i x H3 H4 hlt z y => ?_) fun H3 z => ?_
    · obtain ⟨z1, ps, z2, z3, z4, z5⟩ := z
      obtain ⟨y1, _⟩ := y
      refine ⟨by show ((σ.set j none).set j (some x)).set j none = σ.set j none; rw [List.set_set, List.set_set], ?_⟩
      dsimp only [tYes]
      rw [if_pos rfl]
      refine ⟨Nat.zero_le _, fun p hp => ?_⟩
      have hL4 : H4 L = some (.lst (ps.map V.ref)) := y1 _ _ z2
      have hpL : p ≠ L := fun e => by rw [e, hL4] at hp; cases hp
      have hpn : ¬ p ∈ ps := fun hm => by
        have z := y1 _ _ (z5 p hm).2.2
        rw [hp] at z
        cases z
      refine ⟨ps.map V.ref, by rw [upd_ne (Ne.symm hpL)]; exact hL4, small_lt (by rw [List.length_map]; omega), Same.mut ((z1.trans y1).trans (Same.new hp)) hL, ps ++ [p], by rw [List.map_append]; exact upd_same, by rw [List.length_append, z3]; rfl, List.nodup_append.mpr ⟨z4, List.pairwise_singleton _ p, fun a ha b hb e => hpn (by rw [← List.mem_singleton.mp hb, ← e]; exact ha)⟩, fun b hb => ?_⟩
      rcases List.mem_append.mp hb with hb | hb
      · obtain ⟨b1, b2, b3⟩ := z5 b hb
        exact ⟨b1, b2, by rw [upd_ne b2, upd_ne (fun e => hpn (by rw [← e]; exact hb))]; exact y1 _ _ b3⟩
      · rw [List.mem_singleton.mp hb]
        exact ⟨none_of (z1.trans y1) hp, hpL, by rw [upd_ne hpL]; exact upd_same⟩
    · obtain ⟨z1, ps, z2, z3, z4, z5⟩ := z
      exact q L ps H3 (s2.trans z1) (none_of s2 hL) z2 z3 z4 fun b hb => ⟨none_of s2 (z5 b hb).1, (z5 b hb).2⟩
theorem nd_inj {α : Type} {l : List α} (h : l.Nodup) {i j : Nat} (hi : i < l.length) (hj : j < l.length) (e : l[i] = l[j]) : i = j := by
  rcases Nat.lt_trichotomy i j with z | z | z
  · exact absurd e (List.pairwise_iff_getElem.mp h i j hi hj z)
  · exact z
  · exact absurd e.symm (List.pairwise_iff_getElem.mp h j i hj hi z)
/-- what is known of a new list of n new empty lists -/
def Emp (H H' : Hp) (n : Nat) (o : Addr) (ps : List Addr) : Prop := Same H H' ∧ H o = none ∧ H' o = some (.lst (ps.map V.ref)) ∧ ps.length = n ∧ ps.Nodup ∧ ∀ b ∈ ps, H b = none ∧ b ≠ o ∧ H' b = some (.lst [])
theorem st_dputL {σ : L2.St} {H : Hp} {td ta tv : TE} {E : Ends} {d : Addr} {kvs : List (List Key × V)} {q : Nat × Nat} {n : Nat} (hv : ∀ Q : VK, (∀ o ps H', Emp H H' n o ps → Q (.ref o) H') → tv σ H Q) (hd : EvD K td σ H (.o d)) (ha : EvD K ta σ H (encP q)) (h : H d = some (.dT kvs)) (hl : kvs.length < 100000)
    (k : ∀ o ps H1, Emp H H1 n o ps → E.nx σ (upd H1 d (.dT (putK kvs (kP q) (.ref o))))) : sDPut td ta tv E σ H := hv _ fun o ps H1 he => hd H1 he.1 _ fun x H2 s2 hx => ha H2 (he.1.trans s2) _ fun y H3 s3 hy => by
  obtain ⟨b, h1, h2⟩ := keyP hy
  obtain ⟨e1, e2, e3, e4, e5, e6⟩ := he
  have s03 := (e1.trans s2).trans s3
  refine ⟨d, _, hx, ?_, k o ps H3 ⟨s03, e2, s3 _ _ (s2 _ _ e3), e4, e5, fun b hb => ⟨(e6 b hb).1, (e6 b hb).2.1, s3 _ _ (s2 _ _ (e6 b hb).2.2)⟩⟩⟩
  rw [h1]
  exact DPut.t (s03 _ _ h) h2 (small_lt hl)
def rowA (g : Gr) (ad : U → Addr) (q : Nat × Nat) : List V := (List.range (exitsOf g q.1 + 2)).map fun w => .ref (ad (q.1, q.2, w))
theorem ev_pl (F : Fs w h K mg) {σ : L2.St} {H : Hp} {to : TE} {x dx pl : Addr} {fs : List (Str × V)} {d : D} {f : Str} {v : V} (ho : EvD K to σ H (.o x)) (hx : H x = some (.ins (He.ga K "Lengths") dx fs)) (hn : NoAttr K (He.ga K "Lengths") f) (hf : fs.lookup f = some v) (hd : Dn K H d v) : EvD K (tFld K to f) σ H d := fun H1 s1 Q q => ho H1 s1 _ fun u H2 s2 hu =>
  ⟨x, _, dx, fs, v, hu, s2 _ _ (s1 _ _ hx), F.cls_Lengths, hn, hf, q _ H2 s2 (Dn.same (s1.trans s2) _ hd)⟩
theorem tq_of {H H' : Hp} {x C dx : Addr} {fs : List (Str × V)} (hx : H x = some (.ins C dx fs)) (ne : ∀ b, b ≠ x → H' b = H b) : Tq H H' := ⟨fun b xs hb => by rw [ne b (fun e => by rw [e, hx] at hb; cases hb)]; exact hb, fun b o xs hb => by rw [ne b (fun e => by rw [e, hx] at hb; cases hb)]; exact hb⟩
theorem IsG.ne {H H' : Hp} {x C dx a : Addr} {fs : List (Str × V)} {g : Gr} (hx : H x = some (.ins C dx fs)) (hax : a ≠ x) (ne : ∀ b, b ≠ x → H' b = H b) (h : IsG K H g a) : IsG K H' g a := by
  obtain ⟨dx', v', h1, h2⟩ := h
  exact ⟨dx', v', by rw [ne a hax]; exact h1, Dn.tq (tq_of hx ne) _ (nol_encG g) h2⟩
def spLI (K : PySem.W.Frag) : Sp := fun vs H Q _ => ∃ g a x dx v q n, vs = [.ref x, .ref a, v, .int (n : Nat)] ∧ H x = some (.ins (He.ga K "Lengths") dx []) ∧ a ≠ x ∧ Ok g ∧ IsG K H g a ∧ Dn K H (encP q) v ∧ q ∈ plcs g ∧ n ≤ 40 ∧
  ∀ (l : List (Nat × Nat)) (p : LP) (H' : Hp), (∀ b o, b ≠ x → H b = some o → H' b = some o) → p.self = x → Reach g q l → LS K g l p H' → LV K g l p (fun _ => n + 1) H' → Q .non H'
abbrev N_Lengths_init : List Str := ["self", "graph", "place", "depth", "at", "length", "_"]
theorem sc_Lengths_init : FnScope N_Lengths_init ["self", "graph", "place", "depth"] (defScope s_Lengths_init) := ⟨rfl, rfl, rfl, by decide +kernel, rfl, by decide +kernel, by decide +kernel⟩
theorem c_Lengths_init (F : Fs w h K mg) : ∃ fd, Binds K fd ["self", "graph", "place", "depth"] [] ∧ FnOk P w K mg base CX0 9 (He.ma K (He.ga K "Lengths") "__init__") fd ["self", "graph", "place", "depth"] (spLI K) := by
  have c_Graph_reached : CalM P w K mg base (He.ga K "Graph") "reached" 7 ["self", "place"] (spReach K) := c_Graph_reached F
  have c_exits_of : Cal P w K mg base "exits_of" 1 ["graph", "place"] (spG K RExits) := c_exits_of F
  have c_Lengths_add_length : CalM P w K mg base (He.ga K "Lengths") "add_length" 8 ["self", "length"] (spAdd K) := c_Lengths_add_length F
  obtain ⟨fd, Fd⟩ := F.d_Lengths_init
  refine ⟨fd, fun_ok Fd sc_Lengths_init (fun _ _ _ _ _ _ us hl => match us, hl with | [_, _, _, _], _ => rfl) (fun vs H Q E h => by obtain ⟨_, _, _, _, _, _, _, rfl, _⟩ := h; rfl) fun f cdv A outer s H vs Q E hr hs => ?_⟩
  obtain ⟨g, a, x, dx, v, q, n, rfl, hx, hax, ok, hg, hv, hq, hn, k⟩ := hs
  refine ⟨_, (pss_cons (ps_fld (pv 0) (pv 1) rfl) (pss_cons (ps_fld (pv 0) (pe_calM c_Graph_reached F.cls_Graph (hr.mono (by decide)) (pv 1) (pa_cons (pv 2) pa_nil)) rfl) (pss_cons (ps_fld (pv 0) pe_dnewT rfl) (pss_cons (ps_for PassesOwn.never rfl (pi_list (show PE _ _ (tFld K _ _) from pe_fld (pv 0) rfl)) (pg_name (i := 4) sc_Lengths_init.nd rfl (Or.inl rfl)) (pss_one (ps_dput (hu_of hr) (show PE _ _ (tFld K _ _) from pe_fld (pv 0) rfl) (pv 4) (pe_lc (own := [("_", 6)]) (g := gName 6) (tt := tYes) rfl sc_Lengths_init.nd (pi_range1 rfl F.f_range (pa_cons (pe_op op_add (pe_cal c_exits_of (hr.mono (by decide)) (pa_cons (pv 1) (pa_cons (pv 4) pa_nil))) pe_int) pa_nil)) (blkOk_by (N := N_Lengths_init) (sc := defScope s_Lengths_init) (by decide +kernel))  (fun _ _ _ _ _ => (pg_name (i := 6) sc_Lengths_init.nd rfl (Or.inl rfl))) (fun _ _ _ _ _ => pts_nil) (fun _ _ _ _ _ => (pe_lst pa_nil))) rfl))) (pss_one (ps_for PassesOwn.never rfl (pi_range1 rfl F.f_range (pa_cons (pe_op op_add (pv 3) pe_int) pa_nil)) (pg_name (i := 5) sc_Lengths_init.nd rfl (Or.inl rfl)) (pss_one (ps_expr (pe_calM c_Lengths_add_length F.cls_Lengths (hr.mono (by decide)) (pv 0) (pa_cons (pv 5) pa_nil)))))))))), ?_⟩
  -- self.graph = graph
  refine ⟨_, rfl, _, rfl, x, _, dx, [], rfl, hx, F.cls_Lengths, F.no_Lengths_graph, by show 0 < 1000; decide, ?_⟩
  obtain ⟨H1, eH1⟩ : ∃ H1, H1 = upd H x (.ins (He.ga K "Lengths") dx (putF "graph" (.ref a) [])) := ⟨_, rfl⟩
  rw [← eH1]
  have hx1 : H1 x = some (.ins (He.ga K "Lengths") dx [("graph", .ref a)]) := by rw [eH1]; exact upd_same
  have ne1 : ∀ b, b ≠ x → H1 b = H b := fun b hb => by rw [eH1, upd_ne hb]
  clear eH1
  have hg1 := hg.ne hx hax ne1
  have hv1 := Dn.tq (tq_of hx ne1) (encP q) rfl hv
  have bx1 : ∀ b o, b ≠ x → H b = some o → H1 b = some o := fun b o hb ho => by rw [ne1 b hb]; exact ho
  -- self.places = graph.reached(place)
  obtain ⟨dg, vg, hga, _⟩ := id hg1
  refine ⟨_, rfl, a, dg, _, rfl, hga, rfl, _, rfl, g, a, v, q, rfl, ok, hg1, hv1, hq, fun l pl pls H2 rc s2 hpl0 hpl hpd => ?_⟩
  have hx2 := s2 _ _ hx1
  refine ⟨_, rfl, x, _, dx, _, rfl, hx2, F.cls_Lengths, F.no_Lengths_places, by show 1 < 1000; decide, ?_⟩
  have hplx : pl ≠ x := fun e => by rw [e, hx1] at hpl0; cases hpl0
  obtain ⟨H3, eH3⟩ : ∃ H3, H3 = upd H2 x (.ins (He.ga K "Lengths") dx (putF "places" (.ref pl) [("graph", .ref a)])) := ⟨_, rfl⟩
  rw [← eH3]
  have hx3 : H3 x = some (.ins (He.ga K "Lengths") dx [("graph", .ref a), ("places", .ref pl)]) := by rw [eH3]; exact upd_same
  have ne3 : ∀ b, b ≠ x → H3 b = H2 b := fun b hb => by rw [eH3, upd_ne hb]
  clear eH3
  have hg3 := (hg1.same s2).ne hx2 hax ne3
  have hpd3 := DnL.tq (tq_of hx2 ne3) _ (nolL_map (f := encP) (fun _ => rfl) l) hpd
  have hpl3 : H3 pl = some (.lst pls) := by rw [ne3 pl hplx]; exact hpl
  have bx3 : ∀ b o, b ≠ x → H b = some o → H3 b = some o := fun b o hb ho => by rw [ne3 b hb]; exact s2 _ _ (bx1 b o hb ho)
  -- self.rows = {}
  intro rd hrd0
  have hrdx : rd ≠ x := fun e => by rw [e, hx3] at hrd0; cases hrd0
  have s4 : Same H3 (upd H3 rd (.dT [])) := Same.new hrd0
  have hx4 := s4 _ _ hx3
  refine ⟨_, rfl, x, _, dx, _, rfl, hx4, F.cls_Lengths, F.no_Lengths_rows, by show 2 < 1000; decide, ?_⟩
  obtain ⟨H5, eH5⟩ : ∃ H5, H5 = upd (upd H3 rd (.dT [])) x (.ins (He.ga K "Lengths") dx (putF "rows" (.ref rd) [("graph", .ref a), ("places", .ref pl)])) := ⟨_, rfl⟩
  rw [← eH5]
  have hx5 : H5 x = some (.ins (He.ga K "Lengths") dx [("graph", .ref a), ("places", .ref pl), ("rows", .ref rd)]) := by rw [eH5]; exact upd_same
  have ne5 : ∀ b, b ≠ x → H5 b = upd H3 rd (.dT []) b := fun b hb => by rw [eH5, upd_ne hb]
  clear eH5
  have hg5 := (hg3.same s4).ne hx4 hax ne5
  have hpd5 := DnL.tq (tq_of hx4 ne5) _ (nolL_map (f := encP) (fun _ => rfl) l) (DnL.same s4 _ hpd3)
  have hpl5 : H5 pl = some (.lst pls) := by rw [ne5 pl hplx]; exact s4 _ _ hpl3
  have bx5 : ∀ b o, b ≠ x → H b = some o → H5 b = some o := fun b o hb ho => by rw [ne5 b hb]; exact s4 _ _ (bx3 b o hb ho)
  have hrd5 : H5 rd = some (.dT []) := by rw [ne5 rd hrdx]; exact upd_same
  have hnone : ∀ {b : Addr} {H' : Hp}, (∀ b o, b ≠ x → H b = some o → H' b = some o) → b ≠ x → H' b = none → H b = none := fun {b H'} hb hbx hn => by
    cases e : H b with
    | none => rfl
    | some o => have z := hb b o hbx e; rw [hn] at z; cases z
  have hHrd : H rd = none := hnone bx3 hrdx hrd0
  refine for_ev (ei_lstN (ev_pl (pl := pl) F (ev_var (i := 0) rfl rfl) hx5 F.no_Lengths_places rfl (⟨pl, pls, rfl, hpl5, hpd5⟩ : Dn K H5 (.l (l.map encP)) (.ref pl)))) (fun H6 i σ' H' => ∃ (ol : Nat × Nat → Addr) (ad : U → Addr) (kvs : List (List Key × V)) (a4 : Option V), σ' = [some (.ref x), some (.ref a), some v, some (.int (n : Nat)), a4, none, none] ∧
    (∀ b o, b ≠ x → H b = some o → H' b = some o) ∧ Nd H5 H' ∧ Nd H6 H' ∧ H' rd = some (.dT kvs) ∧ kvs.length ≤ i ∧ (∀ q ∈ l.take i, valV kvs (kP q) = some (.ref (ol q)) ∧ H' (ol q) = some (.lst (rowA g ad q))) ∧ (∀ u, dom g (l.take i) u → H' (ad u) = some (.lst []) ∧ H (ad u) = none) ∧
    ∀ u v, dom g (l.take i) u → dom g (l.take i) v → ad u = ad v → u = v) (fun H6 s6 => ⟨fun _ => 0, fun _ => 0, [], none, rfl, fun b o hb ho => s6 _ _ (bx5 b o hb ho), Nd.of s6, Nd.refl _, s6 _ _ hrd5, Nat.zero_le _, fun _ h => (nomatch h), fun _ h => (nomatch h.1), fun _ _ h => (nomatch h.1)⟩) (fun _ _ _ _ _ _ q => by
    obtain ⟨_, _, _, _, _, _, _, q, _⟩ := q
    exact q) ?_ ?_
  · rintro H6 i d xv σ' H7 H8 s6 e ⟨ol, ad, kvs, a4, rfl, y1, y2, y3, y4, y5, y6, y7, y8⟩ z hxv
    obtain ⟨qq, q1, q2, rfl⟩ := map_get' e
    have hqq := mem_places.mp (rc.sub qq q2)
    have hex := ok.ex hqq.1
    have hil : i < l.length := (List.getElem?_eq_some_iff.mp q1).1
    have hl10 := rc.len
    have hnq : ∀ y ∈ l.take i, y ≠ qq := fun y hm e2 => by
      subst e2
      obtain ⟨j, hj, e⟩ := List.getElem_of_mem hm
      rw [List.length_take] at hj
      have hij : j < i := by omega
      obtain ⟨hi, e2⟩ := List.getElem?_eq_some_iff.mp q1
      have z := List.pairwise_iff_getElem.mp rc.nd j i (by omega) hi hij
      rw [List.getElem_take] at e
      exact z (e.trans e2.symm)
    have nd58 : Nd H5 H8 := y2.trans (Nd.of z)
    have hx8 := nd58 _ _ hx5 rfl
    have hg8 : IsG K H8 g a := hg5.tk nd58.tk
    have hrd8 := z _ _ y4
    refine st_dputL (n := exitsOf g qq.1 + 2) (d := rd) (kvs := kvs) (q := qq) (fun Q q' => ev_empties (n := exitsOf g qq.1 + 2) (ev_op0 (g := fun i j => i + j) (ev_callG (R := RExits) (d := nD (exitsOf g qq.1)) (ea_2 (ev_var (i := 1) rfl rfl) (ev_var (i := 4) rfl hxv.tc)) ok hg8 ⟨qq, rfl, rc.sub qq q2, rfl⟩) ev_int) rfl (by omega) fun o ps H' e1 e2 e3 e4 e5 e6 => q' o ps H' ⟨e1, e2, e3, e4, e5, e6⟩)
      (ev_pl (pl := pl) F (ev_var (i := 0) rfl rfl) hx8 F.no_Lengths_rows rfl (d := .o rd) rfl) (ev_var (i := 4) rfl hxv) hrd8 (by omega) fun o ps H9 he => ?_
    obtain ⟨e1, e2, e3, e4, e5, e6⟩ := he
    have hrd9 := e1 _ _ hrd8
    have hord : o ≠ rd := fun e => by rw [e, hrd8] at e2; cases e2
    have ndu : Nd H9 (upd H9 rd (.dT (putK kvs (kP qq) (.ref o)))) := Nd.up hrd9 rfl
    have nd8 : Nd H8 (upd H9 rd (.dT (putK kvs (kP qq) (.ref o)))) := (Nd.of e1).trans ndu
    have hps : ∀ j, j < exitsOf g qq.1 + 2 → ps.getD j 0 ∈ ps := fun j hj => getD_mem _ _ _ (by omega)
    have hox : o ≠ x := fun e => by rw [e, hx8] at e2; cases e2
    have hpx : ∀ b ∈ ps, b ≠ x := fun b hb e => by have z := (e6 b hb).1; rw [e, hx8] at z; cases z
    have y18 : ∀ b o, b ≠ x → H b = some o → H8 b = some o := fun b o hb ho => z _ _ (y1 b o hb ho)
    refine ⟨fun y => if y = qq then o else ol y, fun u => if (u.1, u.2.1) = qq then ps.getD u.2.2 0 else ad u, _, _, rfl, fun b o' hb ho => ?_, nd58.trans nd8, (y3.trans (Nd.of z)).trans nd8, upd_same, ?_, fun y hy => ?_, fun u hu => ?_, fun u v' hu hv' hadd => ?_⟩
    · rw [upd_ne (fun e => by rw [e, hHrd] at ho; cases ho)]
      exact e1 _ _ (y18 b o' hb ho)
    · have := length_putK kvs (kP qq) (V.ref o)
      omega
    · show valV (putK kvs (kP qq) (.ref o)) (kP y) = some (.ref (if y = qq then o else ol y)) ∧ upd H9 rd _ (if y = qq then o else ol y) = _
      rw [valV_put]
      by_cases e7 : y = qq
      · subst e7
        rw [if_pos rfl, if_pos rfl, upd_ne hord, e3]
        refine ⟨rfl, ?_⟩
        congr 2
        unfold rowA
        apply List.ext_getElem?
        intro j
        by_cases hj : j < exitsOf g y.1 + 2
        · rw [List.getElem?_map, List.getElem?_map, List.getElem?_range hj, List.getElem?_eq_getElem (by omega)]
          show some (V.ref _) = some (V.ref (if (y.1, y.2) = y then ps.getD j 0 else _))
          rw [if_pos rfl, List.getD_eq_getElem?_getD, List.getElem?_eq_getElem (by omega)]
          rfl
        · rw [List.getElem?_eq_none (by rw [List.length_map]; omega), List.getElem?_eq_none (by rw [List.length_map, List.length_range]; omega)]
      · rw [if_neg (fun z => e7 (kP_inj z)), if_neg e7]
        rw [take_snoc q1] at hy
        have hy : y ∈ l.take i := (List.mem_append.mp hy).elim id fun z => absurd (List.mem_singleton.mp z) e7
        obtain ⟨w1, w2⟩ := y6 y hy
        refine ⟨w1, ?_⟩
        have e8 : rowA g (fun u => if (u.1, u.2.1) = qq then ps.getD u.2.2 0 else ad u) y = rowA g ad y := by
          unfold rowA
          apply List.map_congr_left
          intro w _
          show V.ref (if (y.1, y.2) = qq then _ else _) = _
          rw [if_neg e7]
        rw [e8]
        exact nd8 _ _ (z _ _ w2) rfl
    · show upd H9 rd _ (if (u.1, u.2.1) = qq then ps.getD u.2.2 0 else ad u) = some (.lst []) ∧ H (if (u.1, u.2.1) = qq then ps.getD u.2.2 0 else ad u) = none
      by_cases e7 : (u.1, u.2.1) = qq
      · rw [if_pos e7]
        have hm := hps u.2.2 (by rw [← e7]; exact hu.2)
        obtain ⟨b1, b2, b3⟩ := e6 _ hm
        exact ⟨ndu _ _ b3 rfl, hnone y18 (hpx _ hm) b1⟩
      · rw [if_neg e7]
        have hu1 := hu.1
        rw [take_snoc q1] at hu1
        have hu1 : (u.1, u.2.1) ∈ l.take i := (List.mem_append.mp hu1).elim id fun z => absurd (List.mem_singleton.mp z) e7
        obtain ⟨w1, w2⟩ := y7 u ⟨hu1, hu.2⟩
        exact ⟨nd8 _ _ (z _ _ w1) rfl, w2⟩
    · have old : ∀ u, dom g (l.take (i + 1)) u → ¬ (u.1, u.2.1) = qq → dom g (l.take i) u := fun u hu e7 => by
        have hu1 := hu.1
        rw [take_snoc q1] at hu1
        exact ⟨(List.mem_append.mp hu1).elim id fun z => absurd (List.mem_singleton.mp z) e7, hu.2⟩
      have hadd : (if (u.1, u.2.1) = qq then ps.getD u.2.2 0 else ad u) = if (v'.1, v'.2.1) = qq then ps.getD v'.2.2 0 else ad v' := hadd
      by_cases e7 : (u.1, u.2.1) = qq
      · by_cases e8 : (v'.1, v'.2.1) = qq
        · rw [if_pos e7, if_pos e8] at hadd
          have l1 : u.2.2 < ps.length := by rw [e4, ← e7]; exact hu.2
          have l2 : v'.2.2 < ps.length := by rw [e4, ← e8]; exact hv'.2
          rw [List.getD_eq_getElem?_getD, List.getD_eq_getElem?_getD, List.getElem?_eq_getElem l1, List.getElem?_eq_getElem l2] at hadd
          have hw : u.2.2 = v'.2.2 := nd_inj e5 l1 l2 hadd
          have e9 := e7.trans e8.symm
          simp only [Prod.mk.injEq] at e9
          exact Prod.ext e9.1 (Prod.ext e9.2 hw)
        · rw [if_pos e7, if_neg e8] at hadd
          have hm := hps u.2.2 (by rw [← e7]; exact hu.2)
          have b1 := (e6 _ hm).1
          have b2 := z _ _ (y7 v' (old v' hv' e8)).1
          rw [hadd, b2] at b1
          cases b1
      · by_cases e8 : (v'.1, v'.2.1) = qq
        · rw [if_neg e7, if_pos e8] at hadd
          have hm := hps v'.2.2 (by rw [← e8]; exact hv'.2)
          have b1 := (e6 _ hm).1
          have b2 := z _ _ (y7 u (old u hu e7)).1
          rw [← hadd, b2] at b1
          cases b1
        · rw [if_neg e7, if_neg e8] at hadd
          exact y8 u v' (old u hu e7) (old v' hv' e8) hadd
  · rintro H6 σ' H7 s6 ⟨ol, ad, kvs, a4, rfl, y1, y2, y3, y4, y5, y6, y7, y8⟩
    rw [List.length_map, List.take_length] at y6 y7 y8
    have hlst : ∀ q, rowA g ad q ≠ [] := fun q e => by
      have := congrArg List.length e
      unfold rowA at this
      rw [List.length_map, List.length_range] at this
      cases this
    have hpls : pls ≠ [] := fun e => by
      have z := hpd5.length
      rw [e, List.length_map] at z
      have := List.length_pos_of_mem rc.here
      show False
      have z : 0 = l.length := z
      omega
    let p : LP := ⟨x, a, pl, rd, ol, ad, kvs, pls⟩
    have ls7 : LS K g l p H7 := ⟨⟨dx, y2 _ _ hx5 rfl⟩, hg5.tk y2.tk, y2 _ _ hpl5 rfl, DnL.nd y2 _ hpd5, y4, y6, y8, fun u q hu hq e => by
      have z1 := (y7 u hu).1
      rw [show ad u = ol q from e, (y6 q hq).2] at z1
      exact hlst q (HO.lst.inj (Option.some.inj z1)), fun u hu e => by
      have z1 := (y7 u hu).1
      rw [show ad u = pl from e, y2 _ _ hpl5 rfl] at z1
      exact hpls (HO.lst.inj (Option.some.inj z1))⟩
    have lv7 : LV K g l p (fun _ => 0) H7 := fun u hu => ⟨ad u, [], rfl, (y7 u hu).1, rfl⟩
    refine for_ev (K := K) (Rel := fun _ _ => True) (ei_range (n := n + 1) (ev_op0 (g := fun i j => i + j) (ev_i (i := 3) rfl) ev_int) rfl (by omega)) (fun H8 i σ' H' => LS K g l p H' ∧ LV K g l p (fun _ => i) H' ∧ (∀ b o, b ≠ x → H b = some o → H' b = some o) ∧ ∃ a5, σ' = [some (.ref x), some (.ref a), some v, some (.int (n : Nat)), a4, a5, none])
      (fun H8 s8 => ⟨ls7.same s8, lv7.same s8, fun b o hb ho => s8 _ _ (y1 b o hb ho), none, rfl⟩) (fun _ _ _ _ _ _ _ => trivial) ?_ ?_
    · rintro H8 i d xi σ' H9 H10 s8 e ⟨w1, w2, w3, a5, rfl⟩ z hxi
      obtain ⟨hi, rfl⟩ := rangeD_get e
      cases (show xi = .int i from hxi)
      obtain ⟨dx', hins⟩ := (w1.same z).ins
      exact ⟨_, rfl, x, dx', _, rfl, hins, rfl, _, rfl, g, l, p, i, rfl, ok, w1.same z, w2.same z, ⟨q, rc⟩, by omega, fun H' f1 f2 f3 f4 => ⟨f3, f4, fun b o hb ho => f1 b o (fun u hu e => by
        have z2 := (y7 u hu).2
        rw [← show b = ad u from e, ho] at z2
        cases z2) (z _ _ (w3 b o hb ho)), _, rfl⟩⟩
    · rintro H8 σ' H9 s8 ⟨w1, w2, w3, a5, rfl⟩
      rw [rangeD_len] at w2
      exact k l p H9 w3 rfl rc w1 w2
end Odd

set_option Elab.async false
set_option linter.all false
set_option maxRecDepth 100000
set_option maxHeartbeats 4000000
set_option exponentiation.threshold 3000
/-! Part 24: lengths, mass. -/
namespace Odd
open PySem PySem.Spec PyProof.Rows L2
variable {P : Program} {w : World} {h : Heap} {K : PySem.W.Frag} {mg : Str → Option Value} {base : Heap}
def RLen : Gr → List D → List D → Prop := fun g ds r => ∃ (q : Nat × Nat) (x n : Nat), ds = [encP q, nD x, nD n] ∧ q ∈ plcs g ∧ x < exitsOf g q.1 + 2 ∧ n ≤ 40 ∧ r = vls g (q.1, q.2, x) (n + 1)
abbrev N_lengths : List Str := ["graph", "place", "way", "depth"]
theorem sc_lengths : FnScope N_lengths ["graph", "place", "way", "depth"] (defScope s_lengths) := ⟨rfl, rfl, rfl, by decide +kernel, rfl, by decide +kernel, by decide +kernel⟩
theorem c_lengths (F : Fs w h K mg) : Cal P w K mg base "lengths" 11 ["graph", "place", "way", "depth"] (spGF K RLen) := by
  have c_check_chain_masses : Cal P w K mg base "check_chain_masses" 2 ["graph"] (spG K RNone) := c_check_chain_masses F
  have c_check_place : Cal P w K mg base "check_place" 4 ["graph", "place"] (spG K RChkPl) := c_check_place F
  have c_check_way : Cal P w K mg base "check_way" 2 ["graph", "place", "way"] (spG K RChkWay) := c_check_way F
  have c_check_depth : Cal P w K mg base "check_depth" 2 ["depth"] (spP K RDepth) := c_check_depth F
  obtain ⟨fdL, b_Lengths_init, c_Lengths_init⟩ := (c_Lengths_init F : ∃ fd, Binds K fd ["self", "graph", "place", "depth"] [] ∧ FnOk P w K mg base CX0 9 (He.ma K (He.ga K "Lengths") "__init__") fd ["self", "graph", "place", "depth"] (spLI K))
  refine F.d_lengths.cal sc_lengths (fun _ _ _ _ _ _ us hl => match us, hl with | [_, _, _, _], _ => rfl) (spGF_len fun g ds d r => by obtain ⟨_, _, _, rfl, _⟩ := r; rfl) fun f cdv A outer s H vs Q E hr hs => ?_
  obtain ⟨g, a, ws, ds, d, rfl, ok, hg, hv, ⟨q, x, n, rfl, hq, hx, hn, rfl⟩, k⟩ := hs
  obtain ⟨v1, _, rfl, h1, v2, _, rfl, h2, v3, _, rfl, h3, rfl⟩ := hv
  cases (show v2 = .int x from h2)
  cases (show v3 = .int n from h3)
  refine ⟨_, (pss_cons (ps_expr (pe_cal c_check_chain_masses (hr.mono (by decide)) (pa_cons (pv 0) pa_nil))) (pss_cons (ps_expr (pe_cal c_check_place (hr.mono (by decide)) (pa_cons (pv 0) (pa_cons (pv 1) pa_nil)))) (pss_cons (ps_expr (pe_cal c_check_way (hr.mono (by decide)) (pa_cons (pv 0) (pa_cons (pv 1) (pa_cons (pv 2) pa_nil))))) (pss_cons (ps_expr (pe_cal c_check_depth (hr.mono (by decide)) (pa_cons (pv 3) pa_nil))) (pss_one (ps_ret (pe_callTy cr_listOf (by rfl) F.f_list boot_list (pa_cons (pe_ix (r := rIxL K) ix_list (pe_dget (hu_of hr) (show PE _ _ (tFld K _ _) from pe_fld (pe_make F.mk_Lengths c_Lengths_init (hr.mono (by decide)) rfl F.g_Lengths b_Lengths_init .nil pass0 (pa_cons (pv 0) (pa_cons (pv 1) (pa_cons (pv 3) pa_nil)))) rfl) (pv 1) (fun _ _ => rfl)) (pv 2) (fun _ _ => rfl)) pa_nil)))))))), ?_⟩
  refine st_drop K (ev_callG (R := RNone) (d := .n) (ds := []) (ea_1 (ev_var (i := 0) rfl rfl)) ok hg ⟨rfl, rfl⟩) fun H1 s1 => ?_
  refine st_drop K (ev_callG (R := RChkPl) (d := .n) (ea_2 (ev_var (i := 0) rfl rfl) (ev_var (i := 1) rfl (Dn.same s1 _ h1).tc)) ok (hg.same s1) ⟨q, rfl, hq, rfl⟩) fun H2 s2 => ?_
  have s02 := s1.trans s2
  refine st_drop K (ev_callG (R := RChkWay) (d := .n) (ea_3 (ev_var (i := 0) rfl rfl) (ev_var (i := 1) rfl (Dn.same s02 _ h1).tc) (ev_i (i := 2) rfl)) ok (hg.same s02) ⟨q, x, rfl, hq, hx, rfl⟩) fun H3 s3 => ?_
  refine st_drop K (ev_call (R := RDepth) (d := .n) (ea_1 (ev_i (i := 3) rfl)) ⟨n, rfl, hn, rfl⟩) fun H4 s4 => ?_
  have s04 := (s02.trans s3).trans s4
  refine ⟨.ref a, rfl, v1, rfl, _, rfl, fun xs dxs hxs hdx hne => ?_⟩
  have b1 : Same H4 (upd H4 dxs (.own xs)) := Same.new hdx
  have hxs1 : upd H4 dxs (.own xs) xs = none := by rw [upd_ne (Ne.symm hne)]; exact hxs
  have b2 : Same H4 (upd (upd H4 dxs (.own xs)) xs (.ins (He.ga K "Lengths") dxs [])) := b1.trans (Same.new hxs1)
  have hg4 := hg.same s04
  have hax : a ≠ xs := fun e => by
    obtain ⟨_, _, z, _⟩ := hg4
    rw [e, hxs] at z
    cases z
  refine ⟨g, a, xs, dxs, v1, q, n, rfl, upd_same, hax, ok, hg4.same b2, Dn.same (s04.trans b2) _ h1, hq, hn, fun l p H6 hfr hps rc ls lv => ⟨rfl, ?_⟩⟩
  have s46 : Same H4 H6 := fun b o hb => hfr b o (fun e => by rw [e, hxs] at hb; cases hb) (b2 b o hb)
  obtain ⟨dx', hins⟩ := ls.ins
  rw [hps] at hins
  refine ⟨xs, _, dx', _, _, rfl, hins, F.cls_Lengths, F.no_Lengths_rows, rfl, v1, rfl, p.rd, .ref (p.ol q), rfl, ?_, ?_⟩
  · rw [← (ls.row q rc.here).1]
    exact dgetP (.inl ls.rd) (Dn.same (s04.trans s46) _ h1)
  · refine ⟨_, rfl, p.ol q, _, (x : Int), .ref (p.ad (q.1, q.2, x)), rfl, rfl, SqL.of (ls.row q rc.here).2, atI_nat (by unfold rowV; rw [List.getElem?_map, List.getElem?_range hx]; rfl), ?_⟩
    obtain ⟨us, u1, u2⟩ := lv.get (u := (q.1, q.2, x)) ⟨rc.here, hx⟩
    exact ⟨_, us, rfl, .inl (SqL.of u1), fun o ho => k o us _ ((s04.trans s46).trans (Same.new ho)) (none_of (s04.trans s46) ho) upd_same (DnL.same (Same.new ho) _ u2)⟩
def RMass : Gr → List D → D → Prop := fun g ds r => ∃ (q : Nat × Nat) (x n : Nat), ds = [encP q, nD x, nD n] ∧ q ∈ plcs g ∧ x < exitsOf g q.1 + 2 ∧ n ≤ 40 ∧ r = qd (Ts g (q.1, q.2, x) (n + 1)) (60 ^ (n + 1))
abbrev N_mass : List Str := ["graph", "place", "way", "depth"]
theorem sc_mass : FnScope N_mass ["graph", "place", "way", "depth"] (defScope s_mass) := ⟨rfl, rfl, rfl, by decide +kernel, rfl, by decide +kernel, by decide +kernel⟩
theorem c_mass (F : Fs w h K mg) : Cal P w K mg base "mass" 12 ["graph", "place", "way", "depth"] (spG K RMass) := by
  have c_lengths : Cal P w K mg base "lengths" 11 ["graph", "place", "way", "depth"] (spGF K RLen) := c_lengths F
  have c_sum_of : Cal P w K mg base "sum_of" 3 ["numbers"] (spP K RSum) := c_sum_of F
  refine F.d_mass.cal sc_mass (fun _ _ _ _ _ _ us hl => match us, hl with | [_, _, _, _], _ => rfl) (spG_len fun g ds d r => by obtain ⟨_, _, _, rfl, _⟩ := r; rfl) fun f cdv A outer s H vs Q E hr hs => ?_
  obtain ⟨g, a, ws, ds, d, rfl, ok, hg, hv, ⟨q, x, n, rfl, hq, hx, hn, rfl⟩, k⟩ := hs
  obtain ⟨v1, _, rfl, h1, v2, _, rfl, h2, v3, _, rfl, h3, rfl⟩ := hv
  cases (show v2 = .int x from h2)
  cases (show v3 = .int n from h3)
  obtain ⟨hq1, hq2⟩ := mem_places.mp hq
  refine ⟨_, (pss_one (ps_ret (pe_cal c_sum_of (hr.mono (by decide)) (pa_cons (pe_cal c_lengths (hr.mono (by decide)) (pa_cons (pv 0) (pa_cons (pv 1) (pa_cons (pv 2) (pa_cons (pv 3) pa_nil))))) pa_nil)))), ?_⟩
  exact st_ret K (ev_call (R := RSum) (ea_1 (evF_callG (RF := RLen) (l := vls g (q.1, q.2, x) (n + 1)) (ea_cons (ev_var (i := 0) rfl rfl) (ea_3 (ev_var (i := 1) rfl h1) (ev_i (i := 2) rfl) (ev_i (i := 3) rfl))) ok hg ⟨q, x, n, rfl, hq, hx, hn, rfl⟩).d) ⟨g, (q.1, q.2, x), n + 1, rfl, ok, mem_us.mpr ⟨hq1, hq2, hx⟩, by omega, rfl⟩) k
end Odd

set_option Elab.async false
set_option linter.all false
set_option maxRecDepth 100000
set_option maxHeartbeats 4000000
/-! Part 25: the law's own gcd, unknowns, terms. -/
namespace Odd
open PySem PySem.Spec PyProof.Rows L2
variable {P : Program} {w : World} {h : Heap} {K : PySem.W.Frag} {mg : Str → Option Value} {base : Heap}
theorem st_ifr {σ : L2.St} {H : Hp} {tt : TT} {t r : TS} {E : Ends} {b : Bool} (h : EvT tt σ H b) (k1 : b = true → ∀ H1, Same H H1 → t { E with nx := r E } σ H1) (k2 : b = false → ∀ H1, Same H H1 → r E σ H1) : tSeq (tIfS tt t tNext) r E σ H := st_ifq h k1 k2
theorem st_par {σ : L2.St} {H : Hp} {ta : TA} {E : Ends} {i j : Nat} {d1 d2 : D} (h : EvA K ta σ H [d1, d2]) (k : ∀ v w H1, Same H H1 → Dn K H1 d1 v → Dn K H1 d2 w → E.nx ((σ.set i (some v)).set j (some w)) H1) : tPar i j ta E σ H := h.run fun vs H1 s1 hv => by
  obtain ⟨v, _, rfl, g1, w, _, rfl, g2, rfl⟩ := hv
  exact ⟨v, w, rfl, k v w H1 s1 g1 g2⟩
def RGcd : List D → D → Prop := fun ds r => ∃ n m : Nat, ds = [nD n, nD m] ∧ m < 1000 ∧ r = nD (Nat.gcd n m)
abbrev N_law_gcd : List Str := ["_law_a", "_law_b", "_law_k"]
theorem sc_law_gcd : FnScope N_law_gcd ["_law_a", "_law_b"] (defScope s_law_gcd) := ⟨rfl, rfl, rfl, by decide +kernel, rfl, by decide +kernel, by decide +kernel⟩
theorem c_law_gcd (F : Fs w h K mg) : Cal P w K mg base "_law_gcd" 1 ["_law_a", "_law_b"] (spP K RGcd) := by
  refine F.d_law_gcd.cal sc_law_gcd (fun _ _ _ _ _ _ us hl => match us, hl with | [_, _], _ => rfl) (spP_len fun ds d r => by obtain ⟨_, _, rfl, _⟩ := r; rfl) fun f cdv A outer s H vs Q E hr hs => ?_
  obtain ⟨ds, r, hv, ⟨n, m, rfl, hm, rfl⟩, k⟩ := hs
  obtain ⟨v1, _, rfl, h1, v2, _, rfl, h2, rfl⟩ := hv
  cases (show v1 = .int n from h1)
  cases (show v2 = .int m from h2)
  refine ⟨_, (pss_cons (ps_set (i := 0) sc_law_gcd.nd rfl (Or.inl rfl) (pe_callB cr_abs (by rfl) F.f_abs boot_abs (pa_cons (pv 0) pa_nil))) (pss_cons (ps_set (i := 1) sc_law_gcd.nd rfl (Or.inl rfl) (pe_callB cr_abs (by rfl) F.f_abs boot_abs (pa_cons (pv 1) pa_nil))) (pss_cons (ps_for PassesOwn.never rfl (pi_range1 rfl F.f_range (pa_cons pe_int pa_nil)) (pg_name (i := 2) sc_law_gcd.nd rfl (Or.inl rfl)) (pss_cons (ps_if (pt_cmpR op_eq (pv 1) pe_int (nomark _)) (pss_one ps_break) pss_nil) (pss_one (ps_par (i := 0) (j := 1) rfl sc_law_gcd.nd rfl rfl (by decide) rfl rfl (pa_cons (pv 1) (pa_cons (pe_op op_mod (pe_callTy cr_int1 (by rfl) F.f_int bt_int (pa_cons (pv 0) pa_nil)) (pv 1)) pa_nil)) (by rfl))))) (pss_one (ps_ret (pv 0)))))), ?_⟩
  refine st_set K ((ev_abs (ev_i (i := 0) rfl)).to (f := nD n) (by rw [if_neg (by omega)]; rfl)) fun t1 H1 s1 ht => ?_
  cases (show t1 = .int n from ht)
  refine st_set K ((ev_abs (ev_i (i := 1) rfl)).to (f := nD m) (by rw [if_neg (by omega)]; rfl)) fun t2 H2 s2 ht => ?_
  cases (show t2 = .int m from ht)
  refine for_ev (K := K) (Rel := fun _ _ => True) (ei_range (n := 40000) ev_int rfl (by omega)) (fun H3 i σ' H' => Same H3 H' ∧ ∃ (a b : Nat) (x : Option V), σ' = [some (.int a), some (.int b), x] ∧ Nat.gcd a b = Nat.gcd n m ∧ b + i ≤ 1000) (fun H3 s3 => ⟨Same.refl _, n, m, none, rfl, rfl, by omega⟩) (fun _ _ _ _ _ _ _ => trivial) ?_ ?_
  · rintro H3 i d x σ' H4 H5 s3 e ⟨z1, a, b, x0, rfl, z2, z3⟩ z hx
    refine st_ifr (b := decide ((b : Int) = 0)) (et_cmp (K := K) (ev_eqI (ev_i (i := 1) rfl) ev_int)) (fun hb H6 s6 => ?_) fun hb H6 s6 => ?_
    · have hb : (b : Int) = 0 := of_decide_eq_true hb
      have : b = 0 := by omega
      subst this
      rw [Nat.gcd_zero_right] at z2
      subst z2
      exact ⟨_, rfl, k _ _ (((((s1.trans s2).trans s3).trans z1).trans z).trans s6) rfl⟩
    · have hb : ¬ (b : Int) = 0 := of_decide_eq_false hb
      have hbp : 0 < b := by omega
      refine st_par (K := K) (d1 := nD b) (d2 := .i ((a : Int) % (b : Int))) (ea_2 (ev_i (i := 1) rfl) (ev_opC (C := fun _ j => 0 < j) (g := fun i j => i % j) (ev_int_i (ev_i (i := 0) rfl)) (ev_i (i := 1) rfl) (by show (0 : Int) < b; omega))) fun w1 w2 H7 s7 g1 g2 => ?_
      refine ⟨((z1.trans z).trans s6).trans s7, b, a % b, _, by rw [show w1 = .int b from g1, show w2 = .int ((a % b : Nat) : Int) from g2]; rfl, ?_, ?_⟩
      · rw [← z2, Nat.gcd_comm b, ← Nat.gcd_rec b a, Nat.gcd_comm]
      · have := Nat.mod_lt a hbp
        omega
  · rintro H3 σ' H4 s3 ⟨z1, a, b, x0, rfl, z2, z3⟩
    rw [rangeD_len] at z3
    omega
def tD (n d : Nat) : D := .t [nD (rn n d), nD (rd n d)]
def RLow : List D → D → Prop := fun ds r => ∃ n d : Nat, ds = [nD n, nD d] ∧ 0 < d ∧ d < 1000 ∧ r = tD n d
abbrev N_law_low : List Str := ["_law_n", "_law_d", "_law_shared"]
theorem sc_law_low : FnScope N_law_low ["_law_n", "_law_d"] (defScope s_law_low) := ⟨rfl, rfl, rfl, by decide +kernel, rfl, by decide +kernel, by decide +kernel⟩
theorem c_law_low (F : Fs w h K mg) : Cal P w K mg base "_law_low" 2 ["_law_n", "_law_d"] (spP K RLow) := by
  have c_law_gcd : Cal P w K mg base "_law_gcd" 1 ["_law_a", "_law_b"] (spP K RGcd) := c_law_gcd F
  refine F.d_law_low.cal sc_law_low (fun _ _ _ _ _ _ us hl => match us, hl with | [_, _], _ => rfl) (spP_len fun ds d r => by obtain ⟨_, _, rfl, _⟩ := r; rfl) fun f cdv A outer s H vs Q E hr hs => ?_
  obtain ⟨ds, r, hv, ⟨n, d, rfl, hd, hd2, rfl⟩, k⟩ := hs
  obtain ⟨v1, _, rfl, h1, v2, _, rfl, h2, rfl⟩ := hv
  cases (show v1 = .int n from h1)
  cases (show v2 = .int d from h2)
  refine ⟨_, (pss_cons (ps_set (i := 2) sc_law_low.nd rfl (Or.inl rfl) (pe_cal c_law_gcd (hr.mono (by decide)) (pa_cons (pv 0) (pa_cons (pv 1) pa_nil)))) (pss_cons (ps_if (pt_cmpR op_lt (pv 1) pe_int (nomark _)) (pss_one (ps_set (i := 2) sc_law_low.nd rfl (Or.inl rfl) (pe_op op_sub pe_int (pv 2)))) pss_nil) (pss_one (ps_ret (pe_tup (pa_cons (pe_op op_fdivW (pv 0) (pv 2)) (pa_cons (pe_op op_fdivW (pv 1) (pv 2)) pa_nil))))))), ?_⟩
  refine st_set K (ev_call (R := RGcd) (d := nD (Nat.gcd n d)) (ea_2 (ev_i (i := 0) rfl) (ev_i (i := 1) rfl)) ⟨n, d, rfl, hd2, rfl⟩) fun t H1 s1 ht => ?_
  cases (show t = .int (Nat.gcd n d : Nat) from ht)
  refine st_no ((et_cmp (K := K) (ev_cmp0 (g := fun i j => decide (i < j)) (ev_i (i := 1) rfl) ev_int)).to (decide_eq_false (by omega))) fun H2 s2 => ?_
  have hg : 0 < Nat.gcd n d := gcd_pos hd
  have hgl : Nat.gcd n d ≤ d := Nat.le_of_dvd hd (Nat.gcd_dvd_right n d)
  have hc : ∀ x : Int, CDivW x ((Nat.gcd n d : Nat) : Int) := fun x => wide_div (b := 64) (by omega) (by
    rw [Int.natAbs_natCast]
    exact Nat.lt_of_le_of_lt hgl (Nat.lt_trans hd2 (by decide))) (by decide) (by decide)
  exact st_ret K (ev_tup (ea_2 (ev_opC (g := fun i j => i / j) (ev_i (i := 0) rfl) (ev_i (i := 2) rfl) (hc n)) (ev_opC (g := fun i j => i / j) (ev_i (i := 1) rfl) (ev_i (i := 2) rfl) (hc d)))) fun v H3 s3 hv => k v H3 ((s1.trans s2).trans s3) hv
/-! ### unknowns -/
def wl (g : Gr) (p i n : Nat) : List U := (List.range n).map fun w => (p, i, w)
def il (g : Gr) (p n : Nat) : List U := (List.range n).flatMap fun i => wl g p i (exitsOf g p + 2)
def plL (g : Gr) (n : Nat) : List U := (List.range n).flatMap fun p => il g p (ptsOf g p).length
theorem unks_flat (g : Gr) : unks g = plL g g.length := by
  unfold unks plcs plL il wl
  rw [List.flatMap_assoc]
  congr 1
  funext p
  rw [List.flatMap_map]
theorem wl_succ (g : Gr) (p i n : Nat) : wl g p i (n + 1) = wl g p i n ++ [(p, i, n)] := by
  unfold wl
  rw [List.range_succ, List.map_append]
  rfl
theorem il_succ (g : Gr) (p n : Nat) : il g p (n + 1) = il g p n ++ wl g p n (exitsOf g p + 2) := by
  unfold il
  rw [List.range_succ, List.flatMap_append]
  simp
theorem plL_succ (g : Gr) (n : Nat) : plL g (n + 1) = plL g n ++ il g n (ptsOf g n).length := by
  unfold plL
  rw [List.range_succ, List.flatMap_append]
  simp
def RUnkL : List D → List D → Prop := fun ds r => ∃ g, ds = [encG g] ∧ Ok g ∧ r = (unks g).map encU
abbrev N_law_unknowns : List Str := ["_law_procedures_here", "_law_found", "_law_p", "_law_i", "_law_w"]
theorem sc_law_unknowns : FnScope N_law_unknowns ["_law_procedures_here"] (defScope s_law_unknowns) := ⟨rfl, rfl, rfl, by decide +kernel, rfl, by decide +kernel, by decide +kernel⟩
theorem c_law_unknowns (F : Fs w h K mg) : Cal P w K mg base "_law_unknowns" 1 ["_law_procedures_here"] (spF K RUnkL) := by
  refine F.d_law_unknowns.cal sc_law_unknowns (fun _ _ _ _ _ _ us hl => match us, hl with | [_], _ => rfl) (spF_len fun ds d r => by obtain ⟨_, rfl, _⟩ := r; rfl) fun f cdv A outer s H vs Q E hr hs => ?_
  obtain ⟨ds, r, hv, ⟨g, rfl, ok, rfl⟩, k⟩ := hs
  obtain ⟨v1, _, rfl, h1, rfl⟩ := hv
  refine ⟨_, (pss_cons (ps_set (i := 1) sc_law_unknowns.nd rfl (Or.inl rfl) (pe_lst pa_nil)) (pss_cons (ps_for PassesOwn.never rfl (pi_range1 rfl F.f_range (pa_cons (pe_callB (r := rLen K) cr_len (by rfl) F.f_len boot_len (pa_cons (pv 0) pa_nil)) pa_nil)) (pg_name (i := 2) sc_law_unknowns.nd rfl (Or.inl rfl)) (pss_one (ps_for PassesOwn.never rfl (pi_range1 rfl F.f_range (pa_cons (pe_callB (r := rLen K) cr_len (by rfl) F.f_len boot_len (pa_cons (pe_ix (r := rIxT K) ix_tup (pe_ix (r := rIxT K) ix_tup (pv 0) (pv 2) (fun _ _ => rfl)) pe_int (fun _ _ => rfl)) pa_nil)) pa_nil)) (pg_name (i := 3) sc_law_unknowns.nd rfl (Or.inl rfl)) (pss_one (ps_for PassesOwn.never rfl (pi_range1 rfl F.f_range (pa_cons (pe_op op_add (pe_ix (r := rIxT K) ix_tup (pe_ix (r := rIxT K) ix_tup (pv 0) (pv 2) (fun _ _ => rfl)) pe_int (fun _ _ => rfl)) pe_int) pa_nil)) (pg_name (i := 4) sc_law_unknowns.nd rfl (Or.inl rfl)) (pss_one (ps_expr (pe_bm PySem.F.plainAttrs_list PySem.F.slot_list_append PySem.F.type_list_append mt_append (pv 1) (pa_cons (pe_tup (pa_cons (pv 2) (pa_cons (pv 3) (pa_cons (pv 4) pa_nil)))) pa_nil))))))))) (pss_one (ps_ret (pv 1))))), ?_⟩
  refine st_setF (K := K) (evF_lst ea_nil) fun p us H1 s1 hp hl hd => ?_
  cases hd
  have l2 := ok.l2
  have lu := len_us ok
  rw [unks_flat] at lu
  have V0 : ∀ {H'} {a b c : Option V}, Same H H' → EvD K (tVar 0) [some v1, some (.ref p), a, b, c] H' (encG g) := fun s => ev_var rfl (Dn.same s _ h1)
  let Pv : List U → Hp → Prop := fun us H' => Same H H' ∧ ∃ vs, H' p = some (.lst vs) ∧ DnL K H' (us.map encU) vs
  refine for_ev (K := K) (Rel := fun _ _ => True) (ei_range (n := g.length) ((ev_lenT (V0 s1).tc).to (by rw [encL_len])) rfl (by omega)) (fun H3 i σ' H' => Pv (plL g i) H' ∧ ∃ a b c, σ' = [some v1, some (.ref p), a, b, c]) (fun H3 s3 => ⟨⟨s1.trans s3, [], s3 _ _ hl, rfl⟩, _, _, _, rfl⟩) (fun _ _ _ _ _ _ _ => trivial) ?_ ?_
  · rintro H3 i d x σ' H4 H5 s3 e ⟨⟨y1, vs, y2, y3⟩, a, b, c, rfl⟩ z hx
    obtain ⟨hi, rfl⟩ := rangeD_get e
    cases (show x = .int i from hx)
    have hpts := (ok.pts hi).2
    have hex := ok.ex hi
    have PR : ∀ {H'} {b c : Option V}, Same H H' → EvD K (tOp (rIxT K) (tVar 0) (tVar 2)) [some v1, some (.ref p), some (.int i), b, c] H' (.t [nD (g.getD i (0, [])).1, .t ((g.getD i (0, [])).2.map encPt)]) := fun s => ev_ix (n := i) (V0 s).tc (ev_i rfl) rfl (encL_get hi)
    refine for_ev (K := K) (Rel := fun _ _ => True) (ei_range (n := (ptsOf g i).length) (ev_lenT (ev_ix (n := 1) (PR (y1.trans z)).tc ev_int rfl ix1 : EvD K _ _ _ (.t ((g.getD i (0, [])).2.map encPt))).tc) (by rw [List.length_map]; rfl) (by omega)) (fun H3 j σ' H' => Pv (plL g i ++ il g i j) H' ∧ ∃ b c, σ' = [some v1, some (.ref p), some (.int i), b, c]) (fun H6 s6 => ⟨⟨(y1.trans z).trans s6, vs, s6 _ _ (z _ _ y2), ?_⟩, _, _, rfl⟩) (fun _ _ _ _ _ _ _ => trivial) ?_ ?_
    · show DnL K H6 ((plL g i ++ []).map encU) vs
      rw [List.append_nil]
      exact DnL.same (z.trans s6) _ y3
    · rintro H6 j d x σ' H7 H8 s6 e ⟨⟨y1, vs, y2, y3⟩, b, c, rfl⟩ z hx
      obtain ⟨hj, rfl⟩ := rangeD_get e
      cases (show x = .int j from hx)
      refine for_ev (K := K) (Rel := fun _ _ => True) (ei_range (n := exitsOf g i + 2) (ev_op0 (g := fun i j => i + j) (ev_ix (n := 0) (PR (y1.trans z)).tc ev_int rfl ix0) ev_int) rfl (by omega)) (fun H3 w σ' H' => Pv ((plL g i ++ il g i j) ++ wl g i j w) H' ∧ ∃ c, σ' = [some v1, some (.ref p), some (.int i), some (.int j), c]) (fun H9 s9 => ⟨⟨(y1.trans z).trans s9, vs, s9 _ _ (z _ _ y2), ?_⟩, _, rfl⟩) (fun _ _ _ _ _ _ _ => trivial) ?_ ?_
      · show DnL K H9 (((plL g i ++ il g i j) ++ []).map encU) vs
        rw [List.append_nil]
        exact DnL.same (z.trans s9) _ y3
      · rintro H9 w' d x σ' H10 H11 s9 e ⟨⟨y1, vs, y2, y3⟩, c, rfl⟩ z hx
        obtain ⟨hw, rfl⟩ := rangeD_get e
        cases (show x = .int w' from hx)
        have hvl : vs.length < 100000 := by
          rw [y3.length, List.length_map, List.length_append, List.length_append]
          have b1 : (plL g i).length ≤ 2 * 100 := Nat.le_trans (len_flat _ 100 _ fun p hp => by
            have hp := List.mem_range.mp hp
            have b2 := ok.pts (p := p) (by omega)
            have b3 := ok.ex (p := p) (by omega)
            refine Nat.le_trans (len_flat _ 10 _ fun i _ => ?_) ?_
            · unfold wl; rw [List.length_map, List.length_range]; omega
            · rw [List.length_range]; omega) (by rw [List.length_range]; omega)
          have b2 : (il g i j).length ≤ 5 * 10 := Nat.le_trans (len_flat _ 10 _ fun i' _ => by unfold wl; rw [List.length_map, List.length_range]; omega) (by rw [List.length_range]; omega)
          have b3 : (wl g i j w').length ≤ 4 := by unfold wl; rw [List.length_map, List.length_range]; omega
          omega
        refine st_app1 (p := p) (d := encU (i, j, w')) (ev_var (i := 1) rfl rfl) (z _ _ y2) hvl (ev_tup (ea_3 (ev_i (i := 2) rfl) (ev_i (i := 3) rfl) (ev_i (i := 4) rfl))) fun v H12 s12 hv hl12 => ⟨⟨Same.mut ((y1.trans z).trans s12) hp, _, upd_same, ?_⟩, _, rfl⟩
        have tk : Tk H12 (upd H12 p (.lst (vs ++ [v]))) := Tk.lst hl12
        rw [wl_succ, ← List.append_assoc, List.map_append]
        exact DnL.snoc (DnL.tk tk _ (nolL_map (f := encU) (fun _ => rfl) _) (DnL.same (z.trans s12) _ y3)) (Dn.tk tk _ rfl hv)
      · rintro H9 σ' H10 s9 ⟨⟨y1, vs, y2, y3⟩, c, rfl⟩
        rw [rangeD_len, List.append_assoc, ← il_succ] at y3
        exact ⟨⟨y1, vs, y2, y3⟩, _, _, rfl⟩
    · rintro H6 σ' H7 s6 ⟨⟨y1, vs, y2, y3⟩, b, c, rfl⟩
      rw [rangeD_len, ← plL_succ] at y3
      exact ⟨⟨y1, vs, y2, y3⟩, _, _, _, rfl⟩
  · rintro H3 σ' H4 s3 ⟨⟨y1, vs, y2, y3⟩, a, b, c, rfl⟩
    rw [rangeD_len, ← unks_flat] at y3
    exact ⟨_, rfl, k p vs H4 y1 hp y2 y3⟩
end Odd

set_option Elab.async false
set_option linter.all false
set_option maxRecDepth 100000
set_option maxHeartbeats 4000000
/-! Part 26: the law's own terms. -/
namespace Odd
open PySem PySem.Spec PyProof.Rows L2
variable {P : Program} {w : World} {h : Heap} {K : PySem.W.Frag} {mg : Str → Option Value} {base : Heap}
theorem zip_map {β : Type} {f : Nat × Nat → β} (ps : List Nat) : (List.range ps.length).map (fun e => f (ps.getD e 0, e)) = ps.zipIdx.map f := by
  apply List.ext_getElem?
  intro i
  rw [List.getElem?_map, List.getElem?_map, List.getElem?_zipIdx]
  by_cases hi : i < ps.length
  · rw [List.getElem?_range hi, List.getElem?_eq_getElem hi]
    simp [List.getD_eq_getElem?_getD, List.getElem?_eq_getElem hi]
  · rw [List.getElem?_eq_none (by rw [List.length_range]; omega), List.getElem?_eq_none (by omega)]
    rfl
def RTermL : List D → List D → Prop := fun ds r => ∃ g u, ds = [encG g, encU u] ∧ Ok g ∧ u ∈ unks g ∧ r = (terms g u).map encTm
theorem ev_one {σ : L2.St} {H : Hp} : EvD K (tTup (tCons (tC (.int 1)) (tCons (tC (.int 1)) tNil))) σ H (qD 1 1) := (ev_tup (ea_2 ev_int ev_int)).tc
abbrev N_law_terms : List Str := ["_law_procedures_here", "_law_unknown", "_law_p", "_law_i", "_law_w", "_law_exits", "_law_point_here", "_law_r", "_law_found", "_law_due", "_law_chance", "_law_to", "_law_e"]
theorem sc_law_terms : FnScope N_law_terms ["_law_procedures_here", "_law_unknown"] (defScope s_law_terms) := ⟨rfl, rfl, rfl, by decide +kernel, rfl, by decide +kernel, by decide +kernel⟩
theorem c_law_terms (F : Fs w h K mg) : Cal P w K mg base "_law_terms" 1 ["_law_procedures_here", "_law_unknown"] (spF K RTermL) := by
  refine F.d_law_terms.cal sc_law_terms (fun _ _ _ _ _ _ us hl => match us, hl with | [_, _], _ => rfl) (spF_len fun ds d r => by obtain ⟨_, _, rfl, _⟩ := r; rfl) fun f cdv A outer s H vs Q E hr hs => ?_
  obtain ⟨ds, r, hv, ⟨g, u, rfl, ok, hu, rfl⟩, k⟩ := hs
  obtain ⟨v0, _, rfl, h0, v1, _, rfl, h1, rfl⟩ := hv
  obtain ⟨hu1, hu2, hu3⟩ := mem_us.mp hu
  have hok := ok.at hu1 hu2
  refine ⟨_, (pss_cons (ps_asg (pv 1) (pg_tup rfl (pgs_cons (pg_name (i := 2) sc_law_terms.nd rfl (Or.inr rfl)) (pgs_cons (pg_name (i := 3) sc_law_terms.nd rfl (Or.inl rfl)) (pgs_cons (pg_name (i := 4) sc_law_terms.nd rfl (Or.inr rfl)) pgs_nil))))) (pss_cons (ps_set (i := 5) sc_law_terms.nd rfl (Or.inl rfl) (pe_ix (r := rIxT K) ix_tup (pe_ix (r := rIxT K) ix_tup (pv 0) (pv 2) (fun _ _ => rfl)) pe_int (fun _ _ => rfl))) (pss_cons (ps_set (i := 6) sc_law_terms.nd rfl (Or.inr rfl) (pe_ix (r := rIxT K) ix_tup (pe_ix (r := rIxT K) ix_tup (pe_ix (r := rIxT K) ix_tup (pv 0) (pv 2) (fun _ _ => rfl)) pe_int (fun _ _ => rfl)) (pv 3) (fun _ _ => rfl))) (pss_cons (ps_if (pt_cmpR op_eq (pe_ix (r := rIxT K) ix_tup (pv 6) pe_int (fun _ _ => rfl)) pe_str (nomark _)) (pss_one (ps_ret (pe_lc (own := [("_law_chance", 10), ("_law_to", 11)]) (g := gTup K 2 (gCons (gName 10) (gCons (gName 11) gNil))) (tt := tYes) rfl sc_law_terms.nd (pi_tup (pe_ix (r := rIxT K) ix_tup (pv 6) pe_int (fun _ _ => rfl))) (blkOk_by (N := N_law_terms) (sc := defScope s_law_terms) (by decide +kernel))  (fun _ _ _ _ _ => (pg_tup rfl (pgs_cons (pg_name (i := 10) sc_law_terms.nd rfl (Or.inl rfl)) (pgs_cons (pg_name (i := 11) sc_law_terms.nd rfl (Or.inl rfl)) pgs_nil)))) (fun _ _ _ _ _ => pts_nil) (fun _ _ _ _ _ => (pe_tup (pa_cons (pv 10) (pa_cons (pe_tup (pa_cons (pe_tup (pa_cons (pv 2) (pa_cons (pv 11) (pa_cons (pv 4) pa_nil)))) pa_nil)) pa_nil))))))) pss_nil) (pss_cons (ps_if (pt_cmpR op_eq (pe_ix (r := rIxT K) ix_tup (pv 6) pe_int (fun _ _ => rfl)) pe_str (nomark _)) (pss_one (ps_ret (pe_lst (pa_cons (pe_tup (pa_cons (pe_tup (pa_cons pe_int (pa_cons pe_int pa_nil))) (pa_cons (pe_tup (pa_cons (pe_tup (pa_cons (pv 2) (pa_cons (pe_ix (r := rIxT K) ix_tup (pv 6) pe_int (fun _ _ => rfl)) (pa_cons (pv 4) pa_nil)))) pa_nil)) pa_nil))) pa_nil)))) pss_nil) (pss_cons (ps_if (pt_cmpR op_eq (pe_ix (r := rIxT K) ix_tup (pv 6) pe_int (fun _ _ => rfl)) pe_str (nomark _)) (pss_cons (ps_set (i := 7) sc_law_terms.nd rfl (Or.inr rfl) (pe_ix (r := rIxT K) ix_tup (pv 6) pe_int (fun _ _ => rfl))) (pss_cons (ps_setLc (own := [("_law_e", 12)]) (i := 8) (g := gName 12) (tt := tYes) rfl sc_law_terms.nd rfl rfl (sw_true rfl rfl rfl (by decide +kernel)) (pi_range1 rfl F.f_range (pa_cons (pe_ix (r := rIxT K) ix_tup (pe_ix (r := rIxT K) ix_tup (pv 0) (pv 7) (fun _ _ => rfl)) pe_int (fun _ _ => rfl)) pa_nil)) (blkOk_by (N := N_law_terms) (sc := defScope s_law_terms) (by decide +kernel))  (fun _ _ _ _ _ => (pg_name (i := 12) sc_law_terms.nd rfl (Or.inl rfl))) (fun _ _ _ _ _ => pts_nil) (fun _ _ _ _ _ => (pe_tup (pa_cons (pe_tup (pa_cons pe_int (pa_cons pe_int pa_nil))) (pa_cons (pe_tup (pa_cons (pe_tup (pa_cons (pv 7) (pa_cons pe_int (pa_cons (pv 12) pa_nil)))) (pa_cons (pe_tup (pa_cons (pv 2) (pa_cons (pe_ix (r := rIxT K) ix_tup (pe_ix (r := rIxT K) ix_tup (pv 6) pe_int (fun _ _ => rfl)) (pv 12) (fun _ _ => rfl)) (pa_cons (pv 4) pa_nil)))) pa_nil))) pa_nil))))) (pss_cons (ps_if (pt_cmpR op_ge (pv 4) (pv 5) (nomark _)) (pss_one (ps_expr (pe_bm PySem.F.plainAttrs_list PySem.F.slot_list_append PySem.F.type_list_append mt_append (pv 8) (pa_cons (pe_tup (pa_cons (pe_tup (pa_cons pe_int (pa_cons pe_int pa_nil))) (pa_cons (pe_tup (pa_cons (pe_tup (pa_cons (pv 7) (pa_cons pe_int (pa_cons (pe_op op_sub (pe_op op_add (pe_ix (r := rIxT K) ix_tup (pe_ix (r := rIxT K) ix_tup (pv 0) (pv 7) (fun _ _ => rfl)) pe_int (fun _ _ => rfl)) (pv 4)) (pv 5)) pa_nil)))) pa_nil)) pa_nil))) pa_nil)))) pss_nil) (pss_one (ps_ret (pv 8)))))) pss_nil) (pss_cons (ps_set (i := 9) sc_law_terms.nd rfl (Or.inl rfl) (pv 5)) (pss_cons (ps_if (pt_cmpR op_eq (pe_ix (r := rIxT K) ix_tup (pv 6) pe_int (fun _ _ => rfl)) pe_str (nomark _)) (pss_one (ps_set (i := 9) sc_law_terms.nd rfl (Or.inl rfl) (pe_ix (r := rIxT K) ix_tup (pv 6) pe_int (fun _ _ => rfl)))) pss_nil) (pss_cons (ps_if (pt_cmpR op_eq (pe_ix (r := rIxT K) ix_tup (pv 6) pe_int (fun _ _ => rfl)) pe_str (nomark _)) (pss_one (ps_set (i := 9) sc_law_terms.nd rfl (Or.inl rfl) (pe_op op_add (pv 5) pe_int))) pss_nil) (pss_cons (ps_if (pt_cmpR op_eq (pv 4) (pv 9) (nomark _)) (pss_one (ps_ret (pe_lst (pa_cons (pe_tup (pa_cons (pe_tup (pa_cons pe_int (pa_cons pe_int pa_nil))) (pa_cons (pe_tup pa_nil) pa_nil))) pa_nil)))) pss_nil) (pss_one (ps_ret (pe_lst pa_nil))))))))))))), ?_⟩
  refine (ev_var (K := K) (i := 1) (d := .c [nD u.1, nD u.2.1, nD u.2.2]) rfl (Dn.tc h1)).run fun v H1 s1 hv => g_trip hv fun x1 x2 x3 g1 g2 g3 => ?_
  cases (show x1 = .int u.1 from g1)
  cases (show x2 = .int u.2.1 from g2)
  cases (show x3 = .int u.2.2 from g3)
  have V0 : ∀ {σ : L2.St} {H'}, σ[0]? = some (some v0) → Same H H' → EvD K (tVar 0) σ H' (encG g) := fun e s => ev_var e (Dn.same s _ h0)
  refine st_set K (ev_ex (V0 rfl s1) (ev_i (i := 2) rfl) hu1) fun t H2 s2 ht => ?_
  cases (show t = .int (exitsOf g u.1 : Nat) from ht)
  refine st_set K (ev_ix (n := u.2.1) (ev_ix (n := 1) (ev_ix (n := u.1) (V0 rfl (s1.trans s2)).tc (ev_i (i := 2) rfl) rfl (encL_get hu1) : EvD K _ _ H2 (.t [nD (g.getD u.1 (0, [])).1, .t ((g.getD u.1 (0, [])).2.map encPt)])).tc ev_int rfl ix1 : EvD K _ _ H2 (.t ((g.getD u.1 (0, [])).2.map encPt))).tc (ev_i (i := 3) rfl) rfl (pts_get hu2) : EvD K _ _ H2 (encPt (ptAt g u.1 u.2.1))) fun pv H3 s3 hp => ?_
  rw [encPt_eq] at hp
  have s03 := (s1.trans s2).trans s3
  have V6 : ∀ {H'} {a b c d e f : Option V}, Same H3 H' → EvD K (tVar 6) [some v0, some v1, some (.int u.1), some (.int u.2.1), some (.int u.2.2), some (.int (exitsOf g u.1 : Nat)), some pv, a, b, c, d, e, f] H' (.c (.s (wd (ptAt g u.1 u.2.1)) :: rst (ptAt g u.1 u.2.1))) := fun s => ev_var rfl (Dn.same s _ hp.tc)
  have W : ∀ {H'} {a b c d e f : Option V} (z : Str), Same H3 H' → EvT (tTest (tOp rEq (tOp (rIxT K) (tVar 6) (tC (.int 0))) (tC (.str z)))) [some v0, some v1, some (.int u.1), some (.int u.2.1), some (.int u.2.2), some (.int (exitsOf g u.1 : Nat)), some pv, a, b, c, d, e, f] H' (decide (wd (ptAt g u.1 u.2.1) = z)) := fun z s => et_cmp (ev_eqS (ev_ix (n := 0) (V6 s) ev_int rfl ix0) ev_str)
  have kk : ∀ p us H', Same H3 H' → H3 p = none → H' p = some (.lst us) → DnL K H' ((terms g u).map encTm) us → Q (.ref p) H' := fun p us H' s hp hl hd => k p us H' (s03.trans s) (none_of s03 hp) hl hd
  -- an end
  have fin : ∀ {e : Nat} {H'} {r : TS} {E' : Ends}, Same H3 H' → (ptAt g u.1 u.2.1).ends = true → endWay g u.1 (ptAt g u.1 u.2.1) = e → E'.rt = Q →
      tSeq (tIfS (tTest (tOp rEq (tVar 4) (tVar 9))) (tRet (tLst (tCons (tTup (tCons (tTup (tCons (tC (.int 1)) (tCons (tC (.int 1)) tNil))) (tCons (tTup tNil) tNil))) tNil))) tNext) (tRet (tLst tNil)) E'
        [some v0, some v1, some (.int u.1), some (.int u.2.1), some (.int u.2.2), some (.int (exitsOf g u.1 : Nat)), some pv, none, none, some (.int e), none, none, none] H' := by
    intro e H' r E' s' hends he hE
    refine st_ifr (b := decide ((u.2.2 : Int) = e)) (et_cmp (K := K) (ev_eqI (ev_i (i := 4) rfl) (ev_i (i := 9) rfl))) (fun hb H4 s4 => ?_) fun hb H4 s4 => ?_
    · have hb : (u.2.2 : Int) = e := of_decide_eq_true hb
      refine st_retF (K := K) (ds := (terms g u).map encTm) ?_ fun p us H5 s5 hp hl hd => by show E'.rt _ _; rw [hE]; exact kk p us H5 ((s'.trans s4).trans s5) (none_of (s'.trans s4) hp) hl hd
      rw [terms_end hends, if_pos (by rw [he]; omega)]
      exact evF_lst (ea_1 (ev_tup (ea_2 ev_one (ev_tup ea_nil))))
    · have hb : ¬ (u.2.2 : Int) = e := of_decide_eq_false hb
      refine st_retF (K := K) (ds := (terms g u).map encTm) ?_ fun p us H5 s5 hp hl hd => by rw [hE]; exact kk p us H5 ((s'.trans s4).trans s5) (none_of (s'.trans s4) hp) hl hd
      rw [terms_end hends, if_neg (by rw [he]; omega)]
      exact evF_lst ea_nil
  cases e : ptAt g u.1 u.2.1 with
  | draw bs =>
    rw [e] at W V6 hok
    refine st_ifq ((W "draw" (Same.refl _)).to (show decide (("draw" : Str) = "draw") = true by decide)) (fun _ H5 s5 => ?_) fun z => nomatch z
    have et : (terms g u).map encTm = bs.map fun b => encTm (b.1, [(u.1, b.2, u.2.2)]) := by
      unfold terms
      rw [e]
      show List.map encTm (List.map _ bs) = _
      rw [List.map_map]
      rfl
    have hbl : (bs.map encB).length = bs.length := List.length_map ..
    have hb4 : DrawOk bs (g.getD u.1 (0, [])).2.length := ⟨hok.1, hok.2⟩
    refine st_retF ((ev_lc (ei_tup (ev_ix (n := 1) (V6 s5) ev_int rfl ix1 : EvD K _ _ H5 (.t (bs.map encB))).tc) (fun _ => true) (fun i => encTm ((bs.getD i ((0, 0), 0)).1, [(u.1, (bs.getD i ((0, 0), 0)).2, u.2.2)])) (fun _ _ => nol_encTm _) (by have := hb4.len; omega) ?_).to (es := (terms g u).map encTm) ?_) fun p us H6 s6 hp hl hd => kk p us H6 (s5.trans s6) (none_of s5 hp) hl hd
    · intro i d x H' e' s' hx k' hk'
      obtain ⟨b, hb1, _, rfl⟩ := map_get' e'
      have e2 : bs.getD i ((0, 0), 0) = b := by rw [List.getD_eq_getElem?_getD, hb1]; rfl
      refine g_pair hx.tc fun c1 c2 hc1 hc2 => ?_
      cases (show c2 = .int b.2 from hc2)
      refine hk' _ rfl et_yes fun _ => ?_
      rw [e2]
      exact ev_tup (ea_2 (ev_var (i := 10) rfl hc1) (ev_tup (ea_1 (ev_tup (ea_3 (ev_i (i := 2) rfl) (ev_i (i := 11) rfl) (ev_i (i := 4) rfl))))))
    · rw [pick_all, hbl, et]
      exact map_range_getD (f := fun b : (Nat × Nat) × Nat => encTm (b.1, [(u.1, b.2, u.2.2)])) bs
  | reward x y =>
    rw [e] at W V6
    refine st_no ((W "draw" (Same.refl _)).to (show decide (("reward" : Str) = "draw") = false by decide)) fun H5 s5 => ?_
    refine st_ifq ((W "reward" s5).to (show decide (("reward" : Str) = "reward") = true by decide)) (fun _ H6 s6 => ?_) fun z => nomatch z
    have s46 := s5.trans s6
    have et : (terms g u).map encTm = [encTm ((1, 1), [(u.1, y, u.2.2)])] := by
      unfold terms
      rw [e]
      rfl
    refine st_retF (ds := [encTm ((1, 1), [(u.1, y, u.2.2)])]) (evF_lst (ea_1 (ev_tup (ea_2 ev_one (ev_tup (ea_1 (ev_tup (ea_3 (ev_i (i := 2) rfl) (ev_ix (n := 2) (V6 s46) ev_int rfl rfl) (ev_i (i := 4) rfl))))))))) fun p us H7 s7 hp hl hd => kk p us H7 (s46.trans s7) (none_of s46 hp) hl (by rw [et]; exact hd)
  | call r ps =>
    rw [e] at W V6 hok
    obtain ⟨hr1, hr2, hr3⟩ := hok
    have hexr := ok.ex hr1
    refine st_no ((W "draw" (Same.refl _)).to (show decide (("call" : Str) = "draw") = false by decide)) fun H5 s5 => ?_
    refine st_no ((W "reward" s5).to (show decide (("call" : Str) = "reward") = false by decide)) fun H6 s6 => ?_
    refine st_ifq ((W "call" (s5.trans s6)).to (show decide (("call" : Str) = "call") = true by decide)) (fun _ H7 s7 => ?_) fun z => nomatch z
    have s37 := (s5.trans s6).trans s7
    refine st_set K (ev_ix (n := 1) (V6 s37) ev_int rfl ix1) fun t H8 s8 ht => ?_
    cases (show t = .int r from ht)
    have s38 := s37.trans s8
    refine st_setF ((ev_lc (ei_range (n := exitsOf g r) (ev_ex (V0 rfl (s03.trans s38)) (ev_i (i := 7) rfl) hr1) rfl (by omega)) (fun _ => true) (fun e => encTm (callTm u r (ps.getD e 0, e))) (fun _ _ => nol_encTm _) (by rw [rangeD_len]; omega) ?_).to (es := ps.zipIdx.map fun x => encTm (callTm u r x)) (by rw [pick_all, rangeD_len, ← hr2]; exact zip_map (f := fun x => encTm (callTm u r x)) ps)) fun p us H9 s9 hp hl hd => ?_
    · intro i d x H' e' s' hx k' hk'
      obtain ⟨hi, rfl⟩ := rangeD_get e'
      cases (show x = .int i from hx)
      have hget : (ps.map nD)[i]? = some (nD (ps.getD i 0)) := by
        rw [List.getElem?_map, List.getD_eq_getElem?_getD, List.getElem?_eq_getElem (by omega)]
        rfl
      exact hk' _ rfl et_yes fun _ => ev_tup (ea_2 ev_one (ev_tup (ea_2 (ev_tup (ea_3 (ev_i (i := 7) rfl) ev_int (ev_i (i := 12) rfl))) (ev_tup (ea_3 (ev_i (i := 2) rfl) (ev_ix (n := i) (ev_ix (n := 2) (V6 (s38.trans s')) ev_int rfl rfl : EvD K _ _ H' (.t (ps.map nD))).tc (ev_i (i := 12) rfl) rfl hget) (ev_i (i := 4) rfl))))))
    · have s39 := s38.trans s9
      have hp3 : H3 p = none := none_of s38 hp
      have hvl : us.length ≤ 100 := by rw [hd.length, List.length_map, List.length_zipIdx]; omega
      have et : (terms g u).map encTm = (ps.zipIdx.map fun x => encTm (callTm u r x)) ++ ((if exitsOf g u.1 ≤ u.2.2 then [((1, 1), [(r, 0, exitsOf g r + (u.2.2 - exitsOf g u.1))])] else [] : List Tm).map encTm) := by
        unfold terms
        rw [e]
        show List.map encTm (_ ++ _) = _
        rw [List.map_append, List.map_map]
        rfl
      refine st_ifj (b := decide (((exitsOf g u.1 : Nat) : Int) ≤ u.2.2)) (fun σ' H' => σ' = [some v0, some v1, some (.int u.1), some (.int u.2.1), some (.int u.2.2), some (.int (exitsOf g u.1 : Nat)), some pv, some (.int r), some (.ref p), none, none, none, none] ∧ Same H3 H' ∧ ∃ vs, H' p = some (.lst vs) ∧ DnL K H' ((terms g u).map encTm) vs)
        (et_cmp (K := K) (ev_cmp0 (g := fun i j => decide (j ≤ i)) (ev_i (i := 4) rfl) (ev_i (i := 5) rfl))) ?_ fun kj => ⟨fun hb H10 s10 => ?_, fun hb H10 s10 => kj _ _ ⟨rfl, s39.trans s10, us, s10 _ _ hl, ?_⟩⟩
      · rintro σ' H' ⟨rfl, y1, vs, y2, y3⟩
        exact ⟨_, rfl, kk p vs H' y1 hp3 y2 y3⟩
      · have hb := of_decide_eq_true hb
        have hle : exitsOf g u.1 ≤ u.2.2 := by omega
        refine st_app1 (d := encTm ((1, 1), [(r, 0, exitsOf g r + (u.2.2 - exitsOf g u.1))])) (ev_var (i := 8) rfl rfl) (s10 _ _ hl) (by omega) (ev_tup (ea_2 ev_one (ev_tup (ea_1 (ev_tup (ea_3 (ev_i (i := 7) rfl) ev_int ((ev_op0 (g := fun i j => i - j) (ev_op0 (g := fun i j => i + j) (ev_ex (V0 rfl (s03.trans (s39.trans s10))) (ev_i (i := 7) rfl) hr1) (ev_i (i := 4) rfl)) (ev_i (i := 5) rfl)).to ?_))))))) fun v H11 s11 hv hl11 => ?_
        · show D.i (((exitsOf g r : Nat) : Int) + (u.2.2 : Int) - (exitsOf g u.1 : Nat)) = D.i ((exitsOf g r + (u.2.2 - exitsOf g u.1) : Nat) : Int)
          congr 1
          omega
        · have tk : Tk H11 (upd H11 p (.lst (us ++ [v]))) := Tk.lst hl11
          refine kj _ _ ⟨rfl, Same.mut ((s39.trans s10).trans s11) hp3, _, upd_same, ?_⟩
          rw [et, if_pos hle]
          exact DnL.snoc (DnL.tk tk _ (nolL_map (fun _ => nol_encTm _) _) (DnL.same (s10.trans s11) _ hd)) (Dn.tk tk _ (nol_encTm _) hv)
      · have hb := of_decide_eq_false hb
        rw [et, if_neg (by omega)]
        show DnL K H10 (_ ++ []) us
        rw [List.append_nil]
        exact DnL.same s10 _ hd
  | exit x =>
    rw [e] at W V6 fin
    refine st_no ((W "draw" (Same.refl _)).to (show decide (("exit" : Str) = "draw") = false by decide)) fun H5 s5 => ?_
    refine st_no ((W "reward" s5).to (show decide (("exit" : Str) = "reward") = false by decide)) fun H6 s6 => ?_
    refine st_no ((W "call" (s5.trans s6)).to (show decide (("exit" : Str) = "call") = false by decide)) fun H7 s7 => ?_
    have s37 := (s5.trans s6).trans s7
    refine st_set K (ev_i (i := 5) (z := ((exitsOf g u.1 : Nat) : Int)) rfl) fun t H8 s8 ht => ?_
    refine st_ifq ((W "exit" (s37.trans s8)).to (show decide (("exit" : Str) = "exit") = true by decide)) (fun _ H9 s9 => ?_) fun z => nomatch z
    refine (ev_ix (n := 1) (V6 ((s37.trans s8).trans s9)) ev_int rfl ix1 : EvD K _ _ H9 (nD x)).run fun v H10 s10 hv => ?_
    cases (show v = .int x from hv)
    refine st_no ((W "stop" (((s37.trans s8).trans s9).trans s10)).to (show decide (("exit" : Str) = "stop") = false by decide)) fun H11 s11 => ?_
    exact fin (e := x) (r := tNext) ((((s37.trans s8).trans s9).trans s10).trans s11) rfl rfl rfl
  | reject =>
    rw [e] at W V6 fin
    refine st_no ((W "draw" (Same.refl _)).to (show decide (("reject" : Str) = "draw") = false by decide)) fun H5 s5 => ?_
    refine st_no ((W "reward" s5).to (show decide (("reject" : Str) = "reward") = false by decide)) fun H6 s6 => ?_
    refine st_no ((W "call" (s5.trans s6)).to (show decide (("reject" : Str) = "call") = false by decide)) fun H7 s7 => ?_
    have s37 := (s5.trans s6).trans s7
    refine st_set K (ev_i (i := 5) (z := ((exitsOf g u.1 : Nat) : Int)) rfl) fun t H8 s8 ht => ?_
    cases (show t = .int (exitsOf g u.1 : Nat) from ht)
    refine st_no ((W "exit" (s37.trans s8)).to (show decide (("reject" : Str) = "exit") = false by decide)) fun H9 s9 => ?_
    refine st_no ((W "stop" ((s37.trans s8).trans s9)).to (show decide (("reject" : Str) = "stop") = false by decide)) fun H10 s10 => ?_
    exact fin (e := exitsOf g u.1) (r := tNext) (((s37.trans s8).trans s9).trans s10) rfl rfl rfl
  | stop =>
    rw [e] at W V6 fin
    refine st_no ((W "draw" (Same.refl _)).to (show decide (("stop" : Str) = "draw") = false by decide)) fun H5 s5 => ?_
    refine st_no ((W "reward" s5).to (show decide (("stop" : Str) = "reward") = false by decide)) fun H6 s6 => ?_
    refine st_no ((W "call" (s5.trans s6)).to (show decide (("stop" : Str) = "call") = false by decide)) fun H7 s7 => ?_
    have s37 := (s5.trans s6).trans s7
    refine st_set K (ev_i (i := 5) (z := ((exitsOf g u.1 : Nat) : Int)) rfl) fun t H8 s8 ht => ?_
    cases (show t = .int (exitsOf g u.1 : Nat) from ht)
    refine st_no ((W "exit" (s37.trans s8)).to (show decide (("stop" : Str) = "exit") = false by decide)) fun H9 s9 => ?_
    refine st_ifq ((W "stop" ((s37.trans s8).trans s9)).to (show decide (("stop" : Str) = "stop") = true by decide)) (fun _ H10 s10 => ?_) fun z => nomatch z
    refine (ev_op0 (g := fun i j => i + j) (ev_i (i := 5) (z := ((exitsOf g u.1 : Nat) : Int)) rfl) ev_int : EvD K _ [some v0, some v1, some (.int u.1), some (.int u.2.1), some (.int u.2.2), some (.int (exitsOf g u.1 : Nat)), some pv, none, none, some (.int (exitsOf g u.1 : Nat)), none, none, none] H10 _).run fun v H11 s11 hv => ?_
    cases (show v = .int ((exitsOf g u.1 + 1 : Nat) : Int) from hv)
    exact fin (e := exitsOf g u.1 + 1) (r := tNext) ((((s37.trans s8).trans s9).trans s10).trans s11) rfl rfl rfl
end Odd

set_option Elab.async false
set_option linter.all false
set_option maxRecDepth 100000
set_option maxHeartbeats 4000000
/-! Part 27: the shortest lengths. -/
namespace Odd
open PySem PySem.Spec PyProof.Rows L2
variable {P : Program} {w : World} {h : Heap} {K : PySem.W.Frag} {mg : Str → Option Value} {base : Heap}
/-- the table F lies at d -/
def Tbl (g : Gr) (d : Addr) (F : U → Option Nat) (H : Hp) : Prop := ∃ (kvs : List (List Key × V)) (us : List U), H d = some (.dT kvs) ∧ kvs.map (·.1) = us.map kU ∧ us.length + cnt g us ≤ (unks g).length ∧ ∀ u, valV kvs (kU u) = (F u).map fun n => V.int (n : Nat)
theorem Tbl.same {g : Gr} {d : Addr} {F : U → Option Nat} {H H' : Hp} (s : Same H H') (h : Tbl g d F H) : Tbl g d F H' := by
  obtain ⟨kvs, us, h1, h2, h3, h4⟩ := h
  exact ⟨kvs, us, s _ _ h1, h2, h3, h4⟩
theorem tbl_put {g : Gr} {d : Addr} {F : U → Option Nat} {H : Hp} {kvs : List (List Key × V)} {us : List U} (h2 : kvs.map (·.1) = us.map kU) (h3 : us.length + cnt g us ≤ (unks g).length) (h4 : ∀ u, valV kvs (kU u) = (F u).map fun n => V.int (n : Nat)) {u : U} (hu : u ∈ unks g) (n : Nat) :
    Tbl g d (putU F u n) (upd H d (.dT (putK kvs (kU u) (.int (n : Nat))))) := by
  refine ⟨_, addU us u, upd_same, putU_keys h2 u _, ?_, fun x => ?_⟩
  · by_cases hm : u ∈ us
    · unfold addU
      rw [if_pos hm]
      exact h3
    · have h5 := cnt_lt (S := us) (S' := addU us u) (fun x hx => mem_addU.mpr (.inl hx)) hu (mem_addU.mpr (.inr rfl)) hm
      have := len_addU us u
      omega
  · rw [valV_put]
    unfold putU
    by_cases e : x = u
    · subst e
      rw [if_pos rfl, if_pos rfl]
      rfl
    · rw [if_neg (fun z => e (kU_inj z)), if_neg e]
      exact h4 x
theorem tot_of {F : U → Option Nat} {n : U → Nat} : ∀ {fs : List U}, (∀ f ∈ fs, F f = some (n f)) → tot F fs = some (fs.map n).sum
  | [], _ => rfl
  | f :: fs, h => by
    show (match F f, tot F fs with | some a, some b => some (a + b) | _, _ => none) = _
    rw [h f List.mem_cons_self, tot_of fun x hx => h x (List.mem_cons_of_mem _ hx)]
    rfl
theorem tot_mem {F : U → Option Nat} {fs : List U} {s : Nat} (h : tot F fs = some s) : ∀ f ∈ fs, (F f).isSome = true := fun f hf => by
  obtain ⟨n, h1, _⟩ := tot_some h
  rw [h1 f hf]
  rfl
theorem et_tru {σ : L2.St} {H : Hp} {ta : TE} {ds : List D} (ha : EvD K ta σ H (.c ds)) : EvT (fun σ H Q => ta σ H fun x H' => ∃ k, TruV K x H' k ∧ Q k H') σ H (!ds.isEmpty) := fun H1 s1 Q q => ha H1 s1 _ fun v H2 s2 hv => by
  obtain ⟨p, vs, rfl, h2, h3⟩ := hv
  refine ⟨_, .inr (.inl ⟨vs, h2, ?_⟩), q H2 s2⟩
  have z := h3.length
  cases ds with
  | nil => cases vs with
    | nil => rfl
    | cons a l => cases z
  | cons a l => cases vs with
    | nil => cases z
    | cons a l => rfl
theorem cost_call {g : Gr} {u : U} {t : Tm} (ht : t ∈ terms g u) (h2 : t.2.length = 2) : wd (ptAt g u.1 u.2.1) = "call" := by
  unfold terms at ht
  cases e : ptAt g u.1 u.2.1 with
  | call r ps => rfl
  | draw bs =>
    rw [e] at ht
    obtain ⟨b, _, rfl⟩ := List.mem_map.mp ht
    cases h2
  | reward a q =>
    rw [e] at ht
    rw [List.mem_singleton.mp ht] at h2
    cases h2
  | exit x =>
    rw [e] at ht
    simp only at ht
    split at ht
    · rw [List.mem_singleton.mp ht] at h2; cases h2
    · cases ht
  | reject =>
    rw [e] at ht
    simp only at ht
    split at ht
    · rw [List.mem_singleton.mp ht] at h2; cases h2
    · cases ht
  | stop =>
    rw [e] at ht
    simp only at ht
    split at ht
    · rw [List.mem_singleton.mp ht] at h2; cases h2
    · cases ht
def spShort (K : PySem.W.Frag) : Sp := fun vs H Q _ => ∃ g v, vs = [v] ∧ Ok g ∧ Dn K H (encG g) v ∧ ∀ d F H', Same H H' → Tbl g d F H' → Fini g F → Q (.ref d) H'
abbrev N_law_shortest : List Str := ["_law_procedures_here", "_law_found", "_law_turn", "_law_changed", "_law_unknown", "_law_point_here", "_law_coefficient", "_law_factors", "_law_steps", "_law_factor"]
theorem sc_law_shortest : FnScope N_law_shortest ["_law_procedures_here"] (defScope s_law_shortest) := ⟨rfl, rfl, rfl, by decide +kernel, rfl, by decide +kernel, by decide +kernel⟩
theorem c_law_shortest (F : Fs w h K mg) : Cal P w K mg base "_law_shortest" 2 ["_law_procedures_here"] (spShort K) := by
  have c_law_unknowns : Cal P w K mg base "_law_unknowns" 1 ["_law_procedures_here"] (spF K RUnkL) := c_law_unknowns F
  have c_law_terms : Cal P w K mg base "_law_terms" 1 ["_law_procedures_here", "_law_unknown"] (spF K RTermL) := c_law_terms F
  refine F.d_law_shortest.cal sc_law_shortest (fun _ _ _ _ _ _ us hl => match us, hl with | [_], _ => rfl) (fun vs H Q E h => by obtain ⟨_, _, rfl, _⟩ := h; rfl) fun f cdv A outer s H vs Q E hr hs => ?_
  obtain ⟨g, v0, rfl, ok, h0, k⟩ := hs
  have hl40 := len_us ok
  refine ⟨_, (pss_cons (ps_set (i := 1) sc_law_shortest.nd rfl (Or.inr rfl) pe_dnewT) (pss_cons (ps_for PassesOwn.never rfl (pi_range1 rfl F.f_range (pa_cons pe_int pa_nil)) (pg_name (i := 2) sc_law_shortest.nd rfl (Or.inl rfl)) (pss_cons (ps_set (i := 3) sc_law_shortest.nd rfl (Or.inl rfl) pe_bl) (pss_cons (ps_for PassesOwn.never rfl (pi_list (pe_cal c_law_unknowns (hr.mono (by decide)) (pa_cons (pv 0) pa_nil))) (pg_name (i := 4) sc_law_shortest.nd rfl (Or.inl rfl)) (pss_cons (ps_set (i := 5) sc_law_shortest.nd rfl (Or.inl rfl) (pe_ix (r := rIxT K) ix_tup (pe_ix (r := rIxT K) ix_tup (pe_ix (r := rIxT K) ix_tup (pv 0) (pe_ix (r := rIxT K) ix_tup (pv 4) pe_int (fun _ _ => rfl)) (fun _ _ => rfl)) pe_int (fun _ _ => rfl)) (pe_ix (r := rIxT K) ix_tup (pv 4) pe_int (fun _ _ => rfl)) (fun _ _ => rfl))) (pss_one (ps_for PassesOwn.never rfl (pi_list (pe_cal c_law_terms (hr.mono (by decide)) (pa_cons (pv 0) (pa_cons (pv 4) pa_nil)))) (pg_tup rfl (pgs_cons (pg_name (i := 6) sc_law_shortest.nd rfl (Or.inl rfl)) (pgs_cons (pg_name (i := 7) sc_law_shortest.nd rfl (Or.inl rfl)) pgs_nil))) (pss_one (ps_if (pt_val (pe_callB (r := rAll K) (cr_all rfl) (by rfl) F.f_all boot_all (pa_cons (pe_lc (own := [("_law_factor", 9)]) (g := gName 9) (tt := tYes) rfl sc_law_shortest.nd (pi_tup (pv 7)) (blkOk_by (N := N_law_shortest) (sc := defScope s_law_shortest) (by decide +kernel))  (fun _ _ _ _ _ => (pg_name (i := 9) sc_law_shortest.nd rfl (Or.inl rfl))) (fun _ _ _ _ _ => pts_nil) (fun _ _ _ _ _ => (pe_cmp (pc_din (hu_of hr) (pv 9) (pv 1))))) pa_nil))) (pss_cons (ps_set (i := 8) sc_law_shortest.nd rfl (Or.inl rfl) (pe_callB (r := rSum K) (cr_sum rfl) (by rfl) F.f_sum boot_sum (pa_cons (pe_lc (own := [("_law_factor", 9)]) (g := gName 9) (tt := tYes) rfl sc_law_shortest.nd (pi_tup (pv 7)) (blkOk_by (N := N_law_shortest) (sc := defScope s_law_shortest) (by decide +kernel))  (fun _ _ _ _ _ => (pg_name (i := 9) sc_law_shortest.nd rfl (Or.inl rfl))) (fun _ _ _ _ _ => pts_nil) (fun _ _ _ _ _ => (pe_dget (hu_of hr) (pv 1) (pv 9) (fun _ _ => rfl)))) pa_nil))) (pss_cons (ps_if (pt_truth (pv 7) (fun _ => rfl)) (pss_one (ps_set (i := 8) sc_law_shortest.nd rfl (Or.inl rfl) (pe_op op_add (pe_op op_add (pv 8) pe_int) (pe_callTy cr_int1 (by rfl) F.f_int bt_int (pa_cons (pe_and (pe_cmpR op_eq (pe_ix (r := rIxT K) ix_tup (pv 5) pe_int (fun _ _ => rfl)) pe_str (nomark _)) (pe_one (pe_cmpR op_eq (pe_callB (r := rLen K) cr_len (by rfl) F.f_len boot_len (pa_cons (pv 7) pa_nil)) pe_int (nomark _)))) pa_nil))))) pss_nil) (pss_one (ps_if (PW.pt (pw_or (pt_cmp (pc_dnotin (hu_of hr) (pv 4) (pv 1))) (pw_or1 (pt_cmpR op_lt (pv 8) (pe_dget (hu_of hr) (pv 1) (pv 4) (fun _ _ => rfl)) (nomark _))))) (pss_cons (ps_dput (hu_of hr) (pv 1) (pv 4) (pv 8) rfl) (pss_one (ps_set (i := 3) sc_law_shortest.nd rfl (Or.inl rfl) pe_bl))) pss_nil)))) pss_nil)))))) (pss_one (ps_if (pt_not (pt_val (pv 3))) (pss_one ps_break) pss_nil))))) (pss_one (ps_ret (pv 1))))), ?_⟩
  refine st_newT fun d hd0 => ?_
  have V0 : ∀ {σ : L2.St} {H'}, σ[0]? = some (some v0) → Same H H' → EvD K (tVar 0) σ H' (encG g) := fun e s => ev_var e (Dn.same s _ h0)
  refine for_ev (K := K) (Rel := fun _ _ => True) (ei_range (n := 200) ev_int rfl (by omega)) (fun H3 i σ' H' => Same H H' ∧ ∃ (T : U → Option Nat) (a2 a3 a4 a5 a6 a7 a8 : Option V), σ' = [some v0, some (.ref d), a2, a3, a4, a5, a6, a7, a8, none] ∧ Tbl g d T H' ∧ Snd g T ∧ i ≤ exn g T)
    (fun H3 s3 => ⟨(Same.new hd0).trans s3, fun _ => none, none, none, none, none, none, none, none, rfl, ⟨[], [], s3 _ _ upd_same, rfl, by show 0 + cnt g [] ≤ _; rw [Nat.zero_add]; exact List.countP_le_length, fun _ => rfl⟩, fun _ _ h => (nomatch h), Nat.zero_le _⟩) (fun _ _ _ _ _ _ _ => trivial) ?_ ?_
  · rintro H3 i dd x σ' H4 H5 s3 e ⟨y1, T0, a2, a3, a4, a5, a6, a7, a8, rfl, y2, y3, y4⟩ z hx
    refine st_set K ev_bl fun c0 H6 s6 hc0 => ?_
    cases (show c0 = .bl false from hc0)
    have y1 := (y1.trans z).trans s6
    have y2 := y2.same (z.trans s6)
    let Pv2 : Hp → Nat → L2.St → Hp → Prop := fun H7 j σ' H' => Same H H' ∧ Nd H7 H' ∧ ∃ (T : U → Option Nat) (ch : Bool) (a4 a5 a6 a7 a8 : Option V), σ' = [some v0, some (.ref d), some x, some (.bl ch), a4, a5, a6, a7, a8, none] ∧ Tbl g d T H' ∧ Pass g T0 T ch (fun u t => u ∈ (unks g).take j ∧ t ∈ terms g u)
    refine for_ev (ei_lstN (evF_call (R1 := RUnkL) (l := (unks g).map encU) (ea_1 (V0 rfl y1)) ⟨g, rfl, ok, rfl⟩).d) Pv2 (fun H7 s7 => ⟨y1.trans s7, Nd.refl _, T0, false, _, _, _, _, _, rfl, y2.same s7, (Pass.start y3).to fun u t z => (nomatch z.1)⟩) (fun _ _ _ _ _ _ q => q.2.1) ?_ ?_
    · rintro H7 j de xu σ' H8 H9 s7 e' ⟨w1, w2, T, ch, b4, b5, b6, b7, b8, rfl, w3, w4⟩ zz hxu
      obtain ⟨u, u1, hu, rfl⟩ := map_get' e'
      obtain ⟨hu1, hu2, hu3⟩ := mem_us.mp hu
      have w1 := w1.trans zz
      have X4 : ∀ {σ : L2.St} {H'}, σ[4]? = some (some xu) → Same H9 H' → EvD K (tVar 4) σ H' (.c [nD u.1, nD u.2.1, nD u.2.2]) := fun e s => ev_var e (Dn.same s _ (Dn.tc hxu))
      refine st_set K (ev_ix (n := u.2.1) (ev_ix (n := 1) (ev_ix (n := u.1) (V0 rfl w1).tc (ev_ix (n := 0) (X4 rfl (Same.refl _)) ev_int rfl ix0) rfl (encL_get hu1) : EvD K _ _ H9 (.t [nD (g.getD u.1 (0, [])).1, .t ((g.getD u.1 (0, [])).2.map encPt)])).tc ev_int rfl ix1 : EvD K _ _ H9 (.t ((g.getD u.1 (0, [])).2.map encPt))).tc (ev_ix (n := 1) (X4 rfl (Same.refl _)) ev_int rfl ix1) rfl (pts_get hu2) : EvD K _ _ H9 (encPt (ptAt g u.1 u.2.1))) fun pv H10 s10 hpv => ?_
      rw [encPt_eq] at hpv
      have w1 := w1.trans s10
      have hxu := Dn.same s10 _ hxu
      let Pv3 : Hp → Nat → L2.St → Hp → Prop := fun H11 m σ' H' => Same H H' ∧ Nd H11 H' ∧ ∃ (T : U → Option Nat) (ch : Bool) (a6 a7 a8 : Option V), σ' = [some v0, some (.ref d), some x, some (.bl ch), some xu, some pv, a6, a7, a8, none] ∧ Tbl g d T H' ∧ Pass g T0 T ch (fun v t => (v ∈ (unks g).take j ∧ t ∈ terms g v) ∨ (v = u ∧ t ∈ (terms g u).take m))
      refine for_ev (ei_lstN (evF_call (R1 := RTermL) (l := (terms g u).map encTm) (ea_2 (V0 rfl w1) (ev_var (i := 4) rfl hxu)) ⟨g, u, rfl, ok, hu, rfl⟩).d) Pv3 (fun H11 s11 => ⟨w1.trans s11, Nd.refl _, T, ch, _, _, _, rfl, (w3.same (zz.trans s10)).same s11, w4.to fun v t z => z.elim id fun z => (nomatch z.2)⟩) (fun _ _ _ _ _ _ q => q.2.1) ?_ ?_
      · rintro H11 m dt xt σ' H12 H13 s11 e'' ⟨q1, q2, T, ch, c6, c7, c8, rfl, ⟨kvs, us, q3, q4, q5, q6⟩, q7⟩ zt hxt
        obtain ⟨t, t1, ht, rfl⟩ := map_get' e''
        have q1 := q1.trans zt
        have q3 := zt _ _ q3
        have htl := tm_len ht
        have nd := (Nd.of s11).trans (q2.trans (Nd.of zt))
        have hxu13 : Dn K H13 (encU u) xu := Dn.nd nd _ hxu
        have hpv13 := Dn.nd nd _ hpv
        have hkl : kvs.length = us.length := by rw [← List.length_map (f := (·.1)), q4, List.length_map]
        have hFm : ∀ f, (T f).isSome = decide (f ∈ us) := fun f => by
          rw [← valU_some q4, q6 f]
          cases T f <;> rfl
        -- the end of a term's look
        have goes : ∀ {H'} {b6 b7 b8 : Option V}, Same H13 H' → (∀ s, tot T t.2 = some s → ∃ m, T u = some m ∧ m ≤ s + cost t) → Pv3 H11 (m + 1) [some v0, some (.ref d), some x, some (.bl ch), some xu, some pv, b6, b7, b8, none] H' := fun {H' b6 b7 b8} s' hn =>
          ⟨q1.trans s', q2.trans (Nd.of (zt.trans s')), T, ch, _, _, _, rfl, ⟨kvs, us, s' _ _ q3, q4, q5, q6⟩, (q7.skip hn).to fun v t' z => by
            rcases z with z | ⟨z1, z2⟩
            · exact .inl (.inl z)
            · rw [take_snoc t1] at z2
              rcases List.mem_append.mp z2 with z2 | z2
              · exact .inl (.inr ⟨z1, z2⟩)
              · exact .inr ⟨z1, List.mem_singleton.mp z2⟩⟩
        refine g_pair hxt.tc fun cv fv hcv hfv => ?_
        refine st_if (b := t.2.all fun f => decide (f ∈ us)) (et_B (ev_allU (ev_var (i := 7) rfl hfv.tc) (Nat.le_of_ble_eq_true rfl) (fun x H' s' => ev_var rfl rfl) (.inl q3) q4 (by omega))) (fun hb H14 s14 => ?_) fun hb H14 s14 => goes s14 fun s hs => ?_
        · have hall : ∀ f ∈ t.2, f ∈ us := fun f hf => of_decide_eq_true (List.all_eq_true.mp hb f hf)
          have hval : ∀ f ∈ t.2, T f = some ((T f).getD 0) := fun f hf => by
            have z := hFm f
            rw [decide_eq_true (hall f hf)] at z
            cases e : T f with
            | none => rw [e] at z; cases z
            | some n => rfl
          have htot := tot_of (n := fun f => (T f).getD 0) hval
          refine st_set K (ev_sum (ev_lc (ds := t.2.map encU) (ei_tup (ev_var (i := 7) rfl (Dn.same s14 _ hfv.tc))) (fun _ => true) (fun i => nD ((T (t.2.getD i (0, 0, 0))).getD 0)) (fun _ _ => rfl) (by rw [List.length_map]; omega) ?_).d (ns := (t.2.map fun f => (T f).getD 0).map fun n : Nat => (n : Int)) ?_) fun sv H15 s15 hsv => ?_
          · intro i' d' x' H' e3 s' hx' k' hk'
            obtain ⟨f, f1, f2, rfl⟩ := map_get' e3
            have e4 : t.2.getD i' (0, 0, 0) = f := by rw [List.getD_eq_getElem?_getD, f1]; rfl
            refine hk' _ rfl et_yes fun _ => ?_
            rw [e4]
            refine ev_dgetU (u := f) (v := .int ((T f).getD 0 : Nat)) (ev_var (i := 1) rfl rfl) (ev_var (i := 9) rfl hx') (.inl (s' _ _ (s14 _ _ q3))) ?_ rfl
            rw [q6, hval f f2]
            rfl
          · rw [pick_all, List.length_map, map_range_getD (f := fun f : U => nD ((T f).getD 0)) t.2, List.map_map, List.map_map]
            rfl
          · rw [sum_cast] at hsv
            generalize hS : (t.2.map fun f => (T f).getD 0).sum = S at hsv htot
            cases (show sv = .int (S : Nat) from hsv)
            have s135 := s14.trans s15
            refine st_ifj (b := !(t.2.map encU).isEmpty) (fun σ' H' => σ' = [some v0, some (.ref d), some x, some (.bl ch), some xu, some pv, some cv, some fv, some (.int ((S + cost t : Nat) : Int)), none] ∧ Same H13 H') (et_tru (ev_var (i := 7) rfl (Dn.same s135 _ hfv.tc))) ?_ fun kj => ⟨fun hb2 H16 s16 => ?_, fun hb2 H16 s16 => kj _ _ ⟨?_, s135.trans s16⟩⟩
            · rintro σ' H16 ⟨rfl, s16⟩
              have b1 : EvT (tB (tDNotIn (tVar 4) (tVar 1))) [some v0, some (.ref d), some x, some (.bl ch), some xu, some pv, some cv, some fv, some (.int ((S + cost t : Nat) : Int)), none] H16 (!(T u).isSome) := et_B (K := K) ((ev_dninU (ev_var (i := 4) rfl (Dn.same s16 _ hxu13)) (ev_var (i := 1) rfl rfl) (.inl (s16 _ _ q3))).to (by rw [q6]; cases T u <;> rfl))
              refine st_if (b := (!(T u).isSome) || decide (((S + cost t : Nat) : Int) < ((T u).getD 0 : Nat))) (et_or b1 fun hs => et_cmp (K := K) (ev_cmp0 (g := fun i j => decide (i < j)) (ev_i (i := 8) rfl) (ev_dgetU (u := u) (v := .int ((T u).getD 0 : Nat)) (ev_var (i := 1) rfl rfl) (ev_var (i := 4) rfl (Dn.same s16 _ hxu13)) (.inl (s16 _ _ q3)) ?_ rfl))) (fun hb3 H17 s17 => ?_) fun hb3 H17 s17 => goes (s16.trans s17) fun s hs => ?_
              · rw [q6]
                cases e : T u with
                | none => rw [e] at hs; cases hs
                | some n => rfl
              · have s1317 := s16.trans s17
                refine st_dputU (kvs := kvs) (e := nD (S + cost t)) (ev_i (i := 8) rfl) (ev_var (i := 1) rfl rfl) (ev_var (i := 4) rfl (Dn.same s1317 _ hxu13)) (s1317 _ _ q3) (by omega) fun v9 H18 s18 hv9 hd18 => ?_
                cases (show v9 = .int ((S + cost t : Nat) : Int) from hv9)
                refine st_set (E := { nx := _, rt := _, bk := _, ct := _ }) (u := fun E σ H => E.nx σ H) K ev_bl fun c9 H19 s19 hc9 => ?_
                cases (show c9 = .bl true from hc9)
                have ndd : Nd H18 (upd H18 d (.dT (putK kvs (kU u) (.int ((S + cost t : Nat) : Int))))) := Nd.up hd18 rfl
                refine ⟨(Same.mut ((q1.trans s1317).trans s18) hd0).trans s19, (q2.trans (Nd.of ((zt.trans s1317).trans s18))).trans (ndd.trans (Nd.of s19)), putU T u (S + cost t), true, _, _, _, rfl, (tbl_put q4 q5 q6 hu (S + cost t)).same s19, (q7.step ok hu ht htot fun mm hmm => ?_).to fun v t' z => ?_⟩
                · rw [hmm] at hb3
                  have hb3 : (false || decide (((S + cost t : Nat) : Int) < (mm : Nat))) = true := hb3
                  rw [Bool.false_or] at hb3
                  have := of_decide_eq_true hb3
                  omega
                · rcases z with z | ⟨z1, z2⟩
                  · exact .inl (.inl z)
                  · rw [take_snoc t1] at z2
                    rcases List.mem_append.mp z2 with z2 | z2
                    · exact .inl (.inr ⟨z1, z2⟩)
                    · exact .inr ⟨z1, List.mem_singleton.mp z2⟩
              · rw [htot] at hs
                cases hs
                cases e : T u with
                | none => rw [e] at hb3; cases hb3
                | some n =>
                  rw [e] at hb3
                  have hb3 : (false || decide (((S + cost t : Nat) : Int) < (n : Nat))) = false := hb3
                  rw [Bool.false_or] at hb3
                  have := of_decide_eq_false hb3
                  exact ⟨n, rfl, by omega⟩
            · have hne : t.2 ≠ [] := fun e => by rw [e] at hb2; cases hb2
              have s1316 := s135.trans s16
              refine (ev_op0 (g := fun i j => i + j) (ev_op0 (g := fun i j => i + j) (ev_i (i := 8) rfl) ev_int) (ev_int_b (ev_and (a := decide (wd (ptAt g u.1 u.2.1) = "call")) (b := decide (((t.2.map encU).length : Int) = 2)) (ev_eqS (ev_ix (n := 0) (ev_var (i := 5) (σ := [some v0, some (.ref d), some x, some (.bl ch), some xu, some pv, some cv, some fv, some (.int (S : Nat)), none]) rfl (Dn.same s1316 _ hpv13).tc) ev_int rfl ix0) ev_str) fun _ => ev_eqI (ev_lenT (ev_var (i := 7) rfl (Dn.same s1316 _ hfv.tc))) ev_int))).run fun v9 H17 s17 hv9 => kj _ _ ⟨?_, s1316.trans s17⟩
              have hc : cost t = 1 + (if (decide (wd (ptAt g u.1 u.2.1) = "call") && decide (((t.2.map encU).length : Int) = 2)) = true then 1 else 0) := by
                rw [List.length_map]
                rcases (show t.2.length = 1 ∨ t.2.length = 2 by
                  have : 0 < t.2.length := List.length_pos_iff.mpr hne
                  omega) with z | z
                · have e : decide ((t.2.length : Int) = 2) = false := decide_eq_false (by omega)
                  unfold cost
                  rw [e, z, Bool.and_false]
                  rfl
                · have e : decide ((t.2.length : Int) = 2) = true := decide_eq_true (by omega)
                  unfold cost
                  rw [e, z, cost_call ht z]
                  rfl
              have hv9 : v9 = .int ((S : Int) + 1 + (if (decide (wd (ptAt g u.1 u.2.1) = "call") && decide (((t.2.map encU).length : Int) = 2)) = true then 1 else 0)) := hv9
              rw [hv9, hc]
              show [some v0, some (.ref d), some x, some (.bl ch), some xu, some pv, some cv, some fv, some (.int _), none] = _
              have e9 : ((S : Int) + 1 + (if (decide (wd (ptAt g u.1 u.2.1) = "call") && decide (((t.2.map encU).length : Int) = 2)) = true then 1 else 0)) = ((S + (1 + (if (decide (wd (ptAt g u.1 u.2.1) = "call") && decide (((t.2.map encU).length : Int) = 2)) = true then 1 else 0)) : Nat) : Int) := by
                split <;> omega
              rw [e9]
            · have hne : t.2 = [] := by
                cases e : t.2 with
                | nil => rfl
                | cons a l => rw [e] at hb2; cases hb2
              have hc : cost t = 0 := by unfold cost; rw [hne]; rfl
              rw [hc]
              rfl
        · have hb : (t.2.all fun f => decide (f ∈ us)) = true := List.all_eq_true.mpr fun f hf => by
            rw [← hFm]
            exact tot_mem hs f hf
          rename_i hb0
          rw [hb] at hb0
          cases hb0
      · rintro H11 σ' H12 s11 ⟨q1, q2, T, ch, c6, c7, c8, rfl, q3, q4⟩
        rw [List.length_map, List.take_length] at q4
        refine ⟨q1, (w2.trans (Nd.of ((zz.trans s10).trans s11))).trans q2, T, ch, _, _, _, _, _, rfl, q3, q4.to fun v t z => ?_⟩
        rw [take_snoc u1] at z
        rcases List.mem_append.mp z.1 with z1 | z1
        · exact .inl ⟨z1, z.2⟩
        · have z1 := List.mem_singleton.mp z1
          subst z1
          exact .inr ⟨rfl, z.2⟩
    · rintro H7 σ' H8 s7 ⟨w1, w2, T, ch, b4, b5, b6, b7, b8, rfl, w3, w4⟩
      rw [List.length_map, List.take_length] at w4
      refine st_if (b := !ch) (et_not (et_B (K := K) (ev_var (i := 3) rfl rfl))) (fun hb H9 s9 => ?_) fun hb H9 s9 => ?_
      · have hb : ch = false := by cases ch with | false => rfl | true => cases hb
        subst hb
        exact ⟨_, rfl, k d T H9 (w1.trans s9) (w3.same s9) (fin_of ok w4.snd (pass_clo w4))⟩
      · have hb : ch = true := by cases ch with | true => rfl | false => cases hb
        subst hb
        have := conv_step ok y3 w4
        exact ⟨w1.trans s9, T, _, _, _, _, _, _, _, rfl, w3.same s9, w4.snd, by omega⟩
  · rintro H3 σ' H4 s3 ⟨y1, T, a2, a3, a4, a5, a6, a7, a8, rfl, y2, y3, y4⟩
    rw [rangeD_len] at y4
    have := exn_le ok T
    omega
end Odd

set_option Elab.async false
set_option linter.all false
set_option maxRecDepth 100000
set_option maxHeartbeats 4000000
/-! Part 28: evaluation beside a stream that changes. -/
namespace Odd
open PySem PySem.Spec PyProof.Rows L2
variable {K : PySem.W.Frag}
/-- the heap without st -/
def mi (st : Addr) (H : Hp) : Hp := fun b => if b = st then none else H b
theorem mi_ne {st b : Addr} {H : Hp} (h : b ≠ st) : mi st H b = H b := if_neg h
theorem mi_some {st b : Addr} {H : Hp} {o : HO} (h : mi st H b = some o) : b ≠ st ∧ H b = some o := by
  unfold mi at h
  split at h
  · cases h
  · next z => exact ⟨z, h⟩
theorem mi_of {st : Addr} {H H' : Hp} (s : Same H H') : Same (mi st H) (mi st H') := fun b o h => by
  obtain ⟨h1, h2⟩ := mi_some h
  rw [mi_ne h1]
  exact s _ _ h2
theorem mi_le {st : Addr} (H : Hp) : Same (mi st H) H := fun b o h => (mi_some h).2
theorem mi_tr {st : Addr} {H H1 H2 : Hp} (a : Same (mi st H) H1) (b : Same (mi st H1) H2) : Same (mi st H) H2 := fun x o h => by
  obtain ⟨h1, h2⟩ := mi_some h
  exact b x o (by rw [mi_ne h1]; exact a x o h)
theorem mi_mi {st : Addr} {H H1 : Hp} (a : Same (mi st H) H1) : Same (mi st H) (mi st H1) := fun x o h => by
  rw [mi_ne (mi_some h).1]
  exact a x o h
theorem mi_s {st : Addr} {H H1 H2 : Hp} (a : Same (mi st H) H1) (b : Same H1 H2) : Same (mi st H) H2 := a.trans b
/-- the stream -/
def Str0 (c : Addr) (H : Hp) (st : Addr) : Prop := ∃ (cell k : Int) (ns : List Int), H st = some (.lst [.ref c, .int cell, .int k]) ∧ H c = some (.lst (ns.map V.int)) ∧ c ≠ st ∧ 0 ≤ k
theorem Str0.same {c : Addr} {H H' : Hp} {st : Addr} (s : Same H H') (h : Str0 c H st) : Str0 c H' st := by
  obtain ⟨cell, k, ns, h1, h2, h3, h4⟩ := h
  exact ⟨cell, k, ns, s _ _ h1, s _ _ h2, h3, h4⟩
theorem Str0.up {c : Addr} {H : Hp} {st p : Addr} {o : HO} {xs : List V} (h : Str0 c H st) (hp : H p = some (.lst xs)) (hne : p ≠ st) (hc : p ≠ c) : Str0 c (upd H p o) st := by
  obtain ⟨cell, k, ns, h1, h2, h3, h4⟩ := h
  exact ⟨cell, k, ns, by rw [upd_ne (Ne.symm hne)]; exact h1, by rw [upd_ne (Ne.symm hc)]; exact h2, h3, h4⟩
theorem tk_mi {c : Addr} {H : Hp} {st : Addr} (h : Str0 c H st) : Tk H (mi st H) := by
  obtain ⟨cell, k, ns, h1, _⟩ := h
  exact ⟨fun a xs ha => by rw [mi_ne (fun e => by rw [e, h1] at ha; cases ha)]; exact ha, fun a o xs ha => by rw [mi_ne (fun e => by rw [e, h1] at ha; cases ha)]; exact ha, fun a C dx fs ha => by rw [mi_ne (fun e => by rw [e, h1] at ha; cases ha)]; exact ha⟩
theorem dn_mi {c : Addr} {H : Hp} {st : Addr} {d : D} {v : V} (h : Str0 c H st) (hn : nol d = true) (hd : Dn K H d v) : Dn K (mi st H) d v := Dn.tk (tk_mi h) d hn hd
theorem Str0.fresh {c : Addr} {H : Hp} {st p : Addr} (h : Str0 c H st) (hp : H p = none) : p ≠ st := fun e => by
  obtain ⟨cell, k, ns, h1, _⟩ := h
  rw [e, h1] at hp
  cases hp
def EvN (K : PySem.W.Frag) (c st : Addr) (te : TE) (σ : L2.St) (H : Hp) (R : D → Prop) : Prop := ∀ H1, Same (mi st H) H1 → Str0 c H1 st → ∀ Q : VK, (∀ v H2 d, Same (mi st H1) H2 → Str0 c H2 st → R d → Dn K (mi st H2) d v → Q v H2) → te σ H1 Q
def EvNA (K : PySem.W.Frag) (c st : Addr) (ta : TA) (σ : L2.St) (H : Hp) (R : List D → Prop) : Prop := ∀ H1, Same (mi st H) H1 → Str0 c H1 st → ∀ Q : List V → Hp → Prop, (∀ vs H2 ds, Same (mi st H1) H2 → Str0 c H2 st → R ds → DnL K (mi st H2) ds vs → Q vs H2) → ta σ H1 Q
section
variable {c st : Addr} {σ : L2.St} {H : Hp} {ta tb te tc : TE} {t : TA} {R Ra Rb : D → Prop} {Rs : List D → Prop} {d : D}
theorem EvN.to {R' : D → Prop} (h : EvN K c st te σ H R) (k : ∀ d, R d → R' d) : EvN K c st te σ H R' := fun H1 s1 w Q q => h H1 s1 w Q fun v H2 d s2 w2 r hd => q v H2 d s2 w2 (k d r) hd
theorem EvN.mono {H' : Hp} (s : Same (mi st H) H') (h : EvN K c st te σ H R) : EvN K c st te σ H' R := fun H1 s1 => h H1 (mi_tr s s1)
theorem evN_pure (h : EvD K te σ (mi st H) d) (hn : nol d = true) : EvN K c st te σ H (· = d) := fun H1 s1 w Q q => h H1 s1 Q fun v H2 s2 hv => q v H2 d ((mi_le H1).trans s2) (w.same s2) rfl (dn_mi (w.same s2) hn hv)
theorem evN_var {i : Nat} {v : V} (h : σ[i]? = some (some v)) (hd : Dn K (mi st H) d v) : EvN K c st (tVar i) σ H (· = d) := fun H1 s1 w Q q => ⟨v, h, q v H1 d (mi_le H1) w rfl (Dn.same (mi_mi s1) d hd)⟩
theorem evN_next {R : List D → D → Prop} {P : List D → Prop} (ha : EvNA K c st t σ H (fun es => ∃ ds, es = .o st :: ds ∧ P ds)) {sp : Sp} (hsp : ∀ vs H Q, (∃ ws ds, vs = .ref st :: ws ∧ Str0 c H st ∧ DnL K (mi st H) ds ws ∧ P ds ∧ ∀ d v H', R ds d → Same (mi st H) H' → Str0 c H' st → Dn K (mi st H') d v → Q v H') → sp vs H Q E0) :
    EvN K c st (tCall sp [] E0 t) σ H (fun d => ∃ ds, P ds ∧ R ds d) := fun H1 s1 w Q q => ha H1 s1 w _ fun vs H2 es s2 w2 r hv => by
  obtain ⟨ds, rfl, hP⟩ := r
  obtain ⟨v, ws, rfl, hv1, hv2⟩ := hv
  rw [show v = .ref st from hv1]
  exact hsp _ _ _ ⟨ws, ds, by rw [List.append_nil], w2, hv2, hP, fun d v H' hr s3 w3 hd => q v H' d (mi_tr s2 s3) w3 ⟨ds, hP, hr⟩ hd⟩
theorem evN_callP {R1 : List D → D → Prop} {R' : D → Prop} (ha : EvNA K c st t σ H Rs) (hr : ∀ ds, Rs ds → ∃ d, R1 ds d ∧ R' d ∧ nol d = true) : EvN K c st (tCall (spP K R1) [] E0 t) σ H R' := fun H1 s1 w Q q => ha H1 s1 w _ fun vs H2 ds s2 w2 r hv => by
  obtain ⟨d, r1, r2, r3⟩ := hr ds r
  exact ⟨ds, d, by rw [List.append_nil]; exact DnL.same (mi_le H2) _ hv, r1, fun v H' s hd => q v H' d (s2.trans s) (w2.same s) r2 (dn_mi (w2.same s) r3 hd)⟩
theorem eaN_nil : EvNA K c st tNil σ H (· = []) := fun H1 _ w Q q => q [] H1 [] (mi_le H1) w rfl rfl
theorem eaN_cons (h : EvN K c st te σ H R) (t' : EvNA K c st t σ H Rs) : EvNA K c st (tCons te t) σ H (fun es => ∃ d ds, es = d :: ds ∧ R d ∧ Rs ds) := fun H1 s1 w Q q => h H1 s1 w _ fun v H2 d s2 w2 r hv => t' H2 (mi_tr s1 s2) w2 _ fun vs H3 ds s3 w3 rs hvs =>
  q _ H3 (d :: ds) (mi_tr s2 s3) w3 ⟨d, ds, rfl, r, rs⟩ ⟨v, vs, rfl, Dn.same (mi_mi s3) d hv, hvs⟩
theorem EvNA.to {Rs' : List D → Prop} (h : EvNA K c st t σ H Rs) (k : ∀ d, Rs d → Rs' d) : EvNA K c st t σ H Rs' := fun H1 s1 w Q q => h H1 s1 w Q fun v H2 d s2 w2 r hd => q v H2 d s2 w2 (k d r) hd
theorem evN_tup (h : EvNA K c st t σ H Rs) (hl : ∀ ds, Rs ds → ds.length ≤ 1000) : EvN K c st (tTup t) σ H (fun d => ∃ ds, Rs ds ∧ d = .t ds) := fun H1 s1 w Q q => h H1 s1 w _ fun vs H2 ds s2 w2 r hv =>
  ⟨small_le (by rw [hv.length]; have := hl ds r; omega), fun p hp => q _ _ (.t ds) (s2.trans (Same.new hp)) (w2.same (Same.new hp)) ⟨ds, r, rfl⟩ ⟨p, vs, rfl, by rw [mi_ne (w2.fresh hp)]; exact upd_same, DnL.same (mi_of (Same.new hp)) ds hv⟩⟩
theorem evN_lst (h : EvNA K c st t σ H Rs) (hl : ∀ ds, Rs ds → ds.length ≤ 1000) : EvN K c st (tLst t) σ H (fun d => ∃ ds, Rs ds ∧ d = .l ds) := fun H1 s1 w Q q => h H1 s1 w _ fun vs H2 ds s2 w2 r hv =>
  ⟨small_le (by rw [hv.length]; have := hl ds r; omega), fun p hp => q _ _ (.l ds) (s2.trans (Same.new hp)) (w2.same (Same.new hp)) ⟨ds, r, rfl⟩ ⟨p, vs, rfl, by rw [mi_ne (w2.fresh hp)]; exact upd_same, DnL.same (mi_of (Same.new hp)) ds hv⟩⟩
theorem evN_op {g : Int → Int → Int} (ha : EvN K c st ta σ H Ra) (hb : EvN K c st tb σ H Rb) (h : ∀ a b, Ra a → Rb b → ∃ x y, a = .i x ∧ b = .i y ∧ R (.i (g x y))) : EvN K c st (tOp (rI0 fun i j => .int (g i j)) ta tb) σ H R := fun H1 s1 w Q q => ha H1 s1 w _ fun v H2 a s2 w2 r hv => hb H2 (mi_tr s1 s2) w2 _ fun u H3 b s3 w3 r' hu => by
  obtain ⟨x, y, rfl, rfl, hr⟩ := h a b r r'
  exact ⟨x, y, hv, hu, q _ H3 _ (mi_tr s2 s3) w3 hr rfl⟩
theorem evN_ixL (ha : EvN K c st ta σ H Ra) (hb : EvN K c st tb σ H Rb) (h : ∀ a b, Ra a → Rb b → ∃ (l : List D) (n : Nat) (d : D), a = .l l ∧ b = nD n ∧ l[n]? = some d ∧ R d) : EvN K c st (tOp (rIxL K) ta tb) σ H R := fun H1 s1 w Q q => ha H1 s1 w _ fun v H2 a s2 w2 r hv => hb H2 (mi_tr s1 s2) w2 _ fun u H3 b s3 w3 r' hu => by
  obtain ⟨l, n, d, rfl, rfl, hn, hr⟩ := h a b r r'
  obtain ⟨p, vs, h1, h2, h3⟩ := hv
  obtain ⟨v', q1, q2⟩ := h3.get hn
  exact ⟨p, vs, n, v', h1, hu, SqL.of (s3 _ _ h2), atI_nat q1, q _ H3 d (mi_tr s2 s3) w3 hr (Dn.same (mi_mi s3) d q2)⟩
theorem evN_tupOf (h : EvN K c st ta σ H Ra) (hr : ∀ a, Ra a → ∃ ds, a = .l ds ∧ R (.t ds)) : EvN K c st (tCB (rTupOf K) (tCons ta tNil)) σ H R := fun H1 s1 w Q q => h H1 s1 w _ fun v H2 a s2 w2 r hv => by
  obtain ⟨ds, rfl, hR⟩ := hr a r
  obtain ⟨p, vs, h1, h2, h3⟩ := hv
  subst h1
  obtain ⟨_, h2'⟩ := mi_some h2
  exact ⟨p, vs, rfl, .inl ⟨SqL.of h2', fun l hl => q _ _ (.t ds) (s2.trans (Same.new hl)) (w2.same (Same.new hl)) hR ⟨l, vs, rfl, by rw [mi_ne (w2.fresh hl)]; exact upd_same, DnL.same (mi_of (Same.new hl)) ds h3⟩⟩⟩
theorem EvN.run (h : EvN K c st te σ H R) (w : Str0 c H st) {Q : VK} (q : ∀ v H2 d, Same (mi st H) H2 → Str0 c H2 st → R d → Dn K (mi st H2) d v → Q v H2) : te σ H Q := h H (mi_le H) w Q q
end
/-! ### comprehensions -/
def EvNI (K : PySem.W.Frag) (c st : Addr) (wi : TI) (σ : L2.St) (H : Hp) (R : List D → Prop) : Prop := ∀ H1, Same (mi st H) H1 → Str0 c H1 st → ∀ Q : It → Hp → Prop,
  (∀ J H2 G ds, Same (mi st H1) H2 → Str0 c H2 st → R ds → Walk J ds.length G (fun i H' x H'' => H'' = H' ∧ ∃ d, ds[i]? = some d ∧ Dn K (mi st H'') d x) → (∀ H3, Same (mi st H2) H3 → G H3) → Q J H2) → wi σ H1 Q
section
variable {c st : Addr} {σ : L2.St} {H : Hp} {ta te : TE} {Ra : D → Prop} {Rl : List D → Prop}
theorem eiN_list (h : EvN K c st te σ H Ra) (hr : ∀ a, Ra a → ∃ ds, a = .l ds ∧ Rl ds) : EvNI K c st (iList K te) σ H Rl := fun H1 s1 w Q q => h H1 s1 w _ fun v H2 a s2 w2 r hv => by
  obtain ⟨ds, rfl, hR⟩ := hr a r
  obtain ⟨p, vs, h1, h2, h3⟩ := hv
  obtain ⟨hne, h2'⟩ := mi_some h2
  refine ⟨p, h1, ⟨vs, SqL.of h2'⟩, q _ H2 (fun H => SqL K H p vs ∧ DnL K (mi st H) ds vs) ds s2 w2 hR ?_ fun H3 s3 => ⟨SqL.of (s3 _ _ h2), DnL.same (mi_mi s3) ds h3⟩⟩
  rw [← h3.length]
  exact walk_list.mono (fun H q => q.1) fun i H' x H'' _ q y => by
    obtain ⟨e, y⟩ := y
    subst e
    obtain ⟨d, q1, q2⟩ := q.2.get' y
    exact ⟨rfl, d, q1, q2⟩
theorem eiN_range (h : EvN K c st te σ H Ra) (hr : ∀ a, Ra a → ∃ n : Nat, a = nD n ∧ n ≤ 1000 ∧ Rl (rangeD n)) : EvNI K c st (iRng1 (tCons te tNil)) σ H Rl := fun H1 s1 w Q q => h H1 s1 w _ fun v H2 a s2 w2 r hv => by
  obtain ⟨n, rfl, hn, hR⟩ := hr a r
  refine ⟨(n : Int), by rw [show v = V.int (n : Int) from hv], by omega, by omega, q _ H2 (fun _ => True) (rangeD n) s2 w2 hR ?_ fun _ _ => trivial⟩
  rw [rangeD_len, Int.toNat_natCast]
  exact walk_range.mono (fun _ _ => trivial) fun i H' x H'' hi _ y => by
    obtain ⟨e, y⟩ := y
    subst e y
    refine ⟨rfl, nD i, ?_, ?_⟩
    · unfold rangeD
      rw [List.getElem?_map, List.getElem?_range hi]
      rfl
    · show V.int (0 + (i : Nat)) = V.int (i : Nat)
      rw [Int.zero_add]
/-- each element's datum stands to the item as Re says -/
def Each (Re : D → D → Prop) (ds es : List D) : Prop := es.length = ds.length ∧ ∀ (i : Nat) (d e : D), ds[i]? = some d → es[i]? = some e → Re d e
theorem evN_lc {wi : TI} {g : TG} {vs : List Nat} {Re : D → D → Prop} (hi : EvNI K c st wi σ H Rl) (hz : ∀ ds, Rl ds → ds.length ≤ 1000) (hn : ∀ d e, Re d e → nol e = true)
    (hb : ∀ (ds : List D) (i : Nat) (d : D) (x : V) (H' : Hp), Rl ds → ds[i]? = some d → Same (mi st H) H' → Str0 c H' st → Dn K (mi st H') d x → ∀ k : L2.St → Hp → Prop, (∀ σ2, wipe σ2 vs = wipe σ vs → EvN K c st te σ2 H' (Re d) → k σ2 H') → g x (wipe σ vs) H' k) :
    EvN K c st (tLc wi g tYes te vs) σ H (fun a => ∃ ds es, Rl ds ∧ Each Re ds es ∧ a = .l es) := fun H1 s1 w1 Q q => hi H1 s1 w1 _ fun J H2 G ds s2 w2 hR w hG L hL => by
  have hLst := w2.fresh hL
  refine lc_it w (fun i H3 => Same (mi st H2) H3 ∧ Str0 c H3 st ∧ ∃ acc es, H3 L = some (.lst acc) ∧ DnL K (mi st H3) es acc ∧ Each Re (ds.take i) es ∧ nolL es = true) ⟨(mi_le H2).trans (Same.new hL), w2.same (Same.new hL), [], [], upd_same, rfl, ⟨rfl, fun i d e h => by simp at h⟩, rfl⟩ (fun i H3 _ z => hG H3 z.1) (fun i x H3 H4 hlt z y => ?_) fun H3 z => ?_
  · obtain ⟨z1, z2, acc, es, z3, z4, z5, z6⟩ := z
    obtain ⟨rfl, d, y2, y3⟩ := y
    have sH4 : Same (mi st H) H4 := mi_tr (mi_tr s1 s2) z1
    refine hb ds i d x H4 hR y2 sH4 z2 y3 _ fun σ2 hw he => ⟨hw, ?_⟩
    dsimp only [tYes]
    rw [if_pos rfl]
    refine he H4 (mi_le H4) z2 _ fun v H6 e s6 w6 hr hv => ?_
    have hL6 : H6 L = some (.lst acc) := s6 _ _ (by rw [mi_ne hLst]; exact z3)
    have hne := hn d e hr
    have hlc : L ≠ c := fun e2 => by
      obtain ⟨cell, k, ns, x1, x2, x3, x4⟩ := w2
      rw [e2, x2] at hL
      cases hL
    refine ⟨acc, hL6, small_lt ?_, fun b o hb => ?_, w6.up hL6 hLst hlc, _, es ++ [e], upd_same, ?_, ⟨?_, ?_⟩, ?_⟩
    · have h1 := z4.length
      have h2 := z5.1
      have h3 := hz ds hR
      rw [List.length_take] at h2
      omega
    · obtain ⟨b1, b2⟩ := mi_some hb
      rw [upd_ne (ne_of_none b2 hL)]
      exact s6 _ _ (by rw [mi_ne b1]; exact z1 _ _ hb)
    · have tk : Tk (mi st H6) (mi st (upd H6 L (.lst (acc ++ [v])))) := ⟨fun a xs ha => by
        obtain ⟨a1, a2⟩ := mi_some ha
        rw [mi_ne a1, upd_ne (fun e => by rw [e, hL6] at a2; cases a2)]
        exact a2, fun a o xs ha => by
        obtain ⟨a1, a2⟩ := mi_some ha
        rw [mi_ne a1, upd_ne (fun e => by rw [e, hL6] at a2; cases a2)]
        exact a2, fun a C dx fs ha => by
        obtain ⟨a1, a2⟩ := mi_some ha
        rw [mi_ne a1, upd_ne (fun e => by rw [e, hL6] at a2; cases a2)]
        exact a2⟩
      exact DnL.snoc (DnL.tk tk _ z6 (DnL.same (mi_mi s6) _ z4)) (Dn.tk tk _ hne hv)
    · rw [List.length_append, z5.1, take_snoc y2, List.length_append]
      rfl
    · intro j d' e' hj he'
      have hel : es.length = i := by rw [z5.1, List.length_take]; omega
      rw [take_snoc y2] at hj
      by_cases hji : j < i
      · rw [List.getElem?_append_left (by rw [List.length_take]; omega)] at hj
        rw [List.getElem?_append_left (by omega)] at he'
        exact z5.2 j d' e' hj he'
      · have : j < i + 1 := by
          have z := (List.getElem?_eq_some_iff.mp he').1
          rw [List.length_append, hel] at z
          exact z
        have hji : j = i := by omega
        subst hji
        rw [List.getElem?_append_right (by rw [List.length_take]; omega)] at hj
        rw [List.getElem?_append_right (by omega)] at he'
        have e1 : j - (ds.take j).length = 0 := by rw [List.length_take]; omega
        have e2 : j - es.length = 0 := by omega
        rw [e1] at hj
        rw [e2] at he'
        cases hj
        cases he'
        exact hr
    · exact nolL_of fun x hx => (List.mem_append.mp hx).elim (fun z => by
        have : ∀ l : List D, nolL l = true → ∀ x ∈ l, nol x = true := by
          intro l
          induction l with
          | nil => intro _ x hx; cases hx
          | cons a l ih =>
            intro h x hx
            have h : (nol a && nolL l) = true := h
            rw [Bool.and_eq_true] at h
            rcases List.mem_cons.mp hx with rfl | hx
            · exact h.1
            · exact ih h.2 x hx
        exact this es z6 x z) fun z => by rw [List.mem_singleton.mp z]; exact hne
  · obtain ⟨z1, z2, acc, es, z3, z4, z5, z6⟩ := z
    rw [List.take_length] at z5
    exact q _ H3 (.l es) (mi_tr s2 z1) z2 ⟨ds, es, hR, z5, rfl⟩ ⟨L, acc, rfl, by rw [mi_ne hLst]; exact z3, z4⟩
end
end Odd

set_option Elab.async false
set_option linter.all false
set_option maxRecDepth 100000
set_option maxHeartbeats 4000000
/-! Part 29: the stream, a draw. -/
namespace Odd
open PySem PySem.Spec PyProof.Rows L2
variable {P : Program} {w : World} {h : Heap} {K : PySem.W.Frag} {mg : Str → Option Value} {base : Heap}
def spN (K : PySem.W.Frag) (P : List D → Prop) (R : List D → D → Prop) : Sp := fun vs H Q _ => ∃ c st ws ds, vs = .ref st :: ws ∧ Str0 c H st ∧ DnL K (mi st H) ds ws ∧ P ds ∧ ∀ d v H', R ds d → Same (mi st H) H' → Str0 c H' st → Dn K (mi st H') d v → Q v H'
section
variable {c st : Addr} {σ : L2.St} {H : Hp} {ta te to ti : TE} {t : TA} {d : D} {ds : List D} {R : D → Prop}
theorem evN_lst' (h : EvNA K c st t σ H (· = ds)) (hl : ds.length ≤ 1000 := by exact Nat.le_of_ble_eq_true rfl) : EvN K c st (tLst t) σ H (· = .l ds) := (evN_lst h fun ds' e => by rw [show ds' = ds from e]; exact hl).to fun d e => by
  obtain ⟨ds', e1, e2⟩ := e
  rw [e2, show ds' = ds from e1]
theorem evN_tup' (h : EvNA K c st t σ H (· = ds)) (hl : ds.length ≤ 1000 := by exact Nat.le_of_ble_eq_true rfl) : EvN K c st (tTup t) σ H (· = .t ds) := (evN_tup h fun ds' e => by rw [show ds' = ds from e]; exact hl).to fun d e => by
  obtain ⟨ds', e1, e2⟩ := e
  rw [e2, show ds' = ds from e1]
theorem eaN_cons' (h : EvN K c st te σ H (· = d)) (t' : EvNA K c st t σ H (· = ds)) : EvNA K c st (tCons te t) σ H (· = d :: ds) := (eaN_cons h t').to fun x e => by
  obtain ⟨d', ds', rfl, e1, e2⟩ := e
  rw [show d' = d from e1, show ds' = ds from e2]
theorem evN_callN {Pd X : List D → Prop} {Rd : List D → D → Prop} (ha : EvNA K c st t σ H (fun es => ∃ ds, es = .o st :: ds ∧ X ds)) (hX : ∀ ds, X ds → Pd ds) : EvN K c st (tCall (spN K Pd Rd) [] E0 t) σ H (fun d => ∃ ds, X ds ∧ Rd ds d) :=
  evN_next ha fun vs H Q h => by
    obtain ⟨ws, ds, h1, h2, h3, h4, h5⟩ := h
    exact ⟨c, st, ws, ds, h1, h2, h3, hX ds h4, h5⟩
theorem st_setN {u : TS} {E : Ends} {i : Nat} (h : EvN K c st te σ H R) (w : Str0 c H st) (k : ∀ v H1 d, Same (mi st H) H1 → Str0 c H1 st → R d → Dn K (mi st H1) d v → u E (σ.set i (some v)) H1) : tSeq (tAsg te (gName i)) u E σ H := h.run w fun v H1 d s w1 r hd => k v H1 d s w1 r hd
theorem st_retN {E : Ends} (h : EvN K c st te σ H R) (w : Str0 c H st) (k : ∀ v H1 d, Same (mi st H) H1 → Str0 c H1 st → R d → Dn K (mi st H1) d v → E.rt v H1) : tRet te E σ H := h.run w fun v H1 d s w1 r hd => k v H1 d s w1 r hd
theorem st_seti {E : Ends} {z n : Int} {p : Addr} {xs : List V} {j : Nat} (he : EvD K te σ H (.i z)) (ho : EvD K to σ H (.o p)) (hi : EvD K ti σ H (.i n)) (hp : H p = some (.lst xs)) (hj : ixN xs.length n = some j) (k : ∀ H1, Same H H1 → E.nx σ (upd H1 p (.lst (xs.set j (.int z))))) : tAsg te (gSub to ti rSetL) E σ H :=
  he.run fun v H1 s1 hv => ho H1 s1 _ fun o H2 s2 ho' => hi H2 (s1.trans s2) _ fun i H3 s3 hi' => by
    rw [show v = .int z from hv]
    exact ⟨p, xs, n, j, ho', hi', (s2.trans s3) _ _ (s1 _ _ hp), hj, k H3 ((s1.trans s2).trans s3)⟩
end
def strD (ns : List Int) (cell k : Int) : D := .l [.l (ns.map .i), .i cell, .i k]
theorem dnl_ints {H : Hp} : ∀ ns : List Int, DnL K H (ns.map D.i) (ns.map V.int)
  | [] => rfl
  | _ :: ns => ⟨_, _, rfl, rfl, dnl_ints ns⟩
theorem str_dn {H : Hp} {c st : Addr} {cell k : Int} {ns : List Int} (h1 : H st = some (.lst [.ref c, .int cell, .int k])) (h2 : H c = some (.lst (ns.map V.int))) : Dn K H (strD ns cell k) (.ref st) :=
  ⟨st, _, rfl, h1, _, _, rfl, ⟨c, _, rfl, h2, dnl_ints ns⟩, _, _, rfl, rfl, _, _, rfl, rfl, rfl⟩
def spStream (K : PySem.W.Frag) : Sp := fun vs H Q _ => ∃ (a : Addr) (ns : List Int), vs = [.ref a] ∧ SqL K H a (ns.map V.int) ∧ ns.length ≤ 100 ∧ ∀ c st H', Same H H' → H st = none → Str0 c H' st → Q (.ref st) H'
abbrev N_law_stream : List Str := ["_law_script"]
theorem sc_law_stream : FnScope N_law_stream ["_law_script"] (defScope s_law_stream) := ⟨rfl, rfl, rfl, by decide +kernel, rfl, by decide +kernel, by decide +kernel⟩
theorem c_law_stream (F : Fs w h K mg) : Cal P w K mg base "_law_stream" 1 ["_law_script"] (spStream K) := by
  refine F.d_law_stream.cal sc_law_stream (fun _ _ _ _ _ _ us hl => match us, hl with | [_], _ => rfl) (fun vs H Q E h => by obtain ⟨_, _, rfl, _⟩ := h; rfl) fun f cdv A outer s H vs Q E hr hs => ?_
  obtain ⟨a, ns, rfl, hs, hl, k⟩ := hs
  refine ⟨_, (pss_one (ps_ret (pe_lst (pa_cons (pe_callTy cr_listOf (by rfl) F.f_list boot_list (pa_cons (pv 0) pa_nil)) (pa_cons pe_int (pa_cons pe_int pa_nil)))))), ?_⟩
  refine ⟨_, rfl, a, _, rfl, .inl hs, fun l hl0 => ⟨by show 3 ≤ sizeLine; decide, fun p hp => ?_⟩⟩
  have s1 : Same H (upd H l (.lst (ns.map V.int))) := Same.new hl0
  have hne : l ≠ p := fun e => by subst e; rw [upd_same] at hp; cases hp
  exact k l p _ (s1.trans (Same.new hp)) (none_of s1 hp) ⟨0, 0, ns, upd_same, by rw [upd_ne hne]; exact upd_same, hne, Int.le_refl 0⟩
def PNext : List D → Prop := fun ds => ∃ m : Nat, ds = [nD m] ∧ 1 ≤ m ∧ m ≤ 1000
def RNext : List D → D → Prop := fun ds d => ∃ m r : Nat, ds = [nD m] ∧ r < m ∧ d = nD r
abbrev N_law_next : List Str := ["_law_stream_here", "_law_many", "_law_k", "_law_cell", "_law_digit"]
theorem sc_law_next : FnScope N_law_next ["_law_stream_here", "_law_many"] (defScope s_law_next) := ⟨rfl, rfl, rfl, by decide +kernel, rfl, by decide +kernel, by decide +kernel⟩
theorem c_law_next (F : Fs w h K mg) : Cal P w K mg base "_law_next" 1 ["_law_stream_here", "_law_many"] (spN K PNext RNext) := by
  refine F.d_law_next.cal sc_law_next (fun _ _ _ _ _ _ us hl => match us, hl with | [_, _], _ => rfl) (fun vs H Q E h => by
    obtain ⟨_, _, ws, ds, rfl, _, h1, ⟨m, rfl, _⟩, _⟩ := h
    have := h1.length
    show ws.length + 1 = 2
    rw [this]; rfl) fun f cdv A outer s H vs Q E hr hs => ?_
  obtain ⟨c, st, ws, ds, rfl, hst, hv, ⟨m, rfl, hm1, hm2⟩, k⟩ := hs
  obtain ⟨vm, _, rfl, hvm, rfl⟩ := hv
  cases (show vm = .int m from hvm)
  obtain ⟨cell, kk, ns, h1, h2, h3, h4⟩ := id hst
  refine ⟨_, (pss_cons (ps_if (pt_cmpR op_eq (pe_ix (r := rIxL K) ix_list (pv 0) pe_int (fun _ _ => rfl)) pe_int (nomark _)) (pss_cons (ps_set (i := 2) sc_law_next.nd rfl (Or.inl rfl) (pe_ix (r := rIxL K) ix_list (pv 0) pe_int (fun _ _ => rfl))) (pss_cons (ps_set (i := 3) sc_law_next.nd rfl (Or.inl rfl) (pe_op op_add pe_int (pv 2))) (pss_cons (ps_if (pt_cmpR op_lt (pv 2) (pe_callB (r := rLen K) cr_len (by rfl) F.f_len boot_len (pa_cons (pe_ix (r := rIxL K) ix_list (pv 0) pe_int (fun _ _ => rfl)) pa_nil)) (nomark _)) (pss_one (ps_set (i := 3) sc_law_next.nd rfl (Or.inl rfl) (pe_callB cr_abs (by rfl) F.f_abs boot_abs (pa_cons (pe_ix (r := rIxL K) ix_list (pe_ix (r := rIxL K) ix_list (pv 0) pe_int (fun _ _ => rfl)) (pv 2) (fun _ _ => rfl)) pa_nil)))) pss_nil) (pss_cons (ps_if (pt_cmpR op_lt (pv 3) (pe_op op_pow pe_int pe_int) (nomark _)) (pss_cons (ps_set (i := 3) sc_law_next.nd rfl (Or.inl rfl) (pe_op op_mod (pe_callTy cr_int1 (by rfl) F.f_int bt_int (pa_cons (pe_op op_add (pe_op op_add (pe_op op_mul (pv 3) pe_int) (pe_op op_mul (pv 2) pe_int)) pe_int) pa_nil)) pe_int)) (pss_one (ps_set (i := 3) sc_law_next.nd rfl (Or.inl rfl) (pe_op op_add (pe_op op_mul (pe_op op_mod (pe_callTy cr_int1 (by rfl) F.f_int bt_int (pa_cons (pe_op op_add (pe_op op_mul (pv 3) pe_int) pe_int) pa_nil)) pe_int) pe_int) (pv 3))))) pss_nil) (pss_cons (ps_asg (pv 3) (pg_sub (pv 0) pe_int set_list)) (pss_one (ps_asg (pe_op op_add (pv 2) pe_int) (pg_sub (pv 0) pe_int set_list)))))))) pss_nil) (pss_cons (ps_set (i := 4) sc_law_next.nd rfl (Or.inl rfl) (pe_op op_mod (pe_callTy cr_int1 (by rfl) F.f_int bt_int (pa_cons (pe_ix (r := rIxL K) ix_list (pv 0) pe_int (fun _ _ => rfl)) pa_nil)) (pv 1))) (pss_cons (ps_asg (pe_op op_fdiv (pe_ix (r := rIxL K) ix_list (pv 0) pe_int (fun _ _ => rfl)) (pv 1)) (pg_sub (pv 0) pe_int set_list)) (pss_one (ps_ret (pv 4)))))), ?_⟩
  have SV : ∀ {σ : L2.St} {H'}, σ[0]? = some (some (.ref st)) → Same H H' → EvD K (tVar 0) σ H' (strD ns cell kk) := fun e s => ev_var e (Dn.same s _ (str_dn h1 h2))
  -- the digit
  have fin : ∀ {σ : L2.St} {H' : Hp} {k2 k3 : Option V} {E' : Ends}, E'.rt = Q → Same (mi st H) H' → Str0 c H' st → σ = [some (.ref st), some (.int m), k2, k3, none] →
      tSeq (tAsg (tOp (rI (fun _ j => 0 < j) fun i j => .int (i % j)) (tCB rInt1 (tCons (tOp (rIxL K) (tVar 0) (tC (.int 1))) tNil)) (tVar 1)) (gName 4)) (tSeq (tAsg (tOp (rI CDiv fun i j => .int (i / j)) (tOp (rIxL K) (tVar 0) (tC (.int 1))) (tVar 1)) (gSub (tVar 0) (tC (.int 1)) rSetL)) (tRet (tVar 4))) E' σ H' := by
    rintro σ H' k2 k3 E' hE s' ⟨cell, kk, ns, h1, h2, h3, h4⟩ rfl
    have hst' : Str0 c H' st := ⟨cell, kk, ns, h1, h2, h3, h4⟩
    have C1 : ∀ {σ : L2.St} {H''}, σ[0]? = some (some (.ref st)) → Same H' H'' → EvD K (tOp (rIxL K) (tVar 0) (tC (.int 1))) σ H'' (.i cell) := fun e s => ev_ixL (n := 1) (ev_var e (Dn.same s _ (str_dn h1 h2) : Dn K _ (strD ns cell kk) _)) ev_int rfl rfl
    refine st_set K (ev_opC (C := fun _ j => 0 < j) (g := fun i j => i % j) (ev_int_i (C1 rfl (Same.refl _))) (ev_i (i := 1) rfl) (by show (0 : Int) < m; omega)) fun r H1 s1 hr' => ?_
    cases (show r = .int (cell % m) from hr')
    refine st_seti (K := K) (E := { nx := _, rt := _, bk := _, ct := _ }) (xs := [.ref c, .int cell, .int kk]) (j := 1) (ev_opC (C := CDiv) (g := fun i j => i / j) (C1 rfl s1) (ev_i (i := 1) rfl) ⟨by omega, by omega⟩) (ev_var (i := 0) rfl rfl) ev_int (s1 _ _ h1) rfl fun H2 s2 => ?_
    have hnn : 0 ≤ cell % (m : Int) := Int.emod_nonneg _ (by omega)
    have hlt : cell % (m : Int) < m := Int.emod_lt_of_pos _ (by omega)
    have s12 := s1.trans s2
    have hmod : (cell % (m : Int)) = ((cell % (m : Int)).toNat : Nat) := (Int.toNat_of_nonneg hnn).symm
    refine ⟨_, rfl, ?_⟩
    rw [hE]
    refine k (nD (cell % (m : Int)).toNat) (.int (cell % m)) _ ⟨m, _, rfl, by omega, rfl⟩ (fun b o hb => ?_) ⟨cell / m, kk, ns, upd_same, ?_, h3, h4⟩ (by rw [hmod]; rfl)
    · rw [upd_ne (mi_some hb).1]
      exact s12 _ _ (s' _ _ hb)
    · rw [upd_ne h3]
      exact s12 _ _ h2
  refine st_ifj (b := decide (cell = 0)) (fun σ' H' => ∃ k2 k3, σ' = [some (.ref st), some (.int m), k2, k3, none] ∧ Same (mi st H) H' ∧ Str0 c H' st) (et_cmp (ev_eqI (ev_ixL (n := 1) (SV rfl (Same.refl _)) ev_int rfl rfl) ev_int)) ?_ fun kj => ⟨fun hb H1 s1 => ?_, fun hb H1 s1 => kj _ _ ⟨_, _, rfl, (mi_le H).trans s1, hst.same s1⟩⟩
  · rintro σ' H' ⟨k2, k3, rfl, s', hst'⟩
    exact fin rfl s' hst' rfl
  · refine st_set K (ev_ixL (n := 2) (SV rfl s1) ev_int rfl rfl : EvD K _ _ H1 (.i kk)) fun x2 H2 s2 hx2 => ?_
    cases (show x2 = .int kk from hx2)
    refine st_set K (ev_op0 (g := fun i j => i + j) ev_int (ev_i (i := 2) rfl)) fun x3 H3 s3 hx3 => ?_
    have s13 := (s1.trans s2).trans s3
    -- the end of the block
    refine st_ifj (b := decide (kk < ns.length)) (fun σ' H' => ∃ z : Int, σ' = [some (.ref st), some (.int m), some (.int kk), some (.int z), none] ∧ Same H H') (et_cmp (K := K) (ev_cmp0 (g := fun i j => decide (i < j)) (ev_i (i := 2) rfl) ((ev_lenL (ev_ixL (n := 0) (SV rfl s13) ev_int rfl rfl)).to (by rw [List.length_map])))) ?_ fun kj2 => ⟨fun hb H4 s4 => ?_, fun hb H4 s4 => kj2 _ _ ⟨7 + kk, by rw [show x3 = .int (7 + kk) from hx3]; rfl, s13.trans s4⟩⟩
    · rintro σ' H4 ⟨z, rfl, s4⟩
      refine st_ifj (b := decide (z < 10 ^ 18)) (fun σ' H' => ∃ z : Int, σ' = [some (.ref st), some (.int m), some (.int kk), some (.int z), none] ∧ Same H H') (et_cmp (K := K) (ev_cmp0 (g := fun i j => decide (i < j)) (ev_i (i := 3) rfl) ((ev_opC (C := CPow) (g := fun i j => i ^ j.toNat) ev_int ev_int ⟨by decide, by decide, by decide⟩).to rfl))) ?_ fun kj3 => ⟨fun hb H5 s5 => ?_, fun hb H5 s5 => kj3 _ _ ⟨z, rfl, s4.trans s5⟩⟩
      · rintro σ' H5 ⟨z, rfl, s5⟩
        refine st_seti (K := K) (E := { nx := _, rt := _, bk := _, ct := _ }) (xs := [.ref c, .int cell, .int kk]) (j := 1) (ev_i (i := 3) rfl) (ev_var (i := 0) rfl rfl) ev_int (s5 _ _ h1) rfl fun H6 s6 => ?_
        have h1' : upd H6 st (.lst [.ref c, .int z, .int kk]) st = some (.lst [.ref c, .int z, .int kk]) := upd_same
        refine st_seti (K := K) (E := { nx := _, rt := _, bk := _, ct := _ }) (xs := [.ref c, .int z, .int kk]) (j := 2) (ev_op0 (g := fun i j => i + j) (ev_i (i := 2) rfl) ev_int) (ev_var (i := 0) rfl rfl) ev_int h1' rfl fun H7 s7 => ?_
        refine kj _ _ ⟨_, _, rfl, fun b o hb => ?_, z, kk + 1, ns, upd_same, ?_, h3, by omega⟩
        · obtain ⟨b1, b2⟩ := mi_some hb
          rw [upd_ne b1]
          refine s7 _ _ ?_
          show upd H6 st _ b = _
          rw [upd_ne b1]
          exact s6 _ _ (s5 _ _ b2)
        · rw [upd_ne h3]
          refine s7 _ _ ?_
          show upd H6 st _ c = _
          rw [upd_ne h3]
          exact s6 _ _ (s5 _ _ h2)
      · have hc1 : ∀ z : Int, CMul z 48271 := fun z => .inr ⟨by decide, by decide⟩
        refine st_set K (ev_opC (C := fun _ j => 0 < j) (g := fun i j => i % j) (ev_int_i (ev_op0 (g := fun i j => i + j) (ev_op0 (g := fun i j => i + j) (ev_opC (C := CMul) (g := fun i j => i * j) (ev_i (i := 3) rfl) ev_int (.inr ⟨by decide, by decide⟩)) (ev_opC (C := CMul) (g := fun i j => i * j) (ev_i (i := 2) rfl) ev_int (.inr ⟨by decide, by decide⟩))) ev_int)) ev_int (by show (0 : Int) < 2147483647; decide)) fun x4 H6 s6 hx4 => ?_
        obtain ⟨z4, hz4⟩ : ∃ z4 : Int, x4 = .int z4 := ⟨_, hx4⟩
        subst hz4
        refine (ev_op0 (g := fun i j => i + j) (ev_opC (C := CMul) (g := fun i j => i * j) (ev_opC (C := fun _ j => 0 < j) (g := fun i j => i % j) (ev_int_i (ev_op0 (g := fun i j => i + j) (ev_opC (C := CMul) (g := fun i j => i * j) (ev_i (σ := [some (.ref st), some (.int m), some (.int kk), some (.int z4), none]) (i := 3) rfl) ev_int (.inr ⟨by decide, by decide⟩)) ev_int)) ev_int (by show (0 : Int) < 2147483647; decide)) ev_int (.inr ⟨by decide, by decide⟩)) (ev_i (i := 3) rfl) : EvD K _ _ H6 _).run fun x5 H7 s7 hx5 => ?_
        obtain ⟨z5, hz5⟩ : ∃ z5 : Int, x5 = .int z5 := ⟨_, hx5⟩
        subst hz5
        exact kj3 _ _ ⟨z5, rfl, ((s4.trans s5).trans s6).trans s7⟩
    · have hb : kk < ns.length := of_decide_eq_true hb
      have hidx : (ns.map D.i)[kk.toNat]? = some (.i (ns.getD kk.toNat 0)) := by
        rw [List.getElem?_map, List.getD_eq_getElem?_getD, List.getElem?_eq_getElem (by omega)]
        rfl
      refine (ev_abs (ev_ixL (n := kk.toNat) (ev_ixL (n := 0) (SV (σ := [some (.ref st), some (.int m), some (.int kk), some x3, none]) rfl (s13.trans s4)) ev_int rfl rfl) (ev_i (i := 2) rfl) (by omega) hidx) : EvD K _ _ H4 _).run fun x5 H5 s5 hx5 => ?_
      obtain ⟨z5, hz5⟩ : ∃ z5 : Int, x5 = .int z5 := ⟨_, hx5⟩
      subst hz5
      exact kj2 _ _ ⟨z5, rfl, (s13.trans s4).trans s5⟩
end Odd

set_option Elab.async false
set_option linter.all false
set_option maxRecDepth 100000
set_option maxHeartbeats 4000000
/-! Part 30: a draw. -/
namespace Odd
open PySem PySem.Spec PyProof.Rows L2
variable {P : Program} {w : World} {h : Heap} {K : PySem.W.Frag} {mg : Str → Option Value} {base : Heap}
theorem evN_nx {c st : Addr} {σ : L2.St} {H : Hp} {te : TE} {i m : Nat} (hs : σ[i]? = some (some (.ref st))) (hm : EvN K c st te σ H (· = nD m)) (h1 : 1 ≤ m ∧ m ≤ 1000) : EvN K c st (tCall (spN K PNext RNext) [] E0 (tCons (tVar i) (tCons te tNil))) σ H (fun d => ∃ r, r < m ∧ d = nD r) :=
  (evN_callN (X := fun ds => ds = [nD m]) ((eaN_cons' (evN_var (d := .o st) hs rfl) (eaN_cons' hm eaN_nil)).to fun es e => ⟨[nD m], e, rfl⟩) fun ds e => ⟨m, e, h1.1, h1.2⟩).to fun d e => by
    obtain ⟨ds, rfl, m2, r, e2, e3, e4⟩ := e
    unfold nD at e2
    simp only [List.cons.injEq, D.i.injEq, and_true] at e2
    exact ⟨r, by omega, e4⟩
theorem each_cons {Re : D → D → Prop} {d e : D} {ds es : List D} (h : Each Re (d :: ds) (e :: es)) : Re d e ∧ Each Re ds es := ⟨h.2 0 d e rfl rfl, by have := h.1; simp at this; exact this, fun i d' e' h1 h2 => h.2 (i + 1) d' e' (by simpa using h1) (by simpa using h2)⟩
theorem each_map {α β : Type} {Re : D → D → Prop} {f : α → D} {k : β → D} {X : α → β → Prop} (hR : ∀ a e, Re (f a) e → ∃ b, e = k b ∧ X a b) : ∀ {as : List α} {es : List D}, Each Re (as.map f) es → ∃ bs : List β, es = bs.map k ∧ bs.length = as.length ∧ ∀ (i : Nat) a b, as[i]? = some a → bs[i]? = some b → X a b
  | [], es, h => by
    have z := h.1
    cases es with
    | nil => exact ⟨[], rfl, rfl, fun i a b h1 => by simp at h1⟩
    | cons a l => cases z
  | a :: as, es, h => by
    cases es with
    | nil => have z := h.1; cases z
    | cons e es =>
      obtain ⟨h1, h2⟩ := each_cons h
      obtain ⟨b, rfl, hX⟩ := hR a e h1
      obtain ⟨bs, rfl, h3, h4⟩ := each_map hR h2
      refine ⟨b :: bs, rfl, by simp [h3], fun i a' b' h5 h6 => ?_⟩
      cases i with
      | zero => cases h5; cases h6; exact hX
      | succ i => exact h4 i a' b' (by simpa using h5) (by simpa using h6)
def menuD : List D := menu.map fun cs => .l (cs.map fun c => .t [nD c.1, nD c.2])
def PDrawL : List D → Prop := fun ds => ∃ size : Nat, ds = [nD size] ∧ 1 ≤ size ∧ size ≤ 1000
def RDrawL : List D → D → Prop := fun ds d => ∃ (size : Nat) (bs : List ((Nat × Nat) × Nat)), ds = [nD size] ∧ DrawOk bs size ∧ d = encPt (.draw bs)
abbrev N_law_draw : List Str := ["_law_stream_here", "_law_size", "_law_menu", "_law_chance"]
theorem sc_law_draw : FnScope N_law_draw ["_law_stream_here", "_law_size"] (defScope s_law_draw) := ⟨rfl, rfl, rfl, by decide +kernel, rfl, by decide +kernel, by decide +kernel⟩
theorem c_law_draw (F : Fs w h K mg) : Cal P w K mg base "_law_draw" 2 ["_law_stream_here", "_law_size"] (spN K PDrawL RDrawL) := by
  have c_law_next : Cal P w K mg base "_law_next" 1 ["_law_stream_here", "_law_many"] (spN K PNext RNext) := c_law_next F
  refine F.d_law_draw.cal sc_law_draw (fun _ _ _ _ _ _ us hl => match us, hl with | [_, _], _ => rfl) (fun vs H Q E h => by
    obtain ⟨_, _, ws, ds, rfl, _, h1, ⟨m, rfl, _⟩, _⟩ := h
    have := h1.length
    show ws.length + 1 = 2
    rw [this]; rfl) fun f cdv A outer s H vs Q E hr hs => ?_
  obtain ⟨c, st, ws, ds, rfl, hst, hv, ⟨size, rfl, hm1, hm2⟩, k⟩ := hs
  obtain ⟨vm, _, rfl, hvm, rfl⟩ := hv
  cases (show vm = .int size from hvm)
  refine ⟨_, (pss_cons (ps_set (i := 2) sc_law_draw.nd rfl (Or.inl rfl) (pe_lst (pa_cons (pe_lst (pa_cons (pe_tup (pa_cons pe_int (pa_cons pe_int pa_nil))) pa_nil)) (pa_cons (pe_lst (pa_cons (pe_tup (pa_cons pe_int (pa_cons pe_int pa_nil))) (pa_cons (pe_tup (pa_cons pe_int (pa_cons pe_int pa_nil))) pa_nil))) (pa_cons (pe_lst (pa_cons (pe_tup (pa_cons pe_int (pa_cons pe_int pa_nil))) (pa_cons (pe_tup (pa_cons pe_int (pa_cons pe_int pa_nil))) pa_nil))) (pa_cons (pe_lst (pa_cons (pe_tup (pa_cons pe_int (pa_cons pe_int pa_nil))) (pa_cons (pe_tup (pa_cons pe_int (pa_cons pe_int pa_nil))) pa_nil))) (pa_cons (pe_lst (pa_cons (pe_tup (pa_cons pe_int (pa_cons pe_int pa_nil))) (pa_cons (pe_tup (pa_cons pe_int (pa_cons pe_int pa_nil))) (pa_cons (pe_tup (pa_cons pe_int (pa_cons pe_int pa_nil))) pa_nil)))) (pa_cons (pe_lst (pa_cons (pe_tup (pa_cons pe_int (pa_cons pe_int pa_nil))) (pa_cons (pe_tup (pa_cons pe_int (pa_cons pe_int pa_nil))) pa_nil))) (pa_cons (pe_lst (pa_cons (pe_tup (pa_cons pe_int (pa_cons pe_int pa_nil))) (pa_cons (pe_tup (pa_cons pe_int (pa_cons pe_int pa_nil))) pa_nil))) (pa_cons (pe_lst (pa_cons (pe_tup (pa_cons pe_int (pa_cons pe_int pa_nil))) (pa_cons (pe_tup (pa_cons pe_int (pa_cons pe_int pa_nil))) pa_nil))) (pa_cons (pe_lst (pa_cons (pe_tup (pa_cons pe_int (pa_cons pe_int pa_nil))) (pa_cons (pe_tup (pa_cons pe_int (pa_cons pe_int pa_nil))) (pa_cons (pe_tup (pa_cons pe_int (pa_cons pe_int pa_nil))) pa_nil)))) (pa_cons (pe_lst (pa_cons (pe_tup (pa_cons pe_int (pa_cons pe_int pa_nil))) (pa_cons (pe_tup (pa_cons pe_int (pa_cons pe_int pa_nil))) (pa_cons (pe_tup (pa_cons pe_int (pa_cons pe_int pa_nil))) (pa_cons (pe_tup (pa_cons pe_int (pa_cons pe_int pa_nil))) pa_nil))))) pa_nil)))))))))))) (pss_one (ps_ret (pe_tup (pa_cons pe_str (pa_cons (pe_callTy (r := rTupOf K) cr_tupOf (by rfl) F.f_tuple bt_tuple (pa_cons (pe_lc (own := [("_law_chance", 3)]) (g := gName 3) (tt := tYes) rfl sc_law_draw.nd (pi_list (pe_ix (r := rIxL K) ix_list (pv 2) (pe_cal c_law_next (hr.mono (by decide)) (pa_cons (pv 0) (pa_cons pe_int pa_nil))) (fun _ _ => rfl))) (blkOk_by (N := N_law_draw) (sc := defScope s_law_draw) (by decide +kernel))  (fun _ _ _ _ _ => (pg_name (i := 3) sc_law_draw.nd rfl (Or.inl rfl))) (fun _ _ _ _ _ => pts_nil) (fun _ _ _ _ _ => (pe_tup (pa_cons (pv 3) (pa_cons (pe_cal c_law_next (hr.mono (by decide)) (pa_cons (pv 0) (pa_cons (pv 1) pa_nil))) pa_nil))))) pa_nil)) pa_nil)))))), ?_⟩
  refine st_setN (K := K) (c := c) (st := st) (R := fun d => d = .l menuD) (evN_lst' (eaN_cons' (evN_lst' (eaN_cons' (evN_pure (ev_tup (ea_2 ev_int ev_int)) rfl) eaN_nil)) (eaN_cons' (evN_lst' (eaN_cons' (evN_pure (ev_tup (ea_2 ev_int ev_int)) rfl) (eaN_cons' (evN_pure (ev_tup (ea_2 ev_int ev_int)) rfl) eaN_nil))) (eaN_cons' (evN_lst' (eaN_cons' (evN_pure (ev_tup (ea_2 ev_int ev_int)) rfl) (eaN_cons' (evN_pure (ev_tup (ea_2 ev_int ev_int)) rfl) eaN_nil))) (eaN_cons' (evN_lst' (eaN_cons' (evN_pure (ev_tup (ea_2 ev_int ev_int)) rfl) (eaN_cons' (evN_pure (ev_tup (ea_2 ev_int ev_int)) rfl) eaN_nil))) (eaN_cons' (evN_lst' (eaN_cons' (evN_pure (ev_tup (ea_2 ev_int ev_int)) rfl) (eaN_cons' (evN_pure (ev_tup (ea_2 ev_int ev_int)) rfl) (eaN_cons' (evN_pure (ev_tup (ea_2 ev_int ev_int)) rfl) eaN_nil)))) (eaN_cons' (evN_lst' (eaN_cons' (evN_pure (ev_tup (ea_2 ev_int ev_int)) rfl) (eaN_cons' (evN_pure (ev_tup (ea_2 ev_int ev_int)) rfl) eaN_nil))) (eaN_cons' (evN_lst' (eaN_cons' (evN_pure (ev_tup (ea_2 ev_int ev_int)) rfl) (eaN_cons' (evN_pure (ev_tup (ea_2 ev_int ev_int)) rfl) eaN_nil))) (eaN_cons' (evN_lst' (eaN_cons' (evN_pure (ev_tup (ea_2 ev_int ev_int)) rfl) (eaN_cons' (evN_pure (ev_tup (ea_2 ev_int ev_int)) rfl) eaN_nil))) (eaN_cons' (evN_lst' (eaN_cons' (evN_pure (ev_tup (ea_2 ev_int ev_int)) rfl) (eaN_cons' (evN_pure (ev_tup (ea_2 ev_int ev_int)) rfl) (eaN_cons' (evN_pure (ev_tup (ea_2 ev_int ev_int)) rfl) eaN_nil)))) (eaN_cons' (evN_lst' (eaN_cons' (evN_pure (ev_tup (ea_2 ev_int ev_int)) rfl) (eaN_cons' (evN_pure (ev_tup (ea_2 ev_int ev_int)) rfl) (eaN_cons' (evN_pure (ev_tup (ea_2 ev_int ev_int)) rfl) (eaN_cons' (evN_pure (ev_tup (ea_2 ev_int ev_int)) rfl) eaN_nil))))) eaN_nil))))))))))) hst fun mv H1 d s1 w1 e hd => ?_
  subst e
  refine st_retN (K := K) (c := c) (st := st) (evN_tup (eaN_cons (evN_pure (d := .s "draw") ev_str rfl) (eaN_cons (R := fun a => ∃ bs, DrawOk bs size ∧ a = .t (bs.map encB)) (evN_tupOf (evN_lc (Rl := fun ds => ∃ cs ∈ menu, ds = cs.map fun c => .t [nD c.1, nD c.2]) (Re := fun d e => ∃ (cc : Nat × Nat) (r : Nat), d = .t [nD cc.1, nD cc.2] ∧ e = encB (cc, r) ∧ r < size) (eiN_list (evN_ixL (R := fun a => ∃ cs ∈ menu, a = .l (cs.map fun c => .t [nD c.1, nD c.2])) (evN_var (i := 2) rfl hd) (evN_nx (i := 0) (m := 10) rfl (evN_pure ev_int rfl) ⟨by decide, by decide⟩) ?_) ?_) ?_ ?_ ?_) ?_) eaN_nil)) ?_) w1 ?_
  · rintro a b rfl ⟨r, hr, rfl⟩
    have hml : menu.length = 10 := rfl
    exact ⟨menuD, r, _, rfl, rfl, by unfold menuD; rw [List.getElem?_map, List.getElem?_eq_getElem (by omega)]; rfl, _, List.getElem_mem _, rfl⟩
  · rintro a ⟨cs, hcs, rfl⟩
    exact ⟨_, rfl, cs, hcs, rfl⟩
  · rintro ds ⟨cs, hcs, rfl⟩
    rw [List.length_map]
    have := menu_len cs hcs
    omega
  · rintro d e ⟨cc, r, _, rfl, _⟩
    rfl
  · rintro ds i d x H' ⟨cs, hcs, rfl⟩ e s' w' hx k' hk'
    obtain ⟨cc, _, _, rfl⟩ := map_get' e
    refine hk' _ rfl ((evN_tup (eaN_cons (evN_var (i := 3) (d := qD cc.1 cc.2) rfl hx.tc) (eaN_cons (evN_nx (i := 0) (m := size) rfl (evN_pure (ev_i (i := 1) rfl) rfl) ⟨hm1, hm2⟩) eaN_nil)) ?_).to ?_)
    · rintro ds ⟨_, _, rfl, _, _, _, rfl, _, rfl⟩
      exact Nat.le_of_ble_eq_true rfl
    · rintro d ⟨ds, ⟨_, _, rfl, rfl, _, _, rfl, ⟨r, hr, rfl⟩, rfl⟩, rfl⟩
      exact ⟨cc, r, rfl, rfl, hr⟩
  · rintro a ⟨ds, es, ⟨cs, hcs, rfl⟩, hE, rfl⟩
    obtain ⟨bs, rfl, h1, h2⟩ := each_map (k := encB) (X := fun (c : Nat × Nat) b => b.1 = c ∧ b.2 < size) (fun a e he => by
      obtain ⟨cc, r, e1, e2, e3⟩ := he
      refine ⟨(cc, r), e2, ?_, e3⟩
      unfold nD at e1
      simp only [D.t.injEq, List.cons.injEq, D.i.injEq, and_true] at e1
      exact Prod.ext (Int.ofNat.inj e1.1).symm (Int.ofNat.inj e1.2).symm) hE
    refine ⟨_, rfl, bs, ⟨?_, fun b hb => ?_⟩, rfl⟩
    · have e : bs.map (·.1) = cs := by
        apply List.ext_getElem (by rw [List.length_map, h1])
        intro i i1 i2
        rw [List.length_map] at i1
        rw [List.getElem_map]
        exact (h2 i cs[i] bs[i] (List.getElem?_eq_getElem i2) (List.getElem?_eq_getElem i1)).1
      rw [e]
      exact hcs
    · obtain ⟨i, hi, e⟩ := List.getElem_of_mem hb
      rw [← e]
      exact (h2 i (cs[i]'(by omega)) bs[i] (List.getElem?_eq_getElem (by omega)) (List.getElem?_eq_getElem hi)).2
  · rintro ds ⟨_, _, rfl, _, _, _, rfl, _, rfl⟩
    exact Nat.le_of_ble_eq_true rfl
  · rintro v H2 d s2 w2 ⟨ds, ⟨_, _, rfl, rfl, _, _, rfl, ⟨bs, hbs, rfl⟩, rfl⟩, rfl⟩ hd
    exact k _ v H2 ⟨size, bs, rfl, hbs, rfl⟩ (mi_tr s1 s2) w2 hd
end Odd

set_option Elab.async false
set_option linter.all false
set_option maxRecDepth 100000
set_option maxHeartbeats 4000000
/-! Part 31: a point. -/
namespace Odd
open PySem PySem.Spec PyProof.Rows L2
variable {P : Program} {w : World} {h : Heap} {K : PySem.W.Frag} {mg : Str → Option Value} {base : Heap}
section
variable {c st : Addr} {σ : L2.St} {H : Hp} {te : TE} {R : D → Prop}
theorem evN_tc (h : EvN K c st te σ H R) {R' : D → Prop} (hr : ∀ d, R d → ∃ l, d = .t l ∧ R' (.c l)) : EvN K c st te σ H R' := fun H1 s1 w Q q => h H1 s1 w Q fun v H2 d s2 w2 r hd => by
  obtain ⟨l, rfl, r'⟩ := hr d r
  exact q v H2 _ s2 w2 r' hd.tc
theorem st_ifN {t r : TS} {E : Ends} {m : Nat} (h : EvN K c st te σ H (fun d => ∃ r, r < m ∧ d = nD r)) (w : Str0 c H st)  (hk : ∀ H1, Same (mi st H) H1 → Str0 c H1 st → t { E with nx := r E } σ H1 ∧ r E σ H1) :
    tSeq (tIfS (tTest (tOp rEq te (tC (.int 0)))) t tNext) r E σ H := h.run w fun v H1 d s1 w1 e hd => by
  obtain ⟨x, _, rfl⟩ := e
  rw [show v = .int x from hd]
  refine ⟨rfl, _, rfl, ?_⟩
  dsimp only
  by_cases z : V.int (x : Int) = V.int 0
  · rw [if_pos (decide_eq_true z)]
    exact (hk H1 s1 w1).1
  · rw [if_neg (by rw [decide_eq_false z]; decide)]
    exact (hk H1 s1 w1).2
end
def lN (l : List Nat) : D := .l (l.map nD)
theorem lN_get {l : List Nat} {i : Nat} (h : i < l.length) : (l.map nD)[i]? = some (nD (l.getD i 0)) := by
  rw [List.getElem?_map, List.getD_eq_getElem?_getD, List.getElem?_eq_getElem h]
  rfl
theorem getD_all {l : List Nat} {X : Nat → Prop} (h : ∀ e ∈ l, X e) {i : Nat} (hi : i < l.length) : X (l.getD i 0) := h _ (getD_mem l i 0 hi)
structure Shp (exs szs : List Nat) : Prop where
  eq : szs.length = exs.length
  le : exs.length ≤ 2
  ex : ∀ e ∈ exs, e ≤ 2
  sz : ∀ s ∈ szs, 2 ≤ s ∧ s ≤ 5
def PtX (exs szs : List Nat) (p : Nat) : Pt → Prop
  | .exit e => e < exs.getD p 0
  | .draw bs => DrawOk bs (szs.getD p 0)
  | .call r ps => r < exs.length ∧ ps.length = exs.getD r 0 ∧ ∀ q ∈ ps, q < szs.getD p 0
  | .reward a q => a.1 < 30 ∧ 0 < a.2 ∧ a.2 ≤ 12 ∧ Nat.gcd a.1 a.2 = 1 ∧ q < szs.getD p 0
  | .reject => True
  | .stop => True
def PPtL : List D → Prop := fun ds => ∃ (exs szs : List Nat) (p : Nat), ds = [lN exs, lN szs, nD p] ∧ Shp exs szs ∧ p < exs.length
def RPtL : List D → D → Prop := fun ds d => ∃ (exs szs : List Nat) (p : Nat) (pt : Pt), ds = [lN exs, lN szs, nD p] ∧ PtX exs szs p pt ∧ d = encPt pt
theorem nD_inj {a b : Nat} (h : nD a = nD b) : a = b := by
  unfold nD at h
  simp only [D.i.injEq] at h
  omega
theorem lN_inj : ∀ {a b : List Nat}, a.map nD = b.map nD → a = b
  | [], [], _ => rfl
  | [], _ :: _, h => by cases h
  | _ :: _, [], h => by cases h
  | x :: a, y :: b, h => by
    simp only [List.map_cons, List.cons.injEq] at h
    rw [nD_inj h.1, lN_inj h.2]
abbrev N_law_point : List Str := ["_law_stream_here", "_law_exits", "_law_sizes", "_law_p", "_law_size", "_law_pick", "_law_called", "_law_k"]
theorem sc_law_point : FnScope N_law_point ["_law_stream_here", "_law_exits", "_law_sizes", "_law_p"] (defScope s_law_point) := ⟨rfl, rfl, rfl, by decide +kernel, rfl, by decide +kernel, by decide +kernel⟩
theorem c_law_point (F : Fs w h K mg) : Cal P w K mg base "_law_point" 3 ["_law_stream_here", "_law_exits", "_law_sizes", "_law_p"] (spN K PPtL RPtL) := by
  have c_law_next : Cal P w K mg base "_law_next" 1 ["_law_stream_here", "_law_many"] (spN K PNext RNext) := c_law_next F
  have c_law_draw : Cal P w K mg base "_law_draw" 2 ["_law_stream_here", "_law_size"] (spN K PDrawL RDrawL) := c_law_draw F
  have c_law_low : Cal P w K mg base "_law_low" 2 ["_law_n", "_law_d"] (spP K RLow) := c_law_low F
  refine F.d_law_point.cal sc_law_point (fun _ _ _ _ _ _ us hl => match us, hl with | [_, _, _, _], _ => rfl) (fun vs H Q E h => by
    obtain ⟨_, _, ws, ds, rfl, _, h1, ⟨exs, szs, p, rfl, _⟩, _⟩ := h
    have := h1.length
    show ws.length + 1 = 4
    rw [this]; rfl) fun f cdv A outer s H vs Q E hr hs => ?_
  obtain ⟨c, st, ws, ds, rfl, hst, hv, ⟨exs, szs, p, rfl, shp, hp⟩, k⟩ := hs
  obtain ⟨ve, _, rfl, hve, vz, _, rfl, hvz, vp, _, rfl, hvp, rfl⟩ := hv
  cases (show vp = .int p from hvp)
  have hszp := getD_all shp.sz (i := p) (by have := shp.eq; omega)
  generalize hsz : szs.getD p 0 = size at hszp
  refine ⟨_, (pss_cons (ps_set (i := 4) sc_law_point.nd rfl (Or.inr rfl) (pe_ix (r := rIxL K) ix_list (pv 2) (pv 3) (fun _ _ => rfl))) (pss_cons (ps_set (i := 5) sc_law_point.nd rfl (Or.inl rfl) (pe_cal c_law_next (hr.mono (by decide)) (pa_cons (pv 0) (pa_cons pe_int pa_nil)))) (pss_cons (ps_if (pt_cmpR op_lt (pv 5) pe_int (nomark _)) (pss_one (ps_ret (pe_cal c_law_draw (hr.mono (by decide)) (pa_cons (pv 0) (pa_cons (pv 4) pa_nil))))) pss_nil) (pss_cons (ps_if (pt_cmpR op_lt (pv 5) pe_int (nomark _)) (pss_cons (ps_set (i := 6) sc_law_point.nd rfl (Or.inl rfl) (pe_cal c_law_next (hr.mono (by decide)) (pa_cons (pv 0) (pa_cons (pe_callB (r := rLen K) cr_len (by rfl) F.f_len boot_len (pa_cons (pv 1) pa_nil)) pa_nil)))) (pss_cons (ps_if (pt_cmpR op_eq (pe_cal c_law_next (hr.mono (by decide)) (pa_cons (pv 0) (pa_cons pe_int pa_nil))) pe_int (nomark _)) (pss_one (ps_set (i := 6) sc_law_point.nd rfl (Or.inl rfl) (pv 3))) pss_nil) (pss_one (ps_ret (pe_tup (pa_cons pe_str (pa_cons (pv 6) (pa_cons (pe_callTy (r := rTupOf K) cr_tupOf (by rfl) F.f_tuple bt_tuple (pa_cons (pe_lc (own := [("_law_k", 7)]) (g := gName 7) (tt := tYes) rfl sc_law_point.nd (pi_range1 rfl F.f_range (pa_cons (pe_ix (r := rIxL K) ix_list (pv 1) (pv 6) (fun _ _ => rfl)) pa_nil)) (blkOk_by (N := N_law_point) (sc := defScope s_law_point) (by decide +kernel))  (fun _ _ _ _ _ => (pg_name (i := 7) sc_law_point.nd rfl (Or.inl rfl))) (fun _ _ _ _ _ => pts_nil) (fun _ _ _ _ _ => (pe_cal c_law_next (hr.mono (by decide)) (pa_cons (pv 0) (pa_cons (pv 4) pa_nil))))) pa_nil)) pa_nil)))))))) pss_nil) (pss_cons (ps_if (PW.pt (pw_and (pt_cmpR op_lt (pv 5) pe_int (nomark _)) (pw_and1 (pt_cmpR op_gt (pe_ix (r := rIxL K) ix_list (pv 1) (pv 3) (fun _ _ => rfl)) pe_int (nomark _))))) (pss_one (ps_ret (pe_tup (pa_cons pe_str (pa_cons (pe_cal c_law_next (hr.mono (by decide)) (pa_cons (pv 0) (pa_cons (pe_ix (r := rIxL K) ix_list (pv 1) (pv 3) (fun _ _ => rfl)) pa_nil))) pa_nil))))) pss_nil) (pss_cons (ps_if (pt_cmpR op_eq (pv 5) pe_int (nomark _)) (pss_one (ps_ret (pe_tup (pa_cons pe_str (pa_cons (pe_cal c_law_low (hr.mono (by decide)) (pa_cons (pe_cal c_law_next (hr.mono (by decide)) (pa_cons (pv 0) (pa_cons pe_int pa_nil))) (pa_cons (pe_op op_add pe_int (pe_cal c_law_next (hr.mono (by decide)) (pa_cons (pv 0) (pa_cons pe_int pa_nil)))) pa_nil))) (pa_cons (pe_cal c_law_next (hr.mono (by decide)) (pa_cons (pv 0) (pa_cons (pv 4) pa_nil))) pa_nil)))))) pss_nil) (pss_one (ps_ret (pe_ix (r := rIxL K) ix_list (pe_lst (pa_cons (pe_tup (pa_cons pe_str pa_nil)) (pa_cons (pe_tup (pa_cons pe_str pa_nil)) pa_nil))) (pe_cal c_law_next (hr.mono (by decide)) (pa_cons (pv 0) (pa_cons pe_int pa_nil))) (fun _ _ => rfl)))))))))), ?_⟩
  have kk : ∀ (pt : Pt) v H', PtX exs szs p pt → Same (mi st H) H' → Str0 c H' st → Dn K (mi st H') (encPt pt) v → Q v H' := fun pt v H' hx s w hd => k _ v H' ⟨exs, szs, p, pt, rfl, hx, rfl⟩ s w hd
  have EX : ∀ {σ : L2.St} {H'}, σ[1]? = some (some ve) → Same (mi st H) H' → EvD K (tVar 1) σ H' (.l (exs.map nD)) := fun e s => ev_var e (Dn.same s _ hve)
  refine st_set K ((ev_ixL (n := p) (ev_var (i := 2) rfl (Dn.same (mi_le H) _ hvz)) (ev_i (i := 3) rfl) rfl (lN_get (by have := shp.eq; omega))).to (by rw [hsz])) fun zv H1 s1 hz => ?_
  cases (show zv = .int size from hz)
  have w1 := hst.same s1
  have m1 : Same (mi st H) H1 := (mi_le H).trans s1
  refine st_setN (K := K) (evN_nx (m := 12) (i := 0) rfl (evN_pure ev_int rfl) ⟨by decide, by decide⟩) w1 fun pv H2 d s2 w2 e hd => ?_
  obtain ⟨pick, hpick, rfl⟩ := e
  cases (show pv = .int pick from hd)
  have m2 := mi_tr m1 s2
  refine st_ifr (b := decide ((pick : Int) < 4)) (et_cmp (K := K) (ev_cmp0 (g := fun i j => decide (i < j)) (ev_i (i := 5) rfl) ev_int)) (fun hb H3 s3 => ?_) fun hb H3 s3 => ?_
  · have m3 := m2.trans s3
    refine st_retN (K := K) (evN_callN (X := fun ds => ds = [nD size]) ((eaN_cons' (evN_var (i := 0) (d := .o st) rfl rfl) (eaN_cons' (evN_pure (ev_i (i := 4) rfl) rfl) eaN_nil)).to fun es e => ⟨[nD size], e, rfl⟩) fun ds e => ⟨size, e, by omega, by omega⟩) (w2.same s3) ?_
    rintro v H4 d s4 w4 ⟨ds, rfl, size', bs, e1, hbs, rfl⟩ hd
    simp only [List.cons.injEq, and_true] at e1
    have e1 := nD_inj e1
    subst e1
    exact kk (.draw bs) v H4 (by show DrawOk bs _; rw [hsz]; exact hbs) (mi_tr m3 s4) w4 hd
  have w3 := w2.same s3
  have m3 := m2.trans s3
  refine st_ifr (b := decide ((pick : Int) < 8)) (et_cmp (K := K) (ev_cmp0 (g := fun i j => decide (i < j)) (ev_i (i := 5) rfl) ev_int)) (fun hb H4 s4 => ?_) fun hb H4 s4 => ?_
  · have m4 := m3.trans s4
    have w4 := w3.same s4
    refine st_setN (K := K) (evN_nx (m := exs.length) (i := 0) rfl (evN_pure ((ev_lenL (EX rfl ((mi_mi m4)))).to (by rw [List.length_map]; rfl)) rfl) ⟨by omega, by have := shp.le; omega⟩) w4 fun rv H5 d s5 w5 e hd => ?_
    obtain ⟨r0, hr0, rfl⟩ := e
    cases (show rv = .int r0 from hd)
    have m5 := mi_tr m4 s5
    -- the call's point
    have fin : ∀ (r : Nat) {H'} {E' : Ends}, E'.rt = Q → r < exs.length → Same (mi st H) H' → Str0 c H' st →
        tRet (tTup (tCons (tC (.str "call")) (tCons (tVar 6) (tCons (tCB (rTupOf K) (tCons (tLc (iRng1 (tCons (tOp (rIxL K) (tVar 1) (tVar 6)) tNil)) (gName 7) tYes (tCall (spN K PNext RNext) [] E0 (tCons (tVar 0) (tCons (tVar 4) tNil))) [7]) tNil)) tNil)))) E'
          [some (.ref st), some ve, some vz, some (.int p), some (.int size), some (.int pick), some (.int r), none] H' := by
      intro r H' E' hE hrl s' w'
      have hexr := getD_all shp.ex (i := r) hrl
      refine st_retN (K := K) (evN_tup (eaN_cons (evN_pure (d := .s "call") ev_str rfl) (eaN_cons (evN_pure (d := nD r) (ev_i (i := 6) rfl) rfl) (eaN_cons (R := fun a => ∃ ps : List Nat, ps.length = exs.getD r 0 ∧ (∀ q ∈ ps, q < size) ∧ a = .t (ps.map nD)) (evN_tupOf (evN_lc (Rl := fun ds => ds = rangeD (exs.getD r 0)) (Re := fun _ e => ∃ q, q < size ∧ e = nD q) (eiN_range (Ra := fun a => a = nD (exs.getD r 0)) (evN_pure (ev_ixL (n := r) (EX rfl (mi_mi s')) (ev_i (i := 6) rfl) rfl (lN_get hrl)) rfl) ?_) ?_ ?_ ?_) ?_) eaN_nil))) ?_) w' ?_
      · rintro a rfl
        exact ⟨_, rfl, by omega, rfl⟩
      · rintro ds rfl
        rw [rangeD_len]; omega
      · rintro d e ⟨q, _, rfl⟩
        rfl
      · rintro ds i d x H'' rfl e s'' w'' hx k' hk'
        exact hk' _ rfl (evN_nx (i := 0) (m := size) rfl (evN_pure (ev_i (i := 4) rfl) rfl) ⟨by omega, by omega⟩)
      · rintro a ⟨ds, es, rfl, hE, rfl⟩
        have hE2 : Each (fun _ e => ∃ q, q < size ∧ e = nD q) ((List.range (exs.getD r 0)).map nD) es := hE
        obtain ⟨ps, rfl, h1, h2⟩ := each_map (k := nD) (X := fun (_ : Nat) q => q < size) (fun a e he => by
          obtain ⟨q, e1, e2⟩ := he
          exact ⟨q, e2, e1⟩) hE2
        rw [List.length_range] at h1
        refine ⟨_, rfl, ps, h1, fun q hq => ?_, rfl⟩
        obtain ⟨i, hi, e⟩ := List.getElem_of_mem hq
        rw [← e]
        exact h2 i i ps[i] (List.getElem?_range (by omega)) (List.getElem?_eq_getElem hi)
      · rintro ds ⟨_, _, rfl, _, _, _, rfl, _, _, _, rfl, _, rfl⟩
        exact Nat.le_of_ble_eq_true rfl
      · rintro v H2 d s2 w2 ⟨ds, ⟨_, _, rfl, rfl, _, _, rfl, rfl, _, _, rfl, ⟨ps, hp1, hp2, rfl⟩, rfl⟩, rfl⟩ hd
        rw [hE]
        exact kk (.call r ps) v H2 ⟨hrl, hp1, by rw [hsz]; exact hp2⟩ (mi_tr s' s2) w2 hd
    refine st_ifN (K := K) (evN_nx (m := 2) (i := 0) rfl (evN_pure ev_int rfl) ⟨by decide, by decide⟩) w5 fun H6 s6 w6 => ⟨?_, ?_⟩
    · exact ⟨_, rfl, fin p rfl hp (mi_tr m5 s6) w6⟩
    · exact fin r0 rfl hr0 (mi_tr m5 s6) w6
  have w4 := w3.same s4
  have m4 := m3.trans s4
  refine st_ifr (b := decide ((pick : Int) < 10) && decide ((0 : Int) < (exs.getD p 0 : Nat))) (et_and (et_cmp (K := K) (ev_cmp0 (g := fun i j => decide (i < j)) (ev_i (i := 5) rfl) ev_int)) fun _ => et_cmp (K := K) (ev_cmp0 (g := fun i j => decide (j < i)) (ev_ixL (n := p) (EX rfl m4) (ev_i (i := 3) rfl) rfl (lN_get hp)) ev_int)) (fun hb H5 s5 => ?_) fun hb H5 s5 => ?_
  · obtain ⟨_, hb⟩ := He.ba hb
    have hb : (0 : Int) < (exs.getD p 0 : Nat) := of_decide_eq_true hb
    have hexp := getD_all shp.ex (i := p) hp
    have m5 := m4.trans s5
    refine st_retN (K := K) (evN_tup (eaN_cons (evN_pure (d := .s "exit") ev_str rfl) (eaN_cons (evN_nx (m := exs.getD p 0) (i := 0) rfl (evN_pure (ev_ixL (n := p) (EX rfl (mi_mi m5)) (ev_i (i := 3) rfl) rfl (lN_get hp)) rfl) ⟨by omega, by omega⟩) eaN_nil)) ?_) (w4.same s5) ?_
    · rintro ds ⟨_, _, rfl, _, _, _, rfl, _, rfl⟩
      exact Nat.le_of_ble_eq_true rfl
    · rintro v H6 d s6 w6 ⟨ds, ⟨_, _, rfl, rfl, _, _, rfl, ⟨e, he, rfl⟩, rfl⟩, rfl⟩ hd
      exact kk (.exit e) v H6 he (mi_tr m5 s6) w6 hd
  have w5 := w4.same s5
  have m5 := m4.trans s5
  refine st_ifr (b := decide ((pick : Int) = 10)) (et_cmp (K := K) (ev_eqI (ev_i (i := 5) rfl) ev_int)) (fun hb H6 s6 => ?_) fun hb H6 s6 => ?_
  · have m6 := m5.trans s6
    refine st_retN (K := K) (evN_tup (eaN_cons (evN_pure (d := .s "reward") ev_str rfl) (eaN_cons (R := fun d => ∃ a : Nat × Nat, (a.1 < 30 ∧ 0 < a.2 ∧ a.2 ≤ 12 ∧ Nat.gcd a.1 a.2 = 1) ∧ d = qD a.1 a.2) (evN_tc (R := fun d => ∃ n m : Nat, n < 30 ∧ m < 12 ∧ d = tD n (1 + m)) (evN_callP (R1 := RLow) (Rs := fun ds => ∃ n m : Nat, n < 30 ∧ m < 12 ∧ ds = [nD n, nD (1 + m)]) ((eaN_cons (evN_nx (m := 30) (i := 0) rfl (evN_pure ev_int rfl) ⟨by decide, by decide⟩) (eaN_cons (R := fun d => ∃ m : Nat, m < 12 ∧ d = nD (1 + m)) (evN_op (g := fun i j => i + j) (evN_pure (d := .i 1) ev_int rfl) (evN_nx (m := 12) (i := 0) rfl (evN_pure ev_int rfl) ⟨by decide, by decide⟩) ?_) eaN_nil)).to ?_) ?_) ?_) (eaN_cons (evN_nx (m := size) (i := 0) rfl (evN_pure (ev_i (i := 4) rfl) rfl) ⟨by omega, by omega⟩) eaN_nil))) ?_) (w5.same s6) ?_
    · rintro a b rfl ⟨m, hm, rfl⟩
      refine ⟨1, m, rfl, rfl, m, hm, ?_⟩
      show D.i _ = D.i _
      congr 1
    · rintro ds ⟨_, _, rfl, ⟨n, hn, rfl⟩, _, _, rfl, ⟨m, hm, rfl⟩, rfl⟩
      exact ⟨n, m, hn, hm, rfl⟩
    · rintro ds ⟨n, m, hn, hm, rfl⟩
      exact ⟨tD n (1 + m), ⟨n, 1 + m, rfl, by omega, by omega, rfl⟩, ⟨n, m, hn, hm, rfl⟩, rfl⟩
    · rintro d ⟨n, m, hn, hm, rfl⟩
      have hpos : 0 < 1 + m := by omega
      refine ⟨_, rfl, (rn n (1 + m), rd n (1 + m)), ⟨Nat.lt_of_le_of_lt (rn_le _ _) hn, rd_pos hpos, Nat.le_trans (rd_le _ _) (by omega), ?_⟩, rfl⟩
      exact Nat.gcd_div_gcd_div_gcd_of_pos_right hpos
    · rintro ds ⟨_, _, rfl, _, _, _, rfl, _, _, _, rfl, _, rfl⟩
      exact Nat.le_of_ble_eq_true rfl
    · rintro v H7 d s7 w7 ⟨ds, ⟨_, _, rfl, rfl, _, _, rfl, ⟨a, ha, rfl⟩, _, _, rfl, ⟨q, hq, rfl⟩, rfl⟩, rfl⟩ hd
      exact kk (.reward a q) v H7 ⟨ha.1, ha.2.1, ha.2.2.1, ha.2.2.2, by rw [hsz]; exact hq⟩ (mi_tr m6 s7) w7 hd
  · have m6 := m5.trans s6
    refine st_retN (K := K) (evN_ixL (R := fun d => d = encPt .reject ∨ d = encPt .stop) (evN_lst' (eaN_cons' (evN_pure (ev_tup (ea_1 (ev_str (z := "reject")))) rfl) (eaN_cons' (evN_pure (ev_tup (ea_1 (ev_str (z := "stop")))) rfl) eaN_nil))) (evN_nx (m := 2) (i := 0) rfl (evN_pure ev_int rfl) ⟨by decide, by decide⟩) ?_) (w5.same s6) ?_
    · rintro a b rfl ⟨r, hr, rfl⟩
      rcases (show r = 0 ∨ r = 1 by omega) with rfl | rfl
      · exact ⟨_, 0, _, rfl, rfl, rfl, .inl rfl⟩
      · exact ⟨_, 1, _, rfl, rfl, rfl, .inr rfl⟩
    · rintro v H7 d s7 w7 (rfl | rfl) hd
      · exact kk .reject v H7 trivial (mi_tr m6 s7) w7 hd
      · exact kk .stop v H7 trivial (mi_tr m6 s7) w7 hd
end Odd

set_option Elab.async false
set_option linter.all false
set_option maxRecDepth 100000
set_option maxHeartbeats 4000000
/-! Part 32: the chain that the law builds. -/
namespace Odd
open PySem PySem.Spec PyProof.Rows L2
variable {P : Program} {w : World} {h : Heap} {K : PySem.W.Frag} {mg : Str → Option Value} {base : Heap}
section
variable {c st : Addr} {σ : L2.St} {H : Hp} {te ti : TE} {R : D → Prop} {E : Ends} {i : Nat} {p : Addr} {vs : List V}
theorem st_appN (hi : σ[i]? = some (some (.ref p))) (hl : H p = some (.lst vs)) (hps : p ≠ st) (hz : vs.length < 100000) (he : EvN K c st te σ H R) (w : Str0 c H st) (k : ∀ v H1 d, Same (mi st H) H1 → Str0 c H1 st → R d → Dn K (mi st H1) d v → H1 p = some (.lst vs) → E.nx σ (upd H1 p (.lst (vs ++ [v])))) :
    tDrop (tBM K "list" rAppend (tVar i) (tCons te tNil)) E σ H := ⟨.ref p, hi, .inl ⟨rfl, vs, SqL.of hl⟩, he.run w fun v H1 d s1 w1 r hd => ⟨p, vs, v, rfl, rfl, s1 _ _ (by rw [mi_ne hps]; exact hl), small_lt hz, k v H1 d s1 w1 r hd (s1 _ _ (by rw [mi_ne hps]; exact hl))⟩⟩
theorem st_setiN {n : Int} {j : Nat} (he : EvN K c st te σ H R) (w : Str0 c H st) (ho : σ[i]? = some (some (.ref p))) (hl : H p = some (.lst vs)) (hps : p ≠ st) (hi : ∀ H1, Same (mi st H) H1 → EvD K ti σ H1 (.i n)) (hj : ixN vs.length n = some j)
    (k : ∀ v H1 d, Same (mi st H) H1 → Str0 c H1 st → R d → Dn K (mi st H1) d v → H1 p = some (.lst vs) → E.nx σ (upd H1 p (.lst (vs.set j v)))) : tAsg te (gSub (tVar i) ti rSetL) E σ H :=
  he.run w fun v H1 d s1 w1 r hd => ⟨.ref p, ho, (hi H1 s1).run fun u H2 s2 hu => ⟨p, vs, n, j, rfl, hu, s2 _ _ (s1 _ _ (by rw [mi_ne hps]; exact hl)), hj, k v H2 d (s1.trans s2) (w1.same s2) r (Dn.same (mi_of s2) _ hd) (s2 _ _ (s1 _ _ (by rw [mi_ne hps]; exact hl)))⟩⟩
end
theorem st_new1 {c st : Addr} {σ : L2.St} {H : Hp} {te : TE} {R : D → Prop} {E : Ends} {u : TS} {i : Nat} (he : EvN K c st te σ H R) (w : Str0 c H st) (k : ∀ v H1 d p, Same (mi st H) H1 → Str0 c H1 st → R d → Dn K (mi st H1) d v → H1 p = none → u E (σ.set i (some (.ref p))) (upd H1 p (.lst [v]))) : tSeq (tAsg (tLst (tCons te tNil)) (gName i)) u E σ H :=
  he.run w fun v H1 d s1 w1 r hd => ⟨by show 1 ≤ sizeLine; decide, fun p hp => k v H1 d p s1 w1 r hd hp⟩
theorem tk_mu {st p : Addr} {H : Hp} {xs : List V} {o : HO} (hl : H p = some (.lst xs)) : Tk (mi st H) (mi st (upd H p o)) := ⟨fun a xs ha => by
    obtain ⟨a1, a2⟩ := mi_some ha
    rw [mi_ne a1, upd_ne (fun e => by rw [e, hl] at a2; cases a2)]
    exact a2, fun a o xs ha => by
    obtain ⟨a1, a2⟩ := mi_some ha
    rw [mi_ne a1, upd_ne (fun e => by rw [e, hl] at a2; cases a2)]
    exact a2, fun a C dx fs ha => by
    obtain ⟨a1, a2⟩ := mi_some ha
    rw [mi_ne a1, upd_ne (fun e => by rw [e, hl] at a2; cases a2)]
    exact a2⟩
theorem DnL.setAt {H : Hp} : ∀ {l : List D} {vs : List V} {j : Nat} {d : D} {v : V}, DnL K H l vs → Dn K H d v → DnL K H (l.set j d) (vs.set j v)
  | [], _, _, _, _, h, _ => by cases h; rfl
  | a :: l, _, 0, _, _, h, q => by
    obtain ⟨u, r, rfl, h1, h2⟩ := h
    exact ⟨_, _, rfl, q, h2⟩
  | a :: l, _, j + 1, _, _, h, q => by
    obtain ⟨u, r, rfl, h1, h2⟩ := h
    exact ⟨_, _, rfl, h1, DnL.setAt h2 q⟩
/-- a procedure of the shape -/
def PrX (exs szs : List Nat) (i : Nat) (pr : Pr) : Prop := pr.1 = exs.getD i 0 ∧ pr.2.length = szs.getD i 0 ∧ ∀ pt ∈ pr.2, PtX exs szs i pt
theorem ok_of {exs szs : List Nat} {g : Gr} (shp : Shp exs szs) (h1 : 1 ≤ exs.length) (hl : g.length = exs.length) (hg : ∀ i pr, g[i]? = some pr → PrX exs szs i pr) : Ok g := by
  have key : ∀ i, i < g.length → PrX exs szs i (g.getD i (0, [])) := fun i hi => hg i _ (by rw [List.getD_eq_getElem?_getD, List.getElem?_eq_getElem hi]; rfl)
  refine ⟨by omega, by have := shp.le; omega, fun pr hpr => ?_⟩
  obtain ⟨i, hi, e⟩ := List.getElem_of_mem hpr
  obtain ⟨x1, x2, x3⟩ := hg i pr (by rw [List.getElem?_eq_getElem hi, e])
  have y1 := getD_all shp.ex (i := i) (by omega)
  have y2 := getD_all shp.sz (i := i) (by have := shp.eq; omega)
  refine ⟨by omega, by omega, by omega, fun pt hpt => ?_⟩
  have z := x3 pt hpt
  cases pt with
  | exit e => show e < pr.1; rw [x1]; exact z
  | draw bs => exact ⟨z.m, by rw [x2]; exact z.t⟩
  | call r ps =>
    obtain ⟨z1, z2, z3⟩ := z
    refine ⟨by omega, ?_, by rw [x2]; exact z3⟩
    have := (key r (by omega)).1
    unfold exitsOf
    omega
  | reward a q => exact ⟨z.1, z.2.1, z.2.2.1, z.2.2.2.1, by rw [x2]; exact z.2.2.2.2⟩
  | reject => trivial
  | stop => trivial
def PProcs : List D → Prop := fun ds => ds = []
def RProcs : List D → D → Prop := fun _ d => ∃ g, Ok g ∧ d = encG g
abbrev N_law_procedures : List Str := ["_law_stream_here", "_law_exits", "_law_sizes", "_law_procedures_here", "_law_p", "_law_points", "_law_i", "_law_k", "_law_one"]
theorem sc_law_procedures : FnScope N_law_procedures ["_law_stream_here"] (defScope s_law_procedures) := ⟨rfl, rfl, rfl, by decide +kernel, rfl, by decide +kernel, by decide +kernel⟩
theorem c_law_procedures (F : Fs w h K mg) : Cal P w K mg base "_law_procedures" 4 ["_law_stream_here"] (spN K PProcs RProcs) := by
  have c_law_next : Cal P w K mg base "_law_next" 1 ["_law_stream_here", "_law_many"] (spN K PNext RNext) := c_law_next F
  have c_law_draw : Cal P w K mg base "_law_draw" 2 ["_law_stream_here", "_law_size"] (spN K PDrawL RDrawL) := c_law_draw F
  have c_law_point : Cal P w K mg base "_law_point" 3 ["_law_stream_here", "_law_exits", "_law_sizes", "_law_p"] (spN K PPtL RPtL) := c_law_point F
  refine F.d_law_procedures.cal sc_law_procedures (fun _ _ _ _ _ _ us hl => match us, hl with | [_], _ => rfl) (fun vs H Q E h => by
    obtain ⟨_, _, ws, ds, rfl, _, h1, rfl, _⟩ := h
    cases h1
    rfl) fun f cdv A outer s H vs Q E hr hs => ?_
  obtain ⟨c, st, ws, ds, rfl, hst, hv, rfl, k⟩ := hs
  cases hv
  refine ⟨_, (pss_cons (ps_setLc (own := [("_law_k", 7)]) (i := 1) (g := gName 7) (tt := tYes) rfl sc_law_procedures.nd rfl rfl (sw_true rfl rfl rfl (by decide +kernel)) (pi_range1 rfl F.f_range (pa_cons (pe_op op_add pe_int (pe_cal c_law_next (hr.mono (by decide)) (pa_cons (pv 0) (pa_cons pe_int pa_nil)))) pa_nil)) (blkOk_by (N := N_law_procedures) (sc := defScope s_law_procedures) (by decide +kernel))  (fun _ _ _ _ _ => (pg_name (i := 7) sc_law_procedures.nd rfl (Or.inl rfl))) (fun _ _ _ _ _ => pts_nil) (fun _ _ _ _ _ => (pe_ix (r := rIxL K) ix_list (pe_lst (pa_cons pe_int (pa_cons pe_int (pa_cons pe_int (pa_cons pe_int (pa_cons pe_int pa_nil)))))) (pe_cal c_law_next (hr.mono (by decide)) (pa_cons (pv 0) (pa_cons pe_int pa_nil))) (fun _ _ => rfl)))) (pss_cons (ps_setLc (own := [("_law_one", 8)]) (i := 2) (g := gName 8) (tt := tYes) rfl sc_law_procedures.nd rfl rfl (sw_true rfl rfl rfl (by decide +kernel)) (pi_list (pv 1)) (blkOk_by (N := N_law_procedures) (sc := defScope s_law_procedures) (by decide +kernel))  (fun _ _ _ _ _ => (pg_name (i := 8) sc_law_procedures.nd rfl (Or.inl rfl))) (fun _ _ _ _ _ => pts_nil) (fun _ _ _ _ _ => (pe_op op_add pe_int (pe_cal c_law_next (hr.mono (by decide)) (pa_cons (pv 0) (pa_cons pe_int pa_nil)))))) (pss_cons (ps_set (i := 3) sc_law_procedures.nd rfl (Or.inl rfl) (pe_lst pa_nil)) (pss_cons (ps_for PassesOwn.never rfl (pi_range1 rfl F.f_range (pa_cons (pe_callB (r := rLen K) cr_len (by rfl) F.f_len boot_len (pa_cons (pv 1) pa_nil)) pa_nil)) (pg_name (i := 4) sc_law_procedures.nd rfl (Or.inl rfl)) (pss_cons (ps_set (i := 5) sc_law_procedures.nd rfl (Or.inl rfl) (pe_lst (pa_cons (pe_cal c_law_draw (hr.mono (by decide)) (pa_cons (pv 0) (pa_cons (pe_ix (r := rIxL K) ix_list (pv 2) (pv 4) (fun _ _ => rfl)) pa_nil))) pa_nil))) (pss_cons (ps_for PassesOwn.never rfl (pi_range1 rfl F.f_range (pa_cons (pe_op op_sub (pe_ix (r := rIxL K) ix_list (pv 2) (pv 4) (fun _ _ => rfl)) pe_int) pa_nil)) (pg_name (i := 6) sc_law_procedures.nd rfl (Or.inl rfl)) (pss_one (ps_expr (pe_bm PySem.F.plainAttrs_list PySem.F.slot_list_append PySem.F.type_list_append mt_append (pv 5) (pa_cons (pe_cal c_law_point (hr.mono (by decide)) (pa_cons (pv 0) (pa_cons (pv 1) (pa_cons (pv 2) (pa_cons (pv 4) pa_nil))))) pa_nil))))) (pss_cons (ps_if (pt_cmpR op_gt (pe_ix (r := rIxL K) ix_list (pv 1) (pv 4) (fun _ _ => rfl)) pe_int (nomark _)) (pss_one (ps_asg (pe_tup (pa_cons pe_str (pa_cons (pe_cal c_law_next (hr.mono (by decide)) (pa_cons (pv 0) (pa_cons (pe_ix (r := rIxL K) ix_list (pv 1) (pv 4) (fun _ _ => rfl)) pa_nil))) pa_nil))) (pg_sub (pv 5) (pe_op op_sub (pe_ix (r := rIxL K) ix_list (pv 2) (pv 4) (fun _ _ => rfl)) pe_int) set_list))) pss_nil) (pss_one (ps_expr (pe_bm PySem.F.plainAttrs_list PySem.F.slot_list_append PySem.F.type_list_append mt_append (pv 3) (pa_cons (pe_tup (pa_cons (pe_ix (r := rIxL K) ix_list (pv 1) (pv 4) (fun _ _ => rfl)) (pa_cons (pe_callTy (r := rTupOf K) cr_tupOf (by rfl) F.f_tuple bt_tuple (pa_cons (pv 5) pa_nil)) pa_nil))) pa_nil)))))))) (pss_one (ps_ret (pe_callTy (r := rTupOf K) cr_tupOf (by rfl) F.f_tuple bt_tuple (pa_cons (pv 3) pa_nil)))))))), ?_⟩
  refine st_setN (K := K) (R := fun a => ∃ exs : List Nat, 1 ≤ exs.length ∧ exs.length ≤ 2 ∧ (∀ e ∈ exs, e ≤ 2) ∧ a = lN exs) ((evN_lc (Rl := fun ds => ∃ n : Nat, 1 ≤ n ∧ n ≤ 2 ∧ ds = (List.range n).map nD) (Re := fun _ e => ∃ x, x ≤ 2 ∧ e = nD x) (eiN_range (Ra := fun a => ∃ n : Nat, 1 ≤ n ∧ n ≤ 2 ∧ a = nD n) (evN_op (g := fun i j => i + j) (evN_pure (d := .i 1) ev_int rfl) (evN_nx (m := 2) (i := 0) rfl (evN_pure ev_int rfl) ⟨by decide, by decide⟩) ?_) ?_) ?_ ?_ ?_).to ?_) hst fun ve H1 d s1 w1 e hd => ?_
  · rintro a b rfl ⟨m, hm, rfl⟩
    refine ⟨1, m, rfl, rfl, 1 + m, by omega, by omega, ?_⟩
    show D.i _ = D.i _
    congr 1
  · rintro a ⟨n, h1, h2, rfl⟩
    exact ⟨n, rfl, by omega, n, h1, h2, rfl⟩
  · rintro ds ⟨n, h1, h2, rfl⟩
    rw [List.length_map, List.length_range]; omega
  · rintro d e ⟨x, _, rfl⟩
    rfl
  · rintro ds i d x H' _ e s' w' hx k' hk'
    refine hk' _ rfl (evN_ixL (evN_lst' (eaN_cons' (evN_pure (d := nD 1) ev_int rfl) (eaN_cons' (evN_pure (d := nD 1) ev_int rfl) (eaN_cons' (evN_pure (d := nD 2) ev_int rfl) (eaN_cons' (evN_pure (d := nD 1) ev_int rfl) (eaN_cons' (evN_pure (d := nD 0) ev_int rfl) eaN_nil)))))) (evN_nx (m := 5) (i := 0) rfl (evN_pure ev_int rfl) ⟨by decide, by decide⟩) ?_)
    rintro a b rfl ⟨r, hr, rfl⟩
    rcases (show r = 0 ∨ r = 1 ∨ r = 2 ∨ r = 3 ∨ r = 4 by omega) with rfl | rfl | rfl | rfl | rfl
    · exact ⟨_, 0, _, rfl, rfl, rfl, 1, by omega, rfl⟩
    · exact ⟨_, 1, _, rfl, rfl, rfl, 1, by omega, rfl⟩
    · exact ⟨_, 2, _, rfl, rfl, rfl, 2, by omega, rfl⟩
    · exact ⟨_, 3, _, rfl, rfl, rfl, 1, by omega, rfl⟩
    · exact ⟨_, 4, _, rfl, rfl, rfl, 0, by omega, rfl⟩
  · rintro a ⟨ds, es, ⟨n, h1, h2, rfl⟩, hE, rfl⟩
    obtain ⟨exs, rfl, h3, h4⟩ := each_map (k := nD) (X := fun (_ : Nat) q => q ≤ 2) (fun a e he => by
      obtain ⟨q, e1, e2⟩ := he
      exact ⟨q, e2, e1⟩) hE
    rw [List.length_range] at h3
    refine ⟨exs, by omega, by omega, fun q hq => ?_, rfl⟩
    obtain ⟨i, hi, e⟩ := List.getElem_of_mem hq
    rw [← e]
    exact h4 i i exs[i] (List.getElem?_range (by omega)) (List.getElem?_eq_getElem hi)
  obtain ⟨exs, he1, he2, he3, rfl⟩ := e
  refine st_setN (K := K) (R := fun a => ∃ szs : List Nat, szs.length = exs.length ∧ (∀ e ∈ szs, 2 ≤ e ∧ e ≤ 5) ∧ a = lN szs) ((evN_lc (Rl := fun ds => ds = exs.map nD) (Re := fun _ e => ∃ x, (2 ≤ x ∧ x ≤ 5) ∧ e = nD x) (eiN_list (evN_var (i := 1) rfl hd) fun a e => ⟨_, e, rfl⟩) ?_ ?_ ?_).to ?_) w1 fun vz H2 d s2 w2 e hd2 => ?_
  · rintro ds rfl
    rw [List.length_map]; omega
  · rintro d e ⟨x, _, rfl⟩
    rfl
  · rintro ds i d x H' _ e s' w' hx k' hk'
    refine hk' _ rfl (evN_op (g := fun i j => i + j) (evN_pure (d := .i 2) ev_int rfl) (evN_nx (m := 4) (i := 0) rfl (evN_pure ev_int rfl) ⟨by decide, by decide⟩) ?_)
    rintro a b rfl ⟨m, hm, rfl⟩
    refine ⟨2, m, rfl, rfl, 2 + m, ⟨by omega, by omega⟩, ?_⟩
    show D.i _ = D.i _
    congr 1
  · rintro a ⟨ds, es, rfl, hE, rfl⟩
    obtain ⟨szs, rfl, h3, h4⟩ := each_map (k := nD) (X := fun (_ : Nat) q => 2 ≤ q ∧ q ≤ 5) (fun a e he => by
      obtain ⟨q, e1, e2⟩ := he
      exact ⟨q, e2, e1⟩) hE
    refine ⟨szs, h3, fun q hq => ?_, rfl⟩
    obtain ⟨i, hi, e⟩ := List.getElem_of_mem hq
    rw [← e]
    exact h4 i (exs[i]'(by omega)) szs[i] (List.getElem?_eq_getElem (by omega)) (List.getElem?_eq_getElem hi)
  obtain ⟨szs, hs1, hs2, rfl⟩ := e
  have shp : Shp exs szs := ⟨hs1, he2, he3, hs2⟩
  have m2 : Same (mi st H) H2 := mi_tr s1 s2
  have EXS : ∀ {σ : L2.St} {H'}, σ[1]? = some (some ve) → Same (mi st H2) H' → EvD K (tVar 1) σ H' (.l (exs.map nD)) := fun e s => ev_var e (Dn.same (mi_tr s2 s) _ hd)
  have SZS : ∀ {σ : L2.St} {H'}, σ[2]? = some (some vz) → Same (mi st H2) H' → EvD K (tVar 2) σ H' (.l (szs.map nD)) := fun e s => ev_var e (Dn.same s _ hd2)
  refine st_setF (K := K) (evF_lst ea_nil) fun pr us H3 s3 hpr hpl hd3 => ?_
  cases hd3
  have hpst := w2.fresh hpr
  have hcpr : c ≠ pr := fun e => by
    obtain ⟨_, _, _, _, x2, _⟩ := w2
    rw [e, hpr] at x2
    cases x2
  have w3 := w2.same s3
  have mipr : mi st H2 pr = none := by rw [mi_ne hpst]; exact hpr
  let Pv : Hp → List Pr → Prop := fun H' gs => Same (mi st H2) H' ∧ Str0 c H' st ∧ ∃ vs, H' pr = some (.lst vs) ∧ DnL K (mi st H') (gs.map encPr) vs
  refine for_ev (K := K) (Rel := fun _ _ => True) (ei_range (n := exs.length) ((ev_lenL (EXS rfl ((mi_le H2).trans s3))).to (by rw [List.length_map])) rfl (by omega)) (fun H4 i σ' H' => ∃ gs : List Pr, gs.length = i ∧ (∀ j p, gs[j]? = some p → PrX exs szs j p) ∧ Pv H' gs ∧ ∃ a4 a5 a6, σ' = [some (.ref st), some ve, some vz, some (.ref pr), a4, a5, a6, none, none])
    (fun H4 s4 => ⟨[], rfl, fun j p h => by simp at h, ⟨((mi_le H2).trans s3).trans s4, w3.same s4, [], s4 _ _ hpl, rfl⟩, _, _, _, rfl⟩) (fun _ _ _ _ _ _ _ => trivial) ?_ ?_
  · rintro H4 i dx x σ' H5 H6 s4 e ⟨gs, g1, g2, ⟨p1, p2, vs, p3, p4⟩, a4, a5, a6, rfl⟩ z hx
    obtain ⟨hi, rfl⟩ := rangeD_get e
    cases (show x = .int i from hx)
    have p1 := p1.trans z
    have p2 := p2.same z
    have p3 := z _ _ p3
    have p4 := DnL.same (mi_of z) _ p4
    have hszi := getD_all shp.sz (i := i) (by omega)
    have hexi := getD_all shp.ex (i := i) hi
    generalize hS : szs.getD i 0 = S at hszi
    have SI : ∀ {σ : L2.St} {H'}, σ[2]? = some (some vz) → σ[4]? = some (some (.int (i : Nat))) → Same (mi st H2) H' → EvD K (tOp (rIxL K) (tVar 2) (tVar 4)) σ H' (nD S) := fun e1 e2 s => (ev_ixL (n := i) (SZS e1 s) (ev_i e2) rfl (lN_get (by omega))).to (by rw [hS])
    have EI : ∀ {σ : L2.St} {H'}, σ[1]? = some (some ve) → σ[4]? = some (some (.int (i : Nat))) → Same (mi st H2) H' → EvD K (tOp (rIxL K) (tVar 1) (tVar 4)) σ H' (nD (exs.getD i 0)) := fun e1 e2 s => ev_ixL (n := i) (EXS e1 s) (ev_i e2) rfl (lN_get hi)
    have ngs : nolL (gs.map encPr) = true := nolL_map nol_encPr gs
    have nps : ∀ pts : List Pt, nolL (pts.map encPt) = true := fun pts => nolL_map nol_encPt pts
    -- points = [draw]
    refine st_new1 (K := K) (evN_callN (X := fun ds => ds = [nD S]) ((eaN_cons' (evN_var (i := 0) (d := .o st) rfl rfl) (eaN_cons' (evN_pure (SI rfl rfl (mi_mi p1)) rfl) eaN_nil)).to fun es e => ⟨[nD S], e, rfl⟩) fun ds e => ⟨S, e, by omega, by omega⟩) p2 fun dv H7 d pp s7 w7 e7 hd7 hpp => ?_
    obtain ⟨ds2, rfl, size', bs, e1, hbs, rfl⟩ := e7
    simp only [List.cons.injEq, and_true] at e1
    have e1 := nD_inj e1
    subst e1
    have hppst := w7.fresh hpp
    have hppc : pp ≠ c := fun e => by
      obtain ⟨_, _, _, _, x2, _⟩ := w7
      rw [← e, hpp] at x2
      cases x2
    have q1 := mi_tr p1 s7
    have p37 : H7 pr = some (.lst vs) := s7 _ _ (by rw [mi_ne hpst]; exact p3)
    have p47 := DnL.same (mi_mi s7) _ p4
    have hppr : pp ≠ pr := fun e => by rw [e, p37] at hpp; cases hpp
    have mipp : mi st H2 pp = none := none_of q1 hpp
    let Pw : Hp → List Pt → Prop := fun H' pts => Same (mi st H2) H' ∧ Str0 c H' st ∧ H' pr = some (.lst vs) ∧ DnL K (mi st H') (gs.map encPr) vs ∧ ∃ ws, H' pp = some (.lst ws) ∧ DnL K (mi st H') (pts.map encPt) ws
    -- a step that writes the points
    have wr : ∀ {H'} {pts pts' : List Pt} {ws ws' : List V}, Same (mi st H2) H' → Str0 c H' st → H' pr = some (.lst vs) → DnL K (mi st H') (gs.map encPr) vs → H' pp = some (.lst ws) → DnL K (mi st H') (pts'.map encPt) ws' → Pw (upd H' pp (.lst ws')) pts' := fun {H' pts pts' ws ws'} a1 a2 a3 a4 a5 a6 =>
      ⟨Same.mut a1 mipp, a2.up a5 hppst hppc, by rw [upd_ne (Ne.symm hppr)]; exact a3, DnL.tk (tk_mu a5) _ ngs a4, ws', upd_same, DnL.tk (tk_mu a5) _ (nps pts') a6⟩
    refine for_ev (K := K) (Rel := fun _ _ => True) (ei_range (n := S - 1) (ev_op0 (g := fun i j => i - j) (SI rfl rfl (q1.trans (Same.new hpp))) ev_int) (by omega) (by omega)) (fun H8 j σ' H' => ∃ pts : List Pt, pts.length = j + 1 ∧ (∀ pt ∈ pts, PtX exs szs i pt) ∧ Pw H' pts ∧ ∃ a6, σ' = [some (.ref st), some ve, some vz, some (.ref pr), some (.int (i : Nat)), some (.ref pp), a6, none, none])
      (fun H8 s8 => ⟨[.draw bs], rfl, fun pt hpt => by rw [List.mem_singleton.mp hpt]; show DrawOk bs _; rw [hS]; exact hbs, ⟨(q1.trans (Same.new hpp)).trans s8, (w7.same (Same.new hpp)).same s8, s8 _ _ (Same.new hpp _ _ p37), DnL.same (mi_of ((Same.new hpp).trans s8)) _ p47, [dv], s8 _ _ upd_same, dv, [], rfl, Dn.same (mi_of ((Same.new hpp).trans s8)) _ hd7, rfl⟩, _, rfl⟩) (fun _ _ _ _ _ _ _ => trivial) ?_ ?_
    · rintro H8 j dj xj σ' H9 H10 s8 ej ⟨pts, c1, c2, ⟨b1, b2, b3, b4, ws, b5, b6⟩, a6', rfl⟩ zj hxj
      have hj : j < S - 1 := (rangeD_get ej).1
      have b1 := b1.trans zj
      have b2 := b2.same zj
      have b3 := zj _ _ b3
      have b4 := DnL.same (mi_of zj) _ b4
      have b5 := zj _ _ b5
      have b6 := DnL.same (mi_of zj) _ b6
      refine st_appN (K := K) (i := 5) (p := pp) rfl b5 hppst (by rw [b6.length, List.length_map]; omega) (evN_callN (X := fun ds => ds = [lN exs, lN szs, nD i]) ((eaN_cons' (evN_var (i := 0) (d := .o st) rfl rfl) (eaN_cons' (evN_var (i := 1) rfl (Dn.same (mi_mi (mi_tr s2 b1)) _ hd)) (eaN_cons' (evN_var (i := 2) rfl (Dn.same (mi_mi b1) _ hd2)) (eaN_cons' (evN_pure (ev_i (i := 4) rfl) rfl) eaN_nil)))).to fun es e => ⟨_, e, rfl⟩) fun ds e => ⟨exs, szs, i, e, shp, hi⟩) b2 ?_
      rintro v H11 d s11 w11 ⟨ds, rfl, exs', szs', i', pt, e1, hpt, rfl⟩ hdv hl11
      simp only [lN, List.cons.injEq, D.l.injEq, and_true] at e1
      obtain ⟨e1, e2, e3⟩ := e1
      have e1 := lN_inj e1
      have e2 := lN_inj e2
      have e3 := nD_inj e3
      subst e1 e2 e3
      refine ⟨pts ++ [pt], by rw [List.length_append, c1]; rfl, fun q hq => (List.mem_append.mp hq).elim (c2 q) fun z => by rw [List.mem_singleton.mp z]; exact hpt, ?_, _, rfl⟩
      refine wr (pts := pts) (ws := ws) (mi_tr b1 s11) w11 (s11 _ _ (by rw [mi_ne hpst]; exact b3)) (DnL.same (mi_mi s11) _ b4) hl11 ?_
      rw [List.map_append]
      exact DnL.snoc (DnL.same (mi_mi s11) _ b6) hdv
    · rintro H8 σ' H9 s8 ⟨pts, c1, c2, ⟨b1, b2, b3, b4, ws, b5, b6⟩, a6', rfl⟩
      rw [rangeD_len] at c1
      have c1 : pts.length = S := by omega
      have hwl : ws.length = S := by rw [b6.length, List.length_map, c1]
      refine st_ifj (b := decide ((0 : Int) < (exs.getD i 0 : Nat))) (fun σ' H' => σ' = [some (.ref st), some ve, some vz, some (.ref pr), some (.int (i : Nat)), some (.ref pp), a6', none, none] ∧ ∃ pts : List Pt, pts.length = S ∧ (∀ pt ∈ pts, PtX exs szs i pt) ∧ Pw H' pts) (et_cmp (K := K) (ev_cmp0 (g := fun i j => decide (j < i)) (EI rfl rfl b1) ev_int)) ?_ fun kj => ⟨fun hb H10 s10 => ?_, fun hb H10 s10 => kj _ _ ⟨rfl, pts, c1, c2, b1.trans s10, b2.same s10, s10 _ _ b3, DnL.same (mi_of s10) _ b4, ws, s10 _ _ b5, DnL.same (mi_of s10) _ b6⟩⟩
      · rintro σ' H10 ⟨rfl, pts, c1, c2, b1, b2, b3, b4, ws, b5, b6⟩
        refine st_app1 (p := pr) (d := encPr (exs.getD i 0, pts)) (ev_var (i := 3) rfl rfl) b3 (by rw [b4.length, List.length_map]; have := shp.le; omega) (ev_tup (ea_2 (EI rfl rfl b1) (ev_tupOf (ev_var (i := 5) rfl (⟨pp, ws, rfl, b5, DnL.same (mi_le H10) _ b6⟩ : Dn K H10 (.l (pts.map encPt)) (.ref pp))) (nps pts)))) fun v H11 s11 hv hl11 => ?_
        have w11 := b2.same s11
        refine ⟨gs ++ [(exs.getD i 0, pts)], by rw [List.length_append, g1]; rfl, fun j q hq => ?_, ⟨Same.mut (b1.trans s11) mipr, w11.up hl11 hpst (Ne.symm hcpr), _, upd_same, ?_⟩, _, _, _, rfl⟩
        · by_cases hj : j < gs.length
          · rw [List.getElem?_append_left hj] at hq
            exact g2 j q hq
          · have hlt := (List.getElem?_eq_some_iff.mp hq).1
            rw [List.length_append] at hlt
            have hlt : j < gs.length + 1 := hlt
            have hji : j = i := by omega
            subst hji
            rw [List.getElem?_append_right (by omega)] at hq
            have e0 : j - gs.length = 0 := by omega
            rw [e0] at hq
            cases hq
            exact ⟨rfl, by rw [hS]; exact c1, c2⟩
        · rw [List.map_append]
          exact DnL.snoc (DnL.tk (tk_mu hl11) _ ngs (DnL.same (mi_of s11) _ b4)) (Dn.tk (tk_mu hl11) _ (nol_encPr _) (dn_mi w11 (nol_encPr _) hv))
      · have hb : (0 : Int) < (exs.getD i 0 : Nat) := of_decide_eq_true hb
        have b1 := b1.trans s10
        have b2 := b2.same s10
        have b3 := s10 _ _ b3
        have b4 := DnL.same (mi_of s10) _ b4
        have b5 := s10 _ _ b5
        have b6 := DnL.same (mi_of s10) _ b6
        refine st_setiN (K := K) (i := 5) (p := pp) (vs := ws) (n := ((S - 1 : Nat) : Int)) (j := S - 1) (evN_tup (eaN_cons (evN_pure (d := .s "exit") ev_str rfl) (eaN_cons (evN_nx (m := exs.getD i 0) (i := 0) rfl (evN_pure (EI rfl rfl (mi_mi b1)) rfl) ⟨by omega, by omega⟩) eaN_nil)) ?_) b2 rfl b5 hppst (fun H11 s11 => (ev_op0 (g := fun i j => i - j) (SI rfl rfl (mi_tr b1 s11)) ev_int).to ?_) (by unfold ixN; rw [if_pos (by omega), if_pos (by omega)]; rfl) ?_
        · rintro ds ⟨_, _, rfl, _, _, _, rfl, _, rfl⟩
          exact Nat.le_of_ble_eq_true rfl
        · show D.i _ = D.i _
          congr 1
          omega
        · rintro v H11 d s11 w11 ⟨ds, ⟨_, _, rfl, rfl, _, _, rfl, ⟨e, he, rfl⟩, rfl⟩, rfl⟩ hdv hl11
          refine kj _ _ ⟨rfl, pts.set (S - 1) (.exit e), by rw [List.length_set]; exact c1, fun q hq => ?_, ?_⟩
          · rcases List.mem_or_eq_of_mem_set hq with hq | rfl
            · exact c2 q hq
            · exact he
          · refine wr (pts := pts) (ws := ws) (mi_tr b1 s11) w11 (s11 _ _ (by rw [mi_ne hpst]; exact b3)) (DnL.same (mi_mi s11) _ b4) hl11 ?_
            rw [List.map_set]
            exact DnL.setAt (DnL.same (mi_mi s11) _ b6) hdv
  · rintro H4 σ' H5 s4 ⟨gs, g1, g2, ⟨p1, p2, vs, p3, p4⟩, a4, a5, a6, rfl⟩
    rw [rangeD_len] at g1
    refine st_ret K (ev_tupOf (ev_var (i := 3) rfl (⟨pr, vs, rfl, p3, DnL.same (mi_le H5) _ p4⟩ : Dn K H5 (.l (gs.map encPr)) (.ref pr))) (nolL_map nol_encPr gs)) fun v H6 s6 hv => ?_
    have w6 := p2.same s6
    exact k (encG gs) v H6 ⟨gs, ok_of shp he1 g1 g2, rfl⟩ (mi_tr m2 (p1.trans s6)) w6 (dn_mi w6 (nol_encG gs) hv)
end Odd

set_option Elab.async false
set_option linter.all false
set_option maxRecDepth 100000
set_option maxHeartbeats 4000000
set_option exponentiation.threshold 3000
/-! Part 33: Graph(..), the law. -/
namespace Odd
open PySem PySem.Spec PyProof.Rows L2
variable {P : Program} {w : World} {h : Heap} {K : PySem.W.Frag} {mg : Str → Option Value} {base : Heap}
def spGI (K : PySem.W.Frag) : Sp := fun vs H Q _ => ∃ g x dx v, vs = [.ref x, v] ∧ H x = some (.ins (He.ga K "Graph") dx []) ∧ Ok g ∧ Dn K H (encG g) v ∧ ∀ H', (∀ b o, b ≠ x → H b = some o → H' b = some o) → IsG K H' g x → Q .non H'
abbrev N_Graph_init : List Str := ["self", "procedures"]
theorem sc_Graph_init : FnScope N_Graph_init ["self", "procedures"] (defScope s_Graph_init) := ⟨rfl, rfl, rfl, by decide +kernel, rfl, by decide +kernel, by decide +kernel⟩
theorem kbn {f : Addr} {fd : FuncData} (Fd : FunD K "__init__" "Graph.__init__" (defArgs s_Graph_init) (defBody s_Graph_init) (defScope s_Graph_init) [] [] f fd) : KBn K fd ["self", "procedures"] 1 ["procedures"] (fun us ws => us ++ ws) (fun vs zs => vs ++ zs) := by
  obtain ⟨oc, od, dV, kV, doc, pm, an, cdv, ct, osl, rfl, lk, hcd, hD, hK⟩ := Fd.ex
  rcases hD with ⟨_, rfl⟩ | ⟨e, _⟩
  · refine ⟨fun s us ws X l1 l2 => ?_, fun r1 r2 => ?_⟩
    · match us, ws, l1, l2 with
      | [u], [v], _, _ => exact BindsTo.of_eq rfl
    · induction r1 with
      | nil => exact r2
      | cons h t ih => exact .cons h ih
  · exact absurd rfl e
theorem c_Graph_init (F : Fs w h K mg) : ∃ fd, KBn K fd ["self", "procedures"] 1 ["procedures"] (fun us ws => us ++ ws) (fun vs zs => vs ++ zs) ∧ FnOk P w K mg base CX0 7 (He.ma K (He.ga K "Graph") "__init__") fd ["self", "procedures"] (spGI K) := by
  have c_check_procedures : Cal P w K mg base "check_procedures" 6 ["procedures"] (spP K RChk) := c_check_procedures F
  obtain ⟨fd, Fd⟩ := F.d_Graph_init
  refine ⟨fd, kbn Fd, Fd.ok sc_Graph_init (fun vs H Q E h => by obtain ⟨_, _, _, _, rfl, _⟩ := h; rfl) fun cdv A outer s H vs Q E hr hs => ?_⟩
  obtain ⟨g, x, dx, v, rfl, hx, ok, hv, k⟩ := hs
  have body : ∃ t, PSs (cxOf CX0 P w K mg base N_Graph_init "Graph.__init__" (defScope s_Graph_init) (He.ma K (He.ga K "Graph") "__init__") cdv A outer s H E).nox (defBody s_Graph_init) t ∧ t { nx := fun _ H' => Q .non H', rt := Q } (start N_Graph_init [.ref x, v]) H := by
    refine ⟨_, (pss_cons (ps_expr (pe_cal c_check_procedures (hr.mono (by decide)) (pa_cons (pv 1) pa_nil))) (pss_one (ps_fld (pv 0) (pv 1) rfl))), ?_⟩
    refine st_drop K (ev_call (R := RChk) (d := .n) (ea_1 (ev_var (i := 1) rfl hv)) ⟨g, rfl, ok, rfl⟩) fun H1 s1 => ?_
    have hx1 := s1 _ _ hx
    have ne : ∀ b, b ≠ x → upd H1 x (.ins (He.ga K "Graph") dx (putF "procedures" v [])) b = H1 b := fun b hb => upd_ne hb
    exact ⟨v, rfl, _, rfl, x, _, dx, [], rfl, hx1, F.cls_Graph, F.no_Graph_procedures, by show 0 < 1000; decide, k _ (fun b o hb ho => by rw [ne b hb]; exact s1 _ _ ho) ⟨dx, v, upd_same, Dn.tq (tq_of hx1 ne) _ (nol_encG g) (Dn.same s1 _ hv)⟩⟩
  obtain ⟨t, q1, q2⟩ := body
  exact ⟨t, q1.nox, q2⟩
end Odd

set_option Elab.async false
set_option linter.all false
set_option maxRecDepth 100000
set_option maxHeartbeats 4000000
set_option exponentiation.threshold 3000
/-! Part 34: the law. -/
namespace Odd
open PySem PySem.Spec PyProof.Rows L2
variable {P : Program} {w : World} {h : Heap} {K : PySem.W.Frag} {mg : Str → Option Value} {base : Heap}
theorem ev_min {σ : L2.St} {H : Hp} {ta tb : TE} {x y : Int} (ha : EvD K ta σ H (.i x)) (hb : EvD K tb σ H (.i y)) : EvD K (tCB (fun xs H Q => ∃ i j, xs = [.int i, .int j] ∧ Q (.int (if j < i then j else i)) H) (tCons ta (tCons tb tNil))) σ H (.i (if y < x then y else x)) := fun H1 a Q q => ha H1 a _ fun v H2 s2 hv => hb H2 (a.trans s2) _ fun u H3 s3 hu =>
  ⟨x, y, by rw [show v = .int x from hv, show u = .int y from hu], q _ H3 (s2.trans s3) rfl⟩
def spLaw (K : PySem.W.Frag) : Sp := fun vs H Q _ => ∃ (a : Addr) (ns : List Int), vs = [.ref a] ∧ SqL K H a (ns.map V.int) ∧ ns.length ≤ 63 ∧ ∀ H', Q (.bl true) H'
theorem us_pos {g : Gr} (ok : Ok g) : 0 < (unks g).length := by
  have h1 := ok.l1
  have h2 := (ok.pts (p := 0) (by omega)).1
  exact List.length_pos_of_mem (a := (0, 0, 0)) (mem_us.mpr ⟨by show 0 < g.length; omega, by show 0 < (ptsOf g 0).length; omega, by show 0 < exitsOf g 0 + 2; omega⟩)
/-- what the mass says -/
theorem mass_zero {g : Gr} {u : U} {n : Nat} (h : ∀ i, i < n → Nn g i u = 0) : qd (Ts g u n) (60 ^ n) = qD 0 1 := by
  rw [Ts_zero h, qd_zero (p60 _)]
abbrev N_law : List Str := ["_law_script", "_law_stream_here", "_law_procedures_here", "_law_graph", "_law_shortest_here", "_law_told", "_law_unknown", "_law_shift", "_law_listed", "_law_k", "_law_p", "_law_i", "_law_w", "_law_least"]
theorem sc_law : FnScope N_law ["_law_script"] (defScope s_law) := ⟨rfl, rfl, rfl, by decide +kernel, rfl, by decide +kernel, by decide +kernel⟩
theorem law_body (F : Fs w h K mg) : BodyOk P w K mg base "law" s_law N_law 12 (spLaw K) := by
  have c_law_stream : Cal P w K mg base "_law_stream" 1 ["_law_script"] (spStream K) := c_law_stream F
  have c_law_procedures : Cal P w K mg base "_law_procedures" 4 ["_law_stream_here"] (spN K PProcs RProcs) := c_law_procedures F
  obtain ⟨fdG, b_Graph_init, c_Graph_init⟩ := (c_Graph_init F : ∃ fd, KBn K fd ["self", "procedures"] 1 ["procedures"] (fun us ws => us ++ ws) (fun vs zs => vs ++ zs) ∧ FnOk P w K mg base CX0 7 (He.ma K (He.ga K "Graph") "__init__") fd ["self", "procedures"] (spGI K))
  have c_law_shortest : Cal P w K mg base "_law_shortest" 2 ["_law_procedures_here"] (spShort K) := c_law_shortest F
  have c_positives : Cal P w K mg base "positives" 8 ["graph"] (spPos K) := c_positives F
  have c_law_unknowns : Cal P w K mg base "_law_unknowns" 1 ["_law_procedures_here"] (spF K RUnkL) := c_law_unknowns F
  have c_law_next : Cal P w K mg base "_law_next" 1 ["_law_stream_here", "_law_many"] (spN K PNext RNext) := c_law_next F
  have c_mass : Cal P w K mg base "mass" 12 ["graph", "place", "way", "depth"] (spG K RMass) := c_mass F
  intro f cdv A outer s H vs Q E hr hs
  obtain ⟨a, ns, rfl, hsq, hlen, k⟩ := hs
  refine ⟨_, (pss_cons (ps_set (i := 1) sc_law.nd rfl (Or.inl rfl) (pe_cal c_law_stream (hr.mono (by decide)) (pa_cons (pv 0) pa_nil))) (pss_cons (ps_set (i := 2) sc_law.nd rfl (Or.inl rfl) (pe_cal c_law_procedures (hr.mono (by decide)) (pa_cons (pv 1) pa_nil))) (pss_cons (ps_set (i := 3) sc_law.nd rfl (Or.inl rfl) (pe_makeK0 F.mk_Graph c_Graph_init (hr.mono (by decide)) rfl F.g_Graph b_Graph_init pass0 (pk_cons (pv 2) pk_nil))) (pss_cons (ps_set (i := 4) sc_law.nd rfl (Or.inl rfl) (pe_cal c_law_shortest (hr.mono (by decide)) (pa_cons (pv 2) pa_nil))) (pss_cons (ps_set (i := 5) sc_law.nd rfl (Or.inl rfl) (pe_cal c_positives (hr.mono (by decide)) (pa_cons (pv 3) pa_nil))) (pss_cons (ps_for PassesOwn.never rfl (pi_list (pe_cal c_law_unknowns (hr.mono (by decide)) (pa_cons (pv 2) pa_nil))) (pg_name (i := 6) sc_law.nd rfl (Or.inl rfl)) (pss_one (ps_if (pt_cmpR op_ne (pe_cmpR (r := rInD K) (op_inD (u65 hr)) (pv 6) (pv 5) (by rfl)) (pe_cmp (pc_din (hu_of hr) (pv 6) (pv 4))) (nomark _)) (pss_one (ps_ret pe_bl)) pss_nil))) (pss_cons (ps_set (i := 7) sc_law.nd rfl (Or.inl rfl) (pe_cal c_law_next (hr.mono (by decide)) (pa_cons (pv 1) (pa_cons pe_int pa_nil)))) (pss_cons (ps_set (i := 8) sc_law.nd rfl (Or.inl rfl) (pe_cal c_law_unknowns (hr.mono (by decide)) (pa_cons (pv 2) pa_nil))) (pss_cons (ps_for PassesOwn.never rfl (pi_range1 rfl F.f_range (pa_cons (pe_callB (call_min2 rfl) (by rfl) F.f_min boot_min (pa_cons pe_int (pa_cons (pe_callB (r := rLen K) cr_len (by rfl) F.f_len boot_len (pa_cons (pv 8) pa_nil)) pa_nil))) pa_nil)) (pg_name (i := 9) sc_law.nd rfl (Or.inl rfl)) (pss_cons (ps_asg (pe_ix (r := rIxL K) ix_list (pv 8) (pe_op op_mod (pe_op op_add (pv 9) (pv 7)) (pe_callB (r := rLen K) cr_len (by rfl) F.f_len boot_len (pa_cons (pv 8) pa_nil))) (fun _ _ => rfl)) (pg_tup rfl (pgs_cons (pg_name (i := 10) sc_law.nd rfl (Or.inl rfl)) (pgs_cons (pg_name (i := 11) sc_law.nd rfl (Or.inl rfl)) (pgs_cons (pg_name (i := 12) sc_law.nd rfl (Or.inl rfl)) pgs_nil))))) (pss_one (ps_if (pt_cmp (pc_dnotin (hu_of hr) (pe_tup (pa_cons (pv 10) (pa_cons (pv 11) (pa_cons (pv 12) pa_nil)))) (pv 4))) (pss_one (ps_if (pt_cmpR (op_neD hr.units) (pe_cal c_mass (hr.mono (by decide)) (pa_cons (pv 3) (pa_cons (pe_tup (pa_cons (pv 10) (pa_cons (pv 11) pa_nil))) (pa_cons (pv 12) (pa_cons pe_int pa_nil))))) (pe_tup (pa_cons pe_int (pa_cons pe_int pa_nil))) (nomark _)) (pss_one (ps_ret pe_bl)) pss_nil)) (pss_one (ps_if (pt_cmpR op_le (pe_dget (hu_of hr) (pv 4) (pe_tup (pa_cons (pv 10) (pa_cons (pv 11) (pa_cons (pv 12) pa_nil)))) (fun _ _ => rfl)) pe_int (nomark _)) (pss_cons (ps_set (i := 13) sc_law.nd rfl (Or.inl rfl) (pe_dget (hu_of hr) (pv 4) (pe_tup (pa_cons (pv 10) (pa_cons (pv 11) (pa_cons (pv 12) pa_nil)))) (fun _ _ => rfl))) (pss_cons (ps_if (pt_cmpR op_le (pe_ix (r := rIxT K) ix_tup (pe_cal c_mass (hr.mono (by decide)) (pa_cons (pv 3) (pa_cons (pe_tup (pa_cons (pv 10) (pa_cons (pv 11) pa_nil))) (pa_cons (pv 12) (pa_cons (pv 13) pa_nil))))) pe_int (fun _ _ => rfl)) pe_int (nomark _)) (pss_one (ps_ret pe_bl)) pss_nil) (pss_one (ps_if (PW.pt (pw_and (pt_cmpR op_gt (pv 13) pe_int (nomark _)) (pw_and1 (pt_cmpR (op_neD hr.units) (pe_cal c_mass (hr.mono (by decide)) (pa_cons (pv 3) (pa_cons (pe_tup (pa_cons (pv 10) (pa_cons (pv 11) pa_nil))) (pa_cons (pv 12) (pa_cons (pe_op op_sub (pv 13) pe_int) pa_nil))))) (pe_tup (pa_cons pe_int (pa_cons pe_int pa_nil))) (nomark _))))) (pss_one (ps_ret pe_bl)) pss_nil)))) pss_nil)))))) (pss_one (ps_ret pe_bl))))))))))), ?_⟩
  -- the stream
  refine ⟨_, rfl, a, ns, rfl, hsq, by omega, fun c st H1 s1 hst0 hst => ?_⟩
  -- the chain
  refine ⟨_, rfl, c, st, [], [], rfl, hst, rfl, rfl, ?_⟩
  rintro d vp H2 ⟨g, ok, rfl⟩ s2 w2 hvp
  have hvp2 : Dn K H2 (encG g) vp := Dn.same (mi_le H2) _ hvp
  -- the graph
  refine ⟨vp, rfl, rfl, rfl, fun x dx hx hdx hne => ?_⟩
  have b1 : Same H2 (upd H2 dx (.own x)) := Same.new hdx
  have hx1 : upd H2 dx (.own x) x = none := by rw [upd_ne (Ne.symm hne)]; exact hx
  have b2 : Same H2 (upd (upd H2 dx (.own x)) x (.ins (He.ga K "Graph") dx [])) := b1.trans (Same.new hx1)
  refine ⟨g, x, dx, vp, rfl, upd_same, ok, Dn.same b2 _ hvp2, fun H3 hfr hg => ⟨rfl, ?_⟩⟩
  have s23 : Same H2 H3 := fun b o hb => hfr b o (fun e => by rw [e, hx] at hb; cases hb) (b2 b o hb)
  -- the shortest lengths
  refine ⟨vp, rfl, g, vp, rfl, ok, Dn.same s23 _ hvp2, fun ds T H4 s4 htb hfin => ?_⟩
  -- told
  refine ⟨.ref x, rfl, g, x, rfl, ok, hg.same s4, fun us pt ws H5 hus husl s5 _ hpt hpd => ?_⟩
  have s25 := (s23.trans s4).trans s5
  have w5 := w2.same s25
  have htb5 := htb.same s5
  have hg5 := (hg.same s4).same s5
  have PT : ∀ {σ : L2.St} {H'}, σ[5]? = some (some (.ref pt)) → Same H5 H' → EvD K (tVar 5) σ H' (.l (us.map encU)) := fun e s => ev_var e ⟨pt, ws, rfl, s _ _ hpt, DnL.same s _ hpd⟩
  obtain ⟨kvs, ks, t1, t2, t3, t4⟩ := id htb5
  have hsome : ∀ u, (valV kvs (kU u)).isSome = (T u).isSome := fun u => by rw [t4]; cases T u <;> rfl
  refine for_ev (ei_lst (evF_call (R1 := RUnkL) (l := (unks g).map encU) (ea_1 (ev_var (i := 2) rfl (Dn.same s25 _ hvp2))) ⟨g, rfl, ok, rfl⟩).d) (fun H6 i σ' H' => Same H6 H' ∧ ∃ a6, σ' = [some (.ref a), some (.ref st), some vp, some (.ref x), some (.ref ds), some (.ref pt), a6, none, none, none, none, none, none, none]) (fun H6 s6 => ⟨Same.refl _, none, rfl⟩) (fun _ _ _ _ _ _ q => q.1) ?_ ?_
  · rintro H6 i dd xv σ' H7 H8 s6 e ⟨z1, a6, rfl⟩ z hxv
    obtain ⟨u, _, hu, rfl⟩ := map_get' e
    have s58 := (s6.trans z1).trans z
    refine st_last (et_cmp (b := false) ((ev_neB (ev_inU (ev_var (i := 6) rfl hxv) (PT rfl s58)) (ev_dinU (ev_var (i := 6) rfl hxv) (ev_var (i := 4) (v := .ref ds) rfl rfl) (.inl (s58 _ _ t1)))).to ?_)) fun H9 s9 => ⟨(z1.trans z).trans s9, _, rfl⟩
    rw [hsome]
    have e1 : decide (u ∈ us) = (T u).isSome := by
      have z1 := (hus u hu).trans (hfin.pos hu)
      cases hT : (T u).isSome with
      | true => exact decide_eq_true (z1.mpr hT)
      | false => exact decide_eq_false fun h => by rw [z1.mp h] at hT; cases hT
    rw [e1]
    show D.b ((T u).isSome != (T u).isSome) = D.b false
    cases (T u).isSome <;> rfl
  · rintro H6 σ' H7 s6 ⟨z1, a6, rfl⟩
    have s57 := s6.trans z1
    have w7 := w5.same s57
    refine st_setN (K := K) (evN_nx (m := 30) (i := 1) rfl (evN_pure ev_int rfl) ⟨by decide, by decide⟩) w7 fun sv H8 d s8 w8 e hd => ?_
    obtain ⟨r, hr30, rfl⟩ := e
    cases (show sv = .int r from hd)
    -- what still stands
    have hvp8 : Dn K H8 (encG g) vp := Dn.same s8 _ (dn_mi w7 (nol_encG g) (Dn.same (s25.trans s57) _ hvp2))
    have hg8 : IsG K H8 g x := (hg5.same s57 |>.tk (tk_mi w7)).same s8
    have hds : ds ≠ st := fun e => by
      obtain ⟨_, _, _, x1, _⟩ := w7
      have z := s57 _ _ t1
      rw [e, x1] at z
      cases z
    have htb8 : H8 ds = some (.dT kvs) := s8 _ _ (by rw [mi_ne hds]; exact s57 _ _ t1)
    refine st_setF (evF_call (R1 := RUnkL) (l := (unks g).map encU) (ea_1 (ev_var (i := 2) rfl hvp8)) ⟨g, rfl, ok, rfl⟩) fun pl us9 H9 s9 hpl hll hld => ?_
    have hg9 := hg8.same s9
    have htb9 := s9 _ _ htb8
    have hlp := us_pos ok
    have hl40 := len_us ok
    have LI : ∀ {σ : L2.St} {H'}, σ[8]? = some (some (.ref pl)) → Same H9 H' → EvD K (tVar 8) σ H' (.l ((unks g).map encU)) := fun e s => ev_var e ⟨pl, us9, rfl, s _ _ hll, DnL.same s _ hld⟩
    have hmin : ∃ n : Nat, (if ((unks g).length : Int) < 6 then ((unks g).length : Int) else 6) = (n : Int) ∧ n ≤ 6 := by
      split
      · exact ⟨_, rfl, by omega⟩
      · exact ⟨6, rfl, by omega⟩
    obtain ⟨n, hn1, hn2⟩ := hmin
    refine for_ev (K := K) (Rel := fun _ _ => True) (ei_range (n := n) (ev_min ev_int ((ev_lenL (LI rfl (Same.refl _))).to (by rw [List.length_map]))) hn1 (by omega)) (fun H10 i σ' H' => Same H9 H' ∧ ∃ a9 a10 a11 a12 a13, σ' = [some (.ref a), some (.ref st), some vp, some (.ref x), some (.ref ds), some (.ref pt), a6, some (.int r), some (.ref pl), a9, a10, a11, a12, a13])
      (fun H10 s10 => ⟨s10, _, _, _, _, _, rfl⟩) (fun _ _ _ _ _ _ _ => trivial) ?_ ?_
    · rintro H10 i dd xk σ' H11 H12 s10 e ⟨z1, a9, a10, a11, a12, a13, rfl⟩ z hxk
      obtain ⟨hi, rfl⟩ := rangeD_get e
      cases (show xk = .int i from hxk)
      have z1 := z1.trans z
      have hm : (i + r) % (unks g).length < (unks g).length := Nat.mod_lt _ hlp
      obtain ⟨u, hu1⟩ : ∃ u, (unks g)[(i + r) % (unks g).length]? = some u := ⟨_, List.getElem?_eq_getElem hm⟩
      have hu : u ∈ unks g := List.mem_of_getElem? hu1
      obtain ⟨hu2, hu3, hu4⟩ := mem_us.mp hu
      have hpl2 : (u.1, u.2.1) ∈ plcs g := mem_places.mpr ⟨hu2, hu3⟩
      refine (ev_ixL (n := (i + r) % (unks g).length) (d := encU u) (LI (σ := [some (.ref a), some (.ref st), some vp, some (.ref x), some (.ref ds), some (.ref pt), a6, some (.int r), some (.ref pl), some (.int i), a10, a11, a12, a13]) rfl z1) (ev_opC (C := fun _ j => 0 < j) (g := fun i j => i % j) (ev_op0 (g := fun i j => i + j) (ev_i (i := 9) (z := (i : Int)) rfl) (ev_i (i := 7) (z := (r : Int)) rfl)) ((ev_lenL (LI rfl z1)).to (f := .i ((unks g).length : Int)) (by rw [List.length_map])) (by show (0 : Int) < ((unks g).length : Int); omega)) rfl (by rw [List.getElem?_map, hu1]; rfl)).run fun uv H13 s13 huv => ?_
      refine g_trip (d1 := nD u.1) (d2 := nD u.2.1) (d3 := nD u.2.2) (Dn.tc huv) fun x1 x2 x3 g1 g2 g3 => ?_
      cases (show x1 = .int u.1 from g1)
      cases (show x2 = .int u.2.1 from g2)
      cases (show x3 = .int u.2.2 from g3)
      have z13 := z1.trans s13
      -- the key, the mass
      have KY : ∀ {H'} {a13 : Option V}, EvD K (tTup (tCons (tVar 10) (tCons (tVar 11) (tCons (tVar 12) tNil)))) [some (.ref a), some (.ref st), some vp, some (.ref x), some (.ref ds), some (.ref pt), a6, some (.int r), some (.ref pl), some (.int i), some (.int u.1), some (.int u.2.1), some (.int u.2.2), a13] H' (encU u) := ev_tup (ea_3 (ev_i (i := 10) rfl) (ev_i (i := 11) rfl) (ev_i (i := 12) rfl))
      have MS : ∀ {H'} {a13 : Option V} {te : TE} {m : Nat}, Same H9 H' → m ≤ 40 → EvD K te [some (.ref a), some (.ref st), some vp, some (.ref x), some (.ref ds), some (.ref pt), a6, some (.int r), some (.ref pl), some (.int i), some (.int u.1), some (.int u.2.1), some (.int u.2.2), a13] H' (nD m) →
          EvD K (tCall (spG K RMass) [] E0 (tCons (tVar 3) (tCons (tTup (tCons (tVar 10) (tCons (tVar 11) tNil))) (tCons (tVar 12) (tCons te tNil))))) [some (.ref a), some (.ref st), some vp, some (.ref x), some (.ref ds), some (.ref pt), a6, some (.int r), some (.ref pl), some (.int i), some (.int u.1), some (.int u.2.1), some (.int u.2.2), a13] H' (qd (Ts g u (m + 1)) (60 ^ (m + 1))) := fun {H' a13 te m} s' hm hte =>
        ev_callG (R := RMass) (ds := [encP (u.1, u.2.1), nD u.2.2, nD m]) (ea_cons (ev_var (i := 3) rfl rfl) (ea_3 (ev_tup (ea_2 (ev_i (i := 10) rfl) (ev_i (i := 11) rfl))) (ev_i (i := 12) rfl) hte)) ok (hg9.same s') ⟨(u.1, u.2.1), u.2.2, m, rfl, hpl2, hu4, hm, rfl⟩
      refine st_if (b := !(T u).isSome) (et_B ((ev_dninU KY (ev_var (i := 4) (v := .ref ds) rfl rfl) (.inl (z13 _ _ htb9))).to (by rw [hsome]))) (fun hb H14 s14 => ?_) fun hb H14 s14 => ?_
      · have hT : T u = none := by
          cases e : T u with
          | none => rfl
          | some n => rw [e] at hb; cases hb
        have z14 := z13.trans s14
        refine st_last (et_cmp (b := false) ((ev_neQ (by
          have q := MS (a13 := a13) (m := 12) z14 (by omega) ev_int
          rw [mass_zero fun j _ => hfin.out u hu hT j] at q
          exact q) (ev_tup (ea_2 ev_int ev_int)).tc).to rfl)) fun H15 s15 => ⟨z14.trans s15, _, _, _, _, _, rfl⟩
      · cases hT : T u with
        | none => rw [hT] at hb; cases hb
        | some m =>
          have z14 := z13.trans s14
          have hval : valV kvs (kU u) = some (.int (m : Nat)) := by rw [t4, hT]; rfl
          have GV : ∀ {H'} {a13 : Option V}, Same H9 H' → EvD K (tDGet (tVar 4) (tTup (tCons (tVar 10) (tCons (tVar 11) (tCons (tVar 12) tNil))))) [some (.ref a), some (.ref st), some vp, some (.ref x), some (.ref ds), some (.ref pt), a6, some (.int r), some (.ref pl), some (.int i), some (.int u.1), some (.int u.2.1), some (.int u.2.2), a13] H' (nD m) := fun s' => ev_dgetU (ev_var (i := 4) (v := .ref ds) rfl rfl) KY (.inl (s' _ _ htb9)) hval rfl
          refine st_if (b := decide ((m : Int) ≤ 40)) (et_cmp (K := K) (ev_cmp0 (g := fun i j => decide (i ≤ j)) (GV z14) ev_int)) (fun hb2 H15 s15 => ?_) fun hb2 H15 s15 => ⟨z14.trans s15, _, _, _, _, _, rfl⟩
          have hb2 : (m : Int) ≤ 40 := of_decide_eq_true hb2
          have z15 := z14.trans s15
          refine st_set K (GV z15) fun mv H16 s16 hmv => ?_
          cases (show mv = .int m from hmv)
          have z16 := z15.trans s16
          refine st_no ((et_cmp (K := K) (ev_cmp0 (g := fun i j => decide (i ≤ j)) (ev_ix (n := 0) (MS (m := m) z16 (by omega) (ev_i (i := 13) rfl)) ev_int rfl ix0) ev_int)).to ?_) fun H17 s17 => ?_
          · have z := rn_pos (d := 60 ^ (m + 1)) (Ts_pos (g := g) (u := u) (n := m) (hfin.at_ u m hT))
            exact decide_eq_false (by omega)
          have z17 := z16.trans s17
          by_cases hm0 : m = 0
          · subst hm0
            exact st_last ((et_and (a := false) (b := false) ((et_cmp (K := K) (ev_cmp0 (g := fun i j => decide (j < i)) (ev_i (i := 13) rfl) ev_int)).to rfl) fun z => nomatch z).to rfl) fun H18 s18 => ⟨z17.trans s18, _, _, _, _, _, rfl⟩
          · refine st_last ((et_and (a := true) (b := false) ((et_cmp (K := K) (ev_cmp0 (g := fun i j => decide (j < i)) (ev_i (i := 13) rfl) ev_int)).to (decide_eq_true (by omega))) fun _ => et_cmp (b := false) ((ev_neQ (by
              have q := MS (a13 := some (.int (m : Nat))) (m := m - 1) z17 (by omega) ((ev_op0 (g := fun i j => i - j) (ev_i (i := 13) (z := (m : Int)) rfl) (ev_int (z := 1))).to (f := nD (m - 1)) (by show D.i _ = D.i _; congr 1; omega))
              rw [mass_zero (n := m - 1 + 1) fun j hj => hfin.below u m hT j (by omega)] at q
              exact q) (ev_tup (ea_2 ev_int ev_int)).tc).to rfl)).to rfl) fun H18 s18 => ⟨z17.trans s18, _, _, _, _, _, rfl⟩
    · rintro H10 σ' H11 s10 ⟨z1, a9, a10, a11, a12, a13, rfl⟩
      exact k H11
theorem law_fun (F : Fs w h K mg) {fd : FuncData} {f : Addr} (Fd : FunD K "law" "law" (defArgs s_law) (defBody s_law) (defScope s_law) [] [] f fd) : FnOk P w K mg base CX0 13 f fd ["_law_script"] (spLaw K) :=
  (fun_ok Fd sc_law (fun _ _ _ _ _ _ us hl => match us, hl with | [_], _ => rfl) (fun vs H Q E h => by obtain ⟨_, _, rfl, _⟩ := h; rfl) (law_body F)).2
end Odd

set_option Elab.async false
set_option linter.all false
set_option maxRecDepth 100000
set_option maxHeartbeats 0
/-! Part 8: the head of a top that begins with an import: boot, import and top in one kernel run over the heap as a tree. -/
namespace Odd
open PySem PySem.W PySem.Calls PyProof.Rows
noncomputable section
/-- boot and imports, to their end -/
def impF (st : SharedT → Thread → Option (SharedT × Thread)) : Nat → SharedT → Thread → Option SharedT
  | 0, _, _ => none
  | m + 1, s, t => match t.atExitBegin with
    | some [] => some s
    | some (_ :: _) => none
    | none => match st s t with
      | some (s', t') => HandSHeadRun.frS s' fun s' => impF st m s' t'
      | none => none
theorem impF_ok {tb : String → Option Builtin} {p : Program} {w : World} : ∀ {m : Nat} {s s' : SharedT} {t : Thread}, impF (stepT (denote tb) p w) m s t = some s' → importEnds tb p w m s.abs t = some s'.abs
  | 0, _, _, _, h => by cases h
  | m + 1, s, s', t, h => by
    unfold impF at h
    unfold importEnds
    cases e : t.atExitBegin with
    | some l =>
      rw [e] at h
      cases l with
      | nil =>
        cases h
        rfl
      | cons a r => cases h
    | none =>
      rw [e] at h
      cases q : stepT (denote tb) p w s t with
      | none =>
        rw [q] at h
        cases h
      | some r =>
        obtain ⟨s2, t2⟩ := r
        rw [q] at h
        have h2 : HandSHeadRun.frS s2 (fun s' => impF (stepT (denote tb) p w) m s' t2) = some s' := h
        rw [HandSHeadRun.frS_eq] at h2
        show (match step (denote tb) p w s.abs t with | .go s' t' => importEnds tb p w m s' t' | .halt _ _ => none) = some s'.abs
        rw [stepT_spec q]
        exact impF_ok h2
/-- the module's dict behind its fence -/
def fenT (m : Str) (s : SharedT) : Option SharedT := match boundIn s.abs.heap sysModules m, tameNamesOf? m with
  | some (.ref a), some row => (match HandSHeadRun.getT s a with
    | some o => (match o.dict with
      | some D => (match HandSHeadRun.getT s D with
        | some od => (match s.tree.get D with
          | some _ => (fenceDict? m row od).map fun od' => ⟨s.tree.set D fun _ => od', s.n, s.life, s.gens, s.drawn, s.toks, s.os⟩
          | none => none)
        | none => none)
      | none => none)
    | none => none)
  | _, _ => none
theorem fenT_ok {m : Str} {s s' : SharedT} (h : fenT m s = some s') : fenceModule? m s.abs = some s'.abs := by
  unfold fenT at h
  unfold fenceModule?
  split at h
  · next a row e1 e2 =>
    rw [e1, e2]
    dsimp only
    rw [← HandSHeadRun.getT_eq]
    split at h
    · next o e3 =>
      rw [e3]
      dsimp only
      split at h
      · next D e4 =>
        rw [e4]
        dsimp only
        rw [← HandSHeadRun.getT_eq]
        split at h
        · next od e5 =>
          rw [e5]
          dsimp only
          split at h
          · next ob e6 =>
            cases e7 : fenceDict? m row od with
            | none =>
              rw [e7] at h
              cases h
            | some od' =>
              rw [e7] at h
              have e8 : (⟨s.tree.set D fun _ => od', s.n, s.life, s.gens, s.drawn, s.toks, s.os⟩ : SharedT) = s' := Option.some.inj h
              subst e8
              show some ({ s.abs with heap := s.abs.heap.update D fun _ => od' } : Shared) = some _
              congr 1
              show (⟨(absHeap s.tree s.n s.life).update D fun _ => od', s.gens, s.drawn, s.toks, s.os⟩ : Shared) = ⟨absHeap (s.tree.set D fun _ => od') s.n s.life, s.gens, s.drawn, s.toks, s.os⟩
              rw [absHeap_set e6]
          · cases h
        · cases h
      · cases h
    · cases h
  · cases h
/-- the state ahead of boot -/
def bootS (p : Program) : SharedT := ⟨.nil, 0, {}, #[], {}, 1, { stdin := p.given.stdin.toArray }⟩
theorem bootS_eq (p : Program) : (bootS p).abs = (start p).1 := by
  show (⟨absHeap .nil 0 {}, #[], {}, 1, { stdin := p.given.stdin.toArray }⟩ : Shared) = _
  rw [HandSHeadRun.abs_nil]
  rfl
/-- behind boot, import m and the fence; then behind the top -/
def openF (st : Program → SharedT → Thread → Option (SharedT × Thread)) (M1 M : Nat) (m : Str) (p : Program) : Option (SharedT × SharedT) :=
  match impF (st (opening p)) M1 (bootS (opening p)) (start (opening p)).2 with
  | some s1 => (match fenT m s1 with
    | some s0 => (match HandSHeadRun.goF (st p) s0.n (s0.abs.heap.nsMap mainGlobals "__annotations__") M s0 (topStub p) with
      | some s => some (s0, s)
      | none => none)
    | none => none)
  | none => none
/-- the looks -/
def openL (p : Program) (s0 s : SharedT) : Bool := s0.abs.heap.isNs mainGlobals && s0.gens.size == 0 && (staticsOk (importedModules p.main.body) s0.abs.heap s.abs.heap && namesBound p s.abs.heap && gensDone s.abs && laidKept s0.abs.heap s.abs.heap)
theorem left_imp {p q : Program} {loose : List Str} {Xt : Shared → Bool} {α : Type} {Yf : Shared → α} {Ya : World → α} {N M1 M : Nat} {m : Str} (hf : ∀ s, fenceModules? p s = fenceModule? m s) (le1 : Nat.ble M1 N = true) (le : Nat.ble M N = true)
    (run : ∀ w : World, (openF (fun p => stepT (denote treeTable) p w) M1 M m p).map (fun r => (openL p r.1 r.2, openSeen q loose (importedModules p.main.body) Xt true r.2.abs, Yf r.2.abs)) = some (true, openGood q loose, Ya w)) :
    LeftO p q loose Xt Yf Ya N true := fun w => by
  obtain ⟨⟨s0, s⟩, hs, hv⟩ := Option.map_eq_some_iff.mp (run w)
  obtain ⟨l1, l2, l3⟩ : _ ∧ _ ∧ _ := by simpa only [Prod.mk.injEq] using hv
  unfold openF at hs
  split at hs
  · next s1 e1 =>
    split at hs
    · next s0' e2 =>
      split at hs
      · next s' e3 =>
        cases hs
        have a1 := importEnds_mono (N - M1) _ _ _ _ (impF_ok e1)
        rw [show M1 + (N - M1) = N by have := Nat.le_of_ble_eq_true le1; omega, bootS_eq] at a1
        have a2 : fencedOpening treeTable p w N = some s0.abs := by
          unfold fencedOpening
          rw [a1]
          show fenceModules? p s1.abs = _
          rw [hf, fenT_ok e2]
        have r := topRun_mono (N - M) _ _ _ _ (HandSHeadRun.goF_ok e3)
        rw [show M + (N - M) = N by have := Nat.le_of_ble_eq_true le; omega] at r
        have l1' : (s0.abs.heap.isNs mainGlobals && s0.gens.size == 0 && (staticsOk (importedModules p.main.body) s0.abs.heap s.abs.heap && namesBound p s.abs.heap && gensDone s.abs && laidKept s0.abs.heap s.abs.heap)) = true := l1
        rw [Bool.and_eq_true] at l1'
        have a3 : topFrom treeTable p w N s0.abs = some s.abs := by
          unfold topFrom
          rw [show (s0.abs.heap.isNs mainGlobals && s0.abs.gens.size == 0) = true from l1'.1]
          have en : s0.abs.heap.objs.size = s0.n := absHeap_size _ _ _
          dsimp only
          rw [en, r]
          show (match staticsOk (importedModules p.main.body) s0.abs.heap s.abs.heap && namesBound p s.abs.heap && gensDone s.abs && laidKept s0.abs.heap s.abs.heap with | true => some s.abs | false => none) = _
          rw [l1'.2]
        unfold openEnds
        rw [a2]
        show (topFrom treeTable p w N s0.abs).map _ = _
        rw [a3]
        exact congrArg some (Prod.ext l2 l3)
      · cases hs
    · cases hs
  · cases hs
/-- the run's equation at a world, by the library's twins -/
def RunI (r : OpenRow) (q : Program) (H : Hook) (ob : SharedT → H.α) (M1 M : Nat) (m : Str) (loose : List Str) (w : World) : Prop :=
  (openF (fun p => HandSHeadRun.stepQ (HandSHeadRun.denQ HandSHeadRun.tabQ) p w) M1 M m r.prog).map (fun s => (openL r.prog s.1 s.2, HandSHeadRun.seenQ q loose (importedModules r.prog.main.body) (fun s => xlAt q [] s && recOk r.toRowW.records s) s.2.abs, ob s.2)) = some (true, openGood q loose, H.val w)
theorem head_imp {r : OpenRow} {q : Program} {H : Hook} {ob : SharedT → H.α} {M1 M : Nat} {m : Str} {loose : List Str} {d : DefRec} {kwd : List (Str × PySem.Expr)} (ho : ∀ s : SharedT, ob s = H.obs s.abs)
    (hf : ∀ s, fenceModules? r.prog s = fenceModule? m s) (run : ∀ w, RunI r q H ob M1 M m loose w)
    (hdef : defOf q r.name = some (d, kwd)) (hp : r.prog.theDef r.name = some (d.params, d.body, d.scope)) (hk : kwWritten? d.params.kwonlyargs d.params.kw_defaults = some kwd)
    (hwr : (!r.writes || r.records.isEmpty) = true) (k1 : r.wellSaid = true) (ok : (chainsOk q && opensWell r.prog && (frees r.toRowW && r.within.isEmpty)) = true) (hb : r.prog.bare) (hw : r.toRowW.promised)
    (call : WalkO q loose (XL q []) H.says r.toRowW d kwd fun f vs => PySem.call f vs) : r.Holds := by
  have left : LeftO r.prog q loose (fun s => xlAt q [] s && recOk r.toRowW.records s) H.obs H.val (M1 + M) true :=
    left_imp (M1 := M1) (M := M) hf (Nat.ble_eq_true_of_le (by omega)) (Nat.ble_eq_true_of_le (by omega)) fun w => by
      have z := run w
      have eo : ob = fun s => H.obs s.abs := funext ho
      unfold RunI at z
      rw [eo] at z
      rw [HandSHeadRun.stepQ_eq, HandSHeadRun.denQ_eq, HandSHeadRun.tabQ_eq]
      simp only [HandSHeadRun.seenQ_eq]
      exact z
  exact holds_open (r := r) (q := q) (loose := loose) (XP := XL q []) (YP := H.says) (d := d) (kwd := kwd) left H.of H.keeps (fun s z => xl_of s (Bool.and_eq_true_iff.mp z).1) XL.keeps hdef hp hk (fun s z => recFacts_of (Bool.and_eq_true_iff.mp z).2) hwr k1 ok hb hw call
end
end Odd

set_option Elab.async false
set_option linter.all false
set_option maxRecDepth 100000
set_option maxHeartbeats 0
/-! Part 9: the head. -/
namespace Odd
open PySem PySem.Spec PyProof.Rows L2
abbrev hR : PySem.W.OpenRow := PySem.W.OpenLaw.row PySem.Challenge.rw_oddscall_k30_whole_positive_by_runs
abbrev hq : Program := PySem.W.view hR.prog [73]
def hn0 : List PySem.Str := ["gcd", "OddsError", "BadValue", "BadGraph", "NotTold", "ZERO", "ONE_rationals", "is_integer", "is_integer_rationals", "is_rational", "reduced", "plus", "times", "MOST_PROCEDURES", "MOST_EXITS", "MOST_POINTS"]
def hn1 : List PySem.Str := ["MOST_IN_ALL", "MOST_BRANCHES", "MOST_DENOMINATOR", "MOST_AMOUNT", "MOST_AMOUNT_DENOMINATOR", "LENGTHS", "is_integer_graphs", "is_index", "has_form", "is_chance", "is_amount", "draw_problem", "points_problem", "point_problem", "check_procedure", "check_procedures"]
def hn2 : List PySem.Str := ["points_of", "Graph", "ONE_equations", "check_chain", "check_chain_equations", "all_unknowns", "call_terms", "all_terms", "system_of", "positives", "check_graph", "check_place", "MOST_DEPTH", "exits_of", "check_way", "check_depth"]
def hn3 : List PySem.Str := ["check_chain_masses", "ended_way", "Lengths", "sum_of", "lengths", "mass", "_law_stream", "_law_next", "_law_gcd", "_law_low", "_law_draw", "_law_point", "_law_procedures", "_law_unknowns", "_law_terms", "_law_shortest"]
def hNames : List PySem.Str := hn0 ++ (hn1 ++ (hn2 ++ hn3))
abbrev hk : PySem.W.Hook := He.hookX 4 fas fns tabs [] exB
def hob (s : PySem.W.SharedT) : He.AlX := He.obsX 4 fas fns tabs [] exB (HandSHeadRun.getT s)
theorem hob_eq (s : PySem.W.SharedT) : hob s = hk.obs s.abs := He.obsX_eq (HandSHeadRun.getT_eq s)
theorem runF (w : World) : RunI hR hq hk hob 8000 8000 "math" hNames (w.withFollow "special-get-raises" false) := by
  unfold RunI
  kernel_rfl
theorem runT (w : World) : RunI hR hq hk hob 8000 8000 "math" hNames (w.withFollow "special-get-raises" true) := by
  unfold RunI
  kernel_rfl
theorem hrun (w : World) : RunI hR hq hk hob 8000 8000 "math" hNames w := PySem.W.byRow2 "special-get-raises" (P := fun w => RunI hR hq hk hob 8000 8000 "math" hNames w) runF runT w
end Odd

set_option Elab.async false
set_option linter.all false
set_option maxRecDepth 100000
set_option maxHeartbeats 0
/-! Part 35: the end. -/
namespace Odd
open PySem PySem.Spec PyProof.Rows L2
theorem fen_eq {p : Program} {m : PySem.Str} (h1 : importedModules p.main.body = [m]) (h2 : p.main.body.any namesNumpy = false) (s : Shared) : fenceModules? p s = fenceModule? m s := by
  unfold fenceModules?
  rw [h1, h2]
  unfold fenceAll?
  cases e : fenceModule? m s <;> simp [fenceAll?]
theorem hfen (s : Shared) : fenceModules? hR.prog s = fenceModule? "math" s := fen_eq (by kernel_rfl) (by kernel_rfl) s
theorem end_facts {P : Program} {w : World} {K : PySem.W.Frag} {h : Heap} {mg : Str → Option Value} {f : Addr} (X : K.In h) (G : h.Ns mainGlobals mg) (hfa : mg ("law" : Str) = some (.ref f)) (c : He.SaysX fas fns tabs [] exB w h K) :
    ∃ fd : FuncData, (∀ (s : Shared) (v : Value), BindsTo s fd ⟨[v], []⟩ [("_law_script", v)]) ∧ ∀ base : Heap, K.In base → base.Ns mainGlobals mg → FnOk P w K mg base CX0 13 f fd ["_law_script"] (spLaw K) := by
  have F : Fs w h K mg := ⟨c, G, X⟩
  obtain ⟨f', fd, h1, Fd⟩ := F.d_law
  have e := hfa.symm.trans h1
  cases e
  have b := FunD.bindsA (ps := ["_law_script"]) Fd fun _ _ _ _ _ _ us hl => match us, hl with | [_], _ => rfl
  exact ⟨fd, fun s v => b s [v] rfl, fun base _ _ => law_fun F Fd⟩
end Odd
open PySem PySem.W PySem.Calls PyProof.Rows
theorem PySem.Challenge.cw_oddscall_k30_whole_positive_by_runs_holds : PySem.Challenge.rw_oddscall_k30_whole_positive_by_runs.Holds := by
  w_on; o_law
  refine Odd.head_imp (r := Odd.hR) (q := Odd.hq) (H := Odd.hk) (ob := Odd.hob) (M1 := 8000) (M := 8000) (m := "math") (loose := Odd.hNames) (d := HandSHeadRun.topDef Odd.hR.prog 73) (kwd := []) Odd.hob_eq Odd.hfen Odd.hrun
    (by kernel_rfl) (by kernel_rfl) (by kernel_rfl) (by rfl) (by first | assumption | decide +kernel) (by decide +kernel) ⟨rfl, rfl, rfl, rfl, rfl, by decide +kernel⟩ ?hw ?hc
  case hw => w_witness2
  case hc =>
    refine L2.walk_ofE (l := PySem.Challenge.rw_oddscall_k30_whole_positive_by_runs) (n := 63) (k := 13) (x := "_law_script") (CX := L2.CX0) rfl (by decide) (by kernel_rfl) ⟨rfl, by decide, by decide⟩ ?F (fun _ _ _ _ z => z)
    intro w mg fa h Y G hmg0
    obtain ⟨K, KX, c⟩ := Y
    have hmg : mg ("law" : PySem.Str) = some (.ref fa) := by
      have e : (HandSHeadRun.topDef Odd.hR.prog 73).name = ("law" : PySem.Str) := by kernel_rfl
      rw [← e]
      exact hmg0
    obtain ⟨fd, hb, hF⟩ := Odd.end_facts (P := (PySem.Challenge.rw_oddscall_k30_whole_positive_by_runs).prog) (w := w) KX G hmg c
    exact ⟨K, fd, Odd.spLaw K, KX, hb, fun H a ns hl _ hS => ⟨a, ns, rfl, hS, hl, fun _ => rfl⟩, hF⟩

