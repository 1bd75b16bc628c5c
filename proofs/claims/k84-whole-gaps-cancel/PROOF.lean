import PyProof.Rows.All
import Wide.All
import OpenK.AllK
import Wide.FinOn
import HandS.ForMost
import HandS.Wide
import HandS.WideBits
import HandS.Gcd
import HandS.TupAny
import HandS.Style
import HandS.Deep
import HandS.IsInst
import HandS.Codes
import HandS.NoneIn
import HandS.Zip
import HandS.Conv
import HandS.Flow
import KE.SortData
import HandS.Strs
import HandS.More
import KE.GoesEnum
import KE.GoesMore
import KE.GoesZip
import HandS.DictComp
import HandS.Small
import KE.KRevSl
import PySem.Challenge.RW_paidwhatever_k84_whole_gaps_cancel
set_option Elab.async false
set_option linter.all false
set_option maxRecDepth 100000
set_option maxHeartbeats 4000000
/-! Dl: Python's values as plain data over the hand layer. D: a value; Cell: a thing that changes; Sto: all that changes, by number.
   SE X e f: the expression e does what the plain function f says; SS: a statement; one theorem a construct. -/
namespace Dl
open PySem PySem.Spec PyProof.Rows L2

/-- a value: plain, or the number of a cell -/
inductive D where
  | non | bl (b : Bool) | int (i : Int) | str (x : Str) | tup (l : List D) | loc (n : Nat)

/-- what stands in a cell: a list, a list that is only read, a dict with keys of ints and texts, one with tuples of these -/
inductive Cell where
  | lst (l : List D) | ro (l : List D) | dk (l : List (Key × D)) | dt (l : List (List Key × D))
  | dkf (l : List (Key × D)) | dtf (l : List (List Key × D))
abbrev Sto := List Cell
abbrev Ctx := List (Option D)

mutual
def D.lo (n : Nat) : D → Bool
  | .tup l => D.los n l
  | .loc m => decide (m < n)
  | .non => true
  | .bl _ => true
  | .int _ => true
  | .str _ => true
def D.los (n : Nat) : List D → Bool
  | [] => true
  | d :: r => D.lo n d && D.los n r
end
def Cell.lo (n : Nat) : Cell → Bool
  | .lst l => D.los n l
  | .ro l => D.los n l
  | .dk l => D.los n (l.map (·.2))
  | .dt l => D.los n (l.map (·.2))
  | .dkf l => D.los n (l.map (·.2))
  | .dtf l => D.los n (l.map (·.2))

mutual
/-- the value v stands for d -/
inductive RV (K : PySem.W.Frag) (H : Hp) (μ : List Addr) : D → V → Prop
  | non : RV K H μ .non .non
  | bl (b : Bool) : RV K H μ (.bl b) (.bl b)
  | int (i : Int) : RV K H μ (.int i) (.int i)
  | str (x : Str) : RV K H μ (.str x) (.str x)
  | tup {a : Addr} {vs : List V} {l : List D} : H a = some (.tup vs) → RVs K H μ l vs → RV K H μ (.tup l) (.ref a)
  | loc {a : Addr} {n : Nat} : μ[n]? = some a → RV K H μ (.loc n) (.ref a)
inductive RVs (K : PySem.W.Frag) (H : Hp) (μ : List Addr) : List D → List V → Prop
  | nil : RVs K H μ [] []
  | cons {d : D} {v : V} {l : List D} {vs : List V} : RV K H μ d v → RVs K H μ l vs → RVs K H μ (d :: l) (v :: vs)
end

/-- what is kept from one heap to a later one -/
structure Ext (K : PySem.W.Frag) (H : Hp) (μ : List Addr) (H' : Hp) (μ' : List Addr) : Prop where
  tup : ∀ a xs, H a = some (.tup xs) → H' a = some (.tup xs)
  pre : μ <+: μ'
section
variable {K : PySem.W.Frag} {H H' H2 : Hp} {μ μ' μ2 : List Addr} {d : D} {v : V} {l : List D} {vs : List V}
theorem Ext.refl : Ext K H μ H μ := ⟨fun _ _ h => h, List.prefix_refl _⟩
theorem Ext.trans (a : Ext K H μ H' μ') (b : Ext K H' μ' H2 μ2) : Ext K H μ H2 μ2 := ⟨fun x xs h => b.tup x xs (a.tup x xs h), a.pre.trans b.pre⟩
theorem Ext.same (s : Same H H') : Ext K H μ H' μ := ⟨fun a xs h => s _ _ h, List.prefix_refl _⟩
theorem Ext.grow (s : Same H H') (p : List Addr) : Ext K H μ H' (μ ++ p) := ⟨fun a xs h => s _ _ h, List.prefix_append _ _⟩
theorem get_pre {n : Nat} {a : Addr} (p : μ <+: μ') (h : μ[n]? = some a) : μ'[n]? = some a := by
  obtain ⟨t, rfl⟩ := p
  rw [List.getElem?_append_left (List.getElem?_eq_some_iff.mp h).1]
  exact h
mutual
theorem RV.ext (e : Ext K H μ H' μ') : ∀ {d : D} {v : V}, RV K H μ d v → RV K H' μ' d v
  | _, _, .non => .non
  | _, _, .bl b => .bl b
  | _, _, .int i => .int i
  | _, _, .str x => .str x
  | _, _, .tup h r => .tup (e.tup _ _ h) (RVs.ext e r)
  | _, _, .loc h => .loc (get_pre e.pre h)
theorem RVs.ext (e : Ext K H μ H' μ') : ∀ {l : List D} {vs : List V}, RVs K H μ l vs → RVs K H' μ' l vs
  | _, _, .nil => .nil
  | _, _, .cons h r => .cons (RV.ext e h) (RVs.ext e r)
end
mutual
theorem RV.trunc {n : Nat} : ∀ {d : D} {v : V}, RV K H μ d v → d.lo n = true → RV K H (μ.take n) d v
  | _, _, .non, _ => .non
  | _, _, .bl b, _ => .bl b
  | _, _, .int i, _ => .int i
  | _, _, .str x, _ => .str x
  | _, _, .tup h r, b => .tup h (RVs.trunc r (by simpa [D.lo] using b))
  | _, _, .loc (n := m) h, b => .loc (by
      have b' : m < n := by simpa [D.lo] using b
      rw [List.getElem?_take_of_lt b']
      exact h)
theorem RVs.trunc {n : Nat} : ∀ {l : List D} {vs : List V}, RVs K H μ l vs → D.los n l = true → RVs K H (μ.take n) l vs
  | _, _, .nil, _ => .nil
  | _, _, .cons h r, b => by
    have b' := by simpa [D.los] using b
    exact .cons (RV.trunc h b'.1) (RVs.trunc r b'.2)
end
theorem RVs.length : ∀ {l : List D} {vs : List V}, RVs K H μ l vs → l.length = vs.length
  | _, _, .nil => rfl
  | _, _, .cons _ r => by simp [RVs.length r]
theorem RVs.get : ∀ {l : List D} {vs : List V} {i : Nat} {d : D}, RVs K H μ l vs → l[i]? = some d → ∃ v, vs[i]? = some v ∧ RV K H μ d v
  | _, _, _, _, .nil, e => by simp at e
  | _, _, 0, _, .cons h r, e => by simp at e; subst e; exact ⟨_, rfl, h⟩
  | _, _, i + 1, _, .cons h r, e => by
    obtain ⟨v, e1, e2⟩ := RVs.get (i := i) r (by simpa using e)
    exact ⟨v, by simpa using e1, e2⟩
theorem RVs.getV : ∀ {l : List D} {vs : List V} {i : Nat} {v : V}, RVs K H μ l vs → vs[i]? = some v → ∃ d, l[i]? = some d ∧ RV K H μ d v
  | _, _, _, _, .nil, e => by simp at e
  | _, _, 0, _, .cons h r, e => by simp at e; subst e; exact ⟨_, rfl, h⟩
  | _, _, i + 1, _, .cons h r, e => by
    obtain ⟨v, e1, e2⟩ := RVs.getV (i := i) r (by simpa using e)
    exact ⟨v, by simpa using e1, e2⟩
theorem RVs.append : ∀ {l m : List D} {vs ws : List V}, RVs K H μ l vs → RVs K H μ m ws → RVs K H μ (l ++ m) (vs ++ ws)
  | _, _, _, _, .nil, h => h
  | _, _, _, _, .cons a r, h => .cons a (RVs.append r h)
theorem RVs.take : ∀ (n : Nat) {l : List D} {vs : List V}, RVs K H μ l vs → RVs K H μ (l.take n) (vs.take n)
  | 0, _, _, _ => .nil
  | _ + 1, _, _, .nil => .nil
  | n + 1, _, _, .cons a r => .cons a (RVs.take n r)
theorem RVs.drop : ∀ (n : Nat) {l : List D} {vs : List V}, RVs K H μ l vs → RVs K H μ (l.drop n) (vs.drop n)
  | 0, _, _, h => h
  | _ + 1, _, _, .nil => .nil
  | n + 1, _, _, .cons a r => RVs.drop n r
theorem RVs.set {d : D} {v : V} (hd : RV K H μ d v) : ∀ {l : List D} {vs : List V} (i : Nat), RVs K H μ l vs → RVs K H μ (l.set i d) (vs.set i v)
  | _, _, _, .nil => .nil
  | _, _, 0, .cons _ r => .cons hd r
  | _, _, i + 1, .cons a r => .cons a (RVs.set hd i r)
theorem RVs.snoc {d : D} {v : V} (h : RVs K H μ l vs) (hd : RV K H μ d v) : RVs K H μ (l ++ [d]) (vs ++ [v]) := h.append (.cons hd .nil)
theorem RVs.reverse : ∀ {l : List D} {vs : List V}, RVs K H μ l vs → RVs K H μ l.reverse vs.reverse
  | _, _, .nil => .nil
  | _, _, .cons a r => by
    rw [List.reverse_cons, List.reverse_cons]
    exact (RVs.reverse r).snoc a
theorem RVs.rep (h : RVs K H μ l vs) : ∀ k : Nat, RVs K H μ (List.replicate k l).flatten (List.replicate k vs).flatten
  | 0 => .nil
  | k + 1 => by
    rw [List.replicate_succ, List.replicate_succ, List.flatten_cons, List.flatten_cons]
    exact h.append (RVs.rep h k)
theorem RVs.eraseIdx : ∀ {l : List D} {vs : List V} (i : Nat), RVs K H μ l vs → RVs K H μ (l.eraseIdx i) (vs.eraseIdx i)
  | _, _, _, .nil => .nil
  | _, _, 0, .cons _ r => r
  | _, _, i + 1, .cons a r => .cons a (RVs.eraseIdx i r)
theorem RVs.dropLast (h : RVs K H μ l vs) : RVs K H μ l.dropLast vs.dropLast := by
  rw [List.dropLast_eq_take, List.dropLast_eq_take, h.length]
  exact h.take _
end

/-! ### the store -/
abbrev RK (K : PySem.W.Frag) (H : Hp) (μ : List Addr) {κ : Type} : List (κ × D) → List (κ × V) → Prop := fun l ws => l.map (·.1) = ws.map (·.1) ∧ RVs K H μ (l.map (·.2)) (ws.map (·.2))
/-- a list that is never written -/
def RoL (K : PySem.W.Frag) (H : Hp) (a : Addr) (xs : List V) : Prop :=
  (∃ o, H a = some (.frz o (.lst xs))) ∨ ∃ (o : Obj) (its : Array Value) (n : Nat), K.lookup a = some o ∧ o.cls = .type "list" ∧ o.dict = none ∧ o.data = .seq its n ∧ its.size ≤ sizeLine ∧ Vals xs its.toList
theorem RoL.seq {K : PySem.W.Frag} {H : Hp} {a : Addr} {xs : List V} (h : RoL K H a xs) : SqL K H a xs := by
  rcases h with ⟨o, h⟩ | h
  · exact .inl (.inr ⟨o, h⟩)
  · exact .inr h
theorem RoL.of {K : PySem.W.Frag} {H : Hp} {a : Addr} {xs : List V} (h : SqL K H a xs) (o : Only H) : RoL K H a xs := by
  rcases h with (h | h) | h
  · rcases o a with z | ⟨_, _, z⟩
    · rw [z] at h; cases h
    · rw [z] at h; cases h
  · exact .inl h
  · exact .inr h
def Cell.isRo : Cell → Bool
  | .ro _ => true
  | _ => false
def RC (K : PySem.W.Frag) (H : Hp) (μ : List Addr) (a : Addr) : Cell → Prop
  | .lst l => ∃ vs, H a = some (.lst vs) ∧ RVs K H μ l vs
  | .ro l => ∃ vs, RoL K H a vs ∧ RVs K H μ l vs
  | .dk l => ∃ ws, H a = some (.dK ws) ∧ RK K H μ l ws
  | .dt l => ∃ ws, H a = some (.dT ws) ∧ RK K H μ l ws
  | .dkf l => ∃ o ws, H a = some (.frz o (.dK ws)) ∧ RK K H μ l ws
  | .dtf l => ∃ o ws, H a = some (.frz o (.dT ws)) ∧ RK K H μ l ws
structure RS (K : PySem.W.Frag) (H : Hp) (μ : List Addr) (S : Sto) : Prop where
  len : μ.length = S.length
  inj : ∀ (n m : Nat) (a : Addr) (c c' : Cell), S[n]? = some c → S[m]? = some c' → c.isRo = false → c'.isRo = false → μ[n]? = some a → μ[m]? = some a → n = m
  cell : ∀ (n : Nat) (c : Cell), S[n]? = some c → ∃ a, μ[n]? = some a ∧ RC K H μ a c
structure RG (K : PySem.W.Frag) (H : Hp) (μ : List Addr) (Γ : Ctx) (σ : L2.St) : Prop where
  len : Γ.length = σ.length
  slot : ∀ (i : Nat) (d : D), Γ[i]? = some (some d) → ∃ v, σ[i]? = some (some v) ∧ RV K H μ d v
section
variable {K : PySem.W.Frag} {H H' : Hp} {μ μ' : List Addr} {Γ : Ctx} {σ : L2.St} {S : Sto} {a p : Addr} {c c' : Cell} {o o' : HO} {n : Nat}
theorem RG.ext (g : RG K H μ Γ σ) (e : Ext K H μ H' μ') : RG K H' μ' Γ σ := ⟨g.len, fun i d h => let ⟨v, h1, h2⟩ := g.slot i d h; ⟨v, h1, h2.ext e⟩⟩
theorem RoL.keep {xs : List V} (h : RoL K H a xs) (k : ∀ o, H a = some o → H' a = some o) : RoL K H' a xs := by
  rcases h with ⟨o, h⟩ | h
  · exact .inl ⟨o, k _ h⟩
  · exact .inr h
/-- the cell's content at a heap where its own object stands as it stood -/
theorem RC.keep (r : RC K H μ a c) (e : Ext K H μ H' μ') (h : ∀ o, H a = some o → H' a = some o) : RC K H' μ' a c := by
  cases c with
  | lst l => obtain ⟨vs, h1, h2⟩ := r; exact ⟨vs, h _ h1, h2.ext e⟩
  | ro l => obtain ⟨vs, h1, h2⟩ := r; exact ⟨vs, h1.keep h, h2.ext e⟩
  | dk l => obtain ⟨ws, h1, h2, h3⟩ := r; exact ⟨ws, h _ h1, h2, h3.ext e⟩
  | dt l => obtain ⟨ws, h1, h2, h3⟩ := r; exact ⟨ws, h _ h1, h2, h3.ext e⟩
  | dkf l => obtain ⟨o, ws, h1, h2, h3⟩ := r; exact ⟨o, ws, h _ h1, h2, h3.ext e⟩
  | dtf l => obtain ⟨o, ws, h1, h2, h3⟩ := r; exact ⟨o, ws, h _ h1, h2, h3.ext e⟩
theorem RC.some (r : RC K H μ a c) (h : c.isRo = false) : ∃ o, H a = some o ∧ (∀ xs, o ≠ .tup xs) ∧ ∀ ob xs, o ≠ .frz ob (.tup xs) := by
  cases c with
  | lst l => obtain ⟨vs, h1, h2⟩ := r; exact ⟨_, h1, by simp, by simp⟩
  | ro l => exact absurd h (by simp [Cell.isRo])
  | dk l => obtain ⟨ws, h1, h2, h3⟩ := r; exact ⟨_, h1, by simp, by simp⟩
  | dt l => obtain ⟨ws, h1, h2, h3⟩ := r; exact ⟨_, h1, by simp, by simp⟩
  | dkf l => obtain ⟨o, ws, h1, h2, h3⟩ := r; exact ⟨_, h1, by simp, by simp⟩
  | dtf l => obtain ⟨o, ws, h1, h2, h3⟩ := r; exact ⟨_, h1, by simp, by simp⟩
/-- the heap grew by things that no cell tells of -/
theorem RS.same (r : RS K H μ S) (s : Same H H') : RS K H' μ S := ⟨r.len, r.inj, fun n c h => let ⟨a, h1, h2⟩ := r.cell n c h; ⟨a, h1, h2.keep (.same s) fun o => s _ o⟩⟩
theorem same_upd (h : H p = none) : Same H (upd H p o) := fun b u e => by rw [upd_ne (ne_of_none e h)]; exact e
/-- the address of a cell -/
theorem RS.at (r : RS K H μ S) {n : Nat} (h : μ[n]? = some a) : ∃ c, S[n]? = some c ∧ RC K H μ a c := by
  have hl := (List.getElem?_eq_some_iff.mp h).1
  rw [r.len] at hl
  obtain ⟨b, h1, h2⟩ := r.cell n S[n] (List.getElem?_eq_getElem hl)
  rw [h] at h1; cases h1
  exact ⟨_, List.getElem?_eq_getElem hl, h2⟩
theorem RS.atc (r : RS K H μ S) (h : μ[n]? = some a) (hc : S[n]? = some c) : RC K H μ a c := by
  obtain ⟨b, h1, h2⟩ := r.cell n c hc
  rw [h] at h1; cases h1
  exact h2
/-- a new cell -/
theorem RS.alloc (r : RS K H μ S) (h : H p = none) (hc : RC K (upd H p o) (μ ++ [p]) p c) : RS K (upd H p o) (μ ++ [p]) (S ++ [c]) := by
  refine ⟨by simp [r.len], fun n m a c1 c2 h1 h2 i1 i2 e1 e2 => ?_, fun n c1 h1 => ?_⟩
  · have key : ∀ (n : Nat) (c1 : Cell), (S ++ [c])[n]? = some c1 → c1.isRo = false → (μ ++ [p])[n]? = some a → (n < S.length ∧ S[n]? = some c1 ∧ μ[n]? = some a ∧ a ≠ p) ∨ (n = S.length ∧ a = p) := fun n c1 h1 i1 e1 => by
      by_cases hn : n < S.length
      · rw [List.getElem?_append_left hn] at h1
        rw [List.getElem?_append_left (by rw [r.len]; exact hn)] at e1
        obtain ⟨o1, q, _⟩ := (r.atc e1 h1).some i1
        exact .inl ⟨hn, h1, e1, ne_of_none q h⟩
      · have h3 := (List.getElem?_eq_some_iff.mp h1).1
        rw [List.length_append, List.length_singleton] at h3
        have h4 : n = S.length := by omega
        subst h4
        have h5 : (μ ++ [p])[S.length]? = Option.some p := by rw [← r.len]; simp
        rw [h5] at e1
        exact .inr ⟨rfl, (Option.some.inj e1).symm⟩
    rcases key n c1 h1 i1 e1 with ⟨l1, q1, q2, q3⟩ | ⟨l1, q3⟩
    · rcases key m c2 h2 i2 e2 with ⟨l2, q4, q5, _⟩ | ⟨_, q6⟩
      · exact r.inj n m a c1 c2 q1 q4 i1 i2 q2 q5
      · exact absurd q6 q3
    · rcases key m c2 h2 i2 e2 with ⟨l2, q4, q5, q6⟩ | ⟨l2, _⟩
      · exact absurd q3 q6
      · rw [l1, l2]
  · by_cases hn : n < S.length
    · rw [List.getElem?_append_left hn] at h1
      obtain ⟨a, e1, e2⟩ := r.cell n c1 h1
      exact ⟨a, by rw [List.getElem?_append_left (by rw [r.len]; exact hn)]; exact e1, e2.keep (.grow (same_upd h) [p]) fun o => same_upd h _ o⟩
    · have h3 := (List.getElem?_eq_some_iff.mp h1).1
      rw [List.length_append, List.length_singleton] at h3
      have h4 : n = S.length := by omega
      subst h4
      rw [List.getElem?_append_right (Nat.le_refl _), Nat.sub_self] at h1
      cases h1
      exact ⟨p, by rw [← r.len]; simp, hc⟩
theorem ext_upd (h1 : H p = some o) (ht : ∀ xs, o ≠ .tup xs) : Ext K H μ (upd H p o') μ := ⟨fun a xs q => by
  have ne : a ≠ p := fun w => by
    subst w
    rw [h1] at q; cases q
    exact ht _ rfl
  rw [upd_ne ne]; exact q, List.prefix_refl _⟩
/-- a cell written -/
theorem RS.write (r : RS K H μ S) (hn : μ[n]? = some p) (hS : S[n]? = some c) (hr : c.isRo = false) (hr' : c'.isRo = false) (hc : RC K (upd H p o') μ p c') : RS K (upd H p o') μ (S.set n c') ∧ Ext K H μ (upd H p o') μ := by
  obtain ⟨o, q1, q2, q3⟩ := (r.atc hn hS).some hr
  have e : Ext K H μ (upd H p o') μ := ext_upd q1 q2
  have hl := (List.getElem?_eq_some_iff.mp hS).1
  have rd : ∀ (m : Nat) (c1 : Cell), (S.set n c')[m]? = Option.some c1 → c1.isRo = false → ∃ c2, S[m]? = Option.some c2 ∧ c2.isRo = false := fun m c1 h i => by
    by_cases hm : n = m
    · subst hm; exact ⟨c, hS, hr⟩
    · rw [List.getElem?_set_ne hm] at h; exact ⟨c1, h, i⟩
  refine ⟨⟨by simp [r.len], fun m1 m2 a c1 c2 h1 h2 i1 i2 e1 e2 => ?_, fun m c1 h1 => ?_⟩, e⟩
  · obtain ⟨d1, x1, y1⟩ := rd m1 c1 h1 i1
    obtain ⟨d2, x2, y2⟩ := rd m2 c2 h2 i2
    exact r.inj m1 m2 a d1 d2 x1 x2 y1 y2 e1 e2
  · by_cases hm : n = m
    · subst hm
      rw [List.getElem?_set_self hl] at h1
      cases h1
      exact ⟨p, hn, hc⟩
    · rw [List.getElem?_set_ne hm] at h1
      obtain ⟨a, e1, e2⟩ := r.cell m c1 h1
      refine ⟨a, e1, ?_⟩
      by_cases hro : c1.isRo = true
      · cases c1 with
        | ro l =>
          obtain ⟨vs, z1, z2⟩ := e2
          refine ⟨vs, ?_, z2.ext e⟩
          rcases z1 with ⟨ob, z1⟩ | z1
          · have ne : a ≠ p := fun w => by
              subst w
              rw [q1] at z1; cases z1
              have w2 := r.atc hn hS
              cases c with
              | ro l => exact absurd hr (by simp [Cell.isRo])
              | lst l => obtain ⟨vs, h1, h2⟩ := w2; rw [q1] at h1; cases h1
              | dk l => obtain ⟨ws, h1, h2, h3⟩ := w2; rw [q1] at h1; cases h1
              | dt l => obtain ⟨ws, h1, h2, h3⟩ := w2; rw [q1] at h1; cases h1
              | dkf l => obtain ⟨o, ws, h1, h2, h3⟩ := w2; rw [q1] at h1; cases h1
              | dtf l => obtain ⟨o, ws, h1, h2, h3⟩ := w2; rw [q1] at h1; cases h1
            exact .inl ⟨ob, by rw [upd_ne ne]; exact z1⟩
          · exact .inr z1
        | _ => exact absurd hro (by simp [Cell.isRo])
      · have ne : a ≠ p := fun w => by
          subst w
          exact hm (r.inj n m a c c1 hS h1 hr (by simpa using hro) hn e1)
        exact e2.keep e fun o => fun z => by rw [upd_ne ne]; exact z
theorem RC.trunc (r : RC K H μ a c) (h : c.lo n = true) : RC K H (μ.take n) a c := by
  cases c with
  | lst l => obtain ⟨vs, h1, h2⟩ := r; exact ⟨vs, h1, h2.trunc h⟩
  | ro l => obtain ⟨vs, h1, h2⟩ := r; exact ⟨vs, h1, h2.trunc h⟩
  | dk l => obtain ⟨ws, h1, h2, h3⟩ := r; exact ⟨ws, h1, h2, h3.trunc h⟩
  | dt l => obtain ⟨ws, h1, h2, h3⟩ := r; exact ⟨ws, h1, h2, h3.trunc h⟩
  | dkf l => obtain ⟨o, ws, h1, h2, h3⟩ := r; exact ⟨o, ws, h1, h2, h3.trunc h⟩
  | dtf l => obtain ⟨o, ws, h1, h2, h3⟩ := r; exact ⟨o, ws, h1, h2, h3.trunc h⟩
/-- the cells from n on forgotten: nothing that stays speaks of them -/
theorem RS.trunc (r : RS K H μ S) (h : (S.take n).all (Cell.lo n) = true) : RS K H (μ.take n) (S.take n) := by
  have cut : ∀ {α : Type} (l : List α) (m : Nat) (x : α), (l.take n)[m]? = Option.some x → l[m]? = Option.some x := fun l m x h => by
    by_cases hm : m < n
    · rw [List.getElem?_take_of_lt hm] at h; exact h
    · rw [List.getElem?_eq_none (by rw [List.length_take]; omega)] at h; cases h
  refine ⟨by simp [r.len], fun m1 m2 a c1 c2 h1 h2 i1 i2 e1 e2 => r.inj m1 m2 a c1 c2 (cut _ _ _ h1) (cut _ _ _ h2) i1 i2 (cut _ _ _ e1) (cut _ _ _ e2), fun m c1 h1 => ?_⟩
  obtain ⟨a, e1, e2⟩ := r.cell m c1 (cut _ _ _ h1)
  have hm : m < n := by
    have := (List.getElem?_eq_some_iff.mp h1).1
    rw [List.length_take] at this; omega
  exact ⟨a, by rw [List.getElem?_take_of_lt hm]; exact e1, e2.trunc (List.all_eq_true.mp h c1 (List.mem_of_getElem? h1))⟩
end
end Dl

/-! DlE: expressions, by what they compute -/
namespace Dl
open PySem PySem.Spec PyProof.Rows L2

abbrev FE := Ctx → Sto → Option (D × Sto)
abbrev FT := Ctx → Sto → Option (Bool × Sto)
abbrev FA := Ctx → Sto → Option (List D × Sto)
/-- an operation upon two values -/
abbrev O2 := D → D → Sto → Option (D × Sto)
/-- a call upon values -/
abbrev FF := List D → Sto → Option (D × Sto)

/-- what is wanted behind: wherever the store stands so and the value is d -/
def Kt (K : PySem.W.Frag) (H : Hp) (μ : List Addr) (S' : Sto) (d : D) (Q : VK) : Prop := ∀ v H' μ', RS K H' μ' S' → Ext K H μ H' μ' → RV K H' μ' d v → Q v H'
def KtB (K : PySem.W.Frag) (H : Hp) (μ : List Addr) (S' : Sto) (b : Bool) (Q : Bool → Hp → Prop) : Prop := ∀ H' μ', RS K H' μ' S' → Ext K H μ H' μ' → Q b H'
def KtA (K : PySem.W.Frag) (H : Hp) (μ : List Addr) (S' : Sto) (ds : List D) (Q : List V → Hp → Prop) : Prop := ∀ vs H' μ', RS K H' μ' S' → Ext K H μ H' μ' → RVs K H' μ' ds vs → Q vs H'
theorem Kt.after {K : PySem.W.Frag} {H H1 : Hp} {μ μ1 : List Addr} {S' : Sto} {d : D} {Q : VK} (k : Kt K H μ S' d Q) (e : Ext K H μ H1 μ1) : Kt K H1 μ1 S' d Q := fun v H' μ' r e' rv => k v H' μ' r (e.trans e') rv
theorem KtB.after {K : PySem.W.Frag} {H H1 : Hp} {μ μ1 : List Addr} {S' : Sto} {d : Bool} {Q : Bool → Hp → Prop} (k : KtB K H μ S' d Q) (e : Ext K H μ H1 μ1) : KtB K H1 μ1 S' d Q := fun H' μ' r e' => k H' μ' r (e.trans e')
theorem KtA.after {K : PySem.W.Frag} {H H1 : Hp} {μ μ1 : List Addr} {S' : Sto} {d : List D} {Q : List V → Hp → Prop} (k : KtA K H μ S' d Q) (e : Ext K H μ H1 μ1) : KtA K H1 μ1 S' d Q := fun v H' μ' r e' rv => k v H' μ' r (e.trans e') rv

def tD (K : PySem.W.Frag) (f : FE) : TE := fun σ H Q => ∃ Γ S μ d S', RG K H μ Γ σ ∧ RS K H μ S ∧ f Γ S = some (d, S') ∧ Kt K H μ S' d Q
def tT (K : PySem.W.Frag) (f : FT) : TT := fun σ H Q => ∃ Γ S μ d S', RG K H μ Γ σ ∧ RS K H μ S ∧ f Γ S = some (d, S') ∧ KtB K H μ S' d Q
def tA (K : PySem.W.Frag) (f : FA) : TA := fun σ H Q => ∃ Γ S μ d S', RG K H μ Γ σ ∧ RS K H μ S ∧ f Γ S = some (d, S') ∧ KtA K H μ S' d Q
/-- e does what f says -/
def SE (X : Cx) (e : Expr) (f : FE) : Prop := PE X e (tD X.K f)
def ST (X : Cx) (e : Expr) (f : FT) : Prop := PT X e (tT X.K f)
def SA (X : Cx) (es : List Expr) (f : FA) : Prop := PA X es (tA X.K f)

theorem imp_e {X : Cx} {e : Expr} {t t' : TE} (h : PE X e t) (i : ∀ σ H Q, t' σ H Q → t σ H Q) : PE X e t' := ⟨fun pins s σ H Q I q => h.run pins s σ H Q I (i σ H Q q)⟩
theorem imp_t {X : Cx} {e : Expr} {t t' : TT} (h : PT X e t) (i : ∀ σ H Q, t' σ H Q → t σ H Q) : PT X e t' := ⟨fun pins s σ H Q I q => h.run pins s σ H Q I (i σ H Q q)⟩
theorem imp_w {X : Cx} {e : Expr} {t t' : TT} (h : PW X e t) (i : ∀ σ H Q, t' σ H Q → t σ H Q) : PW X e t' := ⟨fun w pins s σ H Q I q => h.run w pins s σ H Q I (i σ H Q q)⟩
theorem imp_a {X : Cx} {e : List Expr} {t t' : TA} (h : PA X e t) (i : ∀ σ H Q, t' σ H Q → t σ H Q) : PA X e t' := ⟨fun pos pins s σ H Q I q => h.run pos pins s σ H Q I (i σ H Q q)⟩
section
variable {X : Cx} {e a b c : Expr} {es rest : List Expr} {f fa fb fc : FE} {g ga gb : FT} {pos pos' p : Pos}
theorem SE.mk {t : TE} (h : PE X e t) (i : ∀ σ H Q Γ S μ d S', RG X.K H μ Γ σ → RS X.K H μ S → f Γ S = some (d, S') → Kt X.K H μ S' d Q → t σ H Q) : SE X e f :=
  imp_e h fun σ H Q ⟨Γ, S, μ, d, S', h1, h2, h3, h4⟩ => i σ H Q Γ S μ d S' h1 h2 h3 h4
theorem ST.mk {t : TT} (h : PT X e t) (i : ∀ σ H Q Γ S μ d S', RG X.K H μ Γ σ → RS X.K H μ S → g Γ S = some (d, S') → KtB X.K H μ S' d Q → t σ H Q) : ST X e g :=
  imp_t h fun σ H Q ⟨Γ, S, μ, d, S', h1, h2, h3, h4⟩ => i σ H Q Γ S μ d S' h1 h2 h3 h4
theorem SA.mk {t : TA} {g : FA} (h : PA X es t) (i : ∀ σ H Q Γ S μ d S', RG X.K H μ Γ σ → RS X.K H μ S → g Γ S = some (d, S') → KtA X.K H μ S' d Q → t σ H Q) : SA X es g :=
  imp_a h fun σ H Q ⟨Γ, S, μ, d, S', h1, h2, h3, h4⟩ => i σ H Q Γ S μ d S' h1 h2 h3 h4

/-! ### names, constants -/
def eVar (i : Nat) : FE := fun Γ S => match Γ[i]? with
  | some (some d) => some (d, S)
  | _ => none
def eC (d : D) : FE := fun _ S => some (d, S)
theorem se_v (i : Nat) {x : Str} (hN : X.N[i]? = some x := by rfl) (hv : Vis X.env.scope x := by first | exact Or.inl rfl | exact Or.inr (Or.inl rfl) | exact Or.inr (Or.inr rfl)) (hd : (x == ("__debug__" : Str)) = false := by decide)
    (hcd : (x == ("__classdict__" : Str)) = false := by decide) : SE X (.Name x pos) (eVar i) :=
  SE.mk (pe_var hN hv hd hcd) fun σ H Q Γ S μ d S' g r h k => by
    unfold eVar at h
    split at h
    · rename_i d' e
      cases h
      obtain ⟨v, h1, h2⟩ := g.slot i _ e
      exact ⟨v, h1, k v H μ r .refl h2⟩
    · cases h
theorem se_int {i j} : SE X (.Constant (.int i) j pos) (eC (.int i)) := SE.mk pe_int fun σ H Q Γ S μ d S' g r h k => by cases h; exact k _ H μ r .refl (.int i)
theorem se_bl {i j} : SE X (.Constant (.bool i) j pos) (eC (.bl i)) := SE.mk pe_bl fun σ H Q Γ S μ d S' g r h k => by cases h; exact k _ H μ r .refl (.bl i)
theorem se_non {j} : SE X (.Constant .none j pos) (eC .non) := SE.mk pe_non fun σ H Q Γ S μ d S' g r h k => by cases h; exact k _ H μ r .refl .non
theorem se_str {x j} : SE X (.Constant (.str x) j pos) (eC (.str x)) := SE.mk pe_str fun σ H Q Γ S μ d S' g r h k => by cases h; exact k _ H μ r .refl (.str x)

/-! ### two values in a row -/
def eBin (o : O2) (fa fb : FE) : FE := fun Γ S => (fa Γ S).bind fun p => (fb Γ p.2).bind fun q => o p.1 q.1 q.2
theorem bind_some {α β : Type} {o : Option α} {k : α → Option β} {y : β} (h : o.bind k = some y) : ∃ x, o = some x ∧ k x = some y := by
  cases o with
  | none => cases h
  | some x => exact ⟨x, rfl, h⟩
theorem map_some {α β : Type} {o : Option α} {k : α → β} {y : β} (h : o.map k = some y) : ∃ x, o = some x ∧ k x = y := by
  cases o with
  | none => cases h
  | some x => exact ⟨x, rfl, Option.some.inj h⟩
/-- two expressions read in a row -/
theorem two {σ : L2.St} {H : Hp} {Γ : Ctx} {S S' : Sto} {μ : List Addr} {d : D} {K : PySem.W.Frag} {o : O2} {R : V → V → Hp → Prop} (g : RG K H μ Γ σ) (r : RS K H μ S) (h : eBin o fa fb Γ S = some (d, S'))
    (i : ∀ x y dx dy H2 μ2 S2, RS K H2 μ2 S2 → Ext K H μ H2 μ2 → RV K H2 μ2 dx x → RV K H2 μ2 dy y → o dx dy S2 = some (d, S') → R x y H2) :
    tD K fa σ H fun x H1 => tD K fb σ H1 fun y H2 => R x y H2 := by
  obtain ⟨⟨dx, S1⟩, h1, h2⟩ := bind_some h
  obtain ⟨⟨dy, S2⟩, h3, h4⟩ := bind_some h2
  exact ⟨Γ, S, μ, dx, S1, g, r, h1, fun x H1 μ1 r1 e1 v1 => ⟨Γ, S1, μ1, dy, S2, g.ext e1, r1, h3, fun y H2 μ2 r2 e2 v2 => i x y dx dy H2 μ2 S2 r2 (e1.trans e2) (v1.ext e2) v2 h4⟩⟩
/-- a rule by values serves an operation on data -/
def RD (K : PySem.W.Frag) (r : R2) (o : O2) : Prop := ∀ (H : Hp) (S : Sto) (μ : List Addr) (x y : V) (dx dy d : D) (S' : Sto) (Q : VK), RS K H μ S → RV K H μ dx x → RV K H μ dy y → o dx dy S = some (d, S') → Kt K H μ S' d Q → r x y H Q
theorem se_op {op : Operator} {r : R2} {o : O2} (ho : OpR X (binaryOp op) r) (hr : RD X.K r o) (ha : SE X a fa) (hb : SE X b fb) : SE X (.BinOp a op b pos) (eBin o fa fb) :=
  SE.mk (pe_op ho ha hb) fun σ H Q Γ S μ d S' g r h k => two g r h fun x y dx dy H2 μ2 S2 r2 e2 v1 v2 h4 => hr H2 S2 μ2 x y dx dy d S' Q r2 v1 v2 h4 (k.after e2)
theorem se_cmp {op : CmpOp} {r : R2} {o : O2} (ho : OpR X (compareOp op) r) (hr : RD X.K r o) (ha : SE X a fa) (hb : SE X b fb) (hm : behindInMarks op b = false) : SE X (.Compare a [op] [b] pos) (eBin o fa fb) :=
  SE.mk (pe_cmpR ho ha hb hm) fun σ H Q Γ S μ d S' g r h k => two g r h fun x y dx dy H2 μ2 S2 r2 e2 v1 v2 h4 => hr H2 S2 μ2 x y dx dy d S' Q r2 v1 v2 h4 (k.after e2)
/-- a truth value as a test -/
def tst (f : FE) : FT := fun Γ S => (f Γ S).bind fun p => match p.1 with
  | .bl b => some (b, p.2)
  | _ => none
theorem tst_some {Γ : Ctx} {S S' : Sto} {b : Bool} (h : tst f Γ S = some (b, S')) : f Γ S = some (.bl b, S') := by
  obtain ⟨⟨d, S1⟩, h1, h2⟩ := bind_some h
  cases d with
  | bl b' => cases h2; exact h1
  | _ => cases h2
theorem st_cmp {op : CmpOp} {r : R2} {o : O2} (ho : OpR X (compareOp op) r) (hr : RD X.K r o) (ha : SE X a fa) (hb : SE X b fb) (hm : behindInMarks op b = false) : ST X (.Compare a [op] [b] pos) (tst (eBin o fa fb)) :=
  ST.mk (pt_cmpR ho ha hb hm) fun σ H Q Γ S μ d S' g r h k => two g r (tst_some h) fun x y dx dy H2 μ2 S2 r2 e2 v1 v2 h4 => hr H2 S2 μ2 x y dx dy _ S' _ r2 v1 v2 h4 fun v H' μ' r' e' rv => by
    cases rv
    exact ⟨d, rfl, k H' μ' r' (e2.trans e')⟩
/-- a op b op' c -/
def eChain (o o' : O2) (fa fb fc : FE) : FE := fun Γ S => (fa Γ S).bind fun p => (fb Γ p.2).bind fun q => (o p.1 q.1 q.2).bind fun t => match t.1 with
  | .bl true => (fc Γ t.2).bind fun w => o' q.1 w.1 w.2
  | .bl false => some (.bl false, t.2)
  | _ => none
theorem chain_run {r r' : R2} {o o' : O2} {σ : L2.St} {H : Hp} {Q : VK} {Γ : Ctx} {S S' : Sto} {μ : List Addr} {d : D} (hr : RD X.K r o) (hr' : RD X.K r' o') (g : RG X.K H μ Γ σ) (rs : RS X.K H μ S) (h : eChain o o' fa fb fc Γ S = some (d, S'))
    (k : Kt X.K H μ S' d Q) : tChain r r' (tD X.K fa) (tD X.K fb) (tD X.K fc) σ H Q := by
  obtain ⟨⟨dx, S1⟩, h1, h2⟩ := bind_some h
  obtain ⟨⟨dy, S2⟩, h3, h4⟩ := bind_some h2
  obtain ⟨⟨dz, S3⟩, h5, h6⟩ := bind_some h4
  refine ⟨Γ, S, μ, dx, S1, g, rs, h1, fun x H1 μ1 r1 e1 v1 => ⟨Γ, S1, μ1, dy, S2, g.ext e1, r1, h3, fun y H2 μ2 r2 e2 v2 => hr H2 S2 μ2 x y dx dy dz S3 _ r2 (v1.ext e2) v2 h5 fun z H3 μ3 r3 e3 v3 => ?_⟩⟩
  cases dz with
  | bl t =>
    cases v3
    refine ⟨t, rfl, ?_⟩
    cases t with
    | true =>
      rw [if_pos rfl]
      obtain ⟨⟨dw, S4⟩, h7, h8⟩ := bind_some h6
      exact ⟨Γ, S3, μ3, dw, S4, g.ext (e1.trans (e2.trans e3)), r3, h7, fun w H4 μ4 r4 e4 v4 => hr' H4 S4 μ4 y w dy dw d S' Q r4 (v2.ext (e3.trans e4)) v4 h8 (k.after (e1.trans (e2.trans (e3.trans e4))))⟩
    | false =>
      rw [if_neg Bool.false_ne_true]
      cases h6
      exact k _ H3 μ3 r3 (e1.trans (e2.trans e3)) (.bl false)
  | _ => cases h6
theorem se_chain {op op' : CmpOp} {r r' : R2} {o o' : O2} (ho : OpR X (compareOp op) r) (hr : RD X.K r o) (ho' : OpR X (compareOp op') r') (hr' : RD X.K r' o') (ha : SE X a fa) (hb : SE X b fb) (hc : SE X c fc)
    (hm : lastMarks [op, op'] [b, c] = false := by with_unfolding_all rfl) : SE X (.Compare a [op, op'] [b, c] pos) (eChain o o' fa fb fc) :=
  SE.mk (pe_chain ho ho' ha hb hc hm) fun σ H Q Γ S μ d S' g r h k => chain_run hr hr' g r h k
theorem st_chain {op op' : CmpOp} {r r' : R2} {o o' : O2} (ho : OpR X (compareOp op) r) (hr : RD X.K r o) (ho' : OpR X (compareOp op') r') (hr' : RD X.K r' o') (ha : SE X a fa) (hb : SE X b fb) (hc : SE X c fc)
    (hm : lastMarks [op, op'] [b, c] = false := by with_unfolding_all rfl) : ST X (.Compare a [op, op'] [b, c] pos) (tst (eChain o o' fa fb fc)) :=
  ST.mk (pt_chain ho ho' ha hb hc hm) fun σ H Q Γ S μ d S' g r h k => chain_run hr hr' g r (tst_some h) fun v H' μ' r' e' rv => by
    cases rv
    exact ⟨d, rfl, k H' μ' r' e'⟩

/-! ### and, or, not, if -/
theorem st_val (h : SE X e f) (he : ∀ whole, isTrue e X.env whole = (do let v ← whole; standAt e.pos; holding [v] (truthy v)) := by intro _; rfl) : ST X e (tst f) :=
  ST.mk (pt_val h he) fun σ H Q Γ S μ d S' g r h k => ⟨Γ, S, μ, .bl d, S', g, r, tst_some h, fun v H' μ' r' e' rv => by
    cases rv
    exact ⟨d, rfl, k H' μ' r' e'⟩⟩
/-- a value's truth -/
def dTru (S : Sto) : D → Option Bool
  | .non => some false
  | .bl b => some b
  | .int i => some (i != 0)
  | .str x => if x.length ≤ sizeLine then some ((x.length : Int) != 0) else none
  | .tup l => some (!l.isEmpty)
  | .loc n => match S[n]? with
    | some (.lst l) => some (!l.isEmpty)
    | some (.ro l) => some (!l.isEmpty)
    | some (.dk l) => some (!l.isEmpty)
    | _ => none
def tru (f : FE) : FT := fun Γ S => (f Γ S).bind fun p => (dTru p.2 p.1).map fun b => (b, p.2)
theorem RVs.emp {K : PySem.W.Frag} {H : Hp} {μ : List Addr} {l : List D} {vs : List V} (h : RVs K H μ l vs) : l.isEmpty = vs.isEmpty := by cases h <;> rfl
theorem RK.emp {K : PySem.W.Frag} {H : Hp} {μ : List Addr} {κ : Type} {l : List (κ × D)} {ws : List (κ × V)} (h : RK K H μ l ws) : l.isEmpty = ws.isEmpty := by
  have := h.2.emp
  cases l <;> cases ws <;> simp_all
theorem tru_of {K : PySem.W.Frag} {H : Hp} {μ : List Addr} {S : Sto} {d : D} {v : V} {b : Bool} (r : RS K H μ S) (rv : RV K H μ d v) (h : dTru S d = some b) : TruV K v H b := by
  cases rv with
  | non => cases h; rfl
  | bl c => cases h; rfl
  | int i => cases h; rfl
  | str x =>
    simp only [dTru] at h
    split at h
    · rename_i hx; cases h; exact ⟨hx, rfl⟩
    · cases h
  | tup h1 h2 => cases h; exact .inr (.inl ⟨_, SqT.of h1, by rw [h2.emp]⟩)
  | @loc a n h1 =>
    simp only [dTru] at h
    split at h
    · rename_i l e
      cases h
      obtain ⟨vs, q1, q2⟩ := r.atc h1 e
      exact .inl ⟨_, SqL.of q1, by rw [q2.emp]⟩
    · rename_i l e
      cases h
      obtain ⟨vs, q1, q2⟩ := r.atc h1 e
      exact .inl ⟨_, q1.seq, by rw [q2.emp]⟩
    · rename_i l e
      cases h
      obtain ⟨ws, q1, q2⟩ := r.atc h1 e
      exact .inr (.inr ⟨_, q1, by rw [RK.emp q2]⟩)
    · cases h
theorem st_tru (h : SE X e f) (he : ∀ whole, isTrue e X.env whole = (do let v ← whole; standAt e.pos; holding [v] (truthy v)) := by intro _; rfl) : ST X e (tru f) :=
  ST.mk (pt_truth h he) fun σ H Q Γ S μ d S' g r h k => by
    obtain ⟨⟨x, S1⟩, h1, h2⟩ := bind_some h
    obtain ⟨b, h3, h4⟩ := map_some h2
    cases h4
    exact ⟨Γ, S, μ, x, S1, g, r, h1, fun v H' μ' r' e' rv => ⟨_, tru_of r' rv h3, k H' μ' r' e'⟩⟩
def tNo (g : FT) : FT := fun Γ S => (g Γ S).map fun p => (!p.1, p.2)
theorem st_not (h : ST X a g) : ST X (.UnaryOp .Not a pos) (tNo g) :=
  ST.mk (pt_not h) fun σ H Q Γ S μ d S' gg r h k => by
    obtain ⟨⟨b, S1⟩, h1, h2⟩ := map_some h
    cases h2
    exact ⟨Γ, S, μ, b, S1, gg, r, h1, fun H' μ' r' e' => k H' μ' r' e'⟩
/-- a test whatever its whole is (and, or) -/
def SW (X : Cx) (e : Expr) (f : FT) : Prop := PW X e (tT X.K f)
theorem SW.st (h : SW X e g) : ST X e g := PW.pt h
def tAnd2 (ga gb : FT) : FT := fun Γ S => (ga Γ S).bind fun p => if p.1 = true then gb Γ p.2 else some (false, p.2)
def tOr2 (ga gb : FT) : FT := fun Γ S => (ga Γ S).bind fun p => if p.1 = true then some (true, p.2) else gb Γ p.2
theorem sw_and1 (h : ST X a g) : SW X (.BoolOp .And [a] pos) g := pw_and1 h
theorem sw_or1 (h : ST X a g) : SW X (.BoolOp .Or [a] pos) g := pw_or1 h
theorem sw_and (ha : ST X a ga) (hb : SW X (.BoolOp .And (b :: rest) pos) gb) : SW X (.BoolOp .And (a :: b :: rest) pos) (tAnd2 ga gb) :=
  imp_w (pw_and ha hb) fun σ H Q ⟨Γ, S, μ, d, S', g, r, h, k⟩ => by
    obtain ⟨⟨x, S1⟩, h1, h2⟩ := bind_some h
    refine ⟨Γ, S, μ, x, S1, g, r, h1, fun H' μ' r' e' => ?_⟩
    cases x with
    | true => rw [if_pos rfl]; exact ⟨Γ, S1, μ', d, S', g.ext e', r', h2, fun H2 μ2 r2 e2 => k H2 μ2 r2 (e'.trans e2)⟩
    | false =>
      rw [if_neg Bool.false_ne_true]
      cases h2
      exact k H' μ' r' e'
theorem sw_or (ha : ST X a ga) (hb : SW X (.BoolOp .Or (b :: rest) pos) gb) : SW X (.BoolOp .Or (a :: b :: rest) pos) (tOr2 ga gb) :=
  imp_w (pw_or ha hb) fun σ H Q ⟨Γ, S, μ, d, S', g, r, h, k⟩ => by
    obtain ⟨⟨x, S1⟩, h1, h2⟩ := bind_some h
    refine ⟨Γ, S, μ, x, S1, g, r, h1, fun H' μ' r' e' => ?_⟩
    cases x with
    | false => rw [if_neg Bool.false_ne_true]; exact ⟨Γ, S1, μ', d, S', g.ext e', r', h2, fun H2 μ2 r2 e2 => k H2 μ2 r2 (e'.trans e2)⟩
    | true =>
      rw [if_pos rfl]
      cases h2
      exact k H' μ' r' e'
/-- as values: all but the last are truth values -/
def eAnd (fa fb : FE) : FE := fun Γ S => (fa Γ S).bind fun p => match p.1 with
  | .bl true => fb Γ p.2
  | .bl false => some (.bl false, p.2)
  | _ => none
def eOr (fa fb : FE) : FE := fun Γ S => (fa Γ S).bind fun p => match p.1 with
  | .bl false => fb Γ p.2
  | .bl true => some (.bl true, p.2)
  | _ => none
def eNot (fa : FE) : FE := fun Γ S => (fa Γ S).bind fun p => match p.1 with
  | .bl b => some (.bl (!b), p.2)
  | _ => none
theorem se_one {op} (h : SE X a f) : SE X (.BoolOp op [a] pos) f := pe_one h
theorem se_and (ha : SE X a fa) (hb : SE X (.BoolOp .And (b :: rest) pos) fb) : SE X (.BoolOp .And (a :: b :: rest) pos) (eAnd fa fb) :=
  SE.mk (pe_and ha hb) fun σ H Q Γ S μ d S' g r h k => by
    obtain ⟨⟨x, S1⟩, h1, h2⟩ := bind_some h
    refine ⟨Γ, S, μ, x, S1, g, r, h1, fun v H' μ' r' e' rv => ?_⟩
    cases x with
    | bl t =>
      cases rv
      refine ⟨t, rfl, ?_⟩
      cases t with
      | true => rw [if_pos rfl]; exact ⟨Γ, S1, μ', d, S', g.ext e', r', h2, k.after e'⟩
      | false => rw [if_neg Bool.false_ne_true]; cases h2; exact k _ H' μ' r' e' (.bl false)
    | _ => cases h2
theorem se_or (ha : SE X a fa) (hb : SE X (.BoolOp .Or (b :: rest) pos) fb) : SE X (.BoolOp .Or (a :: b :: rest) pos) (eOr fa fb) :=
  SE.mk (pe_or ha hb) fun σ H Q Γ S μ d S' g r h k => by
    obtain ⟨⟨x, S1⟩, h1, h2⟩ := bind_some h
    refine ⟨Γ, S, μ, x, S1, g, r, h1, fun v H' μ' r' e' rv => ?_⟩
    cases x with
    | bl t =>
      cases rv
      refine ⟨t, rfl, ?_⟩
      cases t with
      | false => rw [if_neg Bool.false_ne_true]; exact ⟨Γ, S1, μ', d, S', g.ext e', r', h2, k.after e'⟩
      | true => rw [if_pos rfl]; cases h2; exact k _ H' μ' r' e' (.bl true)
    | _ => cases h2
theorem se_not (ha : SE X a fa) : SE X (.UnaryOp .Not a pos) (eNot fa) :=
  SE.mk (pe_not ha) fun σ H Q Γ S μ d S' g r h k => by
    obtain ⟨⟨x, S1⟩, h1, h2⟩ := bind_some h
    refine ⟨Γ, S, μ, x, S1, g, r, h1, fun v H' μ' r' e' rv => ?_⟩
    cases x with
    | bl t => cases rv; cases h2; exact ⟨t, rfl, k _ H' μ' r' e' (.bl _)⟩
    | _ => cases h2
def eIf (g : FT) (fa fb : FE) : FE := fun Γ S => (g Γ S).bind fun p => if p.1 = true then fa Γ p.2 else fb Γ p.2
theorem se_if (hc : ST X c g) (ha : SE X a fa) (hb : SE X b fb) : SE X (.IfExp c a b pos) (eIf g fa fb) :=
  SE.mk (pe_ifExp hc ha hb) fun σ H Q Γ S μ d S' gg r h k => by
    obtain ⟨⟨x, S1⟩, h1, h2⟩ := bind_some h
    refine ⟨Γ, S, μ, x, S1, gg, r, h1, fun H' μ' r' e' => ?_⟩
    cases x with
    | true => rw [if_pos rfl]; exact ⟨Γ, S1, μ', d, S', gg.ext e', r', h2, k.after e'⟩
    | false => rw [if_neg Bool.false_ne_true]; exact ⟨Γ, S1, μ', d, S', gg.ext e', r', h2, k.after e'⟩

/-! ### one value -/
def eUn (o : D → Option D) (fa : FE) : FE := fun Γ S => (fa Γ S).bind fun p => (o p.1).map fun d => (d, p.2)
def oNeg : D → Option D
  | .int i => some (.int (-i))
  | _ => none
theorem se_neg (ha : SE X a fa) : SE X (.UnaryOp .USub a pos) (eUn oNeg fa) :=
  SE.mk (pe_un un_neg ha) fun σ H Q Γ S μ d S' g r h k => by
    obtain ⟨⟨x, S1⟩, h1, h2⟩ := bind_some h
    obtain ⟨y, h3, h4⟩ := map_some h2
    cases h4
    refine ⟨Γ, S, μ, x, S1, g, r, h1, fun v H' μ' r' e' rv => ?_⟩
    cases x with
    | int i => cases rv; cases h3; exact ⟨i, rfl, k _ H' μ' r' e' (.int _)⟩
    | _ => cases h3

/-! ### arguments, displays, calls -/
def args : List FE → FA
  | [], _, S => some ([], S)
  | f :: r, Γ, S => (f Γ S).bind fun p => (args r Γ p.2).map fun q => (p.1 :: q.1, q.2)
theorem sa_nil : SA X [] (args []) := SA.mk pa_nil fun σ H Q Γ S μ d S' g r h k => by cases h; exact k [] H μ r .refl .nil
theorem sa_cons {fs : List FE} (ha : SE X e f) (hr : SA X es (args fs)) (hs : starEach (e :: es) X.env = (false, eval e X.env) :: starEach es X.env := by rfl) : SA X (e :: es) (args (f :: fs)) :=
  SA.mk (pa_cons ha hr hs) fun σ H Q Γ S μ d S' g r h k => by
    obtain ⟨⟨x, S1⟩, h1, h2⟩ := bind_some h
    obtain ⟨⟨xs, S2⟩, h3, h4⟩ := map_some h2
    cases h4
    exact ⟨Γ, S, μ, x, S1, g, r, h1, fun v H1 μ1 r1 e1 rv => ⟨Γ, S1, μ1, xs, S2, g.ext e1, r1, h3, fun vs H2 μ2 r2 e2 rvs => k _ H2 μ2 r2 (e1.trans e2) (.cons (rv.ext e2) rvs)⟩⟩
theorem args_length : ∀ {fs : List FE} {Γ : Ctx} {S S' : Sto} {ds : List D}, args fs Γ S = some (ds, S') → ds.length = fs.length
  | [], _, _, _, _, h => by cases h; rfl
  | f :: fs, Γ, S, S', ds, h => by
    obtain ⟨⟨x, S1⟩, h1, h2⟩ := bind_some h
    obtain ⟨⟨xs, S2⟩, h3, h4⟩ := map_some h2
    cases h4
    simp [args_length h3]
def eTup (fs : List FE) : FE := fun Γ S => (args fs Γ S).map fun p => (.tup p.1, p.2)
def eLst (fs : List FE) : FE := fun Γ S => (args fs Γ S).map fun p => (.loc p.2.length, p.2 ++ [.lst p.1])
theorem se_tup {fs : List FE} {x1} (h : SA X es (args fs)) (hn : fs.length ≤ 1000 := by decide) : SE X (.Tuple es x1 pos) (eTup fs) :=
  SE.mk (pe_tup h) fun σ H Q Γ S μ d S' g r hh k => by
    obtain ⟨⟨xs, S1⟩, h1, h2⟩ := map_some hh
    cases h2
    refine ⟨Γ, S, μ, xs, S1, g, r, h1, fun vs H' μ' r' e' rv => ⟨?_, fun p hp => ?_⟩⟩
    · rw [← rv.length, args_length h1]; exact Nat.le_of_lt (small1000 hn)
    · have s : Same H' (upd H' p (.tup vs)) := same_upd hp
      exact k _ _ μ' (r'.same s) (e'.trans (.same s)) (.tup upd_same (rv.ext (.same s)))
theorem RS.newL {K : PySem.W.Frag} {H : Hp} {μ : List Addr} {S : Sto} {l : List D} {vs : List V} {p : Addr} (r : RS K H μ S) (rv : RVs K H μ l vs) (hp : H p = none) :
    RS K (upd H p (.lst vs)) (μ ++ [p]) (S ++ [.lst l]) ∧ Ext K H μ (upd H p (.lst vs)) (μ ++ [p]) ∧ RV K (upd H p (.lst vs)) (μ ++ [p]) (.loc S.length) (.ref p) := by
  have e : Ext K H μ (upd H p (.lst vs)) (μ ++ [p]) := .grow (same_upd hp) [p]
  exact ⟨r.alloc hp ⟨vs, upd_same, rv.ext e⟩, e, .loc (by rw [← r.len]; simp)⟩
theorem se_lst {fs : List FE} (h : SA X es (args fs)) (hn : fs.length ≤ 1000 := by decide) : SE X (.List es pos) (eLst fs) :=
  SE.mk (pe_lst h) fun σ H Q Γ S μ d S' g r hh k => by
    obtain ⟨⟨xs, S1⟩, h1, h2⟩ := map_some hh
    cases h2
    refine ⟨Γ, S, μ, xs, S1, g, r, h1, fun vs H' μ' r' e' rv => ⟨?_, fun p hp => ?_⟩⟩
    · rw [← rv.length, args_length h1]; exact Nat.le_of_lt (small1000 hn)
    · obtain ⟨a1, a2, a3⟩ := r'.newL rv hp
      exact k _ _ _ a1 (e'.trans a2) a3

/-- a def's promise: it does what F says -/
def spD (K : PySem.W.Frag) (F : FF) : Sp := fun vs H Q _ => ∃ ds S μ d S', RVs K H μ ds vs ∧ RS K H μ S ∧ F ds S = some (d, S') ∧ Kt K H μ S' d Q
/-- a def that may be called by its name -/
structure Fn (P : Program) (w : World) (K : PySem.W.Frag) (mg : Str → Option Value) (base : Heap) (k : Nat) (x : Str) (F : FF) : Prop where
  ex : ∃ (f : Addr) (fd : FuncData) (ps : List Str), FnOk P w K mg base CX0 k f fd ps (spD K F) ∧ mg x = some (.ref f) ∧ PySem.W.keepIn K (.ref f) = true ∧ Binds K fd ps []
def eCall (F : FF) (fs : List FE) : FE := fun Γ S => (args fs Γ S).bind fun p => F p.1 p.2
theorem se_call {x : Str} {F : FF} {fs : List FE} {k : Nat} (G : Fn X.prog X.w X.K X.mg X.base k x F) (hr : Room k X.A) (hg : Gl X x) (ha : SA X (e :: es) (args fs)) (hdb : (x == ("__debug__" : Str)) = false := by decide)
    (he : starEach (e :: es) X.env = (false, eval e X.env) :: starEach es X.env := by rfl) (hpl : (backTo pos (starEach es X.env)).any (·.1) = false := by rfl) : SE X (.Call (.Name x p) (e :: es) [] pos) (eCall F fs) := by
  obtain ⟨f, fd, ps, G1, G2, G3, G4⟩ := G.ex
  refine SE.mk (pe_call G1 hr hg G2 G3 G4 .nil (pass0 (X := X)) ha hdb he hpl) fun σ H Q Γ S μ d S' g r hh k => ?_
  obtain ⟨⟨xs, S1⟩, h1, h2⟩ := bind_some hh
  refine ⟨Γ, S, μ, xs, S1, g, r, h1, fun vs H' μ' r' e' rv => ?_⟩
  show spD X.K F (vs ++ []) H' Q E0
  rw [List.append_nil]
  exact ⟨xs, S1, μ', d, S', rv, r', h2, k.after e'⟩
/-- a rule for a built-in's call serves a function on data -/
def BD (K : PySem.W.Frag) (r : List V → Hp → VK → Prop) (F : FF) : Prop := ∀ (H : Hp) (S : Sto) (μ : List Addr) (xs : List V) (ds : List D) (d : D) (S' : Sto) (Q : VK), RS K H μ S → RVs K H μ ds xs → F ds S = some (d, S') → Kt K H μ S' d Q → r xs H Q
theorem bd_run {r : List V → Hp → VK → Prop} {F : FF} {fs : List FE} {σ : L2.St} {H : Hp} {Q : VK} {Γ : Ctx} {S S' : Sto} {μ : List Addr} {d : D} (hb : BD X.K r F) (g : RG X.K H μ Γ σ) (rs : RS X.K H μ S) (h : eCall F fs Γ S = some (d, S')) (k : Kt X.K H μ S' d Q) :
    tCB r (tA X.K (args fs)) σ H Q := by
  obtain ⟨⟨xs, S1⟩, h1, h2⟩ := bind_some h
  exact ⟨Γ, S, μ, xs, S1, g, rs, h1, fun vs H' μ' r' e' rv => hb H' S1 μ' vs xs d S' Q r' rv h2 (k.after e')⟩
theorem se_callB {x : Str} {id : String} {r : List V → Hp → VK → Prop} {F : FF} {fs : List FE} (hc : CallR X (.builtin id) r) (hb : BD X.K r F) (hg : Gl X x) (hm : X.mg x = none) (hv : bootBuiltins x = some (.builtin id)) (ha : SA X (e :: es) (args fs)) (hn : x ≠ "__name__" := by decide) (hdb : (x == ("__debug__" : Str)) = false := by decide)
    (he : starEach (e :: es) X.env = (false, eval e X.env) :: starEach es X.env := by rfl) (hpl : (backTo pos (starEach es X.env)).any (·.1) = false := by rfl) : SE X (.Call (.Name x p) (e :: es) [] pos) (eCall F fs) :=
  SE.mk (pe_callB hc hg hm hv ha hn hdb he hpl) fun σ H Q Γ S μ d S' g r h k => bd_run hb g r h k
theorem se_callTy {x : Str} {id : String} {r : List V → Hp → VK → Prop} {F : FF} {fs : List FE} (hc : CallR X (.type id) r) (hb : BD X.K r F) (hg : Gl X x) (hm : X.mg x = none) (hv : bootBuiltins x = some (.type id)) (ha : SA X (e :: es) (args fs)) (hn : x ≠ "__name__" := by decide) (hdb : (x == ("__debug__" : Str)) = false := by decide)
    (he : starEach (e :: es) X.env = (false, eval e X.env) :: starEach es X.env := by rfl) (hpl : (backTo pos (starEach es X.env)).any (·.1) = false := by rfl) : SE X (.Call (.Name x p) (e :: es) [] pos) (eCall F fs) :=
  SE.mk (pe_callTy hc hg hm hv ha hn hdb he hpl) fun σ H Q Γ S μ d S' g r h k => bd_run hb g r h k
/-- f(..), f a module's name for a built-in function (from math import gcd) -/
theorem se_callBf {x : Str} {id : String} {r : List V → Hp → VK → Prop} {F : FF} {fs : List FE} (hc : CallR X (.builtin id) r) (hb : BD X.K r F) (hg : Gl X x) (hm : X.mg x = some (.builtin id)) (ha : SA X (e :: es) (args fs)) (hdb : (x == ("__debug__" : Str)) = false := by decide)
    (he : starEach (e :: es) X.env = (false, eval e X.env) :: starEach es X.env := by rfl) (hpl : (backTo pos (starEach es X.env)).any (·.1) = false := by rfl) : SE X (.Call (.Name x p) (e :: es) [] pos) (eCall F fs) :=
  SE.mk (pe_callBfun hc hg hm ha hdb he hpl) fun σ H Q Γ S μ d S' g r h k => bd_run hb g r h k
end
end Dl

/-! DlO: operations upon data -/
namespace Dl
open PySem PySem.Spec PyProof.Rows L2

/-! ### ints -/
def mulOk (i j : Int) : Bool := decide (i.natAbs < 2 ^ 64) || decide (j.natAbs < 2 ^ 64) || decide (i.natAbs.log2 + j.natAbs.log2 < 1000000)
def oSub : O2
  | .int i, .int j, S => some (.int (i - j), S)
  | _, _, _ => none
def oFdiv : O2
  | .int i, .int j, S => if 0 < j ∧ j.natAbs.log2 < 9000 then some (.int (i / j), S) else none
  | _, _, _ => none
def oMod : O2
  | .int i, .int j, S => if 0 < j then some (.int (i % j), S) else none
  | _, _, _ => none
def oPow : O2
  | .int i, .int j, S => if 0 ≤ j ∧ j ≤ 1000000 ∧ i.natAbs < 2 ^ 64 then some (.int (i ^ j.toNat), S) else none
  | _, _, _ => none
def oShl : O2
  | .int i, .int j, S => if 0 ≤ j ∧ j ≤ 1000000 ∧ i.natAbs < 2 ^ 64 then some (.int (i * 2 ^ j.toNat), S) else none
  | _, _, _ => none
def oShr : O2
  | .int i, .int j, S => if 0 ≤ j then some (.int (i / 2 ^ j.toNat), S) else none
  | _, _, _ => none
def oAndB : O2
  | .int i, .int j, S => some (.int (Builtin.bitAnd i j), S)
  | _, _, _ => none
def oOrB : O2
  | .int i, .int j, S => some (.int (Builtin.bitOr i j), S)
  | _, _, _ => none
def oLt : O2
  | .int i, .int j, S => some (.bl (decide (i < j)), S)
  | _, _, _ => none
def oLe : O2
  | .int i, .int j, S => some (.bl (decide (i ≤ j)), S)
  | _, _, _ => none
def oGt : O2
  | .int i, .int j, S => some (.bl (decide (j < i)), S)
  | _, _, _ => none
def oGe : O2
  | .int i, .int j, S => some (.bl (decide (j ≤ i)), S)
  | _, _, _ => none
def oAdd : O2
  | .int i, .int j, S => some (.int (i + j), S)
  | .str x, .str y, S => if x.length + y.length ≤ sizeLine then some (.str (x ++ y), S) else none
  | .tup l, .tup m, S => if l.length + m.length ≤ sizeLine then some (.tup (l ++ m), S) else none
  | .loc a, .loc b, S => match S[a]?, S[b]? with
    | some (.lst l), some (.lst m) => if l.length + m.length ≤ sizeLine then some (.loc S.length, S ++ [.lst (l ++ m)]) else none
    | _, _ => none
  | _, _, _ => none
def oMul : O2
  | .int i, .int j, S => if mulOk i j = true then some (.int (i * j), S) else none
  | .loc a, .int j, S => match S[a]? with
    | some (.lst l) => if -(2 ^ 63) ≤ j ∧ j < 2 ^ 63 ∧ l.length * j.toNat ≤ sizeLine then some (.loc S.length, S ++ [.lst (List.replicate j.toNat l).flatten]) else none
    | _ => none
  | .str x, .int j, S => if -(2 ^ 63) ≤ j ∧ j < 2 ^ 63 ∧ x.length * j.toNat ≤ sizeLine then some (.str ⟨(List.replicate j.toNat x.cps.toList).flatten.toArray⟩, S) else none
  | _, _, _ => none
section
variable {K : PySem.W.Frag}
theorem rd_sub : RD K (rI0 fun i j => .int (i - j)) oSub := by
  intro H S μ x y dx dy d S' Q r v1 v2 h k
  cases v1 <;> cases v2 <;> simp only [oSub] at h <;> cases h
  exact ⟨_, _, rfl, rfl, k _ H μ r .refl (.int _)⟩
theorem rd_fdiv : RD K (rI CDivW fun i j => .int (i / j)) oFdiv := by
  intro H S μ x y dx dy d S' Q r v1 v2 h k
  cases v1 <;> cases v2 <;> simp only [oFdiv] at h <;> first | cases h | skip
  split at h
  · rename_i hc; cases h; exact ⟨_, _, rfl, rfl, hc, k _ H μ r .refl (.int _)⟩
  · cases h
theorem rd_mod : RD K (rI (fun _ j => 0 < j) fun i j => .int (i % j)) oMod := by
  intro H S μ x y dx dy d S' Q r v1 v2 h k
  cases v1 <;> cases v2 <;> simp only [oMod] at h <;> first | cases h | skip
  split at h
  · rename_i hc; cases h; exact ⟨_, _, rfl, rfl, hc, k _ H μ r .refl (.int _)⟩
  · cases h
theorem rd_pow : RD K (rI CPow fun i j => .int (i ^ j.toNat)) oPow := by
  intro H S μ x y dx dy d S' Q r v1 v2 h k
  cases v1 <;> cases v2 <;> simp only [oPow] at h <;> first | cases h | skip
  split at h
  · rename_i hc; cases h; exact ⟨_, _, rfl, rfl, hc, k _ H μ r .refl (.int _)⟩
  · cases h
theorem rd_shl : RD K (rI CPow fun i j => .int (i * 2 ^ j.toNat)) oShl := by
  intro H S μ x y dx dy d S' Q r v1 v2 h k
  cases v1 <;> cases v2 <;> simp only [oShl] at h <;> first | cases h | skip
  split at h
  · rename_i hc; cases h; exact ⟨_, _, rfl, rfl, hc, k _ H μ r .refl (.int _)⟩
  · cases h
theorem rd_shr : RD K (rI (fun _ j => 0 ≤ j) fun i j => .int (i / 2 ^ j.toNat)) oShr := by
  intro H S μ x y dx dy d S' Q r v1 v2 h k
  cases v1 <;> cases v2 <;> simp only [oShr] at h <;> first | cases h | skip
  split at h
  · rename_i hc; cases h; exact ⟨_, _, rfl, rfl, hc, k _ H μ r .refl (.int _)⟩
  · cases h
theorem rd_andB : RD K (rI0 fun i j => .int (Builtin.bitAnd i j)) oAndB := by
  intro H S μ x y dx dy d S' Q r v1 v2 h k
  cases v1 <;> cases v2 <;> simp only [oAndB] at h <;> cases h
  exact ⟨_, _, rfl, rfl, k _ H μ r .refl (.int _)⟩
theorem rd_orB : RD K (rI0 fun i j => .int (Builtin.bitOr i j)) oOrB := by
  intro H S μ x y dx dy d S' Q r v1 v2 h k
  cases v1 <;> cases v2 <;> simp only [oOrB] at h <;> cases h
  exact ⟨_, _, rfl, rfl, k _ H μ r .refl (.int _)⟩
theorem rd_lt : RD K (rI0 fun i j => .bl (decide (i < j))) oLt := by
  intro H S μ x y dx dy d S' Q r v1 v2 h k
  cases v1 <;> cases v2 <;> simp only [oLt] at h <;> cases h
  exact ⟨_, _, rfl, rfl, k _ H μ r .refl (.bl _)⟩
theorem rd_le : RD K (rI0 fun i j => .bl (decide (i ≤ j))) oLe := by
  intro H S μ x y dx dy d S' Q r v1 v2 h k
  cases v1 <;> cases v2 <;> simp only [oLe] at h <;> cases h
  exact ⟨_, _, rfl, rfl, k _ H μ r .refl (.bl _)⟩
theorem rd_gt : RD K (rI0 fun i j => .bl (decide (j < i))) oGt := by
  intro H S μ x y dx dy d S' Q r v1 v2 h k
  cases v1 <;> cases v2 <;> simp only [oGt] at h <;> cases h
  exact ⟨_, _, rfl, rfl, k _ H μ r .refl (.bl _)⟩
theorem rd_ge : RD K (rI0 fun i j => .bl (decide (j ≤ i))) oGe := by
  intro H S μ x y dx dy d S' Q r v1 v2 h k
  cases v1 <;> cases v2 <;> simp only [oGe] at h <;> cases h
  exact ⟨_, _, rfl, rfl, k _ H μ r .refl (.bl _)⟩
/-! ### + and * -/
def rAdd4 (K : PySem.W.Frag) : R2 := fun x y H Q => (rI0 fun i j => .int (i + j)) x y H Q ∨ (∃ i j, x = .str i ∧ y = .str j ∧ i.length + j.length ≤ sizeLine ∧ Q (.str (i ++ j)) H) ∨ rCatA K x y H Q ∨ rCat x y H Q
theorem or_add {X : Cx} : OpR X (binaryOp .Add) (rAdd4 X.K) := op_add.or (op_add_str.or (op_catA.or op_cat))
theorem RVs.nil_iff {K : PySem.W.Frag} {H : Hp} {μ : List Addr} {l : List D} {vs : List V} (h : RVs K H μ l vs) : vs = [] ↔ l = [] := by cases h <;> simp
theorem rd_add : RD K (rAdd4 K) oAdd := by
  intro H S μ x y dx dy d S' Q r v1 v2 h k
  cases v1 with
  | int i =>
    cases v2 <;> simp only [oAdd] at h <;> cases h
    exact .inl ⟨_, _, rfl, rfl, k _ H μ r .refl (.int _)⟩
  | str i =>
    cases v2 <;> simp only [oAdd] at h <;> first | cases h | skip
    split at h
    · rename_i hc; cases h; exact .inr (.inl ⟨_, _, rfl, rfl, hc, k _ H μ r .refl (.str _)⟩)
    · cases h
  | @tup a vs l h1 h2 =>
    cases v2 with
    | @tup b ws m h3 h4 =>
      simp only [oAdd] at h
      split at h
      · rename_i hc
        cases h
        refine .inr (.inr (.inl ⟨a, b, vs, ws, rfl, rfl, SqT.of h1, SqT.of h3, by rw [← h2.length, ← h4.length]; exact hc, fun e => ?_, fun _ e => ?_, fun _ _ p hp => ?_⟩))
        · have e' := h2.nil_iff.mp e
          subst e'
          exact k _ H μ r .refl (.tup h3 h4)
        · have e' := h4.nil_iff.mp e
          subst e'
          rw [List.append_nil] at k
          exact k _ H μ r .refl (.tup h1 h2)
        · have s := same_upd (o := .tup (vs ++ ws)) hp
          exact k _ _ μ (r.same s) (.same s) (.tup upd_same ((h2.append h4).ext (.same s)))
      · cases h
    | _ => simp only [oAdd] at h; cases h
  | @loc a n h1 =>
    cases v2 with
    | @loc b m h2 =>
      simp only [oAdd] at h
      split at h
      · rename_i l m e1 e2
        split at h
        · rename_i hc
          cases h
          obtain ⟨vs, q1, q2⟩ := r.atc h1 e1
          obtain ⟨ws, q3, q4⟩ := r.atc h2 e2
          refine .inr (.inr (.inr ⟨a, b, vs, ws, rfl, rfl, q1, q3, by rw [← q2.length, ← q4.length]; exact hc, fun p hp => ?_⟩))
          obtain ⟨a1, a2, a3⟩ := r.newL (q2.append q4) hp
          exact k _ _ _ a1 a2 a3
        · cases h
      · cases h
    | _ => simp only [oAdd] at h; cases h
  | _ => cases v2 <;> simp only [oAdd] at h <;> cases h
end
end Dl

/-! DlP: * of texts and lists; ==, in, sorted upon data; items, slices -/
namespace Dl
open PySem PySem.Spec PyProof.Rows L2

/-! ### * -/
def rMul3 : R2 := fun x y H Q => rI CMul (fun i j => .int (i * j)) x y H Q ∨ rI CMulW (fun i j => .int (i * j)) x y H Q ∨ rRep x y H Q ∨
  (∃ (z : Str) (j : Int), x = .str z ∧ y = .int j ∧ -(2 ^ 63) ≤ j ∧ j < 2 ^ 63 ∧ z.length * j.toNat ≤ sizeLine ∧ Q (.str ⟨(List.replicate j.toNat z.cps.toList).flatten.toArray⟩) H)
theorem foldl_app (its : Array Nat) : ∀ (k : Nat) (acc : List Nat), List.foldl (fun x1 x2 => x1 ++ x2) acc.toArray (List.replicate k its) = (acc ++ (List.replicate k its.toList).flatten).toArray
  | 0, acc => by simp
  | k + 1, acc => by
    have e : acc.toArray ++ its = (acc ++ its.toList).toArray := by
      apply Array.toList_inj.mp
      simp
    rw [List.replicate_succ, List.foldl_cons, e, foldl_app its k, List.replicate_succ, List.flatten_cons, List.append_assoc]
theorem op_mulS {X : Cx} : OpR X (binaryOp .Mult) (fun x y H Q => ∃ (z : Str) (j : Int), x = .str z ∧ y = .int j ∧ -(2 ^ 63) ≤ j ∧ j < 2 ^ 63 ∧ z.length * j.toNat ≤ sizeLine ∧ Q (.str ⟨(List.replicate j.toNat z.cps.toList).flatten.toArray⟩) H) := by
  intro pins s σ H x y v u Q I rx ry h
  obtain ⟨z, j, rfl, rfl, h1, h2, h3, q⟩ := h
  obtain ⟨t, rfl⟩ := rx
  obtain ⟨t', rfl⟩ := ry
  have hz : sizeLine = 16777216 := sizeLine_eq
  refine P.mul_str (by
    have a1 : decide (j < -(2 ^ 63 : Int)) = false := decide_eq_false (by omega)
    have a2 : decide (j ≥ 2 ^ 63) = false := decide_eq_false (by omega)
    rw [a1, a2]; rfl) (fun a1 a2 => ?_) (fun a1 a2 => ?_) ?_
  · have hj : 0 < j := by omega
    have b1 : (z.length : Int) * j ≤ 16777216 := by
      have : ((z.length * j.toNat : Nat) : Int) ≤ 16777216 := by omega
      rw [Int.natCast_mul, Int.toNat_of_nonneg (by omega)] at this
      exact this
    have b2 : (z.length : Int) ≤ (2 ^ 63 - 1) / j := by
      rw [Int.le_ediv_iff_mul_le hj]
      omega
    omega
  · show Builtin.Str.tooLong (z.length * j.toNat) = false
    unfold Builtin.Str.tooLong
    simp only [decide_eq_false_iff_not]
    omega
  · by_cases c1 : j < 1
    · rw [if_pos c1]
      have e0 : j.toNat = 0 := by omega
      rw [e0] at q
      exact ⟨by decide, ⟨.str _, H, I.tok _, ⟨_, rfl⟩, q⟩⟩
    · rw [if_neg c1]
      by_cases c2 : (j == 1 || z.length == 0) = true
      · rw [if_pos c2]
        have e0 : (⟨(List.replicate j.toNat z.cps.toList).flatten.toArray⟩ : Str) = z := by
          rw [Bool.or_eq_true, beq_iff_eq, beq_iff_eq] at c2
          rcases c2 with c2 | c2
          · subst c2
            simp
          · have : z.cps = #[] := Array.size_eq_zero_iff.mp c2
            cases z with
            | mk cps =>
              simp only at this
              subst this
              simp
        rw [e0] at q
        exact ⟨.str _, H, I, ⟨_, rfl⟩, q⟩
      · rw [if_neg c2]
        have e0 : (List.replicate j.toNat z.cps).foldl (· ++ ·) #[] = (List.replicate j.toNat z.cps.toList).flatten.toArray := by
          have := foldl_app z.cps j.toNat []
          simpa using this
        rw [e0]
        refine ⟨?_, ⟨.str _, H, I.tok _, ⟨_, rfl⟩, q⟩⟩
        show (List.replicate j.toNat z.cps.toList).flatten.toArray.size ≤ sizeLine
        have : (List.replicate j.toNat z.cps.toList).flatten.toArray.size = j.toNat * z.length := by
          simp
          rfl
        rw [this, Nat.mul_comm]
        exact h3
theorem or_mul {X : Cx} : OpR X (binaryOp .Mult) rMul3 := op_mul.or (op_mulW.or (op_rep.or op_mulS))
section
variable {K : PySem.W.Frag}
theorem rd_mul : RD K rMul3 oMul := by
  intro H S μ x y dx dy d S' Q r v1 v2 h k
  cases v1 with
  | int i =>
    cases v2 <;> simp only [oMul] at h <;> first | cases h | skip
    rename_i j
    split at h
    · rename_i hc
      cases h
      have kk : Q (.int (i * j)) H := k _ H μ r .refl (.int _)
      simp only [mulOk, Bool.or_eq_true, decide_eq_true_eq] at hc
      rcases hc with (hc | hc) | hc
      · exact .inl ⟨_, _, rfl, rfl, .inl (by omega), kk⟩
      · exact .inl ⟨_, _, rfl, rfl, .inr (by omega), kk⟩
      · exact .inr (.inl ⟨_, _, rfl, rfl, hc, kk⟩)
    · cases h
  | str z =>
    cases v2 <;> simp only [oMul] at h <;> first | cases h | skip
    split at h
    · rename_i hc
      cases h
      exact .inr (.inr (.inr ⟨_, _, rfl, rfl, hc.1, hc.2.1, hc.2.2, k _ H μ r .refl (.str _)⟩))
    · cases h
  | @loc a n h1 =>
    cases v2 with
    | int j =>
      simp only [oMul] at h
      split at h
      · rename_i l e
        split at h
        · rename_i hc
          cases h
          obtain ⟨vs, q1, q2⟩ := r.atc h1 e
          refine .inr (.inr (.inl ⟨a, j, vs, rfl, rfl, q1, hc.1, hc.2.1, by rw [← q2.length]; exact hc.2.2, fun p hp => ?_⟩))
          obtain ⟨a1, a2, a3⟩ := r.newL (q2.rep j.toNat) hp
          exact k _ _ _ a1 a2 a3
        · cases h
      · cases h
    | _ => simp only [oMul] at h; cases h
  | _ => cases v2 <;> simp only [oMul] at h <;> cases h
end

/-! ### data as the library's data -/
mutual
/-- no cell within -/
def D.pure : D → Bool
  | .tup l => D.pures l
  | .loc _ => false
  | .non => true
  | .bl _ => true
  | .int _ => true
  | .str _ => true
def D.pures : List D → Bool
  | [] => true
  | d :: r => D.pure d && D.pures r
end
mutual
def D.py : D → PyData
  | .tup l => .tuple (D.pys l)
  | .loc _ => .none
  | .non => .none
  | .bl b => .bool b
  | .int i => .int i
  | .str x => .str x
def D.pys : List D → List PyData
  | [] => []
  | d :: r => D.py d :: D.pys r
end
theorem pys_map : ∀ l : List D, D.pys l = l.map D.py
  | [] => rfl
  | d :: r => by rw [D.pys, pys_map r, List.map_cons]
theorem pures_all : ∀ l : List D, D.pures l = l.all D.pure
  | [] => rfl
  | d :: r => by rw [D.pures, pures_all r, List.all_cons]
section
variable {K : PySem.W.Frag} {H : Hp} {μ : List Addr} {S : Sto}
mutual
theorem RV.dp : ∀ {d : D} {v : V}, RV K H μ d v → d.pure = true → Dp K H v d.py
  | _, _, .non, _ => .non
  | _, _, .bl b, _ => .bl b
  | _, _, .int i, _ => .int i
  | _, _, .str x, _ => .str x
  | _, _, .tup h r, p => .tup (SqT.of h) (RVs.dp r (by simpa [D.pure] using p))
  | _, _, .loc h, p => absurd p (by simp [D.pure])
theorem RVs.dp : ∀ {l : List D} {vs : List V}, RVs K H μ l vs → D.pures l = true → DpAll K H vs (D.pys l)
  | _, _, .nil, _ => .nil
  | _, _, .cons h r, p => by
    have p' := by simpa [D.pures] using p
    exact .cons (RV.dp h p'.1) (RVs.dp r p'.2)
end
/-- a datum, or a list of data -/
def py1 (S : Sto) : D → Option PyData
  | .loc n => match S[n]? with
    | some (.lst l) => if D.pures l = true then some (.list (D.pys l)) else none
    | _ => none
  | d => if d.pure = true then some d.py else none
theorem RV.dp1 {d : D} {v : V} {p : PyData} (r : RS K H μ S) (h : RV K H μ d v) (e : py1 S d = some p) : Dp K H v p := by
  cases d with
  | loc n =>
    cases h with
    | @loc a n h1 =>
      simp only [py1] at e
      split at e
      · rename_i l el
        split at e
        · rename_i hp
          cases e
          obtain ⟨vs, q1, q2⟩ := r.atc h1 el
          exact .lst (SqL.of q1) (q2.dp hp)
        · cases e
      · cases e
  | _ =>
    simp only [py1] at e
    split at e
    · rename_i hp; cases e; exact h.dp hp
    · cases e
end
/-- == -/
def eqB (S : Sto) (x y : D) : Option Bool := match py1 S x, py1 S y with
  | some a, some b => if SeqAt.shaped a = true ∧ SeqAt.shaped b = true then some (PyData.eqv a b) else none
  | _, _ => none
def oEq : O2 := fun x y S => (eqB S x y).map fun b => (.bl b, S)
def oNe : O2 := fun x y S => (eqB S x y).map fun b => (.bl (!b), S)
theorem rd_eq {K : PySem.W.Frag} : RD K (rEqD K) oEq := by
  intro H S μ x y dx dy d S' Q r v1 v2 h k
  obtain ⟨b, h1, h2⟩ := map_some h
  cases h2
  unfold eqB at h1
  split at h1
  · rename_i a b e1 e2
    split at h1
    · rename_i hc; cases h1; exact ⟨a, b, v1.dp1 r e1, v2.dp1 r e2, hc.1, hc.2, k _ H μ r .refl (.bl _)⟩
    · cases h1
  · cases h1
theorem rd_ne {K : PySem.W.Frag} : RD K (rNeD K) oNe := by
  intro H S μ x y dx dy d S' Q r v1 v2 h k
  obtain ⟨b, h1, h2⟩ := map_some h
  cases h2
  unfold eqB at h1
  split at h1
  · rename_i a b e1 e2
    split at h1
    · rename_i hc; cases h1; exact ⟨a, b, v1.dp1 r e1, v2.dp1 r e2, hc.1, hc.2, k _ H μ r .refl (.bl _)⟩
    · cases h1
  · cases h1
/-- is None -/
def isNon : D → Bool
  | .non => true
  | _ => false
def oIsN : O2 := fun x y S => match y with
  | .non => some (.bl (isNon x), S)
  | _ => none
def oNotN : O2 := fun x y S => match y with
  | .non => some (.bl (!isNon x), S)
  | _ => none
theorem RV.isNon {K : PySem.W.Frag} {H : Hp} {μ : List Addr} {d : D} {v : V} (h : RV K H μ d v) : decide (v = .non) = Dl.isNon d := by cases h <;> simp [Dl.isNon]
theorem rd_isN {K : PySem.W.Frag} : RD K (fun x y H Q => y = .non ∧ Q (.bl (decide (x = .non))) H) oIsN := by
  intro H S μ x y dx dy d S' Q r v1 v2 h k
  cases v2 <;> simp only [oIsN] at h <;> cases h
  exact ⟨rfl, by rw [v1.isNon]; exact k _ H μ r .refl (.bl _)⟩
theorem rd_notN {K : PySem.W.Frag} : RD K (fun x y H Q => y = .non ∧ Q (.bl (!decide (x = .non))) H) oNotN := by
  intro H S μ x y dx dy d S' Q r v1 v2 h k
  cases v2 <;> simp only [oNotN] at h <;> cases h
  exact ⟨rfl, by rw [v1.isNon]; exact k _ H μ r .refl (.bl _)⟩

/-! ### keys -/
def D.key : D → Option Key
  | .int i => some (.inl i)
  | .str x => some (.inr x)
  | _ => none
def Key.d : Key → D
  | .inl i => .int i
  | .inr x => .str x
def keysOf : List D → Option (List Key)
  | [] => some []
  | d :: r => match d.key, keysOf r with
    | some k, some ks => some (k :: ks)
    | _, _ => none
def D.tkey : D → Option (List Key)
  | .tup l => keysOf l
  | _ => none
section
variable {K : PySem.W.Frag} {H : Hp} {μ : List Addr} {S : Sto}
theorem RV.key {d : D} {v : V} {k : Key} (h : RV K H μ d v) (e : d.key = some k) : v = kV k := by
  cases h <;> simp only [D.key] at e <;> cases e <;> rfl
theorem RVs.keys : ∀ {l : List D} {vs : List V} {ks : List Key}, RVs K H μ l vs → keysOf l = some ks → vs = ks.map kV
  | _, _, ks, .nil, e => by cases e; rfl
  | _, _, ks, .cons h r, e => by
    simp only [keysOf] at e
    split at e
    · rename_i k ks' e1 e2
      cases e
      rw [List.map_cons, h.key e1, RVs.keys r e2]
    · cases e
theorem RV.tkey {d : D} {v : V} {ks : List Key} (h : RV K H μ d v) (e : d.tkey = some ks) : ∃ b, v = .ref b ∧ H b = some (.tup (ks.map kV)) := by
  cases h with
  | @tup a vs l h1 h2 => exact ⟨a, rfl, by rw [← h2.keys e]; exact h1⟩
  | _ => simp only [D.tkey] at e; cases e
end
def valD {κ : Type} [DecidableEq κ] (kvs : List (κ × D)) (k : κ) : Option D := (kvs.find? fun kv => decide (kv.1 = k)).map (·.2)
def putD {κ : Type} [DecidableEq κ] (kvs : List (κ × D)) (k : κ) (v : D) : List (κ × D) :=
  if (kvs.any fun kv => decide (kv.1 = k)) = true then kvs.map (fun kv => if kv.1 = k then (kv.1, v) else kv) else kvs ++ [(k, v)]
section
variable {K : PySem.W.Frag} {H : Hp} {μ : List Addr} {κ : Type} [DecidableEq κ]
theorem RK.val : ∀ {l : List (κ × D)} {ws : List (κ × V)} (k : κ), RK K H μ l ws → (valD l k = none ∧ valV ws k = none) ∨ ∃ d v, valD l k = some d ∧ valV ws k = some v ∧ RV K H μ d v
  | [], [], k, _ => .inl ⟨rfl, rfl⟩
  | [], _ :: _, k, h => absurd h.1 (by simp)
  | _ :: _, [], k, h => absurd h.1 (by simp)
  | p :: l, q :: ws, k, h => by
    obtain ⟨h1, h2⟩ := h
    rw [List.map_cons, List.map_cons] at h1 h2
    injection h1 with e1 e2
    cases h2 with
    | cons r1 r2 =>
      by_cases hk : p.1 = k
      · refine .inr ⟨p.2, q.2, ?_, ?_, r1⟩
        · simp [valD, List.find?, hk]
        · simp [valV, List.find?, ← e1, hk]
      · have a1 : valD (p :: l) k = valD l k := by simp [valD, List.find?, hk]
        have a2 : valV (q :: ws) k = valV ws k := by simp [valV, List.find?, ← e1, hk]
        rw [a1, a2]
        exact RK.val k ⟨e2, r2⟩
theorem RK.any {l : List (κ × D)} {ws : List (κ × V)} (k : κ) (h : RK K H μ l ws) : (l.any fun kv => decide (kv.1 = k)) = ws.any fun kv => decide (kv.1 = k) := by
  have a : ∀ {α : Type} (l : List (κ × α)), (l.any fun kv => decide (kv.1 = k)) = (l.map (·.1)).any fun x => decide (x = k) := fun l => by rw [List.any_map]; rfl
  rw [a, a, h.1]
theorem RK.put {l : List (κ × D)} {ws : List (κ × V)} {d : D} {v : V} (k : κ) (h : RK K H μ l ws) (hd : RV K H μ d v) : RK K H μ (putD l k d) (putK ws k v) := by
  unfold putD putK
  rw [h.any k]
  split
  · obtain ⟨h1, h2⟩ := h
    have rep : ∀ (l : List (κ × D)) (ws : List (κ × V)), l.map (·.1) = ws.map (·.1) → RVs K H μ (l.map (·.2)) (ws.map (·.2)) →
        RK K H μ (l.map fun kv => if kv.1 = k then (kv.1, d) else kv) (ws.map fun kv => if kv.1 = k then (kv.1, v) else kv) := by
      intro l
      induction l with
      | nil =>
        intro ws e1 e2
        cases ws with
        | nil => exact ⟨rfl, .nil⟩
        | cons q ws => exact absurd e1 (by simp)
      | cons p l ih =>
        intro ws e1 e2
        cases ws with
        | nil => exact absurd e1 (by simp)
        | cons q ws =>
          rw [List.map_cons, List.map_cons] at e1 e2
          injection e1 with f1 f2
          cases e2 with
          | cons r1 r2 =>
            obtain ⟨i1, i2⟩ := ih ws f2 r2
            rw [List.map_cons, List.map_cons]
            by_cases hk : p.1 = k
            · rw [if_pos hk, if_pos (f1 ▸ hk)]
              exact ⟨by rw [List.map_cons, List.map_cons, i1, f1], .cons hd i2⟩
            · rw [if_neg hk, if_neg (f1 ▸ hk)]
              exact ⟨by rw [List.map_cons, List.map_cons, i1, f1], .cons r1 i2⟩
    exact rep l ws h1 h2
  · obtain ⟨h1, h2⟩ := h
    refine ⟨by simp [h1], ?_⟩
    rw [List.map_append, List.map_append]
    exact h2.snoc hd
theorem RK.length {l : List (κ × D)} {ws : List (κ × V)} (h : RK K H μ l ws) : l.length = ws.length := by
  have := congrArg List.length h.1
  simpa using this
end
/-- what the dict d holds at y: none where it is no dict, or y no key -/
def dGet (S : Sto) (d y : D) : Option (Option D) := match d with
  | .loc n => match S[n]? with
    | some (.dk l) => y.key.map fun k => valD l k
    | some (.dkf l) => y.key.map fun k => valD l k
    | some (.dt l) => y.tkey.map fun k => valD l k
    | some (.dtf l) => y.tkey.map fun k => valD l k
    | _ => none
  | _ => none
/-- a tracked tuple -/
theorem dget_of {K : PySem.W.Frag} {H : Hp} {μ : List Addr} {S : Sto} {d y : D} {v w : V} {o : Option D} (r : RS K H μ S) (hv : RV K H μ d v) (hw : RV K H μ y w) (e : dGet S d y = some o) :
    ∃ a o', v = .ref a ∧ DGet H a w o' ∧ ((o = none ∧ o' = none) ∨ ∃ x z, o = some x ∧ o' = some z ∧ RV K H μ x z) := by
  cases hv with
  | @loc a n h1 =>
    simp only [dGet] at e
    split at e
    · rename_i l el
      obtain ⟨k, e1, e2⟩ := map_some e
      obtain ⟨ws, q1, q2⟩ := r.atc h1 el
      refine ⟨a, valV ws k, rfl, .inl ⟨ws, k, .inl q1, hw.key e1, rfl⟩, ?_⟩
      subst e2
      exact RK.val k q2
    · rename_i l el
      obtain ⟨k, e1, e2⟩ := map_some e
      obtain ⟨ob, ws, q1, q2⟩ := r.atc h1 el
      refine ⟨a, valV ws k, rfl, .inl ⟨ws, k, .inr ⟨ob, q1⟩, hw.key e1, rfl⟩, ?_⟩
      subst e2
      exact RK.val k q2
    · rename_i l el
      obtain ⟨k, e1, e2⟩ := map_some e
      obtain ⟨ws, q1, q2⟩ := r.atc h1 el
      obtain ⟨b, f1, f2⟩ := hw.tkey e1
      refine ⟨a, valV ws k, rfl, .inr ⟨ws, k, b, .inl q1, f1, f2, rfl⟩, ?_⟩
      subst e2
      exact RK.val k q2
    · rename_i l el
      obtain ⟨k, e1, e2⟩ := map_some e
      obtain ⟨ob, ws, q1, q2⟩ := r.atc h1 el
      obtain ⟨b, f1, f2⟩ := hw.tkey e1
      refine ⟨a, valV ws k, rfl, .inr ⟨ws, k, b, .inr ⟨ob, q1⟩, f1, f2, rfl⟩, ?_⟩
      subst e2
      exact RK.val k q2
    · cases e
  | _ => simp only [dGet] at e; cases e
end Dl

/-! DlQ: in, items, slices, sorted, built-in calls, methods -/
namespace Dl
open PySem PySem.Spec PyProof.Rows L2

/-! ### in -/
def flatD : D → Bool
  | .non => true
  | .bl _ => true
  | .int _ => true
  | .str _ => true
  | _ => false
def eqF : D → D → Bool
  | .non, .non => true
  | .bl a, .bl b => a == b
  | .bl a, .int b => (if a then 1 else 0) == b
  | .int a, .bl b => a == (if b then 1 else 0)
  | .int a, .int b => a == b
  | .str a, .str b => a == b
  | _, _ => false
def pyO (S : Sto) : List D → Option (List PyData)
  | [] => some []
  | d :: r => match py1 S d, pyO S r with
    | some a, some b => some (a :: b)
    | _, _ => none
/-- x in y -/
def inB (S : Sto) (x y : D) : Option Bool := match y with
  | .tup l => if flatD x = true ∧ l.all flatD = true then some (l.any fun z => eqF z x) else none
  | .loc n => match S[n]? with
    | some (.lst l) => if flatD x = true ∧ l.all flatD = true then some (l.any fun z => eqF z x) else
        (match py1 S x, pyO S l with
        | some a, some b => if SeqAt.shaped a = true ∧ SeqAt.shaped (.list b) = true then some (b.any fun z => PyData.eqv z a) else none
        | _, _ => none)
    | _ => (dGet S y x).map (·.isSome)
  | _ => none
def oIn : O2 := fun x y S => (inB S x y).map fun b => (.bl b, S)
def oNotIn : O2 := fun x y S => (inB S x y).map fun b => (.bl (!b), S)
def rDIn (neg : Bool) : R2 := fun y x H Q => ∃ a o, x = .ref a ∧ DGet H a y o ∧ Q (.bl (if neg then !o.isSome else o.isSome)) H
theorem op_din {X : Cx} (hu : X.A.units + 1 < cLine) : OpR X (compareOp .In) (rDIn false) := by
  intro pins s σ H y x u v Q I ry rx h
  obtain ⟨a, o, rfl, g, q⟩ := h
  cases rx
  exact d_in hu I g ry fun s3 I3 => ⟨.bl o.isSome, H, I3, rfl, q⟩
theorem op_dnotin {X : Cx} (hu : X.A.units + 1 < cLine) : OpR X (compareOp .NotIn) (rDIn true) := by
  intro pins s σ H y x u v Q I ry rx h
  obtain ⟨a, o, rfl, g, q⟩ := h
  cases rx
  exact d_notIn hu I g ry fun s3 I3 => ⟨.bl (!o.isSome), H, I3, rfl, q⟩
def rIn3 (K : PySem.W.Frag) : R2 := fun x y H Q => rIn K false x y H Q ∨ rInD K x y H Q ∨ rDIn false x y H Q
def rNotIn3 (K : PySem.W.Frag) : R2 := fun x y H Q => rIn K true x y H Q ∨ rNotInD K x y H Q ∨ rDIn true x y H Q
theorem or_in {X : Cx} (hu : X.A.units + 65 < cLine) : OpR X (compareOp .In) (rIn3 X.K) := op_in_seq.or ((op_inD hu).or (op_din (by omega)))
theorem or_notIn {X : Cx} (hu : X.A.units + 65 < cLine) : OpR X (compareOp .NotIn) (rNotIn3 X.K) := op_notIn_seq.or ((op_notInD hu).or (op_dnotin (by omega)))
section
variable {K : PySem.W.Frag} {H : Hp} {μ : List Addr} {S : Sto}
theorem RV.flat {d : D} {v : V} (h : RV K H μ d v) (f : flatD d = true) : flatV v = true := by cases h <;> first | rfl | (simp [flatD] at f)
theorem RV.eqF {d e : D} {v w : V} (h : RV K H μ d v) (g : RV K H μ e w) (f : flatD d = true) (f' : flatD e = true) : eqV v w = eqF d e := by
  cases h <;> first | (simp [flatD] at f; done) | (cases g <;> first | rfl | (simp [flatD] at f'))
theorem RVs.flat : ∀ {l : List D} {vs : List V}, RVs K H μ l vs → l.all flatD = true → vs.all flatV = true
  | _, _, .nil, _ => rfl
  | _, _, .cons h r, f => by
    rw [List.all_cons, Bool.and_eq_true] at f ⊢
    exact ⟨h.flat f.1, RVs.flat r f.2⟩
theorem RVs.anyF {x : D} {v : V} (hx : RV K H μ x v) (fx : flatD x = true) : ∀ {l : List D} {vs : List V}, RVs K H μ l vs → l.all flatD = true → inV v vs = l.any fun z => Dl.eqF z x
  | _, _, .nil, _ => rfl
  | _, _, .cons h r, f => by
    rw [List.all_cons, Bool.and_eq_true] at f
    have ih := RVs.anyF hx fx r f.2
    unfold inV at ih ⊢
    rw [List.any_cons, List.any_cons, h.eqF hx f.1 fx, ih]
theorem pyO_dp (r : RS K H μ S) : ∀ {l : List D} {vs : List V} {ps : List PyData}, RVs K H μ l vs → pyO S l = some ps → DpAll K H vs ps
  | _, _, ps, .nil, e => by cases e; exact .nil
  | _, _, ps, .cons h t, e => by
    simp only [pyO] at e
    split at e
    · rename_i a b e1 e2
      cases e
      exact .cons (h.dp1 r e1) (pyO_dp r t e2)
    · cases e
theorem rd_in_go {x y : V} {dx dy : D} {b : Bool} (r : RS K H μ S) (v1 : RV K H μ dx x) (v2 : RV K H μ dy y) (h : inB S dx dy = some b) :
    (∃ p xs, y = .ref p ∧ (SqL K H p xs ∨ SqT K H p xs) ∧ flatV x = true ∧ xs.all flatV = true ∧ inV x xs = b) ∨
    (∃ d ds, Dp K H x d ∧ Dp K H y (.list ds) ∧ SeqAt.shaped d = true ∧ SeqAt.shaped (.list ds) = true ∧ (ds.any fun z => PyData.eqv z d) = b) ∨
    ∃ a o, y = .ref a ∧ DGet H a x o ∧ o.isSome = b := by
  cases v2 with
  | @tup a vs l h1 h2 =>
    simp only [inB] at h
    split at h
    · rename_i hc
      cases h
      exact .inl ⟨a, vs, rfl, .inr (SqT.of h1), v1.flat hc.1, h2.flat hc.2, RVs.anyF v1 hc.1 h2 hc.2⟩
    · cases h
  | @loc a n h1 =>
    have hv : RV K H μ (.loc n) (.ref a) := .loc h1
    simp only [inB] at h
    split at h
    · rename_i l e
      obtain ⟨vs, q1, q2⟩ := r.atc h1 e
      split at h
      · rename_i hc
        cases h
        exact .inl ⟨a, vs, rfl, .inl (SqL.of q1), v1.flat hc.1, q2.flat hc.2, RVs.anyF v1 hc.1 q2 hc.2⟩
      · split at h
        · rename_i p ps e1 e2
          split at h
          · rename_i hc
            cases h
            exact .inr (.inl ⟨p, ps, v1.dp1 r e1, .lst (SqL.of q1) (pyO_dp r q2 e2), hc.1, hc.2, rfl⟩)
          · cases h
        · cases h
    · obtain ⟨o, e1, e2⟩ := map_some h
      obtain ⟨a', o', ea, g, oo⟩ := dget_of r hv v1 e1
      refine .inr (.inr ⟨a', o', ea, g, ?_⟩)
      rcases oo with ⟨z1, z2⟩ | ⟨x', z', z1, z2, _⟩
      · rw [z2, ← e2, z1]
        all_goals rfl
      · rw [z2, ← e2, z1]
        all_goals rfl
  | _ => simp only [inB] at h; cases h
end
theorem rd_in {K : PySem.W.Frag} : RD K (rIn3 K) oIn := by
  intro H S μ x y dx dy d S' Q r v1 v2 h k
  obtain ⟨b, h1, h2⟩ := map_some h
  cases h2
  have kk : Q (.bl b) H := k _ H μ r .refl (.bl _)
  rcases rd_in_go r v1 v2 h1 with ⟨p, xs, e1, e2, e3, e4, e5⟩ | ⟨p, ds, e1, e2, e3, e4, e5⟩ | ⟨a, o, e1, e2, e3⟩
  · exact .inl ⟨p, xs, e1, e2, e3, e4, by rw [if_neg Bool.false_ne_true, e5]; exact kk⟩
  · exact .inr (.inl ⟨p, ds, e1, e2, e3, e4, by rw [e5]; exact kk⟩)
  · exact .inr (.inr ⟨a, o, e1, e2, by rw [if_neg Bool.false_ne_true, e3]; exact kk⟩)
theorem rd_notIn {K : PySem.W.Frag} : RD K (rNotIn3 K) oNotIn := by
  intro H S μ x y dx dy d S' Q r v1 v2 h k
  obtain ⟨b, h1, h2⟩ := map_some h
  cases h2
  have kk : Q (.bl (!b)) H := k _ H μ r .refl (.bl _)
  rcases rd_in_go r v1 v2 h1 with ⟨p, xs, e1, e2, e3, e4, e5⟩ | ⟨p, ds, e1, e2, e3, e4, e5⟩ | ⟨a, o, e1, e2, e3⟩
  · exact .inl ⟨p, xs, e1, e2, e3, e4, by rw [if_pos rfl, e5]; exact kk⟩
  · exact .inr (.inl ⟨p, ds, e1, e2, e3, e4, by rw [e5]; exact kk⟩)
  · exact .inr (.inr ⟨a, o, e1, e2, by rw [if_pos rfl, e3]; exact kk⟩)

/-! ### items -/
def oIx : O2 := fun x y S => match x, y with
  | .tup l, .int i => (atI l i).map fun d => (d, S)
  | .str z, .int i => if z.length ≤ sizeLine then (atI z.cps.toList i).map fun c => (.str ⟨#[c]⟩, S) else none
  | .loc n, y => match S[n]?, y with
    | some (.lst l), .int i => (atI l i).map fun d => (d, S)
    | some (.ro l), .int i => (atI l i).map fun d => (d, S)
    | _, _ => match dGet S x y with
      | some (some d) => some (d, S)
      | _ => none
  | _, _ => none
def rDIx : R2 := fun x y H Q => ∃ a v, x = .ref a ∧ DGet H a y (some v) ∧ Q v H
theorem ix_dict {X : Cx} (hu : X.A.units + 1 < cLine) : IxR X rDIx := by
  intro value slice pins s σ H x y v u Q I rx ry h hs
  obtain ⟨a, z, rfl, g, q⟩ := h
  cases rx
  exact tail_any (dict_typeIs I g) PySem.F.slot_dict_getitem.lookup (d_getItem hu I g ry fun w' s3 I3 rw' => ⟨z, H, I3, rw', q⟩) hs
def rIx4 (K : PySem.W.Frag) : R2 := fun x y H Q => rIx K x y H Q ∨ rDIx x y H Q
theorem ixr {X : Cx} (hu : X.A.units + 1 < cLine) : IxR X (rIx4 X.K) := ix_seq.or (ix_dict hu)
theorem RVs.atI {K : PySem.W.Frag} {H : Hp} {μ : List Addr} {l : List D} {vs : List V} {i : Int} {d : D} (h : RVs K H μ l vs) (e : L2.atI l i = some d) : ∃ v, L2.atI vs i = some v ∧ RV K H μ d v := by
  unfold L2.atI at e ⊢
  rw [← h.length]
  obtain ⟨j, e1, e2⟩ := bind_some e
  obtain ⟨v, e3, e4⟩ := h.get e2
  exact ⟨v, by rw [e1]; exact e3, e4⟩
theorem rd_ix {K : PySem.W.Frag} : RD K (rIx4 K) oIx := by
  intro H S μ x y dx dy d S' Q r v1 v2 h k
  cases v1 with
  | @tup a vs l h1 h2 =>
    cases v2 <;> simp only [oIx] at h <;> first | cases h | skip
    obtain ⟨z, e1, e2⟩ := map_some h
    cases e2
    obtain ⟨v, e3, e4⟩ := h2.atI e1
    exact .inl (.inr (.inl ⟨a, vs, _, v, rfl, rfl, SqT.of h1, e3, k _ H μ r .refl e4⟩))
  | str z =>
    cases v2 <;> simp only [oIx] at h <;> first | cases h | skip
    split at h
    · rename_i hc
      obtain ⟨c, e1, e2⟩ := map_some h
      cases e2
      exact .inl (.inr (.inr ⟨_, _, c, rfl, rfl, hc, e1, k _ H μ r .refl (.str _)⟩))
    · cases h
  | @loc a n h1 =>
    have hv : RV K H μ (.loc n) (.ref a) := .loc h1
    simp only [oIx] at h
    split at h
    · rename_i l i e
      cases v2
      obtain ⟨z, e1, e2⟩ := map_some h
      cases e2
      obtain ⟨vs, q1, q2⟩ := r.atc h1 e
      obtain ⟨v, e3, e4⟩ := q2.atI e1
      exact .inl (.inl ⟨a, vs, _, v, rfl, rfl, SqL.of q1, e3, k _ H μ r .refl e4⟩)
    · rename_i l i e
      cases v2
      obtain ⟨z, e1, e2⟩ := map_some h
      cases e2
      obtain ⟨vs, q1, q2⟩ := r.atc h1 e
      obtain ⟨v, e3, e4⟩ := q2.atI e1
      exact .inl (.inl ⟨a, vs, _, v, rfl, rfl, q1.seq, e3, k _ H μ r .refl e4⟩)
    · split at h
      · rename_i z e
        cases h
        obtain ⟨a', o', ea, g, oo⟩ := dget_of r hv v2 e
        rcases oo with ⟨z1, _⟩ | ⟨x', z', z1, z2, rv⟩
        · cases z1
        · cases z1
          subst z2
          exact .inr ⟨a', z', ea, g, k _ H μ r .refl rv⟩
      · cases h
  | _ => simp only [oIx] at h; cases h
section
variable {X : Cx} {e a b c : Expr} {es rest : List Expr} {f fa fb fc : FE} {g ga gb : FT} {pos pos' p p2 : Pos}
theorem se_ix (hu : X.A.units + 1 < cLine) (ha : SE X a fa) (hb : SE X b fb) (hs : PlainIx b := by exact fun _ _ => rfl) : SE X (.Subscript a b pos) (eBin oIx fa fb) :=
  SE.mk (pe_ix (ixr hu) ha hb hs) fun σ H Q Γ S μ d S' g r h k => two g r h fun x y dx dy H2 μ2 S2 r2 e2 v1 v2 h4 => rd_ix H2 S2 μ2 x y dx dy d S' Q r2 v1 v2 h4 (k.after e2)

/-! ### slices -/
def cut {α : Type} (xs : List α) (lo hi : Option Int) : List α := (xs.drop (HT.sIx xs.length 0 lo)).take (HT.sIx xs.length xs.length hi - HT.sIx xs.length 0 lo)
theorem RVs.cut {K : PySem.W.Frag} {H : Hp} {μ : List Addr} {l : List D} {vs : List V} (h : RVs K H μ l vs) (lo hi : Option Int) : RVs K H μ (Dl.cut l lo hi) (cutV vs lo hi) := by
  unfold Dl.cut cutV
  rw [← h.length]
  exact (h.drop _).take _
def oSl (x : D) (lo hi : Option Int) (S : Sto) : Option (D × Sto) := match x with
  | .tup l => some (.tup (cut l lo hi), S)
  | .str z => if z.length ≤ sizeLine then some (.str (Txt.slice z lo hi), S) else none
  | .loc n => match S[n]? with
    | some (.lst l) => some (.loc S.length, S ++ [.lst (cut l lo hi)])
    | some (.ro l) => some (.loc S.length, S ++ [.lst (cut l lo hi)])
    | _ => none
  | _ => none
def rSl3 (K : PySem.W.Frag) : V → Option Int → Option Int → Hp → VK → Prop := fun x lo hi H Q => rSlA K x lo hi H Q ∨ rSlL K x lo hi H Q ∨ C8.rSlX x lo hi H Q
/-- a slice's part -/
abbrev FO := Ctx → Sto → Option (Option Int × Sto)
def oNo : FO := fun _ S => some (none, S)
def oPart (f : FE) : FO := fun Γ S => (f Γ S).bind fun p => match p.1 with
  | .int i => some (some i, p.2)
  | _ => none
def tO (K : PySem.W.Frag) (f : FO) : TO := fun σ H Q => ∃ Γ S μ o S', RG K H μ Γ σ ∧ RS K H μ S ∧ f Γ S = some (o, S') ∧ ∀ H' μ', RS K H' μ' S' → Ext K H μ H' μ' → Q o H'
def SO (X : Cx) (e : Option Expr) (f : FO) : Prop := PO X e (tO X.K f)
theorem imp_o {X : Cx} {e : Option Expr} {t t' : TO} (h : PO X e t) (i : ∀ σ H Q, t' σ H Q → t σ H Q) : PO X e t' := ⟨fun pins s σ H Q I q => h.run pins s σ H Q I (i σ H Q q)⟩
theorem so_no : SO X none oNo := imp_o po_none fun σ H Q ⟨Γ, S, μ, o, S', g, r, h, k⟩ => by cases h; exact k H μ r .refl
theorem so_some (he : SE X e f) : SO X (some e) (oPart f) := imp_o (po_some he) fun σ H Q ⟨Γ, S, μ, o, S', g, r, h, k⟩ => by
  obtain ⟨⟨x, S1⟩, h1, h2⟩ := bind_some h
  refine ⟨Γ, S, μ, x, S1, g, r, h1, fun v H' μ' r' e' rv => ?_⟩
  cases x with
  | int i => cases rv; cases h2; exact ⟨i, rfl, k H' μ' r' e'⟩
  | _ => cases h2
def eSl (fa : FE) (lo hi : FO) : FE := fun Γ S => (fa Γ S).bind fun p => (lo Γ p.2).bind fun q => (hi Γ q.2).bind fun t => oSl p.1 q.1 t.1 t.2
theorem se_sl {lo hi : Option Expr} {fl fh : FO} (ha : SE X a fa) (hl : SO X lo fl) (hh : SO X hi fh) : SE X (.Subscript a (.Slice lo hi none p2) pos) (eSl fa fl fh) :=
  SE.mk (pe_slice (sl_tupA.or (sl_list.or C8.sl_txt)) ha hl hh) fun σ H Q Γ S μ d S' g r h k => by
    obtain ⟨⟨x, S1⟩, h1, h2⟩ := bind_some h
    obtain ⟨⟨l, S2⟩, h3, h4⟩ := bind_some h2
    obtain ⟨⟨u, S3⟩, h5, h6⟩ := bind_some h4
    refine ⟨Γ, S, μ, x, S1, g, r, h1, fun v H1 μ1 r1 e1 rv => ⟨Γ, S1, μ1, l, S2, g.ext e1, r1, h3, fun H2 μ2 r2 e2 => ⟨Γ, S2, μ2, u, S3, (g.ext e1).ext e2, r2, h5, fun H3 μ3 r3 e3 => ?_⟩⟩⟩
    have ee := e1.trans (e2.trans e3)
    have rv := rv.ext (e2.trans e3)
    cases rv with
    | @tup a vs ds q1 q2 =>
      simp only [oSl] at h6
      cases h6
      refine .inl ⟨a, vs, rfl, SqT.of q1, fun hw => ?_, fun _ p hp => ?_⟩
      · have : cut ds l u = ds := by
          unfold cut
          rw [q2.length, hw.1, hw.2]
          simp [← q2.length]
        rw [this] at k
        exact k _ H3 μ3 r3 ee (.tup q1 q2)
      · have s := same_upd (o := .tup (cutV vs l u)) hp
        exact k _ _ μ3 (r3.same s) (ee.trans (.same s)) (.tup upd_same ((q2.cut l u).ext (.same s)))
    | str z =>
      simp only [oSl] at h6
      split at h6
      · rename_i hc; cases h6; exact .inr (.inr ⟨z, rfl, hc, k _ H3 μ3 r3 ee (.str _)⟩)
      · cases h6
    | @loc a n q1 =>
      simp only [oSl] at h6
      split at h6
      · rename_i ds e
        cases h6
        obtain ⟨vs, z1, z2⟩ := r3.atc q1 e
        refine .inr (.inl ⟨a, vs, rfl, SqL.of z1, fun p hp => ?_⟩)
        obtain ⟨a1, a2, a3⟩ := r3.newL (z2.cut l u) hp
        exact k _ _ _ a1 (ee.trans a2) a3
      · rename_i ds e
        cases h6
        obtain ⟨vs, z1, z2⟩ := r3.atc q1 e
        refine .inr (.inl ⟨a, vs, rfl, z1.seq, fun p hp => ?_⟩)
        obtain ⟨a1, a2, a3⟩ := r3.newL (z2.cut l u) hp
        exact k _ _ _ a1 (ee.trans a2) a3
      · cases h6
    | _ => simp only [oSl] at h6; cases h6
end
end Dl

/-! DlR: built-in calls and methods -/
namespace Dl
open PySem PySem.Spec PyProof.Rows L2

theorem RVs.one {K : PySem.W.Frag} {H : Hp} {μ : List Addr} {d : D} {vs : List V} (h : RVs K H μ [d] vs) : ∃ v, vs = [v] ∧ RV K H μ d v := by
  cases h with
  | cons h r => cases r; exact ⟨_, rfl, h⟩
theorem RVs.two {K : PySem.W.Frag} {H : Hp} {μ : List Addr} {d e : D} {vs : List V} (h : RVs K H μ [d, e] vs) : ∃ v w, vs = [v, w] ∧ RV K H μ d v ∧ RV K H μ e w := by
  cases h with
  | cons h r =>
    obtain ⟨w, rfl, g⟩ := r.one
    exact ⟨_, _, rfl, h, g⟩
theorem RVs.nilv {K : PySem.W.Frag} {H : Hp} {μ : List Addr} {vs : List V} (h : RVs K H μ [] vs) : vs = [] := by cases h; rfl

/-! ### len, abs, int, str, max, min, gcd, lcm -/
def lenD (S : Sto) : D → Option Nat
  | .str z => if z.length ≤ sizeLine then some z.length else none
  | .tup l => some l.length
  | .loc n => match S[n]? with
    | some (.lst l) => some l.length
    | some (.ro l) => some l.length
    | some (.dk l) => some l.length
    | _ => none
  | _ => none
def bLen : FF
  | [d], S => (lenD S d).map fun n => (.int n, S)
  | _, _ => none
def rLen2 (K : PySem.W.Frag) : List V → Hp → VK → Prop := fun xs H Q => (∃ x n, xs = [x] ∧ LenV K x H n ∧ Q (.int n) H) ∨ (∃ a kvs, xs = [V.ref a] ∧ H a = some (.dK kvs) ∧ Q (.int kvs.length) H)
theorem cr_len {X : Cx} : CallR X (.builtin "len") (rLen2 X.K) := call_len.or call_lenD
theorem bd_len {K : PySem.W.Frag} : BD K (rLen2 K) bLen := by
  intro H S μ xs ds d S' Q r rv h k
  match ds, h with
  | [x], h =>
    obtain ⟨v, rfl, rx⟩ := rv.one
    obtain ⟨n, h1, h2⟩ := map_some h
    cases h2
    have kk : Q (.int n) H := k _ H μ r .refl (.int _)
    cases rx with
    | str z =>
      simp only [lenD] at h1
      split at h1
      · rename_i hc; cases h1; exact .inl ⟨_, _, rfl, ⟨hc, rfl⟩, kk⟩
      · cases h1
    | @tup a vs l q1 q2 =>
      cases h1
      exact .inl ⟨_, _, rfl, .inr ⟨vs, SqT.of q1, q2.length⟩, kk⟩
    | @loc a m q1 =>
      simp only [lenD] at h1
      split at h1
      · rename_i l e
        cases h1
        obtain ⟨vs, z1, z2⟩ := r.atc q1 e
        exact .inl ⟨_, _, rfl, .inl ⟨vs, SqL.of z1, z2.length⟩, kk⟩
      · rename_i l e
        cases h1
        obtain ⟨vs, z1, z2⟩ := r.atc q1 e
        exact .inl ⟨_, _, rfl, .inl ⟨vs, z1.seq, z2.length⟩, kk⟩
      · rename_i l e
        cases h1
        obtain ⟨ws, z1, z2⟩ := r.atc q1 e
        exact .inr ⟨a, ws, rfl, z1, by rw [← RK.length z2]; exact kk⟩
      · cases h1
    | _ => simp only [lenD] at h1; cases h1
def bAbs : FF
  | [.int i], S => some (.int (if i < 0 then -i else i), S)
  | _, _ => none
theorem bd_abs {K : PySem.W.Frag} : BD K (fun xs H Q => ∃ i, xs = [.int i] ∧ Q (.int (if i < 0 then -i else i)) H) bAbs := by
  intro H S μ xs ds d S' Q r rv h k
  match ds, h with
  | [.int i], h =>
    cases h
    obtain ⟨v, rfl, rx⟩ := rv.one
    cases rx
    exact ⟨i, rfl, k _ H μ r .refl (.int _)⟩
def bInt : FF
  | [.int i], S => some (.int i, S)
  | [.bl b], S => some (.int (if b then 1 else 0), S)
  | _, _ => none
theorem bd_int {K : PySem.W.Frag} : BD K (fun xs H Q => (∃ i, xs = [.int i] ∧ Q (.int i) H) ∨ ∃ k, xs = [.bl k] ∧ Q (.int (if k then 1 else 0)) H) bInt := by
  intro H S μ xs ds d S' Q r rv h k
  match ds, h with
  | [.int i], h =>
    cases h
    obtain ⟨v, rfl, rx⟩ := rv.one
    cases rx
    exact .inl ⟨i, rfl, k _ H μ r .refl (.int _)⟩
  | [.bl i], h =>
    cases h
    obtain ⟨v, rfl, rx⟩ := rv.one
    cases rx
    exact .inr ⟨i, rfl, k _ H μ r .refl (.int _)⟩
def bStr : FF
  | [.int i], S => if i.natAbs.log2 < 1920 then some (.str (toString i), S) else none
  | _, _ => none
theorem bd_str {K : PySem.W.Frag} : BD K (fun xs H Q => ∃ i, xs = [.int i] ∧ i.natAbs.log2 < 1920 ∧ Q (.str (toString i)) H) bStr := by
  intro H S μ xs ds d S' Q r rv h k
  match ds, h with
  | [.int i], h =>
    simp only [bStr] at h
    split at h
    · rename_i hc
      cases h
      obtain ⟨v, rfl, rx⟩ := rv.one
      cases rx
      exact ⟨i, rfl, hc, k _ H μ r .refl (.str _)⟩
    · cases h
def bMax2 : FF
  | [.int i, .int j], S => some (.int (if j > i then j else i), S)
  | _, _ => none
theorem bd_max2 {K : PySem.W.Frag} : BD K (fun xs H Q => ∃ i j, xs = [.int i, .int j] ∧ Q (.int (if j > i then j else i)) H) bMax2 := by
  intro H S μ xs ds d S' Q r rv h k
  match ds, h with
  | [.int i, .int j], h =>
    cases h
    obtain ⟨v, w, rfl, rx, ry⟩ := rv.two
    cases rx; cases ry
    exact ⟨i, j, rfl, k _ H μ r .refl (.int _)⟩
def bMin2 : FF
  | [.int i, .int j], S => some (.int (if j < i then j else i), S)
  | _, _ => none
theorem bd_min2 {K : PySem.W.Frag} : BD K (fun xs H Q => ∃ i j, xs = [.int i, .int j] ∧ Q (.int (if j < i then j else i)) H) bMin2 := by
  intro H S μ xs ds d S' Q r rv h k
  match ds, h with
  | [.int i, .int j], h =>
    cases h
    obtain ⟨v, w, rfl, rx, ry⟩ := rv.two
    cases rx; cases ry
    exact ⟨i, j, rfl, k _ H μ r .refl (.int _)⟩
def bGcd : FF
  | [.int a, .int b], S => some (.int ((Nat.gcd a.natAbs b.natAbs : Nat) : Int), S)
  | _, _ => none
theorem bd_gcd {K : PySem.W.Frag} : BD K rGcd bGcd := by
  intro H S μ xs ds d S' Q r rv h k
  match ds, h with
  | [.int i, .int j], h =>
    cases h
    obtain ⟨v, w, rfl, rx, ry⟩ := rv.two
    cases rx; cases ry
    exact ⟨i, j, rfl, k _ H μ r .refl (.int _)⟩
def bLcm : FF
  | [.int a, .int b], S => if a.natAbs < 2 ^ 64 ∧ b.natAbs < 2 ^ 64 then some (.int ((Nat.lcm a.natAbs b.natAbs : Nat) : Int), S) else none
  | _, _ => none
def rLcm : List V → Hp → VK → Prop := fun vs H Q => ∃ a b : Int, vs = [.int a, .int b] ∧ a.natAbs < 2 ^ 64 ∧ b.natAbs < 2 ^ 64 ∧ Q (.int ((Nat.lcm a.natAbs b.natAbs : Nat) : Int)) H
theorem cr_lcm {X : Cx} : CallR X (.builtin "math.lcm") rLcm := by
  intro pins s σ H vs us Q I r h
  obtain ⟨a, b, rfl, ha, hb, q⟩ := h
  obtain ⟨t, u, rfl⟩ := Vals.int2 r
  have e : (((Nat.lcm 1 a.natAbs).lcm b.natAbs : Nat) : Int) = ((Nat.lcm a.natAbs b.natAbs : Nat) : Int) := by rw [Nat.lcm_one_left]
  refine PySem.W.mg_lcm_v ha hb e ?_ ⟨.int _, H, I.tok _, ⟨_, rfl⟩, q⟩
  have h1 : Nat.lcm a.natAbs b.natAbs ≤ a.natAbs * b.natAbs := by
    by_cases h0 : a.natAbs * b.natAbs = 0
    · rw [Nat.mul_eq_zero] at h0
      rcases h0 with h0 | h0 <;> simp [h0]
    · exact Nat.le_of_dvd (Nat.pos_of_ne_zero h0) (Nat.lcm_dvd_mul _ _)
  have h2 : a.natAbs * b.natAbs < 2 ^ 128 := by
    have := Nat.mul_lt_mul'' ha hb
    exact Nat.lt_of_lt_of_eq this (by decide)
  have h3 : (((Nat.lcm a.natAbs b.natAbs : Nat) : Int)).natAbs < 2 ^ 128 := by
    rw [Int.natAbs_natCast]
    exact Nat.lt_of_le_of_lt h1 h2
  exact Nat.lt_of_le_of_lt (PySem.W.mg_log (k := 127) h3) (by decide)
theorem bd_lcm {K : PySem.W.Frag} : BD K rLcm bLcm := by
  intro H S μ xs ds d S' Q r rv h k
  match ds, h with
  | [.int i, .int j], h =>
    simp only [bLcm] at h
    split at h
    · rename_i hc
      cases h
      obtain ⟨v, w, rfl, rx, ry⟩ := rv.two
      cases rx; cases ry
      exact ⟨i, j, rfl, hc.1, hc.2, k _ H μ r .refl (.int _)⟩
    · cases h

/-! ### sum, max, min of a list of ints -/
def intsOf : List D → Option (List Int)
  | [] => some []
  | .int i :: r => (intsOf r).map fun l => i :: l
  | _ :: _ => none
theorem RVs.ints {K : PySem.W.Frag} {H : Hp} {μ : List Addr} : ∀ {l : List D} {vs : List V} {ns : List Int}, RVs K H μ l vs → intsOf l = some ns → vs = ns.map V.int
  | _, _, ns, .nil, e => by cases e; rfl
  | _, _, ns, .cons h r, e => by
    cases h <;> simp only [intsOf] at e <;> first | cases e | skip
    obtain ⟨m, e1, e2⟩ := map_some e
    subst e2
    rw [List.map_cons, RVs.ints r e1]
def bSum : FF
  | [.loc n], S => match S[n]? with
    | some (.lst l) => (intsOf l).map fun ns => (.int ns.sum, S)
    | _ => none
  | _, _ => none
theorem bd_sum {K : PySem.W.Frag} : BD K (rSum K) bSum := by
  intro H S μ xs ds d S' Q r rv h k
  match ds, h with
  | [.loc n], h =>
    obtain ⟨v, rfl, rx⟩ := rv.one
    cases rx with
    | @loc a _ q1 =>
      simp only [bSum] at h
      split at h
      · rename_i l e
        obtain ⟨ns, e1, e2⟩ := map_some h
        cases e2
        obtain ⟨vs, z1, z2⟩ := r.atc q1 e
        exact ⟨a, ns, rfl, by rw [← z2.ints e1]; exact SqL.of z1, k _ H μ r .refl (.int _)⟩
      · cases h
def maxL : List Int → Int
  | [] => 0
  | [x] => x
  | x :: y :: r => max x (maxL (y :: r))
def minL : List Int → Int
  | [] => 0
  | [x] => x
  | x :: y :: r => min x (minL (y :: r))
theorem maxL_spec : ∀ l : List Int, l ≠ [] → maxL l ∈ l ∧ ∀ y ∈ l, y ≤ maxL l
  | [], h => absurd rfl h
  | [x], _ => by simp [maxL]
  | x :: y :: r, _ => by
    obtain ⟨h1, h2⟩ := maxL_spec (y :: r) (by simp)
    rw [maxL]
    refine ⟨?_, fun z hz => ?_⟩
    · by_cases h : x ≤ maxL (y :: r)
      · rw [Int.max_eq_right h]; exact List.mem_cons_of_mem _ h1
      · rw [Int.max_eq_left (by omega)]; exact List.mem_cons_self
    · rcases List.mem_cons.mp hz with rfl | hz
      · exact Int.le_max_left _ _
      · exact Int.le_trans (h2 z hz) (Int.le_max_right _ _)
theorem minL_spec : ∀ l : List Int, l ≠ [] → minL l ∈ l ∧ ∀ y ∈ l, minL l ≤ y
  | [], h => absurd rfl h
  | [x], _ => by simp [minL]
  | x :: y :: r, _ => by
    obtain ⟨h1, h2⟩ := minL_spec (y :: r) (by simp)
    rw [minL]
    refine ⟨?_, fun z hz => ?_⟩
    · by_cases h : x ≤ minL (y :: r)
      · rw [Int.min_eq_left h]; exact List.mem_cons_self
      · rw [Int.min_eq_right (by omega)]; exact List.mem_cons_of_mem _ h1
    · rcases List.mem_cons.mp hz with rfl | hz
      · exact Int.min_le_left _ _
      · exact Int.le_trans (Int.min_le_right _ _) (h2 z hz)
def bMaxL : FF
  | [.loc n], S => match S[n]? with
    | some (.lst l) => match intsOf l with
      | some (x :: ns) => some (.int (maxL (x :: ns)), S)
      | _ => none
    | _ => none
  | _, _ => none
theorem bd_maxL {K : PySem.W.Frag} : BD K (rMax K) bMaxL := by
  intro H S μ xs ds d S' Q r rv h k
  match ds, h with
  | [.loc n], h =>
    obtain ⟨v, rfl, rx⟩ := rv.one
    cases rx with
    | @loc a _ q1 =>
      simp only [bMaxL] at h
      split at h
      · rename_i l e
        split at h
        · rename_i x ns e1
          cases h
          obtain ⟨vs, z1, z2⟩ := r.atc q1 e
          refine ⟨a, x :: ns, rfl, by rw [← z2.ints e1]; exact SqL.of z1, by simp, fun m hm hy => ?_⟩
          obtain ⟨m1, m2⟩ := maxL_spec (x :: ns) (by simp)
          have : m = maxL (x :: ns) := Int.le_antisymm (m2 m hm) (hy _ m1)
          rw [this]
          exact k _ H μ r .refl (.int _)
        · cases h
      · cases h
def bMinL : FF
  | [.loc n], S => match S[n]? with
    | some (.lst l) => match intsOf l with
      | some (x :: ns) => some (.int (minL (x :: ns)), S)
      | _ => none
    | _ => none
  | _, _ => none
theorem bd_minL {K : PySem.W.Frag} : BD K (rMin K) bMinL := by
  intro H S μ xs ds d S' Q r rv h k
  match ds, h with
  | [.loc n], h =>
    obtain ⟨v, rfl, rx⟩ := rv.one
    cases rx with
    | @loc a _ q1 =>
      simp only [bMinL] at h
      split at h
      · rename_i l e
        split at h
        · rename_i x ns e1
          cases h
          obtain ⟨vs, z1, z2⟩ := r.atc q1 e
          refine ⟨a, x :: ns, rfl, by rw [← z2.ints e1]; exact SqL.of z1, by simp, fun m hm hy => ?_⟩
          obtain ⟨m1, m2⟩ := minL_spec (x :: ns) (by simp)
          have : m = minL (x :: ns) := Int.le_antisymm (hy _ m1) (m2 m hm)
          rw [this]
          exact k _ H μ r .refl (.int _)
        · cases h
      · cases h

/-! ### tuple(x), list(x); a list that only the call knows is forgotten -/
def seqD (S : Sto) : D → Option (List D)
  | .tup l => some l
  | .loc n => match S[n]? with
    | some (.lst l) => some l
    | some (.ro l) => some l
    | _ => none
  | _ => none
def bTup : FF
  | [d], S => (seqD S d).map fun l => (.tup l, S)
  | _, _ => none
def bList : FF
  | [d], S => (seqD S d).map fun l => (.loc S.length, S ++ [.lst l])
  | _, _ => none
theorem seq_of {K : PySem.W.Frag} {H : Hp} {μ : List Addr} {S : Sto} {d : D} {v : V} {l : List D} (r : RS K H μ S) (rv : RV K H μ d v) (h : seqD S d = some l) :
    ∃ p vs, v = .ref p ∧ RVs K H μ l vs ∧ ((SqL K H p vs ∧ ∃ n, d = .loc n) ∨ (H p = some (.tup vs) ∧ d = .tup l)) := by
  cases rv with
  | @tup a vs l q1 q2 => cases h; exact ⟨a, vs, rfl, q2, .inr ⟨q1, rfl⟩⟩
  | @loc a n q1 =>
    simp only [seqD] at h
    split at h
    · rename_i l e
      cases h
      obtain ⟨vs, z1, z2⟩ := r.atc q1 e
      exact ⟨a, vs, rfl, z2, .inl ⟨SqL.of z1, n, rfl⟩⟩
    · rename_i l e
      cases h
      obtain ⟨vs, z1, z2⟩ := r.atc q1 e
      exact ⟨a, vs, rfl, z2, .inl ⟨z1.seq, n, rfl⟩⟩
    · cases h
  | _ => simp only [seqD] at h; cases h
theorem bd_tup {K : PySem.W.Frag} : BD K (fun xs H Q => ∃ p ys, xs = [.ref p] ∧ ((SqL K H p ys ∧ ∀ l, H l = none → Q (.ref l) (upd H l (.tup ys))) ∨ (SqT K H p ys ∧ Q (.ref p) H))) bTup := by
  intro H S μ xs ds d S' Q r rv h k
  match ds, h with
  | [x], h =>
    obtain ⟨v, rfl, rx⟩ := rv.one
    obtain ⟨l, h1, h2⟩ := map_some h
    cases h2
    obtain ⟨p, vs, rfl, q1, q2⟩ := seq_of r rx h1
    rcases q2 with ⟨q2, n, rfl⟩ | ⟨q2, rfl⟩
    · refine ⟨p, vs, rfl, .inl ⟨q2, fun t ht => ?_⟩⟩
      have s := same_upd (o := .tup vs) ht
      exact k _ _ μ (r.same s) (.same s) (.tup upd_same (q1.ext (.same s)))
    · exact ⟨p, vs, rfl, .inr ⟨SqT.of q2, k _ H μ r .refl (.tup q2 q1)⟩⟩
theorem bd_list {K : PySem.W.Frag} : BD K (fun xs H Q => ∃ p ys, xs = [.ref p] ∧ (SqL K H p ys ∨ SqT K H p ys) ∧ ∀ l, H l = none → Q (.ref l) (upd H l (.lst ys))) bList := by
  intro H S μ xs ds d S' Q r rv h k
  match ds, h with
  | [x], h =>
    obtain ⟨v, rfl, rx⟩ := rv.one
    obtain ⟨l, h1, h2⟩ := map_some h
    cases h2
    obtain ⟨p, vs, rfl, q1, q2⟩ := seq_of r rx h1
    refine ⟨p, vs, rfl, ?_, fun t ht => ?_⟩
    · rcases q2 with ⟨q2, _⟩ | ⟨q2, _⟩
      · exact .inl q2
      · exact .inr (SqT.of q2)
    · obtain ⟨a1, a2, a3⟩ := r.newL q1 ht
      exact k _ _ _ a1 a2 a3

/-! ### what is behind the end and known to nobody is forgotten -/
def fin (b : Nat) (p : D × Sto) : D × Sto := if p.1.lo b = true ∧ (p.2.take b).all (Cell.lo b) = true then (p.1, p.2.take b) else p
def tidy (f : FE) : FE := fun Γ S => (f Γ S).map (fin S.length)
theorem fin_ok {K : PySem.W.Frag} {H0 H : Hp} {μ0 μ : List Addr} {S0 S : Sto} {d : D} {v : V} (r0 : RS K H0 μ0 S0) (r : RS K H μ S) (e : Ext K H0 μ0 H μ) (rv : RV K H μ d v) :
    ∃ μ', RS K H μ' (fin S0.length (d, S)).2 ∧ Ext K H0 μ0 H μ' ∧ RV K H μ' (fin S0.length (d, S)).1 v := by
  unfold fin
  split
  · rename_i hc
    have em : μ.take S0.length = μ0 := by
      obtain ⟨t, ht⟩ := e.pre
      rw [← ht, ← r0.len, List.take_left]
    exact ⟨μ.take S0.length, r.trunc hc.2, ⟨e.tup, by rw [em]; exact List.prefix_refl _⟩, rv.trunc hc.1⟩
  · exact ⟨μ, r, e, rv⟩
section
variable {X : Cx} {e a b c o : Expr} {es rest : List Expr} {f fa fb fc fo : FE} {g ga gb : FT} {pos pos' p p2 apos cpos : Pos}
theorem se_tidy (h : SE X e f) : SE X e (tidy f) :=
  SE.mk h fun σ H Q Γ S μ d S' g r h k => by
    obtain ⟨⟨x, S1⟩, h1, h2⟩ := map_some h
    refine ⟨Γ, S, μ, x, S1, g, r, h1, fun v H' μ' r' e' rv => ?_⟩
    obtain ⟨μ2, a1, a2, a3⟩ := fin_ok r r' e' rv
    rw [h2] at a1 a3
    exact k v H' μ2 a1 a2 a3

/-! ### isinstance(x, T) -/
def tyN (S : Sto) : D → Option String
  | .non => some "NoneType"
  | .bl _ => some "bool"
  | .int _ => some "int"
  | .str _ => some "str"
  | .tup _ => some "tuple"
  | .loc n => match S[n]? with
    | some (.lst _) => some "list"
    | some (.dk _) => some "dict"
    | some (.dt _) => some "dict"
    | _ => none
theorem ty_of {K : PySem.W.Frag} {H : Hp} {μ : List Addr} {S : Sto} {d : D} {v : V} {t : String} (r : RS K H μ S) (rv : RV K H μ d v) (h : tyN S d = some t) : TyOf K H v (.type t) := by
  cases rv with
  | non => cases h; exact .non
  | bl b => cases h; exact .bl b
  | int i => cases h; exact .int i
  | str x => cases h; exact .str x
  | tup h1 h2 => cases h; exact .tup h1
  | @loc a n h1 =>
    simp only [tyN] at h
    split at h
    · rename_i l e; cases h; obtain ⟨vs, q1, q2⟩ := r.atc h1 e; exact .lst q1
    · rename_i l e; cases h; obtain ⟨vs, q1, q2⟩ := r.atc h1 e; exact .dK q1
    · rename_i l e; cases h; obtain ⟨vs, q1, q2⟩ := r.atc h1 e; exact .dT q1
    · cases h
def eIsi (T : String) (fa : FE) : FE := fun Γ S => (fa Γ S).bind fun p => (tyN p.2 p.1).bind fun t => (kitB t T).map fun b => (.bl b, p.2)
theorem se_isi {x : Str} {T : String} (ha : SE X a fa) (hg : Gl X "isinstance") (hm : X.mg "isinstance" = none) (hg2 : Gl X x) (hm2 : X.mg x = none) (hv2 : bootBuiltins x = some (.type T)) (hn : x ≠ "__name__" := by decide) (hdb : (x == ("__debug__" : Str)) = false := by decide)
    (he : starEach [a, .Name x p2] X.env = (false, eval a X.env) :: starEach [.Name x p2] X.env := by rfl) (hpl : (backTo pos (starEach [.Name x p2] X.env)).any (·.1) = false := by rfl) :
    SE X (.Call (.Name "isinstance" p) [a, .Name x p2] [] pos) (eIsi T fa) :=
  SE.mk (pe_callB call_isi hg hm (by decide +kernel) (pa_cons ha (pa_cons (pe_bltn (v := .ty T) (u := .type T) hg2 hm2 hv2 rfl hn hdb) pa_nil) he) (by decide) (by decide) he hpl) fun σ H Q Γ S μ d S' g r h k => by
    obtain ⟨⟨y, S1⟩, h1, h2⟩ := bind_some h
    obtain ⟨t, h3, h4⟩ := bind_some h2
    obtain ⟨b, h5, h6⟩ := map_some h4
    cases h6
    exact ⟨Γ, S, μ, y, S1, g, r, h1, fun v H' μ' r' e' rv => ⟨v, .ty T, _, _, b, rfl, .ty T, .base (ty_of r' rv h3), kit_ty h5, k _ H' μ' r' e' (.bl _)⟩⟩

/-! ### methods -/
def tyD (T : String) (S : Sto) : D → Bool
  | .str _ => T == "str"
  | .int _ => T == "int"
  | .loc n => match S[n]? with
    | some (.lst _) => T == "list"
    | some (.ro _) => T == "list"
    | some (.dk _) => T == "dict"
    | some (.dt _) => T == "dict"
    | _ => false
  | _ => false
theorem tyD_of {K : PySem.W.Frag} {H : Hp} {μ : List Addr} {S : Sto} {d : D} {v : V} {T : String} (r : RS K H μ S) (rv : RV K H μ d v) (h : tyD T S d = true) : tyV K T v H := by
  cases rv with
  | str x => exact beq_iff_eq.mp h
  | int i => exact beq_iff_eq.mp h
  | @loc a n h1 =>
    simp only [tyD] at h
    split at h
    · rename_i l e; obtain ⟨vs, q1, q2⟩ := r.atc h1 e; exact .inl ⟨beq_iff_eq.mp h, vs, SqL.of q1⟩
    · rename_i l e; obtain ⟨vs, q1, q2⟩ := r.atc h1 e; exact .inl ⟨beq_iff_eq.mp h, vs, q1.seq⟩
    · rename_i l e; obtain ⟨vs, q1, q2⟩ := r.atc h1 e; exact .inr (.inr (.inl ⟨beq_iff_eq.mp h, .inl ⟨vs, q1⟩⟩))
    · rename_i l e; obtain ⟨vs, q1, q2⟩ := r.atc h1 e; exact .inr (.inr (.inl ⟨beq_iff_eq.mp h, .inr ⟨vs, q1⟩⟩))
    · cases h
  | _ => simp only [tyD] at h; cases h
/-- a method upon the receiver and the arguments -/
abbrev FM := D → List D → Sto → Option (D × Sto)
def MD (K : PySem.W.Frag) (r : V → List V → Hp → VK → Prop) (F : FM) : Prop := ∀ (H : Hp) (S : Sto) (μ : List Addr) (x : V) (dx : D) (xs : List V) (ds : List D) (d : D) (S' : Sto) (Q : VK), RS K H μ S → RV K H μ dx x → RVs K H μ ds xs → F dx ds S = some (d, S') → Kt K H μ S' d Q → r x xs H Q
def eMeth (T : String) (F : FM) (fo : FE) (fs : List FE) : FE := fun Γ S => (fo Γ S).bind fun p => if tyD T p.2 p.1 = true then (args fs Γ p.2).bind fun q => F p.1 q.1 q.2 else none
theorem se_bm0 {T id : String} {name : Str} {r : V → List V → Hp → VK → Prop} {F : FM} (pa : PlainAttrs T) (slot : Slot T name id) (hty : typeOf (.builtin id) = pure (.type "method_descriptor")) (hm : MtR X id r) (hf : MD X.K r F) (ho : SE X o fo)
    (hbase : attributeBase o name X.env (eval o X.env) = eval o X.env := by rfl) (hline : (apos.endLine == cpos.line) = true := by rfl) : SE X (.Call (.Attribute o name apos) [] [] cpos) (eMeth T F fo []) :=
  SE.mk (pe_bm0 pa slot hty hm ho hbase hline) fun σ H Q Γ S μ d S' g r h k => by
    obtain ⟨⟨y, S1⟩, h1, h2⟩ := bind_some h
    simp only at h2
    split at h2
    · rename_i hc
      obtain ⟨⟨ys, S2⟩, h3, h4⟩ := bind_some h2
      cases h3
      exact ⟨Γ, S, μ, y, S1, g, r, h1, fun v H' μ' r' e' rv => ⟨tyD_of r' rv hc, hf H' S1 μ' v y [] [] d S' Q r' rv .nil h4 (k.after e')⟩⟩
    · cases h2
theorem se_bm {T id : String} {name : Str} {r : V → List V → Hp → VK → Prop} {F : FM} {fs : List FE} (pa : PlainAttrs T) (slot : Slot T name id) (hty : typeOf (.builtin id) = pure (.type "method_descriptor")) (hm : MtR X id r) (hf : MD X.K r F) (ho : SE X o fo) (ha : SA X (e :: es) (args fs))
    (hbase : attributeBase o name X.env (eval o X.env) = eval o X.env := by rfl)
    (hfew : ((backTo cpos (starEach (e :: es) X.env)).all (fun x => !x.1) && (backToKw cpos (keywordEach [] X.env)).all (fun x => x.1.isSome)
      && decide ((e :: es).length + ([] : List Keyword).length + (if ([] : List Keyword).isEmpty then 0 else 1) < 30)) = true := by rfl)
    (hline : (apos.endLine == cpos.line) = true := by rfl) (hs : starEach (e :: es) X.env = (false, eval e X.env) :: starEach es X.env := by rfl) (hplain : (backTo cpos (starEach es X.env)).any (·.1) = false := by rfl) :
    SE X (.Call (.Attribute o name apos) (e :: es) [] cpos) (eMeth T F fo fs) :=
  SE.mk (pe_bm pa slot hty hm ho ha hbase hfew hline hs hplain) fun σ H Q Γ S μ d S' g r h k => by
    obtain ⟨⟨y, S1⟩, h1, h2⟩ := bind_some h
    simp only at h2
    split at h2
    · rename_i hc
      obtain ⟨⟨ys, S2⟩, h3, h4⟩ := bind_some h2
      exact ⟨Γ, S, μ, y, S1, g, r, h1, fun v H' μ' r' e' rv => ⟨tyD_of r' rv hc, Γ, S1, μ', ys, S2, g.ext e', r', h3, fun vs H2 μ2 r2 e2 rvs => hf H2 S2 μ2 v y vs ys d S' Q r2 (rv.ext e2) rvs h4 (k.after (e'.trans e2))⟩⟩
    · cases h2
end
/-- the list at n is written -/
theorem RS.setL {K : PySem.W.Frag} {H : Hp} {μ : List Addr} {S : Sto} {n : Nat} {a : Addr} {l m : List D} {ws : List V} (r : RS K H μ S) (hn : μ[n]? = some a) (hS : S[n]? = some (.lst l)) (rv : RVs K H μ m ws) :
    RS K (upd H a (.lst ws)) μ (S.set n (.lst m)) ∧ Ext K H μ (upd H a (.lst ws)) μ := by
  obtain ⟨o, q1, q2, q3⟩ := (r.atc hn hS).some rfl
  have e : Ext K H μ (upd H a (.lst ws)) μ := ext_upd q1 q2
  exact r.write hn hS rfl rfl ⟨ws, upd_same, rv.ext e⟩
def mAppend : FM := fun x ds S => match x, ds with
  | .loc n, [y] => match S[n]? with
    | some (.lst l) => if l.length < sizeLine then some (.non, S.set n (.lst (l ++ [y]))) else none
    | _ => none
  | _, _ => none
theorem md_append {K : PySem.W.Frag} : MD K rAppend mAppend := by
  intro H S μ x dx xs ds d S' Q r rv rvs h k
  unfold mAppend at h
  split at h
  · rename_i n y
    split at h
    · rename_i l e
      split at h
      · rename_i hc
        cases h
        cases rv with
        | @loc a _ q1 =>
          obtain ⟨v, rfl, ry⟩ := rvs.one
          obtain ⟨vs, z1, z2⟩ := r.atc q1 e
          obtain ⟨b1, b2⟩ := r.setL q1 e (z2.snoc ry)
          exact ⟨a, vs, v, rfl, rfl, z1, by rw [← z2.length]; exact hc, k _ _ _ b1 b2 .non⟩
      · cases h
    · cases h
  · cases h
def mPop : FM := fun x ds S => match x, ds with
  | .loc n, [] => match S[n]? with
    | some (.lst l) => (l[l.length - 1]?).map fun y => (y, S.set n (.lst l.dropLast))
    | _ => none
  | _, _ => none
theorem md_pop {K : PySem.W.Frag} : MD K rPop mPop := by
  intro H S μ x dx xs ds d S' Q r rv rvs h k
  unfold mPop at h
  split at h
  · rename_i n
    split at h
    · rename_i l e
      obtain ⟨y, h1, h2⟩ := map_some h
      cases h2
      cases rv with
      | @loc a _ q1 =>
        have := rvs.nilv
        subst this
        obtain ⟨vs, z1, z2⟩ := r.atc q1 e
        obtain ⟨w, z3, z4⟩ := z2.get h1
        obtain ⟨b1, b2⟩ := r.setL q1 e z2.dropLast
        exact ⟨a, vs, w, rfl, rfl, z1, by rw [← z2.length]; exact z3, k _ _ _ b1 b2 (z4.ext b2)⟩
    · cases h
  · cases h
def mInsert : FM := fun x ds S => match x, ds with
  | .loc n, [.int i, y] => match S[n]? with
    | some (.lst l) => if l.length < sizeLine ∧ 0 ≤ i ∧ i < 2 ^ 63 then some (.non, S.set n (.lst (l.take i.toNat ++ [y] ++ l.drop i.toNat))) else none
    | _ => none
  | _, _ => none
theorem md_insert {K : PySem.W.Frag} : MD K (fun x vs H Q => ∃ (l : Addr) (xs : List V) (i : Int) (y : V), x = .ref l ∧ vs = [.int i, y] ∧ H l = some (.lst xs) ∧ xs.length < sizeLine ∧ 0 ≤ i ∧ i < 2 ^ 63 ∧
    Q .non (upd H l (.lst (xs.take i.toNat ++ [y] ++ xs.drop i.toNat)))) mInsert := by
  intro H S μ x dx xs ds d S' Q r rv rvs h k
  unfold mInsert at h
  split at h
  · rename_i n i y
    split at h
    · rename_i l e
      split at h
      · rename_i hc
        cases h
        cases rv with
        | @loc a _ q1 =>
          obtain ⟨v, w, rfl, ri, ry⟩ := rvs.two
          cases ri
          obtain ⟨vs, z1, z2⟩ := r.atc q1 e
          obtain ⟨b1, b2⟩ := r.setL q1 e (((z2.take i.toNat).snoc ry).append (z2.drop i.toNat))
          exact ⟨a, vs, i, w, rfl, rfl, z1, by rw [← z2.length]; exact hc.1, hc.2.1, hc.2.2, k _ _ _ b1 b2 .non⟩
      · cases h
    · cases h
  · cases h
/-- l.index(x) of data -/
def idxP : List PyData → PyData → Nat → Option Nat
  | [], _, _ => none
  | z :: r, d, j => if PyData.eqv z d = true then some j else idxP r d (j + 1)
theorem idxP_spec (d : PyData) : ∀ (l : List PyData) (i j : Nat), idxP l d i = some j → i ≤ j ∧ ∃ z, l[j - i]? = some z ∧ PyData.eqv z d = true ∧ ∀ (m : Nat) (z' : PyData), m < j - i → l[m]? = some z' → PyData.eqv z' d = false
  | [], _, _, h => by cases h
  | z :: r, i, j, h => by
    unfold idxP at h
    split at h
    · rename_i hc
      cases h
      refine ⟨Nat.le_refl _, z, by simp, hc, fun m z' hm => absurd hm (by omega)⟩
    · rename_i hc
      obtain ⟨h1, y, h2, h3, h4⟩ := idxP_spec d r (i + 1) j h
      have e : j - i = (j - (i + 1)) + 1 := by omega
      refine ⟨by omega, y, by rw [e]; simpa using h2, h3, fun m z' hm hz => ?_⟩
      cases m with
      | zero =>
        have : z = z' := by simpa using hz
        subst this
        simpa using hc
      | succ m => exact h4 m z' (by omega) (by simpa using hz)
def mIndex : FM := fun x ds S => match x, ds with
  | .loc n, [y] => match S[n]? with
    | some (.lst l) => match pyO S l, py1 S y with
      | some ps, some p => if SeqAt.shaped (.list ps) = true ∧ SeqAt.shaped p = true then (idxP ps p 0).map fun j => (.int (j : Nat), S) else none
      | _, _ => none
    | _ => none
  | _, _ => none
theorem md_index {K : PySem.W.Frag} : MD K (rIndexD K) mIndex := by
  intro H S μ x dx xs ds d S' Q r rv rvs h k
  unfold mIndex at h
  split at h
  · rename_i n y
    split at h
    · rename_i l e
      split at h
      · rename_i ps q e1 e2
        split at h
        · rename_i hc
          obtain ⟨j, h1, h2⟩ := map_some h
          cases h2
          cases rv with
          | @loc a _ q1 =>
            obtain ⟨v, rfl, ry⟩ := rvs.one
            obtain ⟨vs, z1, z2⟩ := r.atc q1 e
            obtain ⟨_, z, i1, i2, i3⟩ := idxP_spec q ps 0 j h1
            exact ⟨a, v, q, ps, j, z, rfl, rfl, .lst (SqL.of z1) (pyO_dp r z2 e1), ry.dp1 r e2, hc.1, hc.2, by simpa using i1, i2, fun m z' hm => i3 m z' (by simpa using hm), k _ H μ r .refl (.int _)⟩
        · cases h
      · cases h
    · cases h
  · cases h
end Dl

/-! DlT: sorted; d.get; x.bit_length(); x[::-1] -/
namespace Dl
open PySem PySem.Spec PyProof.Rows L2

/-! ### sorted -/
/-- what can be sorted: data of one kind -/
structure SortOk (l : List D) : Prop where
  pure : l.all D.pure = true
  al : PySem.W.AllAlike (l.map D.py)
  so : PySem.W.Sortable (l.map D.py)
  few : l.length ≤ sizeLine
  deep : ∀ d ∈ l, d.py.depth ≤ 32
def sortD (l : List D) : List D := l.mergeSort (PySem.W.dataLe false D.py)
mutual
theorem reads_nil {h : Heap} : ∀ {d : D} {v : Value} {as : List Addr}, d.pure = true → Reads h v d.py as → as = []
  | .non, _, _, _, r => by rw [D.py] at r; cases r; rfl
  | .bl _, _, _, _, r => by rw [D.py] at r; cases r; rfl
  | .int _, _, _, _, r => by rw [D.py] at r; cases r; rfl
  | .str _, _, _, _, r => by rw [D.py] at r; cases r; rfl
  | .tup l, _, _, p, r => by
    rw [D.py] at r
    rw [D.pure] at p
    cases r with
    | tuple _ _ _ h4 => exact readsAll_nil p h4
  | .loc _, _, _, p, _ => by rw [D.pure] at p; cases p
theorem readsAll_nil {h : Heap} : ∀ {l : List D} {vs : List Value} {as : List Addr}, D.pures l = true → ReadsAll h vs (D.pys l) as → as = []
  | [], _, _, _, r => by rw [D.pys] at r; cases r; rfl
  | d :: l, _, _, p, r => by
    rw [D.pys] at r
    rw [D.pures, Bool.and_eq_true] at p
    cases r with
    | cons h1 h2 => rw [reads_nil p.1 h1, readsAll_nil p.2 h2]; rfl
end
section
variable {X : Cx} {pins : List (Addr × Obj)} {σ : L2.St} {H : Hp} {s : Shared} {μ : List Addr}
theorem each_of (I : Inv X pins σ H s) : ∀ {l : List D} {vs : List V} {us : List Value}, RVs X.K H μ l vs → Vals vs us → l.all D.pure = true →
    PySem.W.EachIs (fun u d => ∃ v, RelV v u ∧ RV X.K H μ d v) us l ∧ PySem.W.EachIs (fun u d => Reads s.heap u d.py []) us l
  | _, _, _, .nil, .nil, _ => ⟨.nil, .nil⟩
  | _, _, _, .cons h r, .cons q t, p => by
    rw [List.all_cons, Bool.and_eq_true] at p
    obtain ⟨a, b⟩ := each_of I r t p.2
    obtain ⟨as, c⟩ := Dp.reads I _ _ _ (h.dp p.1) q
    have := reads_nil p.1 c
    subst this
    exact ⟨.cons ⟨_, q, h⟩ a, .cons c b⟩
theorem vals_of_each {K : PySem.W.Frag} : ∀ {l : List D} {us : List Value}, PySem.W.EachIs (fun u d => ∃ v, RelV v u ∧ RV K H μ d v) us l → ∃ vs, Vals vs us ∧ RVs K H μ l vs
  | _, _, .nil => ⟨[], .nil, .nil⟩
  | _, _, .cons ⟨v, a, b⟩ t => by
    obtain ⟨vs, c, d⟩ := vals_of_each t
    exact ⟨v :: vs, .cons a c, .cons b d⟩
/-- behind the collecting of an iterable's items: the new list is sorted -/
theorem sort_tail {v : Value} {l : List D} {Q : VK} (I : Inv X pins σ H s) (hu : X.A.units + 64 < cLine) (ok : SortOk l)
    (hcol : ∀ R : List Value → Shared → Prop, (∀ us vs h' tk, (∀ b o, s.heap.get? b = some o → h'.get? b = some o) → Vals vs us → RVs X.K H μ l vs → R us { s with heap := h', toks := tk }) → wpAny (model X.prog X.w) X.A.in1 (collect v) R X.xe s)
    (q : ∀ p vs, H p = none → RVs X.K H μ (sortD l) vs → Q (.ref p) (upd H p (.lst vs))) : wpAny (model X.prog X.w) X.A (call (.builtin "sorted") [v]) (EP X pins σ Q) X.xe s := by
  refine Calls.call_function_entry PyProof.Rows.kind_sorted PyProof.Rows.plain_sorted PyProof.Rows.entry_sorted (PyProof.Rows.args_sorted1 _) ?_
  unfold Builtin.«sorted»
  refine wpAny_bind (m := checkCount "sorted" 1 1 _) (wpAny_pure ?_)
  refine wpAny_bind (wpAny_mono (hcol (fun us s' => ∃ vs h' tk, s' = { s with heap := h', toks := tk } ∧ (∀ b o, s.heap.get? b = some o → h'.get? b = some o) ∧ Vals vs us ∧ RVs X.K H μ l vs) fun us vs h' tk k a b => ⟨vs, h', tk, rfl, k, a, b⟩) (fun us s' hs => ?_) fun _ _ x => x)
  obtain ⟨vs, h', tk, rfl, hk, rel, rvs⟩ := hs
  have hlen : us.length = l.length := by rw [← rel.length, ← rvs.length]
  have I1 : Inv X pins σ H { s with heap := h', toks := tk } := I.kept hk
  obtain ⟨e1, e2⟩ := each_of I1 rvs rel ok.pure
  refine wpAny_bind (wpAny_newList ?_ (by rw [hlen]; exact ok.few))
  have hoL : (h'.push (seqObj "list" us.toArray 0)).get? h'.objs.size = some (seqObj "list" us.toArray 0) := Heap.get?_push_size _ rfl
  show wpAny _ _ _ _ _ { s with heap := h'.push (seqObj "list" us.toArray 0), toks := tk }
  have er : PySem.W.EachIs (fun v b => ∃ as, Reads (h'.push (seqObj "list" us.toArray 0)) v b.py as ∧ h'.objs.size ∉ as) us l :=
    e2.mono fun _ _ z => ⟨[], PyProof.Rows.Reads.keeps (fun _ _ w => Heap.get?_push_of_some _ w) z, by simp⟩
  refine wpAny_bind (wpAny_holding (PySem.W.list_sort_data (s := { s with heap := h'.push (seqObj "list" us.toArray 0), toks := tk }) hoL e1 er ok.al ok.so ok.few (fun d hd => by
    have := ok.deep d hd
    show X.A.units + 1 + 1 + d.py.depth < cLine
    omega) fun out ho eo => ?_))
  obtain ⟨e', he'⟩ := PyProof.Rows.sortedHeap_at (vs := us) (out := out.toArray) hoL
  obtain ⟨ws, g1, g2⟩ := vals_of_each eo
  have hz : ws.length ≤ sizeLine := by rw [g1.length, ho]; exact ok.few
  refine wpAny_pure ⟨_, rfl, .ref h'.objs.size, upd H h'.objs.size (.lst ws), I1.laid (t' := tk) (fun b u e => ?_) (Nat.le_refl _)
    (show ObjOk X.prog X.w _ _ _ (.lst ws) from ⟨hz, out, e', g1, he'⟩), rfl, q _ ws (I1.hok.fresh (Nat.le_refl _)) g2⟩
  have hb : b < h'.objs.size := Heap.lt_size e
  rw [PyProof.Rows.sortedHeap_old (Nat.ne_of_lt hb) (by rw [size_push']; exact Nat.lt_succ_of_lt hb)]
  exact Heap.get?_push_of_some _ e
end
/-- what sorted goes through: a list's, a tuple's items, a dict's keys -/
def iterD (S : Sto) : D → Option (List D)
  | .tup l => some l
  | .loc n => match S[n]? with
    | some (.lst l) => some l
    | some (.ro l) => some l
    | some (.dk l) => some (l.map fun p => Key.d p.1)
    | some (.dt l) => some (l.map fun p => .tup (p.1.map Key.d))
    | _ => none
  | _ => none
open Classical in
noncomputable def bSorted : FF
  | [d], S => match iterD S d with
    | some l => if SortOk l then some (.loc S.length, S ++ [.lst (sortD l)]) else none
    | none => none
  | _, _ => none
def rSrt (K : PySem.W.Frag) : List V → Hp → VK → Prop := fun xs H Q => ∃ S μ x d l, xs = [x] ∧ RS K H μ S ∧ RV K H μ d x ∧ iterD S d = some l ∧ SortOk l ∧ ∀ p vs, H p = none → RVs K H μ (sortD l) vs → Q (.ref p) (upd H p (.lst vs))
theorem RV_key {K : PySem.W.Frag} {H : Hp} {μ : List Addr} (k : Key) : RV K H μ (Key.d k) (kV k) := by cases k <;> constructor
theorem RVs_keys {K : PySem.W.Frag} {H : Hp} {μ : List Addr} : ∀ ks : List Key, RVs K H μ (ks.map Key.d) (ks.map kV)
  | [] => .nil
  | k :: r => .cons (RV_key k) (RVs_keys r)
theorem RVs_tkeys {K : PySem.W.Frag} {H : Hp} {μ : List Addr} {l : List (List Key × D)} {ws : List (List Key × V)} {bs : List Addr} (h : l.map (·.1) = ws.map (·.1)) (k : IsKeys H ws bs) : RVs K H μ (l.map fun p => D.tup (p.1.map Key.d)) (bs.map V.ref) := by
  induction k generalizing l with
  | nil =>
    cases l with
    | nil => exact .nil
    | cons a l => exact absurd h (by simp)
  | cons h1 t ih =>
    cases l with
    | nil => exact absurd h (by simp)
    | cons a l =>
      rw [List.map_cons, List.map_cons] at h
      injection h with e1 e2
      exact .cons (.tup (by rw [e1]; exact h1) (RVs_keys _)) (ih e2)
theorem cr_sorted {X : Cx} (hc : X.calm = true) (hu : X.A.units + 64 < cLine) : CallR X (.builtin "sorted") (rSrt X.K) := by
  intro pins s σ H xs us Q I rel h
  obtain ⟨S, μ, x, d, l, rfl, r, rv, hi, ok, q⟩ := h
  obtain ⟨u, rfl, rx⟩ := rel.one
  refine sort_tail I hu ok (fun R hR => ?_) q
  cases rv with
  | @tup a vs l q1 q2 =>
    cases rx
    cases hi
    obtain ⟨its, r1, ⟨o, e1, e2, n, e3⟩, hz⟩ := I.tuple (SqT.of q1)
    exact wpAny_collect_seq a (T := "tuple") (.inr rfl) e1 e2 e3 (fun h' k => by simpa using hR its vs h' s.toks k r1 q2) (by rw [List.size_toArray, ← r1.length]; exact hz)
  | @loc a n q1 =>
    cases rx
    simp only [iterD] at hi
    split at hi
    · rename_i l' e
      cases hi
      obtain ⟨vs, z1, z2⟩ := r.atc q1 e
      obtain ⟨its, r1, ⟨o, n, e1, e2, _, e3⟩, hz⟩ := I.list (SqL.of z1)
      exact wpAny_collect_seq a (T := "list") (.inl rfl) e1 e2 e3 (fun h' k => by simpa using hR its vs h' s.toks k r1 z2) (by rw [List.size_toArray, ← r1.length]; exact hz)
    · rename_i l' e
      cases hi
      obtain ⟨vs, z1, z2⟩ := r.atc q1 e
      obtain ⟨its, r1, ⟨o, n, e1, e2, _, e3⟩, hz⟩ := I.list z1.seq
      exact wpAny_collect_seq a (T := "list") (.inl rfl) e1 e2 e3 (fun h' k => by simpa using hR its vs h' s.toks k r1 z2) (by rw [List.size_toArray, ← r1.length]; exact hz)
    · rename_i l' e
      cases hi
      obtain ⟨ws, z1, z2⟩ := r.atc q1 e
      obtain ⟨z, lo, vs, rel, dd⟩ := dk_rd I.hok (.inl z1)
      obtain ⟨ep, hat⟩ := dd.dictAt
      have hl : vs.length = ws.length := rel.length.symm
      refine PySem.W.kdu_collect (A := X.A.in1) (PySem.W.kdl_dict (knd := mixKind X.prog X.w) (kvs := vs) (ep := ep) lo) (I.ok.hd hc) hat (by rw [hl]; exact z) fun h' tk acc hk hacc => ?_
      refine hR acc.toList (vs.map fun p => kV p.1) h' tk hk (keys_at (by rw [Array.length_toList]; exact hacc.1) fun j v e => hacc.2 j v (by rw [← Array.getElem?_toList]; exact e)) ?_
      have e1 : vs.map (fun p => kV p.1) = (l'.map (·.1)).map kV := by
        rw [z2.1, rel.keys, List.map_map]
        rfl
      have e2 : l'.map (fun p => Key.d p.1) = (l'.map (·.1)).map Key.d := by rw [List.map_map]; rfl
      rw [e1, e2]
      exact RVs_keys _
    · rename_i l' e
      cases hi
      obtain ⟨ws, z1, z2⟩ := r.atc q1 e
      obtain ⟨z, hs, ks, pr, o, es, ep, ho, hx, hdt, he, hn⟩ := (show ObjOk X.prog X.w H s.heap a (.dT ws) from I.hok a _ z1)
      have l1 : es.size = ks.length := size_of_entries he
      have l2 : ws.length = ks.length := Paired.length pr
      refine PySem.W.kdu_collect (A := X.A.in1) (kdl_raw hs hx hdt) (I.ok.hd hc) ho (by omega) fun h' tk acc hk it => ?_
      have ea : acc.toList = ks.map fun x => Value.ref x.2.1 := by
        have hl : acc.toList.length = ks.length := by rw [Array.length_toList, it.1]; exact l1
        apply List.ext_getElem?
        intro j
        rw [List.getElem?_map]
        cases hj : acc.toList[j]? with
        | none =>
          have h1 := List.getElem?_eq_none_iff.mp hj
          rw [List.getElem?_eq_none (by omega)]
          all_goals rfl
        | some v =>
          obtain ⟨en, hen, hv⟩ := it.2 j v (by rw [← Array.getElem?_toList]; exact hj)
          have qe := entry_at he j
          rw [hen] at qe
          cases hb : ks[j]? with
          | none =>
            rw [hb] at qe
            cases qe
          | some x =>
            rw [hb] at qe
            have q2 := Option.some.inj qe
            subst q2
            rw [hv]
            all_goals rfl
      refine hR acc.toList ((ks.map fun x => x.2.1).map V.ref) h' tk hk (by rw [ea]; simpa [List.map_map, Function.comp_def] using vals_refs (ks.map fun x => x.2.1)) (RVs_tkeys z2.1 (isKeys_of pr))
    · cases hi
  | _ => simp only [iterD] at hi; cases hi
theorem bd_sorted {K : PySem.W.Frag} : BD K (rSrt K) bSorted := by
  intro H S μ xs ds d S' Q r rv h k
  match ds, h with
  | [x], h =>
    obtain ⟨v, rfl, rx⟩ := rv.one
    simp only [bSorted] at h
    split at h
    · rename_i l e
      split at h
      · rename_i hc
        cases h
        refine ⟨S, μ, v, x, l, rfl, r, rx, e, hc, fun p vs hp rvs => ?_⟩
        obtain ⟨a1, a2, a3⟩ := r.newL rvs hp
        exact k _ _ _ a1 a2 a3
      · cases h
    · cases h

/-! ### d.get(y, z); x.bit_length() -/
section
variable {X : Cx} {e a b c o : Expr} {es rest : List Expr} {f fa fb fc fo : FE} {pos pos' p p2 apos cpos : Pos}
def isDict (S : Sto) : D → Bool
  | .loc n => match S[n]? with
    | some (.dk _) => true
    | some (.dt _) => true
    | some (.dkf _) => true
    | some (.dtf _) => true
    | _ => false
  | _ => false
theorem isDict_of {K : PySem.W.Frag} {H : Hp} {μ : List Addr} {S : Sto} {d : D} {v : V} (r : RS K H μ S) (rv : RV K H μ d v) (h : isDict S d = true) : ∃ a, v = .ref a ∧ IsD H a := by
  cases rv with
  | @loc a n h1 =>
    refine ⟨a, rfl, ?_⟩
    simp only [isDict] at h
    split at h
    · rename_i l e; obtain ⟨ws, q1, q2⟩ := r.atc h1 e; exact .inl ⟨ws, .inl q1⟩
    · rename_i l e; obtain ⟨ws, q1, q2⟩ := r.atc h1 e; exact .inr ⟨ws, .inl q1⟩
    · rename_i l e; obtain ⟨ob, ws, q1, q2⟩ := r.atc h1 e; exact .inl ⟨ws, .inr ⟨ob, q1⟩⟩
    · rename_i l e; obtain ⟨ob, ws, q1, q2⟩ := r.atc h1 e; exact .inr ⟨ws, .inr ⟨ob, q1⟩⟩
    · cases h
  | _ => simp only [isDict] at h; cases h
def eGet2 (fo fa fb : FE) : FE := fun Γ S => (fo Γ S).bind fun p => if isDict p.2 p.1 = true then (fa Γ p.2).bind fun q => (fb Γ q.2).bind fun t => (dGet t.2 p.1 q.1).map fun w => (w.getD t.1, t.2) else none
theorem se_get2 (hu : X.A.units + 1 < cLine) (ho : SE X o fo) (ha : SE X e fa) (hb : SE X c fb) (m : M2 X o "get" apos e c cpos := by exact ⟨by rfl, by rfl, by rfl, by rfl⟩) : SE X (.Call (.Attribute o "get" apos) [e, c] [] cpos) (eGet2 fo fa fb) :=
  SE.mk (pe_dget2 hu ho ha hb m) fun σ H Q Γ S μ d S' g r h k => by
    obtain ⟨⟨y, S1⟩, h1, h2⟩ := bind_some h
    simp only at h2
    split at h2
    · rename_i hc
      obtain ⟨⟨y2, S2⟩, h3, h4⟩ := bind_some h2
      obtain ⟨⟨y3, S3⟩, h5, h6⟩ := bind_some h4
      obtain ⟨w, h7, h8⟩ := map_some h6
      cases h8
      refine ⟨Γ, S, μ, y, S1, g, r, h1, fun v H1 μ1 r1 e1 rv => ?_⟩
      obtain ⟨a, ea, id⟩ := isDict_of r1 rv hc
      refine ⟨a, ea, id, Γ, S1, μ1, y2, S2, g.ext e1, r1, h3, fun v2 H2 μ2 r2 e2 rv2 => ⟨Γ, S2, μ2, y3, S3, g.ext (e1.trans e2), r2, h5, fun v3 H3 μ3 r3 e3 rv3 => ?_⟩⟩
      obtain ⟨a', o', ea', g', oo⟩ := dget_of r3 (rv.ext (e2.trans e3)) (rv2.ext e3) h7
      rw [ea] at ea'
      cases ea'
      refine ⟨o', g', ?_⟩
      rcases oo with ⟨z1, z2⟩ | ⟨x', z', z1, z2, z3⟩
      · subst z1 z2; exact k _ H3 μ3 r3 (e1.trans (e2.trans e3)) rv3
      · subst z1 z2; exact k _ H3 μ3 r3 (e1.trans (e2.trans e3)) z3
    · cases h2
def oBits : D → Option D
  | .int i => some (.int (Builtin.Int.intBits i : Nat))
  | _ => none
theorem se_bits (ho : SE X o fo) (hbase : attributeBase o "bit_length" X.env (eval o X.env) = eval o X.env := by rfl) (hline : (apos.endLine == pos.line) = true := by rfl) : SE X (.Call (.Attribute o "bit_length" apos) [] [] pos) (eUn oBits fo) :=
  SE.mk (pe_bits ho hbase hline) fun σ H Q Γ S μ d S' g r h k => by
    obtain ⟨⟨x, S1⟩, h1, h2⟩ := bind_some h
    obtain ⟨y, h3, h4⟩ := map_some h2
    cases h4
    refine ⟨Γ, S, μ, x, S1, g, r, h1, fun v H' μ' r' e' rv => ?_⟩
    cases x with
    | int i => cases rv; cases h3; exact ⟨i, rfl, k _ H' μ' r' e' (.int _)⟩
    | _ => cases h3
end
end Dl

/-! DlU: enumerate and zip over lists and tuples in any mix -/
namespace Dl
open PySem PySem.Spec PyProof.Rows L2

/-- a list (true) or a tuple -/
def Sq (K : PySem.W.Frag) (H : Hp) : Bool → Addr → List V → Prop
  | true, a, xs => SqL K H a xs
  | false, a, xs => SqT K H a xs
def IsIt (h : Heap) : Bool → Addr → Addr → Nat → Prop
  | true, it, a, i => h.IsListIter it a i
  | false, it, a, i => h.IsTupleIter it a i
def IsSq (h : Heap) : Bool → Addr → Array Value → Prop
  | true, a, xs => h.IsList a xs
  | false, a, xs => h.IsTuple a xs
def itObj : Bool → Addr → Obj
  | true, a => { cls := .type "list_iterator", data := .fields #[.ref a, .int 0 0] }
  | false, a => { cls := .type "tuple_iterator", data := .fields #[.ref a, .int 0 0] }
theorem begins_sq (b : Bool) (a : Addr) (items : Array Value) : Begins (.ref a) (itObj b a) fun h => IsSq h b a items := by
  cases b with
  | true => exact begins_list a items
  | false => exact begins_tuple a items
theorem draws_sq {prog : Program} {w : World} {A : Around} (hh : A.handled = none) (b : Bool) (it a : Addr) (hne : a ≠ it) (items : Array Value) :
    Draws prog w A it [it, a] items.size (fun i v => items[i]? = some v) (fun i h => IsIt h b it a i ∧ IsSq h b a items) := by
  cases b with
  | true => exact Draws.list hh it a hne items
  | false => exact Draws.tuple hh it a hne items
theorem isIt_new {h : Heap} {b : Bool} {it a : Addr} (e : h.get? it = some (itObj b a)) : IsIt h b it a 0 := by
  cases b with
  | true => exact ⟨_, e, rfl, rfl⟩
  | false => exact ⟨_, e, rfl, rfl⟩
theorem IsIt.obj {h : Heap} {b : Bool} {it a : Addr} {i : Nat} (x : IsIt h b it a i) : ∃ o, h.get? it = some o ∧ ∀ v, o.data ≠ .cell v := by
  cases b with
  | true => obtain ⟨o, e, _, d⟩ := x; exact ⟨o, e, fun v q => by rw [d] at q; cases q⟩
  | false => obtain ⟨o, e, _, d⟩ := x; exact ⟨o, e, fun v q => by rw [d] at q; cases q⟩
theorem IsIt.at {h h' : Heap} {b : Bool} {it a : Addr} {i : Nat} (x : IsIt h b it a i) (k : ∀ o, h.get? it = some o → h'.get? it = some o) : IsIt h' b it a i := by
  cases b with
  | true => exact Heap.IsListIter.at x k
  | false => exact Heap.IsTupleIter.at x k
section
variable {X : Cx} {pins : List (Addr × Obj)} {σ : L2.St} {H : Hp} {s : Shared}
theorem Sq.have (I : Inv X pins σ H s) {b : Bool} {a : Addr} {xs : List V} (h : Sq X.K H b a xs) : ∃ its : List Value, Vals xs its ∧ IsSq s.heap b a its.toArray ∧ a < s.heap.objs.size := by
  cases b with
  | true => obtain ⟨its, r, p, _⟩ := I.list h; exact ⟨its, r, p.isList, p.lt⟩
  | false =>
    obtain ⟨its, r, p, _⟩ := I.tuple h
    obtain ⟨o, e, _⟩ := id p
    exact ⟨its, r, p, Heap.lt_size e⟩
theorem Sq.inj (I : Inv X pins σ H s) {b : Bool} {a : Addr} {xs ys : List V} (h : Sq X.K H b a xs) (h' : Sq X.K H b a ys) : xs = ys := by
  cases b with
  | true => exact I.list_inj h h'
  | false => exact I.tuple_inj h h'
end
/-! ### enumerate -/
def IteS (K : PySem.W.Frag) (b : Bool) (a : Addr) : It :=
  ⟨fun i H => ∃ (xs : List V) (x : V), Sq K H b a xs ∧ xs[i]? = some x, fun i H v H' => ∃ T x, v = .ref T ∧ H T = none ∧ H' = upd H T (.tup [.int (i : Nat), x]) ∧ ∀ xs, Sq K H b a xs → xs[i]? = some x, fun i H => ∃ xs : List V, Sq K H b a xs ∧ xs.length = i⟩
theorem turn_enumS {P : Program} {w : World} {K : PySem.W.Frag} {elts : List Expr} {kk : Nat} {tpos : Pos} (b : Bool) (a e it : Addr) (hne : e ≠ it) (hea : e ≠ a) (hia : a ≠ it) :
    Turn P w K (.Tuple elts kk tpos) (IteS K b a) [e, it] e (fun i h => (∃ old, IsEnum h e it ((i : Nat) : Int) old) ∧ IsIt h b it a i) where
  mem := by simp
  obj := fun i h st c hc => by
    obtain ⟨⟨old, he⟩, hi⟩ := st
    have e' : c = e ∨ c = it := by simpa using hc
    rcases e' with z | z
    · rw [z]; exact ⟨_, he, fun v q => nomatch q⟩
    · rw [z]; exact hi.obj
  keep := fun i h h' st k => let ⟨⟨old, he⟩, hi⟩ := st; ⟨⟨old, k e (by simp) _ he⟩, hi.at fun o q => k it (by simp) o q⟩
  item := by
    intro X hP hw hK hc i pins s σ H E I hf st hg
    subst hP hw hK
    obtain ⟨⟨old, he⟩, hit⟩ := st
    obtain ⟨xs, x, hq, hx⟩ := hg
    obtain ⟨its, rv, p, hal⟩ := hq.have I
    obtain ⟨u, hu, ru⟩ := rv.get hx
    have hel : e < s.heap.objs.size := Heap.lt_size he
    have hil : it < s.heap.objs.size := by obtain ⟨_, q, _⟩ := hit.obj; exact Heap.lt_size q
    have hlt : i < its.toArray.size := by rw [List.size_toArray]; exact (List.getElem?_eq_some_iff.mp hu).1
    refine wpAny_pyNext_enum_itemD (draws_sq (A := X.A.in1) (show X.A.in1.handled = none from I.ok.hd hc) b it a hia its.toArray) he ⟨hit, p⟩ hlt hne (by simp [hne, hea]) fun y h' tk hy ho hit' hT hsz hk => ?_
    have ey : y = u := by
      have : its.toArray[i]? = some u := by simpa using hu
      rw [this] at hy; exact (Option.some.inj hy).symm
    subst ey
    refine ⟨_, rfl, wpAny_letOwnedTupleGo_enum (s := { s with heap := h', toks := tk + 1 }) ho fun h'' he' sb => ?_⟩
    have hT2 : h''.get? s.heap.objs.size = some { cls := .type "tuple", data := .seq #[.int i tk, y] } := (sb.2 _ (Nat.ne_of_gt hel)).trans hT
    have new : ObjOk X.prog X.w (upd H s.heap.objs.size (.tup [.int (i : Nat), x])) h'' s.heap.objs.size (.tup [.int (i : Nat), x]) :=
      ⟨by show 2 ≤ sizeLine; decide, [.int i tk, y], .cons ⟨_, rfl⟩ (.cons ru .nil), ⟨_, hT2, rfl, _, rfl⟩⟩
    have I1 : Inv X pins σ (upd H s.heap.objs.size (.tup [.int (i : Nat), x])) { s with heap := h'', toks := tk + 1 } :=
      I.turnedNew (ch := [e, it]) (fun c ob hb q => (sb.2 c (fun z => hb (by simp [z]))).trans (hk c ob (fun z => hb (by simp [z])) (fun z => hb (by simp [z])) q)) hf (Nat.le_refl _) new
    refine ⟨.ref s.heap.objs.size, _, I1, rfl, ⟨_, x, rfl, I.hok.fresh (Nat.le_refl _), rfl, fun ys hy => by rw [Sq.inj I hy hq]; exact hx⟩, ⟨⟨y, ?_⟩, hit'.1.at fun o q => (sb.2 it (Ne.symm hne)).trans q⟩, fun c hb => ?_⟩
    · have e1 : ((i + 1 : Nat) : Int) = (i : Int) + 1 := by omega
      rw [e1]; exact he'
    · have hb' : c < s.heap.objs.size := by
        have e' : c = e ∨ c = it := by simpa using hb
        rcases e' with z | z
        · rw [z]; exact hel
        · rw [z]; exact hil
      rw [upd_ne (Nat.ne_of_lt hb')]
      exact (hf c hb).1
  done := by
    intro X hP hw hK hc i pins s σ H E I hf st hg
    subst hP hw hK
    obtain ⟨⟨old, he⟩, hit⟩ := st
    obtain ⟨xs, hq, hx⟩ := hg
    obtain ⟨its, rv, p, hal⟩ := hq.have I
    obtain ⟨f0, f1, f2, f3, f4, f5⟩ := hf it (by simp)
    have hl := rv.length
    have ei : i = its.toArray.size := by rw [List.size_toArray, ← hl, hx]
    subst ei
    exact wpAny_pyNext_enum_endD (draws_sq (A := X.A.in1) (show X.A.in1.handled = none from I.ok.hd hc) b it a hia its.toArray) he ⟨hit, p⟩ fun h' eb => ⟨rfl, I.turned (t' := s.toks) (fun c o hb q => eb c o hb q) f0 f1 f3 f4 f5⟩
  self := fun A i s Q E st h => let ⟨⟨_, he⟩, _⟩ := st; wpAny_pyIter_enum he h
set_option maxHeartbeats 4000000 in
theorem meets_enum1 {v : Value} {o : Obj} {H : Heap → Prop} (B : Begins v o H) :
    Meets (Builtin.«enumerate.__new__» ⟨[.type "enumerate", v], []⟩) (fun _ R s => H s.heap ∧
      R (.ok (.ret (.ref (s.heap.push o).objs.size))) { s with heap := (s.heap.push o).push { cls := .type "enumerate", data := .fields #[.none, .bool false, .ref s.heap.objs.size, rawInt 0, .none, .none] } }) :=
  .of_wp fun prog w A R s h => by
    obtain ⟨hp, g, d, tk, os⟩ := s; obtain ⟨h1, h⟩ := h
    have hsub := sub_enumerate
    have q1 : ∀ {A' : Around} {E : Value → Shared → Prop} {Q : Value → Shared → Prop}, Q (.ref hp.objs.size) ⟨hp.push o, g, d, tk, os⟩ → wpAny (model prog w) A' (pyIter v) Q E ⟨hp, g, d, tk, os⟩ :=
      fun q => B.iter prog w _ _ ⟨hp, g, d, tk, os⟩ _ h1 q
    wp_walk using q1
    refine wpAny_stack_any fun st => wpAny_pure ?_
    split
    · rename_i c _ _ _ _ _
      cases (c == Value.type "enumerate")
      · wp_walk using q1
        exact ⟨_, rfl, h⟩
      · wp_walk using q1
        exact ⟨_, rfl, h⟩
    · wp_walk using q1
      exact ⟨_, rfl, h⟩
theorem call_enum_sq {prog : Program} {w : World} {A : Around} {E : Value → Shared → Prop} {s : Shared} (b : Bool) {a : Addr} {items : Array Value} {Q : Value → Shared → Prop} (p : IsSq s.heap b a items)
    (h : ∀ h', IsEnum h' (s.heap.objs.size + 1) s.heap.objs.size 0 .none → IsIt h' b s.heap.objs.size a 0 → (∀ c o, s.heap.get? c = some o → h'.get? c = some o) → Q (.ref (s.heap.objs.size + 1)) { s with heap := h' }) :
    wpAny (model prog w) A (call (.type "enumerate") [.ref a]) Q E s := by
  refine callType_new F.called_enumerate (by decide) (F.typeCall_enumerate_1 _) (F.newCall_enumerate_1 _) (fun obj => F.args_object_init_2 obj _) F.entry_enumerate_new
    (meets_enum1 (begins_sq b a items)) ⟨p, ?_⟩
  have hz : (s.heap.push (itObj b a)).objs.size = s.heap.objs.size + 1 := Heap.size_push ..
  show _ ∧ _
  rw [hz]
  have he : IsEnum ((s.heap.push (itObj b a)).push { cls := .type "enumerate", data := .fields #[.none, .bool false, .ref s.heap.objs.size, rawInt 0, .none, .none] }) (s.heap.objs.size + 1) s.heap.objs.size 0 .none := by
    have := Heap.get?_push_size (s.heap.push (itObj b a)) (o := { cls := .type "enumerate", data := .fields #[.none, .bool false, .ref s.heap.objs.size, rawInt 0, .none, .none] }) rfl
    rw [hz] at this; exact this
  exact ⟨⟨_, he, rfl⟩, h _ he (isIt_new (Heap.get?_push_of_some _ (Heap.get?_push_size _ (by cases b <;> rfl)))) fun c o x => Heap.get?_push_of_some _ (Heap.get?_push_of_some _ x)⟩
def iEnumS (K : PySem.W.Frag) (ta : TA) : TI := fun σ H R => ta σ H fun vs H1 => ∃ b a xs, vs = [.ref a] ∧ Sq K H1 b a xs ∧ R (IteS K b a) H1
theorem pi_enumS {X : Cx} {e : Expr} {ta : TA} {p pos tpos : Pos} {elts : List Expr} {kk : Nat} (hg : Gl X "enumerate") (hm : X.mg "enumerate" = none) (ha : PA X [e] ta) (hs : starEach [e] X.env = [(false, eval e X.env)] := by rfl) :
    PI X (.Tuple elts kk tpos) (.Call (.Name "enumerate" p) [e] [] pos) (iEnumS X.K ta) := by
  refine ⟨fun pins s σ H R I h => ?_⟩
  refine Call_ (ld_blt I hg hm boot_enumerate (PyProof.Rows.callWith_type1 (thn (ha.run pos pins s σ H _ I h) fun us s1 ⟨vs, H1, I1, r1, q1⟩ => ?_) hs rfl))
  obtain ⟨b, a, xs, ex, hq, q⟩ := q1
  subst ex
  obtain ⟨u, rfl, r⟩ := vals1 r1
  cases r
  obtain ⟨its, rv, p', hal⟩ := hq.have I1
  refine call_enum_sq b p' fun h' he hit hk => wpAny_pyIter_enum he ?_
  have I2 : Inv X pins σ H1 { s1 with heap := h' } := I1.kept (t' := s1.toks) hk
  refine ⟨s1.heap.objs.size + 1, [s1.heap.objs.size + 1, s1.heap.objs.size], _, _, H1, rfl, I2, turn_enumS b a (s1.heap.objs.size + 1) s1.heap.objs.size (Nat.succ_ne_self _) (Nat.ne_of_gt (Nat.lt_succ_of_lt hal)) (Nat.ne_of_lt hal), ⟨⟨.none, he⟩, hit⟩, fun c hb => ?_, q⟩
  have e' : c = s1.heap.objs.size + 1 ∨ c = s1.heap.objs.size := by simpa using hb
  have hle : s1.heap.objs.size ≤ c := by
    rcases e' with z | z
    · rw [z]; exact Nat.le_add_right _ _
    · rw [z]; exact Nat.le_refl _
  exact I1.fpOk hle (I1.hok.fresh hle)

/-! ### zip of two, of three -/
def Itz2 (K : PySem.W.Frag) (b1 : Bool) (a1 : Addr) (b2 : Bool) (a2 : Addr) : It :=
  ⟨fun i H => ∃ xs ys x y, Sq K H b1 a1 xs ∧ Sq K H b2 a2 ys ∧ xs[i]? = some x ∧ ys[i]? = some y,
    fun i H v H' => ∃ T x y, v = .ref T ∧ H T = none ∧ H' = upd H T (.tup [x, y]) ∧ (∀ xs, Sq K H b1 a1 xs → xs[i]? = some x) ∧ ∀ ys, Sq K H b2 a2 ys → ys[i]? = some y,
    fun i H => ∃ xs ys, Sq K H b1 a1 xs ∧ Sq K H b2 a2 ys ∧ i ≤ xs.length ∧ i ≤ ys.length ∧ (i = xs.length ∨ i = ys.length)⟩
theorem turn_zip2 {P : Program} {w : World} {K : PySem.W.Frag} {elts : List Expr} {kk : Nat} {tpos : Pos} (b1 : Bool) (a1 : Addr) (b2 : Bool) (a2 : Addr) {z TI TO i1 i2 : Addr} (D : ZipSep2 z TI TO i1 i2 [i1, a1] [i2, a2]) (n1 : a1 ≠ i1) (n2 : a2 ≠ i2) :
    Turn P w K (.Tuple elts kk tpos) (Itz2 K b1 a1 b2 a2) [z, TI, TO, i1, i2] z (fun i h => IsZip h z TI TO .none ∧ IsTupOf2 h TI (.ref i1) (.ref i2) ∧ (∃ x y, IsTupOf2 h TO x y) ∧ IsIt h b1 i1 a1 i ∧ IsIt h b2 i2 a2 i) where
  mem := by simp
  obj := fun i h st c hc => by
    obtain ⟨hz, hTI, ⟨x, y, hTO⟩, h1, h2⟩ := st
    have e' : c = z ∨ c = TI ∨ c = TO ∨ c = i1 ∨ c = i2 := by simpa using hc
    rcases e' with q | q | q | q | q
    · rw [q]; exact ⟨_, hz, fun v q => nomatch q⟩
    · rw [q]; exact ⟨_, hTI, fun v q => nomatch q⟩
    · rw [q]; exact ⟨_, hTO, fun v q => nomatch q⟩
    · rw [q]; exact h1.obj
    · rw [q]; exact h2.obj
  keep := fun i h h' st k => by
    obtain ⟨hz, hTI, ⟨x, y, hTO⟩, h1, h2⟩ := st
    exact ⟨k z (by simp) _ hz, k TI (by simp) _ hTI, ⟨x, y, k TO (by simp) _ hTO⟩, h1.at fun o q => k i1 (by simp) o q, h2.at fun o q => k i2 (by simp) o q⟩
  item := by
    intro X hP hw hK hc i pins s σ H E I hf st hg
    subst hP hw hK
    obtain ⟨hz, hTI, ⟨x0, y0, hTO⟩, h1, h2⟩ := st
    obtain ⟨xs, ys, x, y, hqx, hqy, hx, hy⟩ := hg
    obtain ⟨its, rv, p, _⟩ := hqx.have I
    obtain ⟨its2, rv2, p2, _⟩ := hqy.have I
    obtain ⟨u, hu, ru⟩ := rv.get hx
    obtain ⟨u2, hu2, ru2⟩ := rv2.get hy
    have hzl : z < s.heap.objs.size := Heap.lt_size hz
    have hh : X.A.in1.handled = none := I.ok.hd hc
    refine wpAny_pyNext_zipD2_item D (draws_sq hh b1 i1 a1 n1 its.toArray) (draws_sq hh b2 i2 a2 n2 its2.toArray) hz hTI hTO ⟨h1, p⟩ ⟨h2, p2⟩ (by rw [List.size_toArray]; exact (List.getElem?_eq_some_iff.mp hu).1) (by rw [List.size_toArray]; exact (List.getElem?_eq_some_iff.mp hu2).1)
      fun y1 y2 h' tk e1 e2 z' TO' h1' h2' hT hsz hk => ?_
    have ey1 : y1 = u := by rw [show its.toArray[i]? = some u by simpa using hu] at e1; exact (Option.some.inj e1).symm
    have ey2 : y2 = u2 := by rw [show its2.toArray[i]? = some u2 by simpa using hu2] at e2; exact (Option.some.inj e2).symm
    subst ey1 ey2
    refine ⟨_, rfl, wpAny_letOwnedTupleGo_zip (s := { s with heap := h', toks := tk }) z' fun h'' z'' sb => ?_⟩
    have hT2 : h''.get? s.heap.objs.size = some { cls := .type "tuple", data := .seq #[y1, y2] } := (sb.2 _ (Nat.ne_of_gt hzl)).trans hT
    have new : ObjOk X.prog X.w (upd H s.heap.objs.size (.tup [x, y])) h'' s.heap.objs.size (.tup [x, y]) :=
      ⟨by show 2 ≤ sizeLine; decide, [y1, y2], .cons ru (.cons ru2 .nil), ⟨_, hT2, rfl, _, rfl⟩⟩
    have I1 : Inv X pins σ (upd H s.heap.objs.size (.tup [x, y])) { s with heap := h'', toks := tk } :=
      I.turnedNew (t' := tk) (ch := [z, TI, TO, i1, i2]) (fun c o hb q => (sb.2 c (fun q' => hb (by simp [q']))).trans (hk c o (fun q' => hb (by simp [q'])) (fun q' => hb (by simp [q'])) (fun q' => hb (by simp [q'])) (fun q' => hb (by simp [q'])) q)) hf (Nat.le_refl _) new
    refine ⟨.ref s.heap.objs.size, _, I1, rfl, ⟨_, x, y, rfl, I.hok.fresh (Nat.le_refl _), rfl, fun l hl => by rw [Sq.inj I hl hqx]; exact hx, fun l hl => by rw [Sq.inj I hl hqy]; exact hy⟩, ⟨z'', ?_, ⟨y1, y2, ?_⟩, ?_, ?_⟩, fun c hcm => ?_⟩
    · exact (sb.2 _ D.TIz).trans (hk _ _ D.TIz D.TITO D.TIi1 D.TIi2 hTI)
    · exact (sb.2 _ D.TOz).trans TO'
    · exact h1'.1.at fun o q => (sb.2 _ D.zi1.symm).trans q
    · exact h2'.1.at fun o q => (sb.2 _ D.zi2.symm).trans q
    · have hlt : c < s.heap.objs.size := by
        have e' : c = z ∨ c = TI ∨ c = TO ∨ c = i1 ∨ c = i2 := by simpa using hcm
        rcases e' with q | q | q | q | q
        · rw [q]; exact hzl
        · rw [q]; exact Heap.lt_size hTI
        · rw [q]; exact Heap.lt_size hTO
        · rw [q]; obtain ⟨_, e1, _⟩ := h1.obj; exact Heap.lt_size e1
        · rw [q]; obtain ⟨_, e2, _⟩ := h2.obj; exact Heap.lt_size e2
      rw [upd_ne (Nat.ne_of_lt hlt)]
      exact (hf c hcm).1
  done := by
    intro X hP hw hK hc i pins s σ H E I hf st hg
    subst hP hw hK
    obtain ⟨hz, hTI, ⟨x0, y0, hTO⟩, h1, h2⟩ := st
    obtain ⟨xs, ys, hqx, hqy, l1, l2, hend⟩ := hg
    obtain ⟨its, rv, p, _⟩ := hqx.have I
    obtain ⟨its2, rv2, p2, _⟩ := hqy.have I
    rw [rv.length] at l1 hend
    rw [rv2.length] at l2 hend
    have hh : X.A.in1.handled = none := I.ok.hd hc
    exact wpAny_pyNext_zipD2_end D (draws_sq hh b1 i1 a1 n1 its.toArray) (draws_sq hh b2 i2 a2 n2 its2.toArray) hz hTI hTO ⟨h1, p⟩ ⟨h2, p2⟩ (by simpa using l1) (by simpa using l2) (by simpa using hend)
      fun h' tk hk => ⟨rfl, I.turnedL (t' := tk) (ch := [z, TI, TO, i1, i2]) (fun c o hb q => hk c o (fun q' => hb (by simp [q'])) (fun q' => hb (by simp [q'])) (fun q' => hb (by simp [q'])) (fun q' => hb (by simp [q'])) q) hf⟩
  self := fun A i s Q E st h => wpAny_pyIter_zip st.1 h
def iZip2 (K : PySem.W.Frag) (ta : TA) : TI := fun σ H R => ta σ H fun vs H1 => ∃ b1 a1 b2 a2 xs ys, vs = [.ref a1, .ref a2] ∧ Sq K H1 b1 a1 xs ∧ Sq K H1 b2 a2 ys ∧ R (Itz2 K b1 a1 b2 a2) H1
theorem pi_zip2 {X : Cx} {e e2 : Expr} {ta : TA} {p pos tpos : Pos} {elts : List Expr} {kk : Nat} (hg : Gl X "zip") (hm : X.mg "zip" = none) (ha : PA X [e, e2] ta)
    (hs : starEach [e, e2] X.env = (false, eval e X.env) :: starEach [e2] X.env := by rfl) (hpl : (backTo pos (starEach [e2] X.env)).any (·.1) = false := by rfl) :
    PI X (.Tuple elts kk tpos) (.Call (.Name "zip" p) [e, e2] [] pos) (iZip2 X.K ta) := by
  refine ⟨fun pins s σ H R I h => ?_⟩
  refine Call_ (ld_blt I hg hm PyProof.Rows.boot_zip (PyProof.Rows.callWith_type1 (thn (ha.run pos pins s σ H _ I h) fun us s1 ⟨vs, H1, I1, r1, q1⟩ => ?_) hs hpl))
  obtain ⟨b1, a1, b2, a2, xs, ys, ex, hqx, hqy, q⟩ := q1
  subst ex
  obtain ⟨u, u', rfl, r, r'⟩ := vals2 r1
  cases r
  cases r'
  obtain ⟨its, rv, p1, l1⟩ := hqx.have I1
  obtain ⟨its2, rv2, p2, l2⟩ := hqy.have I1
  refine zip_begins2 (begins_sq b1 a1 its.toArray) (begins_sq b2 a2 its2.toArray) p1 p2 fun h' hz hTI hTO h1 h2 hsz hk => wpAny_pyIter_zip hz ?_
  have I2 : Inv X pins σ H1 { s1 with heap := h' } := I1.kept (t' := s1.toks) hk
  refine ⟨s1.heap.objs.size + 4, [s1.heap.objs.size + 4, s1.heap.objs.size + 2, s1.heap.objs.size + 3, s1.heap.objs.size, s1.heap.objs.size + 1], _, _, H1, rfl, I2,
    turn_zip2 b1 a1 b2 a2 ?_ (Nat.ne_of_lt l1) (Nat.ne_of_lt (Nat.lt_succ_of_lt l2)), ⟨hz, hTI, ⟨_, _, hTO⟩, isIt_new h1, isIt_new h2⟩, fun c hcm => ?_, q⟩
  · generalize s1.heap.objs.size = N at *
    constructor <;> simp <;> (try unfold Addr at *) <;> omega
  · have e' : c = s1.heap.objs.size + 4 ∨ c = s1.heap.objs.size + 2 ∨ c = s1.heap.objs.size + 3 ∨ c = s1.heap.objs.size ∨ c = s1.heap.objs.size + 1 := by simpa using hcm
    have hle : s1.heap.objs.size ≤ c := by
      rcases e' with z | z | z | z | z
      · rw [z]; exact Nat.le_add_right _ _
      · rw [z]; exact Nat.le_add_right _ _
      · rw [z]; exact Nat.le_add_right _ _
      · rw [z]; exact Nat.le_refl _
      · rw [z]; exact Nat.le_add_right _ _
    exact I1.fpOk hle (I1.hok.fresh hle)
def Itz3 (K : PySem.W.Frag) (b1 : Bool) (a1 : Addr) (b2 : Bool) (a2 : Addr) (b3 : Bool) (a3 : Addr) : It :=
  ⟨fun i H => ∃ xs ys zs x y z, Sq K H b1 a1 xs ∧ Sq K H b2 a2 ys ∧ Sq K H b3 a3 zs ∧ xs[i]? = some x ∧ ys[i]? = some y ∧ zs[i]? = some z,
    fun i H v H' => ∃ T x y z, v = .ref T ∧ H T = none ∧ H' = upd H T (.tup [x, y, z]) ∧ (∀ xs, Sq K H b1 a1 xs → xs[i]? = some x) ∧ (∀ ys, Sq K H b2 a2 ys → ys[i]? = some y) ∧ ∀ zs, Sq K H b3 a3 zs → zs[i]? = some z,
    fun i H => ∃ xs ys zs, Sq K H b1 a1 xs ∧ Sq K H b2 a2 ys ∧ Sq K H b3 a3 zs ∧ i ≤ xs.length ∧ i ≤ ys.length ∧ i ≤ zs.length ∧ (i = xs.length ∨ i = ys.length ∨ i = zs.length)⟩
theorem turn_zip3 {P : Program} {w : World} {K : PySem.W.Frag} {elts : List Expr} {kk : Nat} {tpos : Pos} (b1 : Bool) (a1 : Addr) (b2 : Bool) (a2 : Addr) (b3 : Bool) (a3 : Addr) {z TI TO i1 i2 i3 : Addr} (D : ZipSep3 z TI TO i1 i2 i3 [i1, a1] [i2, a2] [i3, a3]) (n1 : a1 ≠ i1) (n2 : a2 ≠ i2) (n3 : a3 ≠ i3) :
    Turn P w K (.Tuple elts kk tpos) (Itz3 K b1 a1 b2 a2 b3 a3) [z, TI, TO, i1, i2, i3] z (fun i h => IsZip h z TI TO .none ∧ IsTupOf3 h TI (.ref i1) (.ref i2) (.ref i3) ∧ (∃ x y z, IsTupOf3 h TO x y z) ∧ IsIt h b1 i1 a1 i ∧ IsIt h b2 i2 a2 i ∧ IsIt h b3 i3 a3 i) where
  mem := by simp
  obj := fun i h st c hc => by
    obtain ⟨hz, hTI, ⟨x, y, z', hTO⟩, h1, h2, h3⟩ := st
    have e' : c = z ∨ c = TI ∨ c = TO ∨ c = i1 ∨ c = i2 ∨ c = i3 := by simpa using hc
    rcases e' with q | q | q | q | q | q
    · rw [q]; exact ⟨_, hz, fun v q => nomatch q⟩
    · rw [q]; exact ⟨_, hTI, fun v q => nomatch q⟩
    · rw [q]; exact ⟨_, hTO, fun v q => nomatch q⟩
    · rw [q]; exact h1.obj
    · rw [q]; exact h2.obj
    · rw [q]; exact h3.obj
  keep := fun i h h' st k => by
    obtain ⟨hz, hTI, ⟨x, y, z', hTO⟩, h1, h2, h3⟩ := st
    exact ⟨k z (by simp) _ hz, k TI (by simp) _ hTI, ⟨x, y, z', k TO (by simp) _ hTO⟩, h1.at fun o q => k i1 (by simp) o q, h2.at fun o q => k i2 (by simp) o q, h3.at fun o q => k i3 (by simp) o q⟩
  item := by
    intro X hP hw hK hc i pins s σ H E I hf st hg
    subst hP hw hK
    obtain ⟨hz, hTI, ⟨x0, y0, z0, hTO⟩, h1, h2, h3⟩ := st
    obtain ⟨xs, ys, zs, x, y, zz, hqx, hqy, hqz, hx, hy, hzz⟩ := hg
    obtain ⟨its, rv, p, _⟩ := hqx.have I
    obtain ⟨its2, rv2, p2, _⟩ := hqy.have I
    obtain ⟨its3, rv3, p3, _⟩ := hqz.have I
    obtain ⟨u, hu, ru⟩ := rv.get hx
    obtain ⟨u2, hu2, ru2⟩ := rv2.get hy
    obtain ⟨u3, hu3, ru3⟩ := rv3.get hzz
    have hzl : z < s.heap.objs.size := Heap.lt_size hz
    have hh : X.A.in1.handled = none := I.ok.hd hc
    refine wpAny_pyNext_zipD3_item D (draws_sq hh b1 i1 a1 n1 its.toArray) (draws_sq hh b2 i2 a2 n2 its2.toArray) (draws_sq hh b3 i3 a3 n3 its3.toArray) hz hTI hTO ⟨h1, p⟩ ⟨h2, p2⟩ ⟨h3, p3⟩
      (by rw [List.size_toArray]; exact (List.getElem?_eq_some_iff.mp hu).1) (by rw [List.size_toArray]; exact (List.getElem?_eq_some_iff.mp hu2).1) (by rw [List.size_toArray]; exact (List.getElem?_eq_some_iff.mp hu3).1)
      fun y1 y2 y3 h' tk e1 e2 e3 z' TO' h1' h2' h3' hT hsz hk => ?_
    have ey1 : y1 = u := by rw [show its.toArray[i]? = some u by simpa using hu] at e1; exact (Option.some.inj e1).symm
    have ey2 : y2 = u2 := by rw [show its2.toArray[i]? = some u2 by simpa using hu2] at e2; exact (Option.some.inj e2).symm
    have ey3 : y3 = u3 := by rw [show its3.toArray[i]? = some u3 by simpa using hu3] at e3; exact (Option.some.inj e3).symm
    subst ey1 ey2 ey3
    refine ⟨_, rfl, wpAny_letOwnedTupleGo_zip (s := { s with heap := h', toks := tk }) z' fun h'' z'' sb => ?_⟩
    have hT2 : h''.get? s.heap.objs.size = some { cls := .type "tuple", data := .seq #[y1, y2, y3] } := (sb.2 _ (Nat.ne_of_gt hzl)).trans hT
    have new : ObjOk X.prog X.w (upd H s.heap.objs.size (.tup [x, y, zz])) h'' s.heap.objs.size (.tup [x, y, zz]) :=
      ⟨by show 3 ≤ sizeLine; decide, [y1, y2, y3], .cons ru (.cons ru2 (.cons ru3 .nil)), ⟨_, hT2, rfl, _, rfl⟩⟩
    have I1 : Inv X pins σ (upd H s.heap.objs.size (.tup [x, y, zz])) { s with heap := h'', toks := tk } :=
      I.turnedNew (t' := tk) (ch := [z, TI, TO, i1, i2, i3]) (fun c o hb q => (sb.2 c (fun q' => hb (by simp [q']))).trans (hk c o (fun q' => hb (by simp [q'])) (fun q' => hb (by simp [q'])) (fun q' => hb (by simp [q'])) (fun q' => hb (by simp [q'])) (fun q' => hb (by simp [q'])) q)) hf (Nat.le_refl _) new
    refine ⟨.ref s.heap.objs.size, _, I1, rfl, ⟨_, x, y, zz, rfl, I.hok.fresh (Nat.le_refl _), rfl, fun l hl => by rw [Sq.inj I hl hqx]; exact hx, fun l hl => by rw [Sq.inj I hl hqy]; exact hy, fun l hl => by rw [Sq.inj I hl hqz]; exact hzz⟩, ⟨z'', ?_, ⟨y1, y2, y3, ?_⟩, ?_, ?_, ?_⟩, fun c hcm => ?_⟩
    · exact (sb.2 _ D.TIz).trans (hk _ _ D.TIz D.TITO D.TIi1 D.TIi2 D.TIi3 hTI)
    · exact (sb.2 _ D.TOz).trans TO'
    · exact h1'.1.at fun o q => (sb.2 _ D.zi1.symm).trans q
    · exact h2'.1.at fun o q => (sb.2 _ D.zi2.symm).trans q
    · exact h3'.1.at fun o q => (sb.2 _ D.zi3.symm).trans q
    · have hlt : c < s.heap.objs.size := by
        have e' : c = z ∨ c = TI ∨ c = TO ∨ c = i1 ∨ c = i2 ∨ c = i3 := by simpa using hcm
        rcases e' with q | q | q | q | q | q
        · rw [q]; exact hzl
        · rw [q]; exact Heap.lt_size hTI
        · rw [q]; exact Heap.lt_size hTO
        · rw [q]; obtain ⟨_, e1, _⟩ := h1.obj; exact Heap.lt_size e1
        · rw [q]; obtain ⟨_, e2, _⟩ := h2.obj; exact Heap.lt_size e2
        · rw [q]; obtain ⟨_, e2, _⟩ := h3.obj; exact Heap.lt_size e2
      rw [upd_ne (Nat.ne_of_lt hlt)]
      exact (hf c hcm).1
  done := by
    intro X hP hw hK hc i pins s σ H E I hf st hg
    subst hP hw hK
    obtain ⟨hz, hTI, ⟨x0, y0, z0, hTO⟩, h1, h2, h3⟩ := st
    obtain ⟨xs, ys, zs, hqx, hqy, hqz, l1, l2, l3, hend⟩ := hg
    obtain ⟨its, rv, p, _⟩ := hqx.have I
    obtain ⟨its2, rv2, p2, _⟩ := hqy.have I
    obtain ⟨its3, rv3, p3, _⟩ := hqz.have I
    rw [rv.length] at l1 hend
    rw [rv2.length] at l2 hend
    rw [rv3.length] at l3 hend
    have hh : X.A.in1.handled = none := I.ok.hd hc
    exact wpAny_pyNext_zipD3_end D (draws_sq hh b1 i1 a1 n1 its.toArray) (draws_sq hh b2 i2 a2 n2 its2.toArray) (draws_sq hh b3 i3 a3 n3 its3.toArray) hz hTI hTO ⟨h1, p⟩ ⟨h2, p2⟩ ⟨h3, p3⟩ (by simpa using l1) (by simpa using l2) (by simpa using l3) (by simpa using hend)
      fun h' tk hk => ⟨rfl, I.turnedL (t' := tk) (ch := [z, TI, TO, i1, i2, i3]) (fun c o hb q => hk c o (fun q' => hb (by simp [q'])) (fun q' => hb (by simp [q'])) (fun q' => hb (by simp [q'])) (fun q' => hb (by simp [q'])) (fun q' => hb (by simp [q'])) q) hf⟩
  self := fun A i s Q E st h => wpAny_pyIter_zip st.1 h
theorem vals3 {x y z : V} {us : List Value} (r : Vals [x, y, z] us) : ∃ u v w, us = [u, v, w] ∧ RelV x u ∧ RelV y v ∧ RelV z w := by
  cases r with
  | cons r1 r2 =>
    obtain ⟨v, w, rfl, a, b⟩ := vals2 r2
    exact ⟨_, _, _, rfl, r1, a, b⟩
def iZip3 (K : PySem.W.Frag) (ta : TA) : TI := fun σ H R => ta σ H fun vs H1 => ∃ b1 a1 b2 a2 b3 a3 xs ys zs, vs = [.ref a1, .ref a2, .ref a3] ∧ Sq K H1 b1 a1 xs ∧ Sq K H1 b2 a2 ys ∧ Sq K H1 b3 a3 zs ∧ R (Itz3 K b1 a1 b2 a2 b3 a3) H1
theorem pi_zip3 {X : Cx} {e e2 e3 : Expr} {ta : TA} {p pos tpos : Pos} {elts : List Expr} {kk : Nat} (hg : Gl X "zip") (hm : X.mg "zip" = none) (ha : PA X [e, e2, e3] ta)
    (hs : starEach [e, e2, e3] X.env = (false, eval e X.env) :: starEach [e2, e3] X.env := by rfl) (hpl : (backTo pos (starEach [e2, e3] X.env)).any (·.1) = false := by rfl) :
    PI X (.Tuple elts kk tpos) (.Call (.Name "zip" p) [e, e2, e3] [] pos) (iZip3 X.K ta) := by
  refine ⟨fun pins s σ H R I h => ?_⟩
  refine Call_ (ld_blt I hg hm PyProof.Rows.boot_zip (PyProof.Rows.callWith_type1 (thn (ha.run pos pins s σ H _ I h) fun us s1 ⟨vs, H1, I1, r1, q1⟩ => ?_) hs hpl))
  obtain ⟨b1, a1, b2, a2, b3, a3, xs, ys, zs, ex, hqx, hqy, hqz, q⟩ := q1
  subst ex
  obtain ⟨u, u', u'', rfl, r, r', r''⟩ := vals3 r1
  cases r
  cases r'
  cases r''
  obtain ⟨its, rv, p1, l1⟩ := hqx.have I1
  obtain ⟨its2, rv2, p2, l2⟩ := hqy.have I1
  obtain ⟨its3, rv3, p3, l3⟩ := hqz.have I1
  refine zip_begins3 (begins_sq b1 a1 its.toArray) (begins_sq b2 a2 its2.toArray) (begins_sq b3 a3 its3.toArray) p1 p2 p3 fun h' hz hTI hTO h1 h2 h3 hsz hk => wpAny_pyIter_zip hz ?_
  have I2 : Inv X pins σ H1 { s1 with heap := h' } := I1.kept (t' := s1.toks) hk
  refine ⟨s1.heap.objs.size + 5, [s1.heap.objs.size + 5, s1.heap.objs.size + 3, s1.heap.objs.size + 4, s1.heap.objs.size, s1.heap.objs.size + 1, s1.heap.objs.size + 2], _, _, H1, rfl, I2,
    turn_zip3 b1 a1 b2 a2 b3 a3 ?_ (Nat.ne_of_lt l1) (Nat.ne_of_lt (Nat.lt_succ_of_lt l2)) (Nat.ne_of_lt (Nat.lt_succ_of_lt (Nat.lt_succ_of_lt l3))), ⟨hz, hTI, ⟨_, _, _, hTO⟩, isIt_new h1, isIt_new h2, isIt_new h3⟩, fun c hcm => ?_, q⟩
  · generalize s1.heap.objs.size = N at *
    constructor <;> simp <;> (try unfold Addr at *) <;> omega
  · have e' : c = s1.heap.objs.size + 5 ∨ c = s1.heap.objs.size + 3 ∨ c = s1.heap.objs.size + 4 ∨ c = s1.heap.objs.size ∨ c = s1.heap.objs.size + 1 ∨ c = s1.heap.objs.size + 2 := by simpa using hcm
    have hle : s1.heap.objs.size ≤ c := by
      rcases e' with z | z | z | z | z | z
      · rw [z]; exact Nat.le_add_right _ _
      · rw [z]; exact Nat.le_add_right _ _
      · rw [z]; exact Nat.le_add_right _ _
      · rw [z]; exact Nat.le_refl _
      · rw [z]; exact Nat.le_add_right _ _
      · rw [z]; exact Nat.le_add_right _ _
    exact I1.fpOk hle (I1.hok.fresh hle)
end Dl

/-! DlV: targets, what is walked, comprehensions -/
namespace Dl
open PySem PySem.Spec PyProof.Rows L2

/-! ### targets: names, tuples of names -/
/-- a value stored: the new names -/
abbrev FG := D → Ctx → Sto → Option Ctx
/-- only the slots in is differ -/
def KeepO (is : List Nat) (σ σ' : L2.St) : Prop := σ'.length = σ.length ∧ ∀ j, j ∉ is → σ'[j]? = σ[j]?
/-- is: the slots that may change -/
def tG (K : PySem.W.Frag) (is : List Nat) (h : FG) : TG := fun v σ H Q => ∃ d Γ S μ Γ', RV K H μ d v ∧ RG K H μ Γ σ ∧ RS K H μ S ∧ h d Γ S = some Γ' ∧ ∀ σ', RG K H μ Γ' σ' → KeepO is σ σ' → Q σ' H
def SG (X : Cx) (tg : Expr) (is : List Nat) (h : FG) : Prop := PG X tg (tG X.K is h)
theorem imp_g {X : Cx} {e : Expr} {t t' : TG} (h : PG X e t) (i : ∀ v σ H Q, t' v σ H Q → t v σ H Q) : PG X e t' := ⟨fun pins s σ H v u Q I r q => h.run pins s σ H v u Q I r (i v σ H Q q)⟩
def gN (i : Nat) : FG := fun d Γ _ => some (Γ.set i (some d))
theorem RG.set {K : PySem.W.Frag} {H : Hp} {μ : List Addr} {Γ : Ctx} {σ : L2.St} {d : D} {v : V} (g : RG K H μ Γ σ) (rv : RV K H μ d v) (i : Nat) : RG K H μ (Γ.set i (some d)) (σ.set i (some v)) := by
  refine ⟨by simp [g.len], fun j e h => ?_⟩
  by_cases hj : i = j
  · subst hj
    by_cases hl : i < Γ.length
    · rw [List.getElem?_set_self hl] at h
      cases h
      exact ⟨v, List.getElem?_set_self (by rw [← g.len]; exact hl), rv⟩
    · rw [List.getElem?_eq_none (by rw [List.length_set]; omega)] at h
      cases h
  · rw [List.getElem?_set_ne hj] at h
    obtain ⟨w, h1, h2⟩ := g.slot j e h
    exact ⟨w, by rw [List.getElem?_set_ne hj]; exact h1, h2⟩
section
variable {X : Cx} {pos : Pos}
theorem sg_n (i : Nat) {x : Str} (hN : X.N.Nodup) (hi : X.N[i]? = some x := by rfl) (hx : Loc X.env.scope x := by first | exact Or.inl rfl | exact Or.inr rfl) (hf : X.fn x = true ∨ X.env.scope.names.lookup x = some .local := by first | exact .inl rfl | exact .inr rfl) : SG X (.Name x pos) [i] (gN i) :=
  imp_g (pg_name hN hi hx hf) fun v σ H Q ⟨d, Γ, S, μ, Γ', rv, g, r, h, k⟩ => by
    cases h
    exact k _ (g.set rv i) ⟨List.length_set, fun j hj => List.getElem?_set_ne (fun e => hj (by simp [e]))⟩
/-- several targets -/
def gL : List FG → List D → Ctx → Sto → Option Ctx
  | [], [], Γ, _ => some Γ
  | h :: hs, d :: ds, Γ, S => (h d Γ S).bind fun Γ1 => gL hs ds Γ1 S
  | _, _, _, _ => none
def tGs (K : PySem.W.Frag) (is : List Nat) (hs : List FG) : TGs := fun vs σ H Q => ∃ ds Γ S μ Γ', RVs K H μ ds vs ∧ RG K H μ Γ σ ∧ RS K H μ S ∧ gL hs ds Γ S = some Γ' ∧ ∀ σ', RG K H μ Γ' σ' → KeepO is σ σ' → Q σ' H
def SGs (X : Cx) (tgs : List Expr) (is : List Nat) (hs : List FG) : Prop := PGs X tgs (tGs X.K is hs)
theorem imp_gs {X : Cx} {e : List Expr} {t t' : TGs} (h : PGs X e t) (i : ∀ v σ H Q, t' v σ H Q → t v σ H Q) : PGs X e t' := ⟨fun pins s σ H v u Q I r q => h.run pins s σ H v u Q I r (i v σ H Q q)⟩
theorem sgs_nil : SGs X [] [] [] := imp_gs pgs_nil fun vs σ H Q ⟨ds, Γ, S, μ, Γ', rv, g, r, h, k⟩ => by
  cases ds with
  | nil => cases h; exact ⟨rv.nilv, k σ g ⟨rfl, fun _ _ => rfl⟩⟩
  | cons d ds => cases h
theorem sgs_cons {e : Expr} {es : List Expr} {is js : List Nat} {h : FG} {hs : List FG} (h1 : SG X e is h) (h2 : SGs X es js hs) (ha : (assignEach (e :: es) X.env).map (·.2) = assign e X.env :: (assignEach es X.env).map (·.2) := by rfl) : SGs X (e :: es) (is ++ js) (h :: hs) :=
  imp_gs (pgs_cons h1 h2 ha) fun vs σ H Q ⟨ds, Γ, S, μ, Γ', rv, g, r, hh, k⟩ => by
    cases rv with
    | nil => cases hh
    | cons r1 r2 =>
      obtain ⟨Γ1, e1, e2⟩ := bind_some hh
      exact ⟨_, _, rfl, _, Γ, S, μ, Γ1, r1, g, r, e1, fun σ1 g1 f1 => ⟨_, Γ1, S, μ, Γ', r2, g1, r, e2, fun σ2 g2 f2 => k σ2 g2 ⟨f2.1.trans f1.1, fun j hj => by
        rw [List.mem_append, not_or] at hj
        exact (f2.2 j hj.2).trans (f1.2 j hj.1)⟩⟩⟩
def gT (hs : List FG) : FG := fun d Γ S => (seqD S d).bind fun l => gL hs l Γ S
def gEither (K : PySem.W.Frag) (n : Nat) (t : TGs) : TG := fun v σ H Q => gTup K n t v σ H Q ∨ gUnl K n t v σ H Q
theorem gL_len : ∀ {hs : List FG} {ds : List D} {Γ Γ' : Ctx} {S : Sto}, gL hs ds Γ S = some Γ' → ds.length = hs.length
  | [], [], _, _, _, _ => rfl
  | [], _ :: _, _, _, _, h => by cases h
  | _ :: _, [], _, _, _, h => by cases h
  | h :: hs, d :: ds, Γ, Γ', S, e => by
    obtain ⟨Γ1, _, e2⟩ := bind_some e
    simp [gL_len e2]
theorem sg_t {es : List Expr} {kk : Nat} {is : List Nat} {hs : List FG} (hc : X.calm = true) (h : SGs X es is hs)
    (hn : (assignEach es X.env).length = hs.length := by rfl) (hst : (assignEach es X.env).findIdx? (·.1) = none := by rfl) : SG X (.Tuple es kk pos) is (gT hs) := by
  have a := pg_tup (k := kk) (pos := pos) hc h hn hst
  have b := pg_unl (k := kk) (pos := pos) hc h hn hst
  refine ⟨fun pins s σ H v u Q I r q => ?_⟩
  obtain ⟨d, Γ, S, μ, Γ', rv, g, rs, e, k⟩ := q
  obtain ⟨l, e1, e2⟩ := bind_some e
  obtain ⟨p, vs, ev, q1, q2⟩ := seq_of rs rv e1
  have hlen : vs.length = hs.length := by rw [← q1.length]; exact gL_len e2
  rcases q2 with ⟨q2, _⟩ | ⟨q2, _⟩
  · exact b.run pins s σ H v u Q I r ⟨p, vs, ev, q2, hlen, l, Γ, S, μ, Γ', q1, g, rs, e2, k⟩
  · exact a.run pins s σ H v u Q I r ⟨p, vs, ev, SqT.of q2, hlen, l, Γ, S, μ, Γ', q1, g, rs, e2, k⟩
end

/-! ### what is walked -/
/-- cells that the walk must find as they stood -/
abbrev Lk := List (Nat × Cell)
def Lkd (lk : Lk) (S : Sto) : Prop := ∀ p ∈ lk, S[p.1]? = some p.2
abbrev FI := Ctx → Sto → Option ((List D × Lk) × Sto)
structure ItD (K : PySem.W.Frag) (J : It) (its : List D) (lk : Lk) (H1 : Hp) (μ1 : List Addr) : Prop where
  go : ∀ (i : Nat) (H : Hp) (μ : List Addr) (S : Sto), i < its.length → RS K H μ S → Ext K H1 μ1 H μ → Lkd lk S → J.go i H
  yld : ∀ (i : Nat) (H : Hp) (μ : List Addr) (S : Sto) (x : V) (H' : Hp), i < its.length → RS K H μ S → Ext K H1 μ1 H μ → Lkd lk S → J.yld i H x H' → Same H H' ∧ ∃ d, its[i]? = some d ∧ RV K H' μ d x
  stop : ∀ (H : Hp) (μ : List Addr) (S : Sto), RS K H μ S → Ext K H1 μ1 H μ → Lkd lk S → J.stop its.length H
def tI (K : PySem.W.Frag) (f : FI) : TI := fun σ H R => ∃ Γ S μ il S1, RG K H μ Γ σ ∧ RS K H μ S ∧ f Γ S = some (il, S1) ∧ ∀ J H1 μ1, RS K H1 μ1 S1 → Ext K H μ H1 μ1 → ItD K J il.1 il.2 H1 μ1 → R J H1
def SI (X : Cx) (tg iter : Expr) (f : FI) : Prop := PI X tg iter (tI X.K f)
section
variable {X : Cx} {tg e a b c : Expr} {es : List Expr} {f fa fb fc : FE} {p pos tpos : Pos}
theorem SI.mk {t : TI} {g : FI} (h : PI X tg e t) (i : ∀ σ H R Γ S μ il S1, RG X.K H μ Γ σ → RS X.K H μ S → g Γ S = some (il, S1) → (∀ J H1 μ1, RS X.K H1 μ1 S1 → Ext X.K H μ H1 μ1 → ItD X.K J il.1 il.2 H1 μ1 → R J H1) → t σ H R) : SI X tg e g :=
  ⟨fun pins s σ H R I ⟨Γ, S, μ, il, S1, h1, h2, h3, h4⟩ => h.run pins s σ H R I (i σ H R Γ S μ il S1 h1 h2 h3 h4)⟩
theorem PI.or {t t' : TI} (h : PI X tg e t) (h' : PI X tg e t') : PI X tg e (fun σ H R => t σ H R ∨ t' σ H R) :=
  ⟨fun pins s σ H R I q => by
    rcases q with q | q
    · exact h.run pins s σ H R I q
    · exact h'.run pins s σ H R I q⟩
/-- a list or a tuple; the items, and the cell that is walked -/
def srcD (S : Sto) : D → Option (List D × Lk)
  | .tup l => some (l, [])
  | .loc n => match S[n]? with
    | some (.lst l) => some (l, [(n, .lst l)])
    | some (.ro l) => some (l, [(n, .ro l)])
    | _ => none
  | _ => none
/-- what a source tells at every later heap -/
structure SrcOk (K : PySem.W.Frag) (b : Bool) (a : Addr) (l : List D) (lk : Lk) (H1 : Hp) (μ1 : List Addr) : Prop where
  at_ : ∀ (H : Hp) (μ : List Addr) (S : Sto), RS K H μ S → Ext K H1 μ1 H μ → Lkd lk S → ∃ vs, Sq K H b a vs ∧ RVs K H μ l vs
theorem src_of {K : PySem.W.Frag} {H1 : Hp} {μ1 : List Addr} {S1 : Sto} {d : D} {v : V} {il : List D × Lk} (r : RS K H1 μ1 S1) (rv : RV K H1 μ1 d v) (h : srcD S1 d = some il) :
    ∃ b a, v = .ref a ∧ SrcOk K b a il.1 il.2 H1 μ1 ∧ Lkd il.2 S1 ∧ ((b = true ∧ ∃ n, d = .loc n) ∨ (b = false ∧ ∃ l, d = .tup l)) := by
  cases rv with
  | @tup a vs l q1 q2 =>
    cases h
    exact ⟨false, a, rfl, ⟨fun H μ S _ e _ => ⟨vs, SqT.of (e.tup _ _ q1), q2.ext e⟩⟩, fun p hp => absurd hp (by simp), .inr ⟨rfl, l, rfl⟩⟩
  | @loc a n q1 =>
    simp only [srcD] at h
    split at h
    · rename_i l e
      cases h
      refine ⟨true, a, rfl, ⟨fun H μ S r' e' lk => ?_⟩, fun p hp => by simp at hp; subst hp; exact e, .inl ⟨rfl, n, rfl⟩⟩
      obtain ⟨vs, z1, z2⟩ := r'.atc (get_pre e'.pre q1) (lk (n, .lst l) (by simp))
      exact ⟨vs, SqL.of z1, z2⟩
    · rename_i l e
      cases h
      refine ⟨true, a, rfl, ⟨fun H μ S r' e' lk => ?_⟩, fun p hp => by simp at hp; subst hp; exact e, .inl ⟨rfl, n, rfl⟩⟩
      obtain ⟨vs, z1, z2⟩ := r'.atc (get_pre e'.pre q1) (lk (n, .ro l) (by simp))
      exact ⟨vs, z1.seq, z2⟩
    · cases h
  | _ => simp only [srcD] at h; cases h
/-- a value walked: a list, a tuple, a text -/
def iVal (fa : FE) : FI := fun Γ S => (fa Γ S).bind fun p => match p.1 with
  | .str z => some ((z.cps.toList.map fun c => D.str ⟨#[c]⟩, []), p.2)
  | d => (srcD p.2 d).map fun il => (il, p.2)
theorem si_val (ha : SE X a fa) : SI X tg a (iVal fa) :=
  SI.mk (PI.or (pi_list ha) (PI.or (pi_tup ha) (pi_str ha))) fun σ H R Γ S μ il S1 g r h k => by
    obtain ⟨⟨d, S2⟩, h1, h2⟩ := bind_some h
    have other : (srcD S2 d).map (fun il => (il, S2)) = some (il, S1) → (iList X.K (tD X.K fa) σ H R ∨ iTup X.K (tD X.K fa) σ H R ∨ iStr (tD X.K fa) σ H R) := fun h2 => by
      obtain ⟨il', h3, h4⟩ := map_some h2
      cases h4
      cases d with
      | tup l =>
        refine .inr (.inl ⟨Γ, S, μ, .tup l, S1, g, r, h1, fun v H1 μ1 r1 e1 rv => ?_⟩)
        obtain ⟨b, a, ev, so, lk, dk⟩ := src_of r1 rv h3
        cases rv with
        | @tup a' vs _ q1 q2 =>
          cases h3
          refine ⟨a', rfl, ⟨vs, SqT.of q1⟩, k _ H1 μ1 r1 e1 ⟨fun i H μ S hi r' e' lk => ?_, fun i H μ S x H' hi r' e' lk y => ?_, fun H μ S r' e' lk => ?_⟩⟩
          · exact ⟨vs, vs[i]'(by rw [← q2.length]; exact hi), SqT.of (e'.tup _ _ q1), List.getElem?_eq_getElem _⟩
          · obtain ⟨rfl, y⟩ := y
            obtain ⟨d, e1, e2⟩ := (q2.ext e').getV (y vs (SqT.of (e'.tup _ _ q1)))
            exact ⟨Same.refl _, d, e1, e2⟩
          · exact ⟨vs, SqT.of (e'.tup _ _ q1), by rw [q2.length]; exact Nat.le_refl _⟩
      | loc n =>
        refine .inl ⟨Γ, S, μ, .loc n, S1, g, r, h1, fun v H1 μ1 r1 e1 rv => ?_⟩
        obtain ⟨b, a, ev, so, lk, dk⟩ := src_of r1 rv h3
        have hb : b = true := by
          rcases dk with ⟨q, _⟩ | ⟨_, l, q⟩
          · exact q
          · cases q
        subst hb
        obtain ⟨vs, q1, q2⟩ := so.at_ H1 μ1 S1 r1 .refl lk
        refine ⟨a, ev, ⟨vs, q1⟩, k _ H1 μ1 r1 e1 ⟨fun i H μ S hi r' e' lk => ?_, fun i H μ S x H' hi r' e' lk y => ?_, fun H μ S r' e' lk => ?_⟩⟩
        · obtain ⟨ws, z1, z2⟩ := so.at_ H μ S r' e' lk
          exact ⟨ws, ws[i]'(by rw [← z2.length]; exact hi), z1, List.getElem?_eq_getElem _⟩
        · obtain ⟨rfl, y⟩ := y
          obtain ⟨ws, z1, z2⟩ := so.at_ H' μ S r' e' lk
          obtain ⟨d, e1, e2⟩ := z2.getV (y ws z1)
          exact ⟨Same.refl _, d, e1, e2⟩
        · obtain ⟨ws, z1, z2⟩ := so.at_ H μ S r' e' lk
          exact ⟨ws, z1, by rw [z2.length]; exact Nat.le_refl _⟩
      | _ => cases h3
    cases d with
    | str z =>
      cases h2
      refine .inr (.inr ⟨Γ, S, μ, .str z, _, g, r, h1, fun v H1 μ1 r1 e1 rv => ?_⟩)
      cases rv
      refine ⟨z, rfl, k _ H1 μ1 r1 e1 ⟨fun i H μ S hi _ _ _ => ?_, fun i H μ S x H' hi _ _ _ y => ?_, fun H μ S _ _ _ => ?_⟩⟩
      · show i < z.cps.size
        simpa using hi
      · obtain ⟨rfl, c, e1, e2⟩ := y
        subst e2
        exact ⟨Same.refl _, .str ⟨#[c]⟩, by rw [List.getElem?_map]; simp [e1], .str _⟩
      · show z.cps.size ≤ _
        simp
    | _ => exact other h2
end
end Dl

/-! DlW: ranges, enumerate, zip as walks over data; comprehensions -/
namespace Dl
open PySem PySem.Spec PyProof.Rows L2
section
variable {X : Cx} {tg e a b c : Expr} {es : List Expr} {f fa fb fc : FE} {fs : List FE} {p pos tpos : Pos}
/-! ### range -/
def rgD (lo st : Int) (n : Nat) : List D := (List.range n).map fun t => .int (lo + (t : Nat) * st)
theorem rgD_len (lo st : Int) (n : Nat) : (rgD lo st n).length = n := by simp [rgD]
theorem rgD_get (lo st : Int) (n i : Nat) (h : i < n) : (rgD lo st n)[i]? = some (.int (lo + (i : Nat) * st)) := by
  simp [rgD, List.getElem?_map, List.getElem?_range h]
def rngOf : List D → Option (List D)
  | [.int j] => if -(2 ^ 62) ≤ j ∧ j < 2 ^ 62 then some (rgD 0 1 j.toNat) else none
  | [.int i, .int j] => if -(2 ^ 62) ≤ i ∧ i < 2 ^ 62 ∧ -(2 ^ 62) ≤ j ∧ j < 2 ^ 62 then some (rgD i 1 (j - i).toNat) else none
  | [.int i, .int j, .int k] => if k ≠ 0 ∧ k.natAbs < 1073741824 ∧ Builtin.Range.small i j k = true ∧ Builtin.Range.rangeSize i j k = ((Builtin.Range.rangeSize i j k).toNat : Int) then some (rgD i k (Builtin.Range.rangeSize i j k).toNat) else none
  | _ => none
def iRng (fs : List FE) : FI := fun Γ S => (args fs Γ S).bind fun p => (rngOf p.1).map fun l => ((l, []), p.2)
theorem itd_r {K : PySem.W.Frag} {H1 : Hp} {μ1 : List Addr} (lo : Int) (n : Nat) : ItD K (Itr lo n) (rgD lo 1 n) [] H1 μ1 where
  go := fun i H μ S hi _ _ _ => by rw [rgD_len] at hi; exact hi
  yld := fun i H μ S x H' hi _ _ _ y => by
    rw [rgD_len] at hi
    obtain ⟨y1, y2⟩ := y
    subst y1 y2
    exact ⟨Same.refl _, _, rgD_get _ _ _ _ hi, by rw [Int.mul_one]; exact .int _⟩
  stop := fun H μ S _ _ _ => by rw [rgD_len]; exact Nat.le_refl _
theorem itd_c {K : PySem.W.Frag} {H1 : Hp} {μ1 : List Addr} (lo st : Int) (n : Nat) : ItD K (Itc lo st n) (rgD lo st n) [] H1 μ1 where
  go := fun i H μ S hi _ _ _ => by rw [rgD_len] at hi; exact hi
  yld := fun i H μ S x H' hi _ _ _ y => by
    rw [rgD_len] at hi
    obtain ⟨y1, y2⟩ := y
    subst y1 y2
    exact ⟨Same.refl _, _, rgD_get _ _ _ _ hi, .int _⟩
  stop := fun H μ S _ _ _ => by rw [rgD_len]; exact Nat.le_refl _
theorem si_rng1 (hg : Gl X "range") (hm : X.mg "range" = none) (ha : SA X [a] (args [fa])) (hs : starEach [a] X.env = [(false, eval a X.env)] := by rfl) : SI X tg (.Call (.Name "range" p) [a] [] pos) (iRng [fa]) :=
  SI.mk (pi_range1 hg hm ha hs) fun σ H R Γ S μ il S1 g r h k => by
    obtain ⟨⟨ds, S2⟩, h1, h2⟩ := bind_some h
    obtain ⟨l, h3, h4⟩ := map_some h2
    cases h4
    have hl := args_length h1
    match ds, hl, h3, h1 with
    | [d], _, h3, h1 =>
      cases d <;> simp only [rngOf] at h3 <;> first | cases h3 | skip
      split at h3
      · rename_i hc
        cases h3
        refine ⟨Γ, S, μ, _, _, g, r, h1, fun vs H1 μ1 r1 e1 rv => ?_⟩
        obtain ⟨v, rfl, rx⟩ := rv.one
        cases rx
        exact ⟨_, rfl, hc.1, hc.2, k _ H1 μ1 r1 e1 (itd_r _ _)⟩
      · cases h3
theorem si_rng2 (hg : Gl X "range") (hm : X.mg "range" = none) (ha : SA X [a, b] (args [fa, fb])) (hs : starEach [a, b] X.env = [(false, eval a X.env), (false, eval b X.env)] := by rfl) (hs2 : starEach [b] X.env = [(false, eval b X.env)] := by rfl) :
    SI X tg (.Call (.Name "range" p) [a, b] [] pos) (iRng [fa, fb]) :=
  SI.mk (pi_range2 hg hm ha hs hs2) fun σ H R Γ S μ il S1 g r h k => by
    obtain ⟨⟨ds, S2⟩, h1, h2⟩ := bind_some h
    obtain ⟨l, h3, h4⟩ := map_some h2
    cases h4
    have hl := args_length h1
    match ds, hl, h3, h1 with
    | [d, d'], _, h3, h1 =>
      cases d <;> cases d' <;> simp only [rngOf] at h3 <;> first | cases h3 | skip
      split at h3
      · rename_i hc
        cases h3
        refine ⟨Γ, S, μ, _, _, g, r, h1, fun vs H1 μ1 r1 e1 rv => ?_⟩
        obtain ⟨v, w, rfl, rx, ry⟩ := rv.two
        cases rx; cases ry
        exact ⟨_, _, rfl, hc, k _ H1 μ1 r1 e1 (itd_r _ _)⟩
      · cases h3
theorem si_rng3 (hg : Gl X "range") (hm : X.mg "range" = none) (ha : SA X [a, b, c] (args [fa, fb, fc]))
    (hs : starEach [a, b, c] X.env = (false, eval a X.env) :: starEach [b, c] X.env := by rfl) (hpl : (backTo pos (starEach [b, c] X.env)).any (·.1) = false := by rfl) : SI X tg (.Call (.Name "range" p) [a, b, c] [] pos) (iRng [fa, fb, fc]) :=
  SI.mk (pi_range3 hg hm ha hs hpl) fun σ H R Γ S μ il S1 g r h k => by
    obtain ⟨⟨ds, S2⟩, h1, h2⟩ := bind_some h
    obtain ⟨l, h3, h4⟩ := map_some h2
    cases h4
    have hl := args_length h1
    match ds, hl, h3, h1 with
    | [d, d', d2], _, h3, h1 =>
      cases d <;> cases d' <;> cases d2 <;> simp only [rngOf] at h3 <;> first | cases h3 | skip
      split at h3
      · rename_i hc
        cases h3
        refine ⟨Γ, S, μ, _, _, g, r, h1, fun vs H1 μ1 r1 e1 rv => ?_⟩
        cases rv with
        | cons rx rv =>
          obtain ⟨v, w, rfl, ry, rz⟩ := rv.two
          cases rx; cases ry; cases rz
          exact ⟨_, _, _, _, rfl, ⟨hc.1, hc.2.1, hc.2.2.1, hc.2.2.2⟩, k _ H1 μ1 r1 e1 (itd_c _ _ _)⟩
      · cases h3
/-! ### enumerate, zip -/
theorem SrcOk.sq {K : PySem.W.Frag} {b : Bool} {a : Addr} {l : List D} {lk : Lk} {H1 : Hp} {μ1 : List Addr} (so : SrcOk K b a l lk H1 μ1) {S : Sto} (r : RS K H1 μ1 S) (h : Lkd lk S) : ∃ xs, Sq K H1 b a xs :=
  let ⟨vs, z, _⟩ := so.at_ H1 μ1 S r .refl h
  ⟨vs, z⟩
/-- an item of a source -/
theorem SrcOk.item {K : PySem.W.Frag} {b : Bool} {a : Addr} {l : List D} {lk : Lk} {H1 H : Hp} {μ1 μ : List Addr} (so : SrcOk K b a l lk H1 μ1) {S : Sto} (r : RS K H μ S) (e : Ext K H1 μ1 H μ) (h : Lkd lk S) {i : Nat} {x : V} (y : ∀ xs, Sq K H b a xs → xs[i]? = some x) : ∃ d, l[i]? = some d ∧ RV K H μ d x := by
  obtain ⟨ws, z1, z2⟩ := so.at_ H μ S r e h
  exact z2.getV (y ws z1)
theorem SrcOk.has {K : PySem.W.Frag} {b : Bool} {a : Addr} {l : List D} {lk : Lk} {H1 H : Hp} {μ1 μ : List Addr} (so : SrcOk K b a l lk H1 μ1) {S : Sto} (r : RS K H μ S) (e : Ext K H1 μ1 H μ) (h : Lkd lk S) {i : Nat} (hi : i < l.length) : ∃ xs x, Sq K H b a xs ∧ xs[i]? = some x := by
  obtain ⟨ws, z1, z2⟩ := so.at_ H μ S r e h
  exact ⟨ws, ws[i]'(by rw [← z2.length]; exact hi), z1, List.getElem?_eq_getElem _⟩
theorem SrcOk.end_ {K : PySem.W.Frag} {b : Bool} {a : Addr} {l : List D} {lk : Lk} {H1 H : Hp} {μ1 μ : List Addr} (so : SrcOk K b a l lk H1 μ1) {S : Sto} (r : RS K H μ S) (e : Ext K H1 μ1 H μ) (h : Lkd lk S) : ∃ xs, Sq K H b a xs ∧ xs.length = l.length := by
  obtain ⟨ws, z1, z2⟩ := so.at_ H μ S r e h
  exact ⟨ws, z1, z2.length.symm⟩
theorem Lkd.left {lk lk' : Lk} {S : Sto} (h : Lkd (lk ++ lk') S) : Lkd lk S := fun p hp => h p (List.mem_append_left _ hp)
theorem Lkd.right {lk lk' : Lk} {S : Sto} (h : Lkd (lk ++ lk') S) : Lkd lk' S := fun p hp => h p (List.mem_append_right _ hp)
theorem Lkd.both {lk lk' : Lk} {S : Sto} (h : Lkd lk S) (h' : Lkd lk' S) : Lkd (lk ++ lk') S := fun p hp => by
  rcases List.mem_append.mp hp with q | q
  · exact h p q
  · exact h' p q
def enD (l : List D) : List D := l.mapIdx fun i d => D.tup [.int (i : Nat), d]
def iEnum (fs : List FE) : FI := fun Γ S => (args fs Γ S).bind fun p => match p.1 with
  | [d] => (srcD p.2 d).map fun il => ((enD il.1, il.2), p.2)
  | _ => none
theorem itd_en {K : PySem.W.Frag} {b : Bool} {a : Addr} {l : List D} {lk : Lk} {H1 : Hp} {μ1 : List Addr} (so : SrcOk K b a l lk H1 μ1) : ItD K (IteS K b a) (enD l) lk H1 μ1 where
  go := fun i H μ S hi r e h => by
    rw [enD, List.length_mapIdx] at hi
    exact so.has r e h hi
  yld := fun i H μ S x H' hi r e h y => by
    obtain ⟨T, x', y1, y2, y3, y4⟩ := y
    obtain ⟨d, z1, z2⟩ := so.item r e h y4
    subst y1 y3
    have s := same_upd (o := .tup [V.int (i : Nat), x']) y2
    exact ⟨s, .tup [.int (i : Nat), d], by rw [enD, List.getElem?_mapIdx, z1]; rfl, .tup upd_same (.cons (.int _) (.cons (z2.ext (.same s)) .nil))⟩
  stop := fun H μ S r e h => by
    obtain ⟨xs, z1, z2⟩ := so.end_ r e h
    exact ⟨xs, z1, by rw [z2, enD, List.length_mapIdx]⟩
theorem si_enum {elts : List Expr} {kk : Nat} (hg : Gl X "enumerate") (hm : X.mg "enumerate" = none) (ha : SA X [e] (args [fa])) (hs : starEach [e] X.env = [(false, eval e X.env)] := by rfl) : SI X (.Tuple elts kk tpos) (.Call (.Name "enumerate" p) [e] [] pos) (iEnum [fa]) :=
  SI.mk (pi_enumS hg hm ha hs) fun σ H R Γ S μ il S1 g r h k => by
    obtain ⟨⟨ds, S2⟩, h1, h2⟩ := bind_some h
    have hl := args_length h1
    match ds, hl, h2, h1 with
    | [d], _, h2, h1 =>
      obtain ⟨il', h3, h4⟩ := map_some h2
      cases h4
      refine ⟨Γ, S, μ, _, _, g, r, h1, fun vs H1 μ1 r1 e1 rv => ?_⟩
      obtain ⟨v, rfl, rx⟩ := rv.one
      obtain ⟨b, a, ev, so, lk, dk⟩ := src_of r1 rx h3
      subst ev
      obtain ⟨xs, hx⟩ := so.sq r1 lk
      exact ⟨b, a, xs, rfl, hx, k _ H1 μ1 r1 e1 (itd_en so)⟩
def zp2 (l m : List D) : List D := List.zipWith (fun x y => D.tup [x, y]) l m
def zp3 (l m n : List D) : List D := List.zipWith (fun x (y : D × D) => D.tup [x, y.1, y.2]) l (m.zip n)
def iZip (fs : List FE) : FI := fun Γ S => (args fs Γ S).bind fun p => match p.1 with
  | [d, d'] => (srcD p.2 d).bind fun il => (srcD p.2 d').map fun il' => ((zp2 il.1 il'.1, il.2 ++ il'.2), p.2)
  | [d, d', d2] => (srcD p.2 d).bind fun il => (srcD p.2 d').bind fun il' => (srcD p.2 d2).map fun il2 => ((zp3 il.1 il'.1 il2.1, il.2 ++ (il'.2 ++ il2.2)), p.2)
  | _ => none
theorem itd_z2 {K : PySem.W.Frag} {b b' : Bool} {a a' : Addr} {l l' : List D} {lk lk' : Lk} {H1 : Hp} {μ1 : List Addr} (so : SrcOk K b a l lk H1 μ1) (so' : SrcOk K b' a' l' lk' H1 μ1) : ItD K (Itz2 K b a b' a') (zp2 l l') (lk ++ lk') H1 μ1 where
  go := fun i H μ S hi r e h => by
    rw [zp2, List.length_zipWith] at hi
    obtain ⟨xs, x, q1, q2⟩ := so.has r e h.left (show i < l.length by omega)
    obtain ⟨ys, y, q3, q4⟩ := so'.has r e h.right (show i < l'.length by omega)
    exact ⟨xs, ys, x, y, q1, q3, q2, q4⟩
  yld := fun i H μ S x H' hi r e h y => by
    obtain ⟨T, x', x2, y1, y2, y3, y4, y5⟩ := y
    obtain ⟨d, z1, z2⟩ := so.item r e h.left y4
    obtain ⟨d', z3, z4⟩ := so'.item r e h.right y5
    subst y1 y3
    have s := same_upd (o := .tup [x', x2]) y2
    exact ⟨s, .tup [d, d'], by rw [zp2, List.getElem?_zipWith, z1, z3], .tup upd_same (.cons (z2.ext (.same s)) (.cons (z4.ext (.same s)) .nil))⟩
  stop := fun H μ S r e h => by
    obtain ⟨xs, z1, z2⟩ := so.end_ r e h.left
    obtain ⟨ys, z3, z4⟩ := so'.end_ r e h.right
    refine ⟨xs, ys, z1, z3, ?_⟩
    rw [zp2, List.length_zipWith]
    omega
theorem itd_z3 {K : PySem.W.Frag} {b b' b2 : Bool} {a a' a2 : Addr} {l l' l2 : List D} {lk lk' lk2 : Lk} {H1 : Hp} {μ1 : List Addr} (so : SrcOk K b a l lk H1 μ1) (so' : SrcOk K b' a' l' lk' H1 μ1) (so2 : SrcOk K b2 a2 l2 lk2 H1 μ1) : ItD K (Itz3 K b a b' a' b2 a2) (zp3 l l' l2) (lk ++ (lk' ++ lk2)) H1 μ1 where
  go := fun i H μ S hi r e h => by
    rw [zp3, List.length_zipWith, List.length_zip] at hi
    obtain ⟨xs, x, q1, q2⟩ := so.has r e h.left (show i < l.length by omega)
    obtain ⟨ys, y, q3, q4⟩ := so'.has r e h.right.left (show i < l'.length by omega)
    obtain ⟨zs, z, q5, q6⟩ := so2.has r e h.right.right (show i < l2.length by omega)
    exact ⟨xs, ys, zs, x, y, z, q1, q3, q5, q2, q4, q6⟩
  yld := fun i H μ S x H' hi r e h y => by
    obtain ⟨T, x', x2, x3, y1, y2, y3, y4, y5, y6⟩ := y
    obtain ⟨d, z1, z2⟩ := so.item r e h.left y4
    obtain ⟨d', z3, z4⟩ := so'.item r e h.right.left y5
    obtain ⟨d2, z5, z6⟩ := so2.item r e h.right.right y6
    subst y1 y3
    have s := same_upd (o := .tup [x', x2, x3]) y2
    refine ⟨s, .tup [d, d', d2], ?_, .tup upd_same (.cons (z2.ext (.same s)) (.cons (z4.ext (.same s)) (.cons (z6.ext (.same s)) .nil)))⟩
    have hz : (l'.zip l2)[i]? = some (d', d2) := by rw [List.getElem?_zip_eq_some]; exact ⟨z3, z5⟩
    rw [zp3, List.getElem?_zipWith, z1, hz]
  stop := fun H μ S r e h => by
    obtain ⟨xs, z1, z2⟩ := so.end_ r e h.left
    obtain ⟨ys, z3, z4⟩ := so'.end_ r e h.right.left
    obtain ⟨zs, z5, z6⟩ := so2.end_ r e h.right.right
    refine ⟨xs, ys, zs, z1, z3, z5, ?_⟩
    rw [zp3, List.length_zipWith, List.length_zip]
    omega
theorem si_zip2 {elts : List Expr} {kk : Nat} (hg : Gl X "zip") (hm : X.mg "zip" = none) (ha : SA X [a, b] (args [fa, fb])) (hs : starEach [a, b] X.env = (false, eval a X.env) :: starEach [b] X.env := by rfl) (hpl : (backTo pos (starEach [b] X.env)).any (·.1) = false := by rfl) :
    SI X (.Tuple elts kk tpos) (.Call (.Name "zip" p) [a, b] [] pos) (iZip [fa, fb]) :=
  SI.mk (pi_zip2 hg hm ha hs hpl) fun σ H R Γ S μ il S1 g r h k => by
    obtain ⟨⟨ds, S2⟩, h1, h2⟩ := bind_some h
    have hl := args_length h1
    match ds, hl, h2, h1 with
    | [d, d'], _, h2, h1 =>
      obtain ⟨il1, h3, h2⟩ := bind_some h2
      obtain ⟨il2, h3', h4⟩ := map_some h2
      cases h4
      refine ⟨Γ, S, μ, _, _, g, r, h1, fun vs H1 μ1 r1 e1 rv => ?_⟩
      obtain ⟨v, w, rfl, rx, ry⟩ := rv.two
      obtain ⟨b, a, ev, so, lk, dk⟩ := src_of r1 rx h3
      obtain ⟨b', a', ev', so', lk', dk'⟩ := src_of r1 ry h3'
      subst ev ev'
      obtain ⟨xs, hx⟩ := so.sq r1 lk
      obtain ⟨ys, hy⟩ := so'.sq r1 lk'
      exact ⟨b, a, b', a', xs, ys, rfl, hx, hy, k _ H1 μ1 r1 e1 (itd_z2 so so')⟩
theorem si_zip3 {elts : List Expr} {kk : Nat} (hg : Gl X "zip") (hm : X.mg "zip" = none) (ha : SA X [a, b, c] (args [fa, fb, fc])) (hs : starEach [a, b, c] X.env = (false, eval a X.env) :: starEach [b, c] X.env := by rfl) (hpl : (backTo pos (starEach [b, c] X.env)).any (·.1) = false := by rfl) :
    SI X (.Tuple elts kk tpos) (.Call (.Name "zip" p) [a, b, c] [] pos) (iZip [fa, fb, fc]) :=
  SI.mk (pi_zip3 hg hm ha hs hpl) fun σ H R Γ S μ il S1 g r h k => by
    obtain ⟨⟨ds, S2⟩, h1, h2⟩ := bind_some h
    have hl := args_length h1
    match ds, hl, h2, h1 with
    | [d, d', d2], _, h2, h1 =>
      obtain ⟨il1, h3, h2⟩ := bind_some h2
      obtain ⟨il2, h3', h2⟩ := bind_some h2
      obtain ⟨il3, h32, h4⟩ := map_some h2
      cases h4
      refine ⟨Γ, S, μ, _, _, g, r, h1, fun vs H1 μ1 r1 e1 rv => ?_⟩
      cases rv with
      | cons rx rv =>
        obtain ⟨v, w, rfl, ry, rz⟩ := rv.two
        obtain ⟨b, a, ev, so, lk, dk⟩ := src_of r1 rx h3
        obtain ⟨b', a', ev', so', lk', dk'⟩ := src_of r1 ry h3'
        obtain ⟨b2, a2, ev2, so2, lk2, dk2⟩ := src_of r1 rz h32
        subst ev ev' ev2
        obtain ⟨xs, hx⟩ := so.sq r1 lk
        obtain ⟨ys, hy⟩ := so'.sq r1 lk'
        obtain ⟨zs, hz⟩ := so2.sq r1 lk2
        exact ⟨b, a, b', a', b2, a2, xs, ys, zs, rfl, hx, hy, hz, k _ H1 μ1 r1 e1 (itd_z3 so so' so2)⟩
end
end Dl

/-! DlX: comprehensions over data -/
namespace Dl
open PySem PySem.Spec PyProof.Rows L2
/-! ### the tests of a clause -/
theorem skips {M : Model} {A : Around} {E : Value → Shared → Prop} {env : Env} {Q : Bool → Shared → Prop} : ∀ (l : List Expr) (s : Shared), Q false s →
    wpAny M A (forIn l false fun c r => if r = true then do let ok ← isTrue c env (eval c env); pure (ForInStep.yield ok) else pure (ForInStep.yield r)) Q E s
  | [], s, h => wpAny_pure h
  | c :: l, s, h => by
    simp only [List.forIn_cons, if_neg Bool.false_ne_true]
    exact wpAny_bind (wpAny_pure (skips l s h))
def STs (X : Cx) (ifs : List Expr) (g : FT) : Prop := PTs X ifs (tT X.K g)
def tYs : FT := fun _ S => some (true, S)
section
variable {X : Cx} {c : Expr} {cs : List Expr} {g h : FT}
theorem sts_nil : STs X [] tYs := ⟨fun pins s σ H Q I q => pts_nil.run pins s σ H Q I (by
  obtain ⟨Γ, S, μ, d, S', h1, h2, h3, k⟩ := q
  cases h3
  exact k H μ h2 .refl)⟩
theorem sts_one (a : ST X c g) : STs X [c] g := pts_one a
theorem sts_cons (a : ST X c g) (b : STs X cs h) : STs X (c :: cs) (tAnd2 g h) := ⟨fun pins s σ H Q I q => by
  obtain ⟨Γ, S, μ, d, S', h1, h2, h3, k⟩ := q
  obtain ⟨⟨p, S1⟩, e1, e2⟩ := bind_some h3
  simp only [List.forIn_cons, if_true]
  refine wpAny_bind (wpAny_bind (thn (a.run pins s σ H (fun t H1 => t = p ∧ ∃ μ1, RS X.K H1 μ1 S1 ∧ Ext X.K H μ H1 μ1) I ⟨Γ, S, μ, p, S1, h1, h2, e1, fun H' μ' r e => ⟨rfl, μ', r, e⟩⟩) fun t s1 q1 => ?_))
  obtain ⟨H1, I1, rfl, μ1, r1, x1⟩ := q1
  refine wpAny_pure ?_
  cases t with
  | true => exact b.run pins s1 σ H1 Q I1 ⟨Γ, S1, μ1, d, S', h1.ext x1, r1, e2, k.after x1⟩
  | false =>
    cases e2
    exact skips cs s1 ⟨H1, I1, k H1 μ1 r1 x1⟩⟩
end

/-! ### own names of a block -/
def wipeD (Γ : Ctx) : List Nat → Ctx
  | [] => Γ
  | v :: vs => (wipeD Γ vs).set v none
theorem wipeD_length (Γ : Ctx) : ∀ vs : List Nat, (wipeD Γ vs).length = Γ.length
  | [] => rfl
  | v :: vs => by unfold wipeD; rw [List.length_set, wipeD_length Γ vs]
theorem wipe_in {σ : L2.St} {i : Nat} : ∀ {vs : List Nat}, i ∈ vs → i < σ.length → (wipe σ vs)[i]? = some none
  | v :: vs, h, hl => by
    unfold wipe
    by_cases hi : v = i
    · subst hi
      exact List.getElem?_set_self (by rw [wipe_length]; exact hl)
    · rw [List.getElem?_set_ne hi]
      rcases List.mem_cons.mp h with q | q
      · exact absurd q.symm hi
      · exact wipe_in q hl
theorem wipeD_some {Γ : Ctx} {i : Nat} {x : D} : ∀ {vs : List Nat}, (wipeD Γ vs)[i]? = some (some x) → Γ[i]? = some (some x) ∧ i ∉ vs
  | [], h => ⟨h, by simp⟩
  | v :: vs, h => by
    unfold wipeD at h
    by_cases hi : v = i
    · subst hi
      by_cases hl : v < (wipeD Γ vs).length
      · rw [List.getElem?_set_self hl] at h; cases h
      · rw [List.getElem?_eq_none (by rw [List.length_set]; omega)] at h; cases h
    · rw [List.getElem?_set_ne hi] at h
      obtain ⟨h1, h2⟩ := wipeD_some h
      exact ⟨h1, by simp [h2, Ne.symm hi]⟩
theorem RG.wipe {K : PySem.W.Frag} {H : Hp} {μ : List Addr} {Γ : Ctx} {σ : L2.St} (g : RG K H μ Γ σ) (vs : List Nat) : RG K H μ (wipeD Γ vs) (wipe σ vs) := ⟨by rw [wipeD_length, wipe_length, g.len], fun i d h => by
  obtain ⟨h1, h2⟩ := wipeD_some h
  obtain ⟨v, q1, q2⟩ := g.slot i d h1
  exact ⟨v, by rw [wipe_out h2]; exact q1, q2⟩⟩
theorem wipe_eq {σ σ' : L2.St} {vs is : List Nat} (hi : ∀ i ∈ is, i ∈ vs) (h : KeepO is (wipe σ vs) σ') : wipe σ' vs = wipe σ vs := by
  have hl : σ'.length = σ.length := h.1.trans (wipe_length _ _)
  refine List.ext_getElem? fun j => ?_
  by_cases hj : j ∈ vs
  · by_cases hb : j < σ.length
    · rw [wipe_in hj hb, wipe_in hj (by omega)]
    · rw [List.getElem?_eq_none (by rw [wipe_length]; omega), List.getElem?_eq_none (by rw [wipe_length]; omega)]
  · rw [wipe_out hj, h.2 j fun q => hj (hi j q)]

/-! ### list comprehensions -/
open Classical in
/-- the turns; the new list stands at n -/
noncomputable def lcL (g : FG) (ts : FT) (el : FE) (vs : List Nat) (n : Nat) (lk : Lk) : List D → Ctx → Sto → Option Sto
  | [], _, S => if Lkd lk S then some S else none
  | d :: r, Γ, S => if Lkd lk S then (g d (wipeD Γ vs) S).bind fun Γ1 => (ts Γ1 S).bind fun p => if p.1 = true then ((el Γ1 p.2).bind fun q => match q.2[n]? with
      | some (.lst acc) => if acc.length < sizeLine then lcL g ts el vs n lk r Γ (q.2.set n (.lst (acc ++ [q.1]))) else none
      | _ => none) else lcL g ts el vs n lk r Γ p.2 else none
noncomputable def eLc (it : FI) (g : FG) (ts : FT) (el : FE) (vs : List Nat) : FE := fun Γ S => (it Γ S).bind fun p => (lcL g ts el vs p.2.length p.1.2 p.1.1 Γ (p.2 ++ [.lst []])).map fun S2 => (.loc p.2.length, S2)
theorem lc_turns {X : Cx} {it : FI} {g : FG} {ts : FT} {el : FE} {vs is : List Nat} (hi : ∀ i ∈ is, i ∈ vs) {σ : L2.St} {H : Hp} {Q : VK} {Γ : Ctx} {S S' : Sto} {μ : List Addr} {d : D}
    (G : RG X.K H μ Γ σ) (r : RS X.K H μ S) (h : eLc it g ts el vs Γ S = some (d, S')) (k : Kt X.K H μ S' d Q) : tLc (tI X.K it) (tG X.K is g) (tT X.K ts) (tD X.K el) vs σ H Q := by
  obtain ⟨⟨⟨its, lk⟩, S1⟩, h1, h2⟩ := bind_some h
  obtain ⟨S2, h3, h4⟩ := map_some h2
  injection h4 with h4 h5
  subst h4 h5
  refine ⟨Γ, S, μ, _, S1, G, r, h1, fun J H1 μ1 r1 e1 it D hD => ?_⟩
  obtain ⟨a1, a2, a3⟩ := r1.newL (l := []) .nil hD
  refine ⟨fun i m H => m = its.length - i ∧ i ≤ its.length ∧ ∃ μ S, RS X.K H μ S ∧ Ext X.K (upd H1 D (.lst [])) (μ1 ++ [D]) H μ ∧ lcL g ts el vs S1.length lk (its.drop i) Γ S = some S2, ⟨_, rfl, Nat.zero_le _, _, _, a1, .refl, h3⟩, ?_⟩
  rintro i m H2 ⟨rfl, hle, μ2, S3, r2, e2, h3⟩
  have e3 := a2.trans e2
  rcases Nat.lt_or_ge i its.length with hlt | hge
  · rw [List.drop_eq_getElem_cons hlt, lcL] at h3
    split at h3
    · rename_i hk
      obtain ⟨Γ1, q1, h3⟩ := bind_some h3
      obtain ⟨⟨b, S4⟩, q2, h3⟩ := bind_some h3
      refine .inr ⟨it.go i H2 μ2 S3 hlt r2 e3 hk, fun H' => ∃ μ S, RS X.K H' μ S ∧ Ext X.K (upd H1 D (.lst [])) (μ1 ++ [D]) H' μ ∧ lcL g ts el vs S1.length lk (its.drop (i + 1)) Γ S = some S2, fun H' ⟨μ', S', z1, z2, z3⟩ => ⟨its.length - (i + 1), by omega, rfl, hlt, μ', S', z1, z2, z3⟩, fun x H3 y => ?_⟩
      obtain ⟨s3, d, y1, y2⟩ := it.yld i H2 μ2 S3 x H3 hlt r2 e3 hk y
      rw [List.getElem?_eq_getElem hlt] at y1
      cases y1
      have x3 : Ext X.K H2 μ2 H3 μ2 := .same s3
      have G3 := (((G.ext e1).ext e3).ext x3).wipe vs
      refine ⟨_, wipeD Γ vs, S3, μ2, Γ1, y2, G3, r2.same s3, q1, fun σ' G4 f4 => ⟨wipe_eq hi f4, Γ1, S3, μ2, b, S4, G4, r2.same s3, q2, fun H4 μ4 r4 e4 => ?_⟩⟩
      · cases b with
        | false =>
          rw [if_neg Bool.false_ne_true] at h3 ⊢
          exact ⟨μ4, S4, r4, (e2.trans x3).trans e4, h3⟩
        | true =>
          rw [if_pos rfl] at h3 ⊢
          obtain ⟨⟨y, S5⟩, q3, h3⟩ := bind_some h3
          refine ⟨Γ1, S4, μ4, y, S5, G4.ext e4, r4, q3, fun v H5 μ5 r5 e5 rv => ?_⟩
          have e6 := ((e2.trans x3).trans e4).trans e5
          have hn : μ5[S1.length]? = some D := by
            cases a3 with
            | loc q => exact get_pre e6.pre q
          simp only at h3
          split at h3
          · rename_i acc hacc
            split at h3
            · rename_i hsz
              obtain ⟨ws, w1, w2⟩ := r5.atc hn hacc
              obtain ⟨c1, c2⟩ := r5.setL hn hacc (w2.snoc rv)
              exact ⟨ws, w1, by rw [← w2.length]; exact hsz, μ5, _, c1, e6.trans c2, h3⟩
            · cases h3
          · cases h3
    · cases h3
  · have e : i = its.length := by omega
    subst e
    rw [List.drop_length, lcL] at h3
    split at h3
    · rename_i hk
      cases h3
      refine .inl ⟨it.stop H2 μ2 _ r2 e3 hk, k _ H2 μ2 r2 ((e1.trans a2).trans e2) (a3.ext e2)⟩
    · cases h3
section
variable {X : Cx} {it : FI} {g : FG} {ts : FT} {el ek ev : FE} {is vs : List Nat} {elt kx vx tg iter : Expr} {ifs : List Expr} {scope : Scope} {own : List (Str × Nat)} {pos : Pos}
theorem se_lc (hc : X.calm = true) (hN : X.N.Nodup) (hi : SI X tg iter it) (ok : BlkOk X.N X.env.scope scope own)
    (hg : ∀ (s : Shared) (H : Hp) (C : Addr) (cl : List (Str × Addr)) (fp : List Addr), SG (X.blk s H scope (compEnvC scope cl C X.env) fp) tg is g) (ht : ∀ (s : Shared) (H : Hp) (C : Addr) (cl : List (Str × Addr)) (fp : List Addr), STs (X.blk s H scope (compEnvC scope cl C X.env) fp) ifs ts)
    (he : ∀ (s : Shared) (H : Hp) (C : Addr) (cl : List (Str × Addr)) (fp : List Addr), SE (X.blk s H scope (compEnvC scope cl C X.env) fp) elt el) (his : ∀ i ∈ is, i ∈ vs) (hvs : own.map (·.2) = vs := by rfl) (hs : ∀ x, foldedSetIterable iter X.env x = pure x := by intro _; rfl) :
    SE X (.ListComp elt [⟨tg, iter, ifs, 0⟩] scope pos) (eLc it g ts el vs) := by
  subst hvs
  exact SE.mk (pe_lc (g := tG X.K is g) (tt := tT X.K ts) (te := tD X.K el) hc hN hi ok hg ht he hs) fun σ H Q Γ S μ d S' G r h k => lc_turns his G r h k
/-! ### dict comprehensions -/
theorem RS.setD {K : PySem.W.Frag} {H : Hp} {μ : List Addr} {S : Sto} {n : Nat} {a : Addr} {l m : List (Key × D)} {ws : List (Key × V)} (r : RS K H μ S) (hn : μ[n]? = some a) (hS : S[n]? = some (.dk l)) (rv : RK K H μ m ws) :
    RS K (upd H a (.dK ws)) μ (S.set n (.dk m)) ∧ Ext K H μ (upd H a (.dK ws)) μ := by
  obtain ⟨o, q1, q2, q3⟩ := (r.atc hn hS).some rfl
  have e : Ext K H μ (upd H a (.dK ws)) μ := ext_upd q1 q2
  exact r.write hn hS rfl rfl ⟨ws, upd_same, rv.1, rv.2.ext e⟩
theorem RS.newD {K : PySem.W.Frag} {H : Hp} {μ : List Addr} {S : Sto} {p : Addr} (r : RS K H μ S) (hp : H p = none) :
    RS K (upd H p (.dK [])) (μ ++ [p]) (S ++ [.dk []]) ∧ Ext K H μ (upd H p (.dK [])) (μ ++ [p]) ∧ RV K (upd H p (.dK [])) (μ ++ [p]) (.loc S.length) (.ref p) := by
  have e : Ext K H μ (upd H p (.dK [])) (μ ++ [p]) := .grow (same_upd hp) [p]
  exact ⟨r.alloc hp ⟨[], upd_same, rfl, .nil⟩, e, .loc (by rw [← r.len]; simp)⟩
open Classical in
noncomputable def dcL (g : FG) (ts : FT) (ek ev : FE) (vs : List Nat) (n : Nat) (lk : Lk) : List D → Ctx → Sto → Option Sto
  | [], _, S => if Lkd lk S then some S else none
  | d :: r, Γ, S => if Lkd lk S then (g d (wipeD Γ vs) S).bind fun Γ1 => (ts Γ1 S).bind fun p => if p.1 = true then ((ek Γ1 p.2).bind fun q => (ev Γ1 q.2).bind fun z => q.1.key.bind fun y => match z.2[n]? with
      | some (.dk acc) => if acc.length < sizeLine then dcL g ts ek ev vs n lk r Γ (z.2.set n (.dk (putD acc y z.1))) else none
      | _ => none) else dcL g ts ek ev vs n lk r Γ p.2 else none
noncomputable def eDc (it : FI) (g : FG) (ts : FT) (ek ev : FE) (vs : List Nat) : FE := fun Γ S => (it Γ S).bind fun p => (dcL g ts ek ev vs p.2.length p.1.2 p.1.1 Γ (p.2 ++ [.dk []])).map fun S2 => (.loc p.2.length, S2)
theorem dc_turns {vs : List Nat} (hi : ∀ i ∈ is, i ∈ vs) {σ : L2.St} {H : Hp} {Q : VK} {Γ : Ctx} {S S' : Sto} {μ : List Addr} {d : D}
    (G : RG X.K H μ Γ σ) (r : RS X.K H μ S) (h : eDc it g ts ek ev vs Γ S = some (d, S')) (k : Kt X.K H μ S' d Q) : tDc (tI X.K it) (tG X.K is g) (tT X.K ts) (tD X.K ek) (tD X.K ev) vs σ H Q := by
  obtain ⟨⟨⟨its, lk⟩, S1⟩, h1, h2⟩ := bind_some h
  obtain ⟨S2, h3, h4⟩ := map_some h2
  injection h4 with h4 h5
  subst h4 h5
  refine ⟨Γ, S, μ, _, S1, G, r, h1, fun J H1 μ1 r1 e1 it D hD => ?_⟩
  obtain ⟨a1, a2, a3⟩ := r1.newD hD
  refine ⟨fun i m H => m = its.length - i ∧ i ≤ its.length ∧ ∃ μ S, RS X.K H μ S ∧ Ext X.K (upd H1 D (.dK [])) (μ1 ++ [D]) H μ ∧ dcL g ts ek ev vs S1.length lk (its.drop i) Γ S = some S2, ⟨_, rfl, Nat.zero_le _, _, _, a1, .refl, h3⟩, ?_⟩
  rintro i m H2 ⟨rfl, hle, μ2, S3, r2, e2, h3⟩
  have e3 := a2.trans e2
  rcases Nat.lt_or_ge i its.length with hlt | hge
  · rw [List.drop_eq_getElem_cons hlt, dcL] at h3
    split at h3
    · rename_i hk
      obtain ⟨Γ1, q1, h3⟩ := bind_some h3
      obtain ⟨⟨b, S4⟩, q2, h3⟩ := bind_some h3
      refine .inr ⟨it.go i H2 μ2 S3 hlt r2 e3 hk, fun H' => ∃ μ S, RS X.K H' μ S ∧ Ext X.K (upd H1 D (.dK [])) (μ1 ++ [D]) H' μ ∧ dcL g ts ek ev vs S1.length lk (its.drop (i + 1)) Γ S = some S2, fun H' ⟨μ', S', z1, z2, z3⟩ => ⟨its.length - (i + 1), by omega, rfl, hlt, μ', S', z1, z2, z3⟩, fun x H3 y => ?_⟩
      obtain ⟨s3, d, y1, y2⟩ := it.yld i H2 μ2 S3 x H3 hlt r2 e3 hk y
      rw [List.getElem?_eq_getElem hlt] at y1
      cases y1
      have x3 : Ext X.K H2 μ2 H3 μ2 := .same s3
      have G3 := (((G.ext e1).ext e3).ext x3).wipe vs
      refine ⟨_, wipeD Γ vs, S3, μ2, Γ1, y2, G3, r2.same s3, q1, fun σ' G4 f4 => ⟨wipe_eq hi f4, Γ1, S3, μ2, b, S4, G4, r2.same s3, q2, fun H4 μ4 r4 e4 => ?_⟩⟩
      cases b with
      | false =>
        rw [if_neg Bool.false_ne_true] at h3 ⊢
        exact ⟨μ4, S4, r4, (e2.trans x3).trans e4, h3⟩
      | true =>
        rw [if_pos rfl] at h3 ⊢
        obtain ⟨⟨y, S5⟩, q3, h3⟩ := bind_some h3
        obtain ⟨⟨z, S6⟩, q4, h3⟩ := bind_some h3
        obtain ⟨ky, q5, h3⟩ := bind_some h3
        refine ⟨Γ1, S4, μ4, y, S5, G4.ext e4, r4, q3, fun v H5 μ5 r5 e5 rv => ⟨Γ1, S5, μ5, z, S6, (G4.ext e4).ext e5, r5, q4, fun w H6 μ6 r6 e6 rw' => ?_⟩⟩
        have e7 := (((e2.trans x3).trans e4).trans e5).trans e6
        have hn : μ6[S1.length]? = some D := by
          cases a3 with
          | loc q => exact get_pre e7.pre q
        simp only at h3
        split at h3
        · rename_i acc hacc
          split at h3
          · rename_i hsz
            obtain ⟨ws, w1, w2⟩ := r6.atc hn hacc
            obtain ⟨c1, c2⟩ := r6.setD hn hacc (w2.put ky rw')
            exact ⟨ws, ky, rv.key q5, w1, by rw [← w2.length]; exact hsz, μ6, _, c1, e7.trans c2, h3⟩
          · cases h3
        · cases h3
    · cases h3
  · have e : i = its.length := by omega
    subst e
    rw [List.drop_length, dcL] at h3
    split at h3
    · rename_i hk
      cases h3
      refine .inl ⟨it.stop H2 μ2 _ r2 e3 hk, k _ H2 μ2 r2 ((e1.trans a2).trans e2) (a3.ext e2)⟩
    · cases h3
theorem se_dc (hc : X.calm = true) (hN : X.N.Nodup) (hi : SI X tg iter it) (ok : BlkOk X.N X.env.scope scope own)
    (hg : ∀ (s : Shared) (H : Hp) (C : Addr) (cl : List (Str × Addr)) (fp : List Addr), SG (X.blk s H scope (compEnvC scope cl C X.env) fp) tg is g) (ht : ∀ (s : Shared) (H : Hp) (C : Addr) (cl : List (Str × Addr)) (fp : List Addr), STs (X.blk s H scope (compEnvC scope cl C X.env) fp) ifs ts)
    (hk : ∀ (s : Shared) (H : Hp) (C : Addr) (cl : List (Str × Addr)) (fp : List Addr), SE (X.blk s H scope (compEnvC scope cl C X.env) fp) kx ek)
    (he : ∀ (s : Shared) (H : Hp) (C : Addr) (cl : List (Str × Addr)) (fp : List Addr), SE (X.blk s H scope (compEnvC scope cl C X.env) fp) vx ev) (his : ∀ i ∈ is, i ∈ vs) (hvs : own.map (·.2) = vs := by rfl) (hs : ∀ x, foldedSetIterable iter X.env x = pure x := by intro _; rfl) :
    SE X (.DictComp kx vx [⟨tg, iter, ifs, 0⟩] scope pos) (eDc it g ts ek ev vs) := by
  subst hvs
  exact SE.mk (pe_dc (g := tG X.K is g) (tt := tT X.K ts) (tk := tD X.K ek) (tv := tD X.K ev) hc hN hi ok hg ht hk he hs) fun σ H Q Γ S μ d S' G r h k => dc_turns his G r h k
end
end Dl

/-! DlS: statements over data -/
namespace Dl
open PySem PySem.Spec PyProof.Rows L2
inductive Out where
  | nx | bk | ct
  | rt (d : D)
abbrev FS := Ctx → Sto → Option (Out × Ctx × Sto)
/-- behind a statement -/
def Post (K : PySem.W.Frag) (H : Hp) (μ : List Addr) (r : Out × Ctx × Sto) (D : Ends) : Prop :=
  match r.1 with
  | .nx => ∀ σ' H' μ', RG K H' μ' r.2.1 σ' → RS K H' μ' r.2.2 → Ext K H μ H' μ' → D.nx σ' H'
  | .bk => ∀ σ' H' μ', RG K H' μ' r.2.1 σ' → RS K H' μ' r.2.2 → Ext K H μ H' μ' → D.bk σ' H'
  | .ct => ∀ σ' H' μ', RG K H' μ' r.2.1 σ' → RS K H' μ' r.2.2 → Ext K H μ H' μ' → D.ct σ' H'
  | .rt d => ∀ v H' μ', RS K H' μ' r.2.2 → Ext K H μ H' μ' → RV K H' μ' d v → D.rt v H'
theorem Post.after {K : PySem.W.Frag} {H H1 : Hp} {μ μ1 : List Addr} {r : Out × Ctx × Sto} {D : Ends} (p : Post K H μ r D) (e : Ext K H μ H1 μ1) : Post K H1 μ1 r D := by
  obtain ⟨o, Γ, S⟩ := r
  cases o <;> first | exact fun σ' H' μ' g s x => p σ' H' μ' g s (e.trans x) | exact fun v H' μ' s x rv => p v H' μ' s (e.trans x) rv
def tS (K : PySem.W.Frag) (f : FS) : TS := fun D σ H => ∃ Γ S μ r, RG K H μ Γ σ ∧ RS K H μ S ∧ f Γ S = some r ∧ Post K H μ r D
def SS (X : Cx) (st : Stmt) (f : FS) : Prop := PS X st (tS X.K f)
def SSs (X : Cx) (st : List Stmt) (f : FS) : Prop := PSs X st (tS X.K f)
theorem imp_s {X : Cx} {e : Stmt} {t t' : TS} (h : PS X e t) (i : ∀ D σ H, t' D σ H → t D σ H) : PS X e t' := ⟨fun pins s σ H D I q => h.run pins s σ H D I (i D σ H q)⟩
theorem imp_ss {X : Cx} {e : List Stmt} {t t' : TS} (h : PSs X e t) (i : ∀ D σ H, t' D σ H → t D σ H) : PSs X e t' := ⟨fun pins s σ H D I q => h.run pins s σ H D I (i D σ H q)⟩
section
variable {X : Cx} {st : Stmt} {sts : List Stmt} {e o i c : Expr} {fa fb fc fo fi : FE} {g h : FS} {pos : Pos}
theorem SS.mk {t : TS} (p : PS X st t) (i : ∀ D σ H Γ S μ r, RG X.K H μ Γ σ → RS X.K H μ S → g Γ S = some r → Post X.K H μ r D → t D σ H) : SS X st g :=
  imp_s p fun D σ H ⟨Γ, S, μ, r, h1, h2, h3, h4⟩ => i D σ H Γ S μ r h1 h2 h3 h4
theorem SSs.mk {t : TS} (p : PSs X sts t) (i : ∀ D σ H Γ S μ r, RG X.K H μ Γ σ → RS X.K H μ S → g Γ S = some r → Post X.K H μ r D → t D σ H) : SSs X sts g :=
  imp_ss p fun D σ H ⟨Γ, S, μ, r, h1, h2, h3, h4⟩ => i D σ H Γ S μ r h1 h2 h3 h4
def qNx : FS := fun Γ S => some (.nx, Γ, S)
def qSeq (g h : FS) : FS := fun Γ S => (g Γ S).bind fun p => match p.1 with
  | .nx => h p.2.1 p.2.2
  | _ => some p
theorem ss_nil : SSs X [] qNx := SSs.mk pss_nil fun D σ H Γ S μ r h1 h2 h3 k => by
  cases h3
  exact k σ H μ h1 h2 .refl
theorem ss_cons (a : SS X st g) (b : SSs X sts h) : SSs X (st :: sts) (qSeq g h) := SSs.mk (pss_cons a b) fun D σ H Γ S μ r h1 h2 h3 k => by
  obtain ⟨⟨o, Γ1, S1⟩, e1, e2⟩ := bind_some h3
  refine ⟨Γ, S, μ, _, h1, h2, e1, ?_⟩
  cases o with
  | nx => exact fun σ' H' μ' g' s' x => ⟨Γ1, S1, μ', r, g', s', e2, k.after x⟩
  | _ => cases e2; exact k
theorem ss_one (a : SS X st g) : SSs X [st] g := pss_one a
def qBk : FS := fun Γ S => some (.bk, Γ, S)
def qCt : FS := fun Γ S => some (.ct, Γ, S)
theorem ss_pass : SS X (.Pass pos) qNx := SS.mk ps_pass fun D σ H Γ S μ r h1 h2 h3 k => by
  cases h3
  exact k σ H μ h1 h2 .refl
theorem ss_break : SS X (.Break pos) qBk := SS.mk ps_break fun D σ H Γ S μ r h1 h2 h3 k => by
  cases h3
  exact k σ H μ h1 h2 .refl
theorem ss_continue : SS X (.Continue pos) qCt := SS.mk ps_continue fun D σ H Γ S μ r h1 h2 h3 k => by
  cases h3
  exact k σ H μ h1 h2 .refl
def qRet (fa : FE) : FS := fun Γ S => (fa Γ S).map fun p => (.rt p.1, Γ, p.2)
theorem ss_ret (a : SE X e fa) : SS X (.Return (some e) pos) (qRet fa) := SS.mk (ps_ret a) fun D σ H Γ S μ r h1 h2 h3 k => by
  obtain ⟨⟨d, S1⟩, e1, e2⟩ := map_some h3
  cases e2
  exact ⟨Γ, S, μ, d, S1, h1, h2, e1, fun v H' μ' r' x rv => k v H' μ' r' x rv⟩
def qRetN : FS := fun Γ S => some (.rt .non, Γ, S)
theorem ss_retN : SS X (.Return none pos) qRetN := SS.mk ps_retN fun D σ H Γ S μ r h1 h2 h3 k => by
  cases h3
  exact k .non H μ h2 .refl .non
def qDrop (fa : FE) : FS := fun Γ S => (fa Γ S).map fun p => (.nx, Γ, p.2)
theorem ss_expr (a : SE X e fa) (hs : swapsWith e none pos.line X.env = pure false := by rfl) : SS X (.Expr e pos) (qDrop fa) := SS.mk (ps_expr a hs) fun D σ H Γ S μ r h1 h2 h3 k => by
  obtain ⟨⟨d, S1⟩, e1, e2⟩ := map_some h3
  cases e2
  exact ⟨Γ, S, μ, d, S1, h1, h2, e1, fun v H' μ' r' x rv => k σ H' μ' (h1.ext x) r' x⟩
def qIf (c : FT) (g h : FS) : FS := fun Γ S => (c Γ S).bind fun p => if p.1 = true then g Γ p.2 else h Γ p.2
theorem ss_if {t : FT} {a b : List Stmt} (hc : ST X c t) (ha : SSs X a g) (hb : SSs X b h) : SS X (.If c a b pos) (qIf t g h) := SS.mk (ps_if hc ha hb) fun D σ H Γ S μ r h1 h2 h3 k => by
  obtain ⟨⟨b, S1⟩, e1, e2⟩ := bind_some h3
  refine ⟨Γ, S, μ, b, S1, h1, h2, e1, fun H' μ' r' x => ?_⟩
  cases b with
  | true =>
    rw [if_pos rfl] at e2 ⊢
    exact ⟨Γ, S1, μ', r, h1.ext x, r', e2, k.after x⟩
  | false =>
    rw [if_neg Bool.false_ne_true] at e2 ⊢
    exact ⟨Γ, S1, μ', r, h1.ext x, r', e2, k.after x⟩
/-- code that is never come to -/
def qNever : FS := fun _ _ => none
theorem ss_never : SSs X sts qNever := SSs.mk pss_never fun D σ H Γ S μ r h1 h2 h3 k => by cases h3
theorem ss_raise : SS X st qNever := SS.mk ps_never fun D σ H Γ S μ r h1 h2 h3 k => by cases h3
/-! ### stores -/
def qSet (i : Nat) (fa : FE) : FS := fun Γ S => (fa Γ S).map fun p => (.nx, Γ.set i (some p.1), p.2)
theorem ss_set {n : Nat} {x : Str} {pos' : Pos} (hN : X.N.Nodup) (hi : X.N[n]? = some x) (hx : Loc X.env.scope x) (a : SE X e fa) (hs : swapsWith e (some (.Name x pos')) pos.line X.env = pure false := by rfl)
    (hf : X.fn x = true ∨ X.env.scope.names.lookup x = some .local := by first | exact .inl rfl | exact .inr rfl | assumption) : SS X (.Assign [.Name x pos'] e pos) (qSet n fa) :=
  SS.mk (ps_set hN hi hx a hs hf) fun D σ H Γ S μ r h1 h2 h3 k => by
    obtain ⟨⟨d, S1⟩, e1, e2⟩ := map_some h3
    cases e2
    exact ⟨Γ, S, μ, d, S1, h1, h2, e1, fun v H' μ' r' x rv => k _ H' μ' ((h1.ext x).set rv n) r' x⟩
/-- several names at once -/
def setsD : List Nat → List D → Ctx → Ctx
  | i :: is, d :: ds, Γ => setsD is ds (Γ.set i (some d))
  | _, _, Γ => Γ
def qPar (is : List Nat) (fs : List FE) : FS := fun Γ S => (args fs Γ S).map fun p => (.nx, setsD is p.1 Γ, p.2)
theorem ss_par2 {i j : Nat} {x y : Str} {a b : Expr} {fs : List FE} {px py pt : Pos} {kt k2 pt2} (hc : X.calm = true) (hN : X.N.Nodup) (hi : X.N[i]? = some x) (hj : X.N[j]? = some y) (hij : i ≠ j)
    (hx : X.env.scope.names.lookup x = some .local) (hy : X.env.scope.names.lookup y = some .local) (ha : SA X [a, b] (args fs)) (hl : fs.length = 2 := by rfl)
    (hw : swappedStores [.Tuple [.Name x px, .Name y py] kt pt] (.Tuple [a, b] k2 pt2) X.env = pure (some [x, y]) := by rfl)
    (hs : swapsWithSole [.Tuple [.Name x px, .Name y py] kt pt] (.Tuple [a, b] k2 pt2) pos.line X.env = pure false := by rfl) :
    SS X (.Assign [.Tuple [.Name x px, .Name y py] kt pt] (.Tuple [a, b] k2 pt2) pos) (qPar [i, j] fs) :=
  SS.mk (ps_par hc hN hi hj hij hx hy ha hw hs) fun D σ H Γ S μ r h1 h2 h3 k => by
    obtain ⟨⟨ds, S1⟩, e1, e2⟩ := map_some h3
    cases e2
    have hl' := args_length e1
    refine ⟨Γ, S, μ, ds, S1, h1, h2, e1, fun vs H' μ' r' x rv => ?_⟩
    match ds, (show ds.length = 2 by rw [hl', hl]), rv, k with
    | [d, d'], _, rv, k =>
      obtain ⟨v, w, rfl, rx, ry⟩ := rv.two
      exact ⟨v, w, rfl, k _ H' μ' (((h1.ext x).set rx i).set ry j) r' x⟩
theorem ss_par3 {i j l : Nat} {x y z : Str} {a b c : Expr} {fs : List FE} {px py pz pt : Pos} {kt k2 pt2} (hc : X.calm = true) (hN : X.N.Nodup) (hi : X.N[i]? = some x) (hj : X.N[j]? = some y) (hl : X.N[l]? = some z) (hij : i ≠ j) (hil : i ≠ l) (hjl : j ≠ l)
    (hx : X.env.scope.names.lookup x = some .local) (hy : X.env.scope.names.lookup y = some .local) (hz : X.env.scope.names.lookup z = some .local) (ha : SA X [a, b, c] (args fs)) (hn : fs.length = 3 := by rfl)
    (hw : swappedStores [.Tuple [.Name x px, .Name y py, .Name z pz] kt pt] (.Tuple [a, b, c] k2 pt2) X.env = pure (some [x, y, z]) := by rfl)
    (hs : swapsWithSole [.Tuple [.Name x px, .Name y py, .Name z pz] kt pt] (.Tuple [a, b, c] k2 pt2) pos.line X.env = pure false := by rfl) :
    SS X (.Assign [.Tuple [.Name x px, .Name y py, .Name z pz] kt pt] (.Tuple [a, b, c] k2 pt2) pos) (qPar [i, j, l] fs) :=
  SS.mk (ps_par3 hc hN hi hj hl hij hil hjl hx hy hz ha hw hs) fun D σ H Γ S μ r h1 h2 h3 k => by
    obtain ⟨⟨ds, S1⟩, e1, e2⟩ := map_some h3
    cases e2
    have hl' := args_length e1
    refine ⟨Γ, S, μ, ds, S1, h1, h2, e1, fun vs H' μ' r' x rv => ?_⟩
    match ds, (show ds.length = 3 by rw [hl', hn]), rv, k with
    | [d, d', d2], _, rv, k =>
      cases rv with
      | cons rx rw2 =>
        obtain ⟨v, w, rfl, ry, rz⟩ := rw2.two
        exact ⟨_, v, w, rfl, k _ H' μ' ((((h1.ext x).set rx i).set ry j).set rz l) r' x⟩
/-- any target -/
def qAsg (t : FG) (fa : FE) : FS := fun Γ S => (fa Γ S).bind fun p => (t p.1 Γ p.2).map fun Γ1 => (.nx, Γ1, p.2)
theorem ss_asg {tg : Expr} {is : List Nat} {t : FG} (a : SE X e fa) (b : SG X tg is t) (hs : swapsWithSole [tg] e pos.line X.env = pure false := by rfl) (hw : swappedStores [tg] e X.env = pure none := by rfl)
    (hq : (assignEach [tg] X.env).map (·.2) = [assign tg X.env] := by rfl) : SS X (.Assign [tg] e pos) (qAsg t fa) :=
  SS.mk (ps_asg a b hs hw hq) fun D σ H Γ S μ r h1 h2 h3 k => by
    obtain ⟨⟨d, S1⟩, e1, h3⟩ := bind_some h3
    obtain ⟨Γ1, e2, e3⟩ := map_some h3
    cases e3
    exact ⟨Γ, S, μ, d, S1, h1, h2, e1, fun v H' μ' r' x rv => ⟨d, Γ, S1, μ', Γ1, rv, h1.ext x, r', e2, fun σ' g' _ => k σ' H' μ' g' r' x⟩⟩
/-- o[i] = e -/
def setIt (o i v : D) (S : Sto) : Option Sto := match o with
  | .loc n => match S[n]? with
    | some (.lst l) => match i with
      | .int k => (ixN l.length k).map fun j => S.set n (.lst (l.set j v))
      | _ => none
    | some (.dk l) => if l.length < sizeLine then i.key.map fun k => S.set n (.dk (putD l k v)) else none
    | some (.dt l) => if l.length < sizeLine then i.tkey.map fun k => S.set n (.dt (putD l k v)) else none
    | _ => none
  | _ => none
def rSetA : TSet := fun o i v H Q => rSetL o i v H Q ∨ rSetD o i v H Q
theorem set_any (hu : X.A.units + 1 < cLine) : PSet X rSetA := fun pins s σ H o i v ov iv u Q I ro ri rv h => h.elim (set_list pins s σ H o i v ov iv u Q I ro ri rv) (set_dict hu pins s σ H o i v ov iv u Q I ro ri rv)
theorem RS.setT {K : PySem.W.Frag} {H : Hp} {μ : List Addr} {S : Sto} {n : Nat} {a : Addr} {l m : List (List Key × D)} {ws : List (List Key × V)} (r : RS K H μ S) (hn : μ[n]? = some a) (hS : S[n]? = some (.dt l)) (rv : RK K H μ m ws) :
    RS K (upd H a (.dT ws)) μ (S.set n (.dt m)) ∧ Ext K H μ (upd H a (.dT ws)) μ := by
  obtain ⟨o, q1, q2, q3⟩ := (r.atc hn hS).some rfl
  have e : Ext K H μ (upd H a (.dT ws)) μ := ext_upd q1 q2
  exact r.write hn hS rfl rfl ⟨ws, upd_same, rv.1, rv.2.ext e⟩
theorem setIt_of {K : PySem.W.Frag} {H : Hp} {μ : List Addr} {S S' : Sto} {o i v : D} {ov iv vv : V} {Q : Hp → Prop} (r : RS K H μ S) (ro : RV K H μ o ov) (ri : RV K H μ i iv) (rv : RV K H μ v vv) (h : setIt o i v S = some S')
    (k : ∀ H', RS K H' μ S' → Ext K H μ H' μ → Q H') : rSetA ov iv vv H Q := by
  cases ro with
  | @loc a n q1 =>
    simp only [setIt] at h
    split at h
    · rename_i l e
      split at h
      · rename_i m
        obtain ⟨j, h1, h2⟩ := map_some h
        cases h2
        cases ri
        obtain ⟨vs, z1, z2⟩ := r.atc q1 e
        obtain ⟨a1, a2⟩ := r.setL q1 e (z2.set rv j)
        exact .inl ⟨a, vs, m, j, rfl, rfl, z1, by rw [← z2.length]; exact h1, k _ a1 a2⟩
      · cases h
    · rename_i l e
      split at h
      · rename_i hz
        obtain ⟨ky, h1, h2⟩ := map_some h
        cases h2
        obtain ⟨ws, z1, z2⟩ := r.atc q1 e
        obtain ⟨a1, a2⟩ := r.setD q1 e (z2.put ky rv)
        rw [ri.key h1]
        exact .inr ⟨a, _, rfl, DPut.k z1 (by rw [← z2.length]; exact hz), k _ a1 a2⟩
      · cases h
    · rename_i l e
      split at h
      · rename_i hz
        obtain ⟨ky, h1, h2⟩ := map_some h
        cases h2
        obtain ⟨ws, z1, z2⟩ := r.atc q1 e
        obtain ⟨a1, a2⟩ := r.setT q1 e (z2.put ky rv)
        obtain ⟨b, rfl, hb⟩ := ri.tkey h1
        exact .inr ⟨a, _, rfl, DPut.t z1 hb (by rw [← z2.length]; exact hz), k _ a1 a2⟩
      · cases h
    · cases h
  | _ => simp only [setIt] at h; cases h
def qPut (fa fo fi : FE) : FS := fun Γ S => (fa Γ S).bind fun p => (fo Γ p.2).bind fun q => (fi Γ q.2).bind fun z => (setIt q.1 z.1 p.1 z.2).map fun S' => (.nx, Γ, S')
theorem ss_put {tpos : Pos} (hu : X.A.units + 1 < cLine) (a : SE X e fa) (b : SE X o fo) (c : SE X i fi) (ha : ∀ v, assign (.Subscript o i tpos) X.env v = (do
      let ov ← holding [v] (eval o X.env)
      let iv ← holding [v, ov] (eval i X.env)
      standAt tpos
      holding [v, ov, iv] (setItem ov iv v)
      release [v, ov, iv] []) := by intro _; rfl) (hs : swapsWithSole [.Subscript o i tpos] e pos.line X.env = pure false := by rfl) (hw : swappedStores [.Subscript o i tpos] e X.env = pure none := by rfl)
    (hq : (assignEach [.Subscript o i tpos] X.env).map (·.2) = [assign (.Subscript o i tpos) X.env] := by rfl) : SS X (.Assign [.Subscript o i tpos] e pos) (qPut fa fo fi) :=
  SS.mk (ps_asg a (pg_sub (pos := tpos) b c (set_any hu) ha) hs hw hq) fun D σ H Γ S μ r h1 h2 h3 k => by
    obtain ⟨⟨d, S1⟩, e1, h3⟩ := bind_some h3
    obtain ⟨⟨d2, S2⟩, e2, h3⟩ := bind_some h3
    obtain ⟨⟨d3, S3⟩, e3, h3⟩ := bind_some h3
    obtain ⟨S4, e4, e5⟩ := map_some h3
    cases e5
    refine ⟨Γ, S, μ, d, S1, h1, h2, e1, fun v H' μ' r' x rv => ⟨Γ, S1, μ', d2, S2, h1.ext x, r', e2, fun v2 H2 μ2 r2 x2 rv2 => ⟨Γ, S2, μ2, d3, S3, (h1.ext x).ext x2, r2, e3, fun v3 H3 μ3 r3 x3 rv3 => ?_⟩⟩⟩
    exact setIt_of r3 (rv2.ext x3) rv3 ((rv.ext x2).ext x3) e4 fun H4 r4 x4 => k σ H4 μ3 (((h1.ext x).ext x2).ext x3 |>.ext x4) r4 (((x.trans x2).trans x3).trans x4)
/-- name op= e, of ints -/
def oI (f : Int → Int → Int) : O2 := fun x y S => match x, y with
  | .int i, .int j => some (.int (f i j), S)
  | _, _ => none
def qAug (n : Nat) (o : O2) (fa : FE) : FS := fun Γ S => match Γ[n]? with
  | some (some x) => (fa Γ S).bind fun p => (o x p.1 p.2).map fun q => (.nx, Γ.set n (some q.1), q.2)
  | _ => none
theorem rd_i {K : PySem.W.Frag} (f : Int → Int → Int) : RD K (ipI f) (oI f) := by
  intro H S μ x y dx dy d S' Q r rx ry h k
  unfold oI at h
  split at h
  · cases h
    cases rx; cases ry
    exact ⟨_, _, rfl, rfl, k _ H μ r .refl (.int _)⟩
  · cases h
theorem ss_aug {n : Nat} {x : Str} {op : Operator} {ti : TIp} {o : O2} {pos' : Pos} (hN : X.N.Nodup) (hi : X.N[n]? = some x) (hx : Loc X.env.scope x) (a : SE X e fa) (ho : PIp X op ti) (hr : RD X.K ti o)
    (hf : X.fn x = true ∨ X.env.scope.names.lookup x = some .local := by first | exact .inl rfl | exact .inr rfl | assumption) : SS X (.AugAssign (.Name x pos') op e pos) (qAug n o fa) :=
  SS.mk (ps_aug hN hi hx a ho hf) fun D σ H Γ S μ r h1 h2 h3 k => by
    unfold qAug at h3
    split at h3
    · rename_i dx hdx
      obtain ⟨⟨dy, S1⟩, e1, h3⟩ := bind_some h3
      obtain ⟨⟨dz, S2⟩, e2, e3⟩ := map_some h3
      cases e3
      obtain ⟨v, q1, q2⟩ := h1.slot n dx hdx
      exact ⟨v, q1, Γ, S, μ, dy, S1, h1, h2, e1, fun w H' μ' r' x rv => hr H' S1 μ' v w dx dy dz S2 _ r' (q2.ext x) rv e2 fun z H2 μ2 r2 x2 rz => k _ H2 μ2 (((h1.ext x).ext x2).set rz n) r2 (x.trans x2)⟩
    · cases h3
end
/-! ### for -/
open Classical in
noncomputable def forL (t : FG) (body : FS) (lk : Lk) : List D → FS
  | [], Γ, S => if Lkd lk S then some (.nx, Γ, S) else none
  | d :: r, Γ, S => if Lkd lk S then (t d Γ S).bind fun Γ1 => (body Γ1 S).bind fun p => match p.1 with
      | .nx => forL t body lk r p.2.1 p.2.2
      | .ct => forL t body lk r p.2.1 p.2.2
      | .bk => some (.nx, p.2)
      | .rt d => some (.rt d, p.2) else none
noncomputable def qFor (it : FI) (t : FG) (body : FS) : FS := fun Γ S => (it Γ S).bind fun p => forL t body p.1.2 p.1.1 Γ p.2
section
variable {X : Cx} {tg iter c : Expr} {body : List Stmt} {it : FI} {t : FG} {is : List Nat} {g : FS} {pos : Pos}
theorem ss_for (hp : PassesOwn (model X.prog X.w) X.A X.env X.xe) (hc : X.calm = true) (hi : SI X tg iter it) (hg : SG X tg is t) (hb : SSs X body g) (hs : ∀ x, foldedSetIterable iter X.env x = pure x := by intro _; rfl) : SS X (.For tg iter body [] pos) (qFor it t g) :=
  SS.mk (ps_for hp hc hi hg hb hs) fun D σ H Γ S μ r h1 h2 h3 k => by
    obtain ⟨⟨⟨its, lk⟩, S1⟩, e1, h3⟩ := bind_some h3
    refine ⟨Γ, S, μ, _, S1, h1, h2, e1, fun J H1 μ1 r1 x1 it => ?_⟩
    refine ⟨fun i m σ H2 => m = its.length - i ∧ i ≤ its.length ∧ ∃ Γ S μ2, RG X.K H2 μ2 Γ σ ∧ RS X.K H2 μ2 S ∧ Ext X.K H1 μ1 H2 μ2 ∧ forL t g lk (its.drop i) Γ S = some r, ⟨_, rfl, Nat.zero_le _, Γ, S1, μ1, h1.ext x1, r1, .refl, h3⟩, ?_⟩
    rintro i m σ2 H2 ⟨rfl, hle, Γ2, S2, μ2, G2, r2, x2, h3⟩
    rcases Nat.lt_or_ge i its.length with hlt | hge
    · rw [List.drop_eq_getElem_cons hlt, forL] at h3
      split at h3
      · rename_i hk
        obtain ⟨Γ3, q1, h3⟩ := bind_some h3
        obtain ⟨⟨o, Γ4, S4⟩, q2, h3⟩ := bind_some h3
        refine .inr ⟨it.go i H2 μ2 S2 hlt r2 x2 hk, fun σ' H' => ∃ Γ S μ2, RG X.K H' μ2 Γ σ' ∧ RS X.K H' μ2 S ∧ Ext X.K H1 μ1 H' μ2 ∧ forL t g lk (its.drop (i + 1)) Γ S = some r, fun σ' H' z => ⟨its.length - (i + 1), by omega, rfl, hlt, z⟩, fun x H3 y => ?_⟩
        obtain ⟨s3, d, y1, y2⟩ := it.yld i H2 μ2 S2 x H3 hlt r2 x2 hk y
        rw [List.getElem?_eq_getElem hlt] at y1
        cases y1
        have x3 : Ext X.K H2 μ2 H3 μ2 := .same s3
        refine ⟨_, Γ2, S2, μ2, Γ3, y2, G2.ext x3, r2.same s3, q1, fun σ' G3 _ => ⟨Γ3, S2, μ2, _, G3, r2.same s3, q2, ?_⟩⟩
        cases o with
        | nx => exact fun σ4 H4 μ4 G4 r4 x4 => ⟨Γ4, S4, μ4, G4, r4, (x2.trans x3).trans x4, h3⟩
        | ct => exact fun σ4 H4 μ4 G4 r4 x4 => ⟨Γ4, S4, μ4, G4, r4, (x2.trans x3).trans x4, h3⟩
        | bk =>
          cases h3
          exact fun σ4 H4 μ4 G4 r4 x4 => k σ4 H4 μ4 G4 r4 (((x1.trans x2).trans x3).trans x4)
        | rt d =>
          cases h3
          exact fun v H4 μ4 r4 x4 rv => k v H4 μ4 r4 (((x1.trans x2).trans x3).trans x4) rv
      · cases h3
    · have e : i = its.length := by omega
      subst e
      rw [List.drop_length, forL] at h3
      split at h3
      · rename_i hk
        cases h3
        exact .inl ⟨it.stop H2 μ2 _ r2 x2 hk, k σ2 H2 μ2 G2 r2 (x1.trans x2)⟩
      · cases h3
/-! ### while -/
def whL (c : FT) (body : FS) : Nat → FS
  | 0, _, _ => none
  | n + 1, Γ, S => (c Γ S).bind fun p => if p.1 = true then ((body Γ p.2).bind fun q => match q.1 with
      | .nx => whL c body n q.2.1 q.2.2
      | .ct => whL c body n q.2.1 q.2.2
      | .bk => some (.nx, q.2)
      | .rt d => some (.rt d, q.2)) else some (.nx, Γ, p.2)
theorem whL_mono {c : FT} {body : FS} : ∀ {n m : Nat} {Γ : Ctx} {S : Sto} {r : Out × Ctx × Sto}, n ≤ m → whL c body n Γ S = some r → whL c body m Γ S = some r
  | 0, _, _, _, _, _, h => by cases h
  | n + 1, 0, _, _, _, h, _ => absurd h (by omega)
  | n + 1, m + 1, Γ, S, r, hnm, h => by
    obtain ⟨⟨b, S1⟩, e1, h⟩ := bind_some h
    rw [whL, e1]
    cases b with
    | false => exact h
    | true =>
      rw [if_pos rfl] at h
      obtain ⟨⟨o, Γ2, S2⟩, e2, h⟩ := bind_some h
      show ((body Γ S1).bind _) = _
      rw [e2]
      cases o with
      | nx => exact whL_mono (Nat.le_of_succ_le_succ hnm) h
      | ct => exact whL_mono (Nat.le_of_succ_le_succ hnm) h
      | bk => exact h
      | rt d => exact h
open Classical in
noncomputable def qWhile (c : FT) (body : FS) : FS := fun Γ S => if h : ∃ n, (whL c body n Γ S).isSome = true then whL c body h.choose Γ S else none
theorem qWhile_of {c : FT} {body : FS} {n : Nat} {Γ : Ctx} {S : Sto} {r : Out × Ctx × Sto} (h : whL c body n Γ S = some r) : qWhile c body Γ S = some r := by
  have he : ∃ n, (whL c body n Γ S).isSome = true := ⟨n, by rw [h]; rfl⟩
  unfold qWhile
  rw [dif_pos he]
  obtain ⟨r', h'⟩ := Option.isSome_iff_exists.mp he.choose_spec
  have a := whL_mono (Nat.le_max_left n he.choose) h
  have b := whL_mono (Nat.le_max_right n he.choose) h'
  rw [h', ← a, ← b]
theorem qWhile_some {c : FT} {body : FS} {Γ : Ctx} {S : Sto} {r : Out × Ctx × Sto} (h : qWhile c body Γ S = some r) : ∃ n, whL c body n Γ S = some r := by
  unfold qWhile at h
  split at h
  · exact ⟨_, h⟩
  · cases h
theorem ss_while {tc : FT} (hp : PassesOwn (model X.prog X.w) X.A X.env X.xe) (hc : ST X c tc) (hb : SSs X body g) : SS X (.While c body [] pos) (qWhile tc g) :=
  SS.mk (ps_while hp hc hb) fun D σ H Γ S μ r h1 h2 h3 k => by
    obtain ⟨n, h3⟩ := qWhile_some h3
    refine ⟨fun m σ2 H2 => ∃ Γ S μ2, RG X.K H2 μ2 Γ σ2 ∧ RS X.K H2 μ2 S ∧ Ext X.K H μ H2 μ2 ∧ whL tc g m Γ S = some r, ⟨n, Γ, S, μ, h1, h2, .refl, h3⟩, ?_⟩
    rintro m σ2 H2 ⟨Γ2, S2, μ2, G2, r2, x2, h3⟩
    cases m with
    | zero => cases h3
    | succ m =>
      obtain ⟨⟨b, S3⟩, e1, h3⟩ := bind_some h3
      refine ⟨Γ2, S2, μ2, b, S3, G2, r2, e1, fun H3 μ3 r3 x3 => ?_⟩
      cases b with
      | false =>
        rw [if_neg Bool.false_ne_true] at h3 ⊢
        cases h3
        exact k σ2 H3 μ3 (G2.ext x3) r3 (x2.trans x3)
      | true =>
        rw [if_pos rfl] at h3 ⊢
        obtain ⟨⟨o, Γ4, S4⟩, e2, h3⟩ := bind_some h3
        refine ⟨fun σ' H' => ∃ Γ S μ2, RG X.K H' μ2 Γ σ' ∧ RS X.K H' μ2 S ∧ Ext X.K H μ H' μ2 ∧ whL tc g m Γ S = some r, fun σ' H' z => ⟨m, Nat.lt_succ_self m, z⟩, Γ2, S3, μ3, _, G2.ext x3, r3, e2, ?_⟩
        cases o with
        | nx => exact fun σ4 H4 μ4 G4 r4 x4 => ⟨Γ4, S4, μ4, G4, r4, (x2.trans x3).trans x4, h3⟩
        | ct => exact fun σ4 H4 μ4 G4 r4 x4 => ⟨Γ4, S4, μ4, G4, r4, (x2.trans x3).trans x4, h3⟩
        | bk =>
          cases h3
          exact fun σ4 H4 μ4 G4 r4 x4 => k σ4 H4 μ4 G4 r4 ((x2.trans x3).trans x4)
        | rt d =>
          cases h3
          exact fun v H4 μ4 r4 x4 rv => k v H4 μ4 r4 ((x2.trans x3).trans x4) rv
end
/-! ### name = [..] on one line -/
section
variable {X : Cx} {it : FI} {g : FG} {ts : FT} {el : FE} {is : List Nat} {elt tg iter : Expr} {ifs : List Expr} {scope : Scope} {own : List (Str × Nat)} {pos spos py : Pos} {i : Nat} {y : Str}
theorem ss_setLc (hc : X.calm = true) (hN : X.N.Nodup) (hy : X.N[i]? = some y) (hyl : X.env.scope.names.lookup y = some .local)
    (hsw : swapsWith (.ListComp elt [⟨tg, iter, ifs, 0⟩] scope pos) (some (.Name y py)) spos.line X.env = pure true) (hi : SI X tg iter it) (ok : BlkOk X.N X.env.scope scope own)
    (hg : ∀ (s : Shared) (H : Hp) (C : Addr) (cl : List (Str × Addr)) (fp : List Addr), SG (X.blk s H scope (compEnvC scope cl C X.env) fp) tg is g) (ht : ∀ (s : Shared) (H : Hp) (C : Addr) (cl : List (Str × Addr)) (fp : List Addr), STs (X.blk s H scope (compEnvC scope cl C X.env) fp) ifs ts)
    (he : ∀ (s : Shared) (H : Hp) (C : Addr) (cl : List (Str × Addr)) (fp : List Addr), SE (X.blk s H scope (compEnvC scope cl C X.env) fp) elt el) {vs : List Nat} (his : ∀ i ∈ is, i ∈ vs) (hvs : own.map (·.2) = vs := by rfl) (hs : ∀ x, foldedSetIterable iter X.env x = pure x := by intro _; rfl) :
    SS X (.Assign [.Name y py] (.ListComp elt [⟨tg, iter, ifs, 0⟩] scope pos) spos) (qSet i (eLc it g ts el vs)) := by
  subst hvs
  exact SS.mk (ps_setLc (g := tG X.K is g) (tt := tT X.K ts) (te := tD X.K el) hc hN hy hyl hsw hi ok hg ht he hs) fun D σ H Γ S μ r h1 h2 h3 k => by
    obtain ⟨⟨d, S1⟩, e1, e2⟩ := map_some h3
    cases e2
    exact lc_turns his h1 h2 e1 fun v H' μ' r' x rv => k _ H' μ' ((h1.ext x).set rv i) r' x
end
end Dl

/-! DlF: a def over data; the law's end -/
namespace Dl
open PySem PySem.Spec PyProof.Rows L2
/-- as fin; a new cell that is the result itself is kept, and stands first behind the old ones -/
def fin2 (b : Nat) (p : D × Sto) : D × Sto := if (p.2.take b).all (Cell.lo b) = true then (if p.1.lo b = true then (p.1, p.2.take b) else match p.1 with
    | .loc m => match p.2[m]? with
      | some c => if b ≤ m ∧ c.lo b = true then (.loc b, p.2.take b ++ [c]) else p
      | none => p
    | _ => p) else p
theorem RS.pick {K : PySem.W.Frag} {H : Hp} {μ : List Addr} {S : Sto} {b m : Nat} {a : Addr} {c : Cell} (r : RS K H μ S) (h : (S.take b).all (Cell.lo b) = true) (hm : μ[m]? = some a) (hS : S[m]? = some c) (hb : b ≤ m) (hc : c.lo b = true) :
    RS K H (μ.take b ++ [a]) (S.take b ++ [c]) := by
  have r1 := r.trunc h
  have hlt : m < S.length := (List.getElem?_eq_some_iff.mp hS).1
  have l1 : (S.take b).length = b := by rw [List.length_take]; omega
  have l2 : (μ.take b).length = b := by rw [r1.len, l1]
  have ex : Ext K H (μ.take b) H (μ.take b ++ [a]) := .grow (Same.refl H) [a]
  have low : ∀ {α : Type} {l : List α} {x y : α} {n : Nat}, (l.take b).length = b → (l.take b ++ [y])[n]? = some x → (n < b ∧ l[n]? = some x ∧ (l.take b)[n]? = some x) ∨ (n = b ∧ x = y) := fun {α l x y n} hl e => by
    by_cases hn : n < b
    · rw [List.getElem?_append_left (by omega)] at e
      exact .inl ⟨hn, by rw [← e, List.getElem?_take_of_lt hn], e⟩
    · rw [List.getElem?_append_right (by omega), hl] at e
      have : n - b = 0 := by
        have := (List.getElem?_eq_some_iff.mp e).1
        simp at this
        omega
      rw [this] at e
      exact .inr ⟨by omega, by simpa using e.symm⟩
  refine ⟨by simp [l1, l2], fun n k x c1 c2 h1 h2 i1 i2 e1 e2 => ?_, fun n c1 h1 => ?_⟩
  · rcases low l1 h1 with ⟨n1, n2, _⟩ | ⟨n1, n2⟩ <;> rcases low l1 h2 with ⟨k1, k2, _⟩ | ⟨k1, k2⟩ <;> rcases low l2 e1 with ⟨u1, u2, _⟩ | ⟨u1, u2⟩ <;> rcases low l2 e2 with ⟨w1, w2, _⟩ | ⟨w1, w2⟩ <;> first
      | exact r.inj n k x c1 c2 n2 k2 i1 i2 u2 w2
      | (exfalso; omega)
      | skip
    · subst k2 w2
      have := r.inj n m x c1 c2 n2 hS i1 i2 u2 hm
      omega
    · subst n2 u2
      have := r.inj m k x c1 c2 hS k2 i1 i2 hm w2
      omega
    · omega
  · rcases low l1 h1 with ⟨n1, n2, n3⟩ | ⟨n1, n2⟩
    · obtain ⟨x, q1, q2⟩ := r1.cell n c1 n3
      exact ⟨x, by rw [List.getElem?_append_left (by omega)]; exact q1, q2.keep ex fun o z => z⟩
    · subst n2
      refine ⟨a, by rw [List.getElem?_append_right (by omega), l2, n1]; simp, ?_⟩
      exact ((r.atc hm hS).trunc hc).keep ex fun o z => z
theorem fin2_ok {K : PySem.W.Frag} {H0 H : Hp} {μ0 μ : List Addr} {S0 S : Sto} {d : D} {v : V} (r0 : RS K H0 μ0 S0) (r : RS K H μ S) (e : Ext K H0 μ0 H μ) (rv : RV K H μ d v) :
    ∃ μ', RS K H μ' (fin2 S0.length (d, S)).2 ∧ Ext K H0 μ0 H μ' ∧ RV K H μ' (fin2 S0.length (d, S)).1 v := by
  have em : μ.take S0.length = μ0 := by
    obtain ⟨t, ht⟩ := e.pre
    rw [← ht, ← r0.len, List.take_left]
  unfold fin2
  split
  · rename_i hc
    split
    · rename_i hd
      exact ⟨μ.take S0.length, r.trunc hc, ⟨e.tup, by rw [em]; exact List.prefix_refl _⟩, rv.trunc hd⟩
    · split
      · rename_i m em'
        simp only at em'
        subst em'
        split
        · rename_i c hS
          split
          · rename_i hq
            cases rv with
            | @loc a _ q1 =>
              refine ⟨μ.take S0.length ++ [a], r.pick hc q1 hS hq.1 hq.2, ⟨e.tup, by rw [em]; exact List.prefix_append _ _⟩, .loc ?_⟩
              rw [em, ← r0.len]
              simp
          · exact ⟨μ, r, e, rv⟩
        · exact ⟨μ, r, e, rv⟩
      · exact ⟨μ, r, e, rv⟩
  · exact ⟨μ, r, e, rv⟩
section
variable {X : Cx} {e : Expr} {f : FE} {g : FT}
def tidy2 (f : FE) : FE := fun Γ S => (f Γ S).map (fin2 S.length)
theorem se_tidy2 (h : SE X e f) : SE X e (tidy2 f) :=
  SE.mk h fun σ H Q Γ S μ d S' g r h k => by
    obtain ⟨⟨x, S1⟩, h1, h2⟩ := map_some h
    refine ⟨Γ, S, μ, x, S1, g, r, h1, fun v H' μ' r' e' rv => ?_⟩
    obtain ⟨μ2, a1, a2, a3⟩ := fin2_ok r r' e' rv
    rw [h2] at a1 a3
    exact k v H' μ2 a1 a2 a3
def tidyT (g : FT) : FT := fun Γ S => (g Γ S).map fun p => (p.1, (fin2 S.length (.non, p.2)).2)
theorem st_tidy (h : ST X e g) : ST X e (tidyT g) :=
  ST.mk h fun σ H Q Γ S μ d S' g r h k => by
    obtain ⟨⟨x, S1⟩, h1, h2⟩ := map_some h
    refine ⟨Γ, S, μ, x, S1, g, r, h1, fun H' μ' r' e' => ?_⟩
    obtain ⟨μ2, a1, a2, a3⟩ := fin2_ok r r' e' (.non : RV X.K H' μ' .non .non)
    cases h2
    exact k H' μ2 a1 a2
end
theorem _root_.L2.Room.u1 {k : Nat} {A : Around} (r : Room k A) : A.units + 1 < cLine := by have := r.un; omega
theorem _root_.L2.Room.u64 {k : Nat} {A : Around} (r : Room k A) : A.units + 64 < cLine := by have := r.un; omega
theorem _root_.L2.Room.u65 {k : Nat} {A : Around} (r : Room k A) : A.units + 65 < cLine := by have := r.un; omega
/-- np parameters, n slots -/
def runD (np n : Nat) (body : FS) : FF := fun ds S => if ds.length = np then (body (ds.map some ++ List.replicate (n - np) none) S).bind fun r => match r.1 with
  | .nx => some (fin2 S.length (.non, r.2.2))
  | .rt d => some (fin2 S.length (d, r.2.2))
  | _ => none else none
theorem RG.start {K : PySem.W.Frag} {H : Hp} {μ : List Addr} {ds : List D} {vs : List V} (h : RVs K H μ ds vs) (n : Nat) : RG K H μ (ds.map some ++ List.replicate n none) (vs.map some ++ List.replicate n none) := by
  refine ⟨by simp [h.length], fun i d e => ?_⟩
  by_cases hi : i < (ds.map (some (α := D))).length
  · rw [List.getElem?_append_left hi, List.getElem?_map] at e
    cases q : ds[i]? with
    | none => rw [q] at e; cases e
    | some d' =>
      rw [q] at e
      cases e
      obtain ⟨v, h1, h2⟩ := h.get q
      have hv : i < (vs.map (some (α := V))).length := by rw [List.length_map, ← h.length]; rw [List.length_map] at hi; exact hi
      exact ⟨v, by rw [List.getElem?_append_left hv, List.getElem?_map, h1]; rfl, h2⟩
  · rw [List.getElem?_append_right (by omega)] at e
    rw [List.getElem?_replicate] at e
    split at e <;> cases e
section
variable {P : Program} {w : World} {K : PySem.W.Frag} {mg : Str → Option Value} {base : Heap}
/-- the context of a def's body -/
abbrev CxD (P : Program) (w : World) (K : PySem.W.Frag) (mg : Str → Option Value) (base : Heap) (N : List Str) (qual : Str) (scope : Scope) (f : Addr) (cdv : Value) (A : Around) (outer : List Env) (s : Shared) (H : Hp) (E : XK) : Cx := (cxOf CX0 P w K mg base N qual scope f cdv A outer s H E).nox
theorem fn_d {x qual : Str} {st : Stmt} {f : Addr} {fd : FuncData} {N ps : List Str} {k : Nat} {body : FS} (F : Fun K x qual st f fd) (S : FnScope N ps (defScope st))
    (hb : ∀ (cdv : Value) (A : Around) (outer : List Env) (s : Shared) (H : Hp) (E : XK), Room k (A.deeper (envOfC qual (defScope st) s.heap.objs.size f cdv)) → SSs (CxD P w K mg base N qual (defScope st) f cdv A outer s H E) (defBody st) body) :
    FnOk P w K mg base CX0 (k + 1) f fd ps (spD K (runD ps.length N.length body)) := by
  refine F.ok S (fun vs H Q E h => ?_) (fun cdv A outer s H vs Q E hr h => ⟨_, hb cdv A outer s H E hr, ?_⟩)
  · obtain ⟨ds, S, μ, d, S', h1, h2, h3, k⟩ := h
    unfold runD at h3
    split at h3
    · rename_i hl
      rw [← h1.length, hl]
    · cases h3
  · obtain ⟨ds, S, μ, d, S', h1, h2, h3, k⟩ := h
    unfold runD at h3
    split at h3
    · rename_i hl
      obtain ⟨⟨o, Γ1, S1⟩, e1, e2⟩ := bind_some h3
      have hv : N.length - vs.length = N.length - ps.length := by rw [← h1.length, hl]
      refine ⟨_, S, μ, _, ?_, h2, e1, ?_⟩
      · unfold L2.start
        rw [hv]
        exact RG.start h1 _
      · cases o with
        | nx =>
          intro σ' H' μ' g' r' x'
          obtain ⟨μ2, a1, a2, a3⟩ := fin2_ok h2 r' x' (.non : RV K H' μ' .non .non)
          have e3 := Option.some.inj e2
          simp only at e3
          rw [e3] at a1 a3
          exact k _ H' μ2 a1 a2 a3
        | rt d' =>
          intro v H' μ' r' x' rv
          obtain ⟨μ2, a1, a2, a3⟩ := fin2_ok h2 r' x' rv
          have e3 := Option.some.inj e2
          simp only at e3
          rw [e3] at a1 a3
          exact k _ H' μ2 a1 a2 a3
        | bk => cases e2
        | ct => cases e2
    · cases h3
theorem fn_e {x qual : Str} {st : Stmt} {f : Addr} {fd : FuncData} {N ps : List Str} {k np n : Nat} {body : FS} {FF0 : FF} (hF : FF0 = runD np n body) (hp : ps.length = np) (hn : N.length = n) (F : Fun K x qual st f fd) (S : FnScope N ps (defScope st))
    (hb : ∀ (cdv : Value) (A : Around) (outer : List Env) (s : Shared) (H : Hp) (E : XK), Room k (A.deeper (envOfC qual (defScope st) s.heap.objs.size f cdv)) → SSs (CxD P w K mg base N qual (defScope st) f cdv A outer s H E) (defBody st) body) :
    FnOk P w K mg base CX0 (k + 1) f fd ps (spD K FF0) := by
  subst hF hp hn
  exact fn_d F S hb
/-- a def of the top, by its facts -/
theorem Fn.of {x : Str} {F : FF} {f : Addr} {fd : FuncData} {ps : List Str} {k : Nat} (a : FnOk P w K mg base CX0 k f fd ps (spD K F)) (m : mg x = some (.ref f)) (c : PySem.W.keepIn K (.ref f) = true) (b : Binds K fd ps []) : Fn P w K mg base k x F := ⟨f, fd, ps, a, m, c, b⟩
/-- a promise that is all one needs -/
theorem Fn.mono {x : Str} {F : FF} {j k : Nat} (a : Fn P w K mg base j x F) (h : j ≤ k) : Fn P w K mg base k x F := by
  obtain ⟨f, fd, ps, a1, a2, a3, a4⟩ := a.ex
  exact ⟨f, fd, ps, a1.mono h, a2, a3, a4⟩
theorem Fn.eq {x : Str} {F F' : FF} {k : Nat} (a : Fn P w K mg base k x F) (h : F = F') : Fn P w K mg base k x F' := h ▸ a
end
/-- the script's list as data -/
theorem rs_script {K : PySem.W.Frag} {H : Hp} {a : Addr} {ns : List Int} (o : Only H) (h : SqL K H a (ns.map V.int)) : RS K H [a] [.ro (ns.map D.int)] := by
  have rv : ∀ ns : List Int, RVs K H [a] (ns.map D.int) (ns.map V.int) := fun ns => by
    induction ns with
    | nil => exact .nil
    | cons i r ih => exact .cons (.int i) ih
  refine ⟨rfl, fun n m b c c' h1 h2 h3 h4 h5 h6 => ?_, fun n c h1 => ?_⟩
  · cases n with
    | zero => cases h1; cases h3
    | succ n => cases h1
  · cases n with
    | zero =>
      cases h1
      exact ⟨a, rfl, _, RoL.of h o, rv ns⟩
    | succ n => cases h1
theorem walk_d {l : PySem.W.OpenLaw} {n k : Nat} {q : Program} {loose : List Str} {XP : (Str → Option Value) → Heap → Prop} {YP : World → Heap → Prop} {d : DefRec} {K : Params → PySem.W.Frag} {x : Str} (F : FF)
    (hn : l.most = some n) (hn2 : n ≤ sizeLine) (hdf : d.params.defaults = []) (hr : Room k callerA) (hY : ∀ (w : World) (h : Heap), YP w h → (K w.params).In h)
    (hF : ∀ (w : World) (mg : Str → Option Value) (fa : Addr) (h : Heap), (K w.params).In h → h.Ns mainGlobals mg → mg d.name = some (.ref fa) →
      ∃ fd : FuncData, (∀ (s : Shared) (u : Value), BindsTo s fd ⟨[u], []⟩ [(x, u)]) ∧ ∀ base : Heap, (K w.params).In base → base.Ns mainGlobals mg → FnOk l.prog w (K w.params) mg base CX0 k fa fd [x] (spD (K w.params) F))
    (law : ∀ ns : List Int, ns.length ≤ n → ∃ S', F [.loc 0] [.ro (ns.map D.int)] = some (.bl true, S')) : PySem.W.WalkO q loose XP YP l.row.toRowW d [] (fun f vs => PySem.call f vs) :=
  L2.walk_of (n := n) (k := k) (x := x) (CX := fun _ => CX0) (sp := fun w => spD (K w.params) F) hn hn2 hdf hr hY hF (fun w H a ns hl ho hS => by
    obtain ⟨S', e⟩ := law ns hl
    exact ⟨[.loc 0], [.ro (ns.map D.int)], [a], .bl true, S', .cons (.loc rfl) .nil, rs_script ho hS, e, fun v H' μ' r x rv => by cases rv; rfl⟩) fun _ _ _ _ _ z => z
end Dl

/-! DlY: t[::-1] of a tuple, {}, item stores by op= -/
namespace Dl
open PySem PySem.Spec PyProof.Rows L2
section
variable {prog : Program} {w : World} {A : Around} {E : Value → Shared → Prop} {s : Shared}
theorem rev_places (n : Nat) : Builtin.Slice.slicePlaces ((n : Int) - 1) (-1) (-1) = n := by
  unfold Builtin.Slice.slicePlaces
  rw [if_neg (by decide)]
  split
  · rw [show (-(-1 : Int)) = 1 by decide, Int.ediv_one]
    omega
  · omega
theorem sliced_back {sl : Addr} {vs : Value} {n : Nat} {Q : Int × Int × Nat → Shared → Prop} (hs : s.heap.IsSliceOf sl .none .none vs) (ps : IsPart vs (some (-1))) (h : Q ((n : Int) - 1, -1, n) s) :
    wpAny (model prog w) A (Builtin.Slice.sliceApplied (.ref sl) (pure (n : Int))) Q E s := by
  obtain ⟨os, hos, hcs, hds⟩ := id hs
  unfold Builtin.Slice.sliceApplied Builtin.Slice.sliceFields
  refine wpAny_bind (wpAny_bind (wpAny_field hos hds (x := .none) rfl (wpAny_bind (wpAny_field hos hds (x := .none) rfl (wpAny_bind (wpAny_field hos hds (x := vs) rfl (wpAny_pure ?_)))))))
  refine wpAny_bind (HT.slicePart_ ps ?_)
  show wpAny _ _ (if ((-1 : Int) == 0) = true then _ else _) _ _ s
  rw [if_neg (by decide)]
  refine wpAny_bind (slicePart_none (wpAny_bind (slicePart_none (wpAny_bind (wpAny_pure ?_)))))
  show wpAny _ _ (pure ((n : Int) - 1, (-1 : Int), Builtin.Slice.slicePlaces ((n : Int) - 1) (-1) (-1))) _ _ s
  rw [rev_places]
  exact wpAny_pure h
theorem back_pick (xs : Array Value) : ((List.range xs.size).filterMap fun (m : Nat) => xs[(((xs.size : Int) - 1) + (m : Int) * (-1)).toNat]?).toArray = xs.toList.reverse.toArray := by
  have e : (fun (m : Nat) => xs[(((xs.size : Int) - 1) + (m : Int) * (-1)).toNat]?) = fun m => xs[xs.size - 1 - m]? := by
    funext m
    have : (((xs.size : Int) - 1) + (m : Int) * (-1)).toNat = xs.size - 1 - m := by omega
    rw [this]
  rw [e, ← PySem.W.krv_pick]
  unfold slicePick
  rw [PySem.W.krv_bounds]
  show _ = ((sliceRange ((xs.size : Int) - 1) (-1) (-1)).filterMap (xs[·]?)).toArray
  rw [PySem.W.krv_sliceRange, List.filterMap_map]
  rfl
theorem item_back {t sl : Addr} {items : Array Value} {vs : Value} {Q : Value → Shared → Prop} (ht : IsTup s.heap t items) (hs : s.heap.IsSliceOf sl .none .none vs) (ps : IsPart vs (some (-1)))
    (h : Q (.ref s.heap.objs.size) { s with heap := s.heap.push { cls := .type "tuple", data := .seq items.toList.reverse.toArray } }) (hsz : items.size ≤ sizeLine) : wpAny (model prog w) A (getItem (.ref t) (.ref sl)) Q E s := by
  have hok : sizeOk (.seq items.toList.reverse.toArray) := by
    show items.toList.reverse.toArray.size ≤ sizeLine
    rw [List.size_toArray, List.length_reverse, Array.length_toList]
    exact hsz
  obtain ⟨os, hos, hcs, hds⟩ := id hs
  have hTs : s.TypeIs (.ref sl) "slice" := ⟨os, hos, hcs⟩
  unfold getItem
  try with_reducible refine wpAny_holding ?_
  first | refine wpAny_bind (wpAny_pure ?_) | skip
  refine wpAny_bind (wpAny_sequenceKey ht.typeIs (by decide) ?_)
  refine wpAny_bind (wpAny_callSpecial?_slot (name := Str.ofString "__getitem__") ht.typeIs PyProof.Rows.slot_tuple_getitem
    (wpAny_call_entry PyProof.Rows.slot_tuple_getitem ht.typeIs PyProof.Rows.entry_tuple_getitem ?_ (PyProof.Rows.args_tuple_getitem _ _)))
  show wpAny _ _ (Builtin.Tuple.tupleItemsOf (.ref t) >>= _) _ _ s
  refine wpAny_bind (tupleItemsOf_ ht ?_)
  refine wpAny_bind (wpAny_typeOf hTs ?_)
  rw [if_pos (by decide)]
  refine wpAny_bind (sliced_back hs ps ?_)
  have hno : ¬ ((((items.size : Int) - 1) == 0 && (-1 : Int) == 1 && items.size == items.size) = true) := by
    rw [show ((-1 : Int) == 1) = false by decide, Bool.and_false, Bool.false_and]
    exact Bool.false_ne_true
  show wpAny _ _ (if ((((items.size : Int) - 1) == 0 && (-1 : Int) == 1 && items.size == items.size) = true) then _ else _) _ _ s
  rw [if_neg hno, back_pick]
  first
    | exact wpAny_bind (m := Builtin.Tuple.tupleExact _) (wpAny_newObj_type (wpAny_pure ⟨_, rfl, wpAny_pure h⟩) hok)
    | exact wpAny_bind (m := Builtin.Tuple.tupleExact _) (wpAny_newObj_type (wpAny_bind (wpAny_pure (wpAny_pure ⟨_, rfl, wpAny_pure h⟩))) hok)
    | exact wpAny_bind (wpAny_bind (m := Builtin.Tuple.tupleExact _) (wpAny_newObj_type (wpAny_pure (wpAny_pure ⟨_, rfl, wpAny_pure h⟩)) hok))
    | exact wpAny_bind (wpAny_bind (m := Builtin.Tuple.tupleExact _) (wpAny_newObj_type (wpAny_pure ⟨_, rfl, wpAny_pure h⟩) hok))
end
section
variable {X : Cx} {e : Expr} {fa : FE} {pos : Pos}
def tRevT (K : PySem.W.Frag) (te : TE) : TE := fun σ H Q => te σ H fun x H1 => ∃ a xs, x = .ref a ∧ SqT K H1 a xs ∧ ∀ p, H1 p = none → Q (.ref p) (upd H1 p (.tup xs.reverse))
theorem pe_revT {te : TE} {k : Nat} {p1 p2 p3 : Pos} (he : PE X e te) : PE X (.Subscript e (.Slice none none (some (.UnaryOp .USub (.Constant (.int 1) k p1) p2)) p3) pos) (tRevT X.K te) := by
  refine ⟨fun pins s σ H Q I h => ?_⟩
  refine Subscript_ (thn (he.run pins s σ H _ I h) fun v s1 ⟨x, H1, I1, r1, q1⟩ => ?_)
  obtain ⟨a, xs, ex, hx, q⟩ := q1
  subst ex
  cases r1
  have hst : PO X (some (.UnaryOp .USub (.Constant (.int 1) k p1) p2)) (tPart (tUn (rU fun i => .int (-i)) (tC (.int 1)))) := po_some (pe_un un_neg pe_int)
  refine wpAny_Slice (thn (po_none.run pins s1 σ H1 (fun o H2 => o = none ∧ H2 = H1) I1 ⟨rfl, rfl⟩) fun vl s2 ⟨l, H2, I2, pl, el, e2⟩ => ?_)
  subst el e2
  refine thn (po_none.run pins s2 σ H2 (fun o H3 => o = none ∧ H3 = H2) I2 ⟨rfl, rfl⟩) fun vu s3 ⟨u, H3, I3, pu, eu, e3⟩ => ?_
  subst eu e3
  refine thn (hst.run pins s3 σ H3 (fun o H4 => o = some (-1) ∧ H4 = H3) I3 ⟨1, rfl, -1, rfl, rfl, rfl⟩) fun vs s4 ⟨o, H4, I4, ps, eo, e4⟩ => ?_
  subst eo e4
  have I5 : Inv X pins σ H4 { s4 with heap := s4.heap.push { cls := .type "slice", data := .fields #[vl, vu, vs] } } := I4.kept (t' := s4.toks) fun b ob q => Heap.get?_push_of_some _ q
  obtain ⟨its, r, ht, hz⟩ := I5.tuple hx
  have hlen := r.length
  cases pl
  cases pu
  show wpAny (model X.prog X.w) X.A (subscriptTail e (.Slice none none (some (.UnaryOp .USub (.Constant (.int 1) k p1) p2)) p3) (.ref a) (.ref s4.heap.objs.size)) (EP X pins σ Q) X.xe { s4 with heap := s4.heap.push { cls := .type "slice", data := .fields #[.none, .none, vs] } }
  refine tail_any (ops := [.ref a, .ref s4.heap.objs.size]) ht.typeIs (PyProof.Rows.slot_tuple_getitem.lookup) ?_ (by with_unfolding_all rfl)
  refine item_back ht (Heap.IsSliceOf.new _ .none .none vs) ps ?_ (by rw [List.size_toArray]; omega)
  refine ⟨.ref _, _, I5.laid (t' := s4.toks) (o := .tup xs.reverse) (fun b ob q => Heap.get?_push_of_some _ q) (Nat.le_refl _) ?_, rfl, q _ (I5.hok.fresh (Nat.le_refl _))⟩
  exact ⟨by rw [List.length_reverse]; exact hz, _, r.reverse, IsTup.new _ _⟩
/-- [::-1] -/
def eRev (fa : FE) : FE := fun Γ S => (fa Γ S).bind fun p => match p.1 with
  | .tup l => some (.tup l.reverse, p.2)
  | .loc n => match p.2[n]? with
    | some (.lst l) => some (.loc p.2.length, p.2 ++ [.lst l.reverse])
    | _ => none
  | _ => none
theorem pe_either {t t' : TE} (a : PE X e t) (b : PE X e t') : PE X e (fun σ H Q => t σ H Q ∨ t' σ H Q) := ⟨fun pins s σ H Q I q => by
  rcases q with q | q
  · exact a.run pins s σ H Q I q
  · exact b.run pins s σ H Q I q⟩
theorem se_rev {k : Nat} {p1 p2 p3 : Pos} (a : SE X e fa) : SE X (.Subscript e (.Slice none none (some (.UnaryOp .USub (.Constant (.int 1) k p1) p2)) p3) pos) (eRev fa) :=
  SE.mk (pe_either (pe_revT a) (pe_revL a)) fun σ H Q Γ S μ d S' g r h k => by
    obtain ⟨⟨x, S1⟩, e1, h⟩ := bind_some h
    cases x with
    | tup l =>
      cases h
      refine .inl ⟨Γ, S, μ, _, _, g, r, e1, fun v H' μ' r' x rv => ?_⟩
      cases rv with
      | @tup a vs _ q1 q2 =>
        refine ⟨a, vs, rfl, SqT.of q1, fun p hp => ?_⟩
        have s := same_upd (o := .tup vs.reverse) hp
        exact k _ _ μ' (r'.same s) (x.trans (.same s)) (.tup upd_same (q2.reverse.ext (.same s)))
    | loc n =>
      simp only at h
      split at h
      · rename_i l el
        cases h
        refine .inr ⟨Γ, S, μ, _, _, g, r, e1, fun v H' μ' r' x rv => ?_⟩
        cases rv with
        | @loc a _ q1 =>
          obtain ⟨vs, z1, z2⟩ := r'.atc q1 el
          refine ⟨a, vs, rfl, SqL.of z1, fun p hp => ?_⟩
          obtain ⟨a1, a2, a3⟩ := r'.newL z2.reverse hp
          exact k _ _ _ a1 (x.trans a2) a3
      · cases h
    | _ => cases h
/-! ### {} -/
def eDk : FE := fun _ S => some (.loc S.length, S ++ [.dk []])
def eDt : FE := fun _ S => some (.loc S.length, S ++ [.dt []])
theorem RS.newT {K : PySem.W.Frag} {H : Hp} {μ : List Addr} {S : Sto} {p : Addr} (r : RS K H μ S) (hp : H p = none) :
    RS K (upd H p (.dT [])) (μ ++ [p]) (S ++ [.dt []]) ∧ Ext K H μ (upd H p (.dT [])) (μ ++ [p]) ∧ RV K (upd H p (.dT [])) (μ ++ [p]) (.loc S.length) (.ref p) := by
  have e : Ext K H μ (upd H p (.dT [])) (μ ++ [p]) := .grow (same_upd hp) [p]
  exact ⟨r.alloc hp ⟨[], upd_same, rfl, .nil⟩, e, .loc (by rw [← r.len]; simp)⟩
theorem se_dk : SE X (.Dict [] [] pos) eDk := SE.mk pe_dnewK fun σ H Q Γ S μ d S' g r h k => by
  cases h
  intro p hp
  obtain ⟨a1, a2, a3⟩ := r.newD hp
  exact k _ _ _ a1 a2 a3
theorem se_dt : SE X (.Dict [] [] pos) eDt := SE.mk pe_dnewT fun σ H Q Γ S μ d S' g r h k => by
  cases h
  intro p hp
  obtain ⟨a1, a2, a3⟩ := r.newT hp
  exact k _ _ _ a1 a2 a3
end
end Dl

/-! DlM: reading programs on data -/
namespace Dl
open PySem PySem.Spec PyProof.Rows L2
/-! ### data without cells -/
mutual
theorem pure_lo (n : Nat) : ∀ d : D, d.pure = true → d.lo n = true
  | .non, _ => by rw [D.lo]
  | .bl _, _ => by rw [D.lo]
  | .int _, _ => by rw [D.lo]
  | .str _, _ => by rw [D.lo]
  | .loc _, h => by rw [D.pure] at h; cases h
  | .tup l, h => by rw [D.pure] at h; rw [D.lo]; exact pures_lo n l h
theorem pures_lo (n : Nat) : ∀ l : List D, D.pures l = true → D.los n l = true
  | [], _ => by rw [D.los]
  | d :: r, h => by
    rw [D.pures, Bool.and_eq_true] at h
    rw [D.los, pure_lo n d h.1, pures_lo n r h.2]
    rfl
end
def Cell.flat : Cell → Bool
  | .lst l => D.pures l
  | .ro l => D.pures l
  | .dk l => D.pures (l.map (·.2))
  | .dt l => D.pures (l.map (·.2))
  | .dkf l => D.pures (l.map (·.2))
  | .dtf l => D.pures (l.map (·.2))
theorem flat_lo {c : Cell} (n : Nat) (h : c.flat = true) : c.lo n = true := by cases c <;> exact pures_lo n _ h
def Flat (S : Sto) : Prop := ∀ c ∈ S, c.flat = true
theorem Flat.all {S : Sto} (h : Flat S) (n : Nat) : S.all (Cell.lo n) = true := List.all_eq_true.mpr fun c hc => flat_lo n (h c hc)
theorem Flat.set {S : Sto} (h : Flat S) (n : Nat) {c : Cell} (hc : c.flat = true) : Flat (S.set n c) := fun x hx => by
  rcases List.mem_or_eq_of_mem_set hx with q | q
  · exact h x q
  · rw [q]; exact hc
theorem Flat.app {S : Sto} (h : Flat S) {c : Cell} (hc : c.flat = true) : Flat (S ++ [c]) := fun x hx => by
  rcases List.mem_append.mp hx with q | q
  · exact h x q
  · rw [List.mem_singleton.mp q]; exact hc
theorem fin2_same {b : Nat} {S : Sto} (d : D) (h : S.length = b) : fin2 b (d, S) = (d, S) := by
  have e : S.take b = S := List.take_of_length_le (by omega)
  unfold fin2
  simp only [e]
  split
  · split
    · rfl
    · split
      · split
        · rename_i m em c hc
          have := (List.getElem?_eq_some_iff.mp hc).1
          rw [if_neg (by omega)]
        · rfl
      · rfl
  · rfl
theorem fin2_pure {b : Nat} {S : Sto} (T : Sto) {d : D} (hS : Flat S) (h : S.length = b) (hd : d.pure = true) : fin2 b (d, S ++ T) = (d, S) := by
  have e : (S ++ T).take b = S := by rw [← h, List.take_left]
  unfold fin2
  simp only [e, hS.all b, pure_lo b d hd, if_true]
theorem fin2_loc {b : Nat} {S T : Sto} {j : Nat} {c : Cell} (hS : Flat S) (h : S.length = b) (hT : T[j]? = some c) (hc : c.flat = true) : fin2 b (.loc (b + j), S ++ T) = (.loc b, S ++ [c]) := by
  have e : (S ++ T).take b = S := by rw [← h, List.take_left]
  have e2 : (S ++ T)[b + j]? = some c := by rw [List.getElem?_append_right (by omega), ← hT]; congr 1; omega
  have e3 : (D.loc (b + j)).lo b = false := by rw [D.lo]; exact decide_eq_false (by omega)
  unfold fin2
  simp only [e, hS.all b, e2, e3, flat_lo b hc, if_true]
  rw [if_neg Bool.false_ne_true, if_pos ⟨by omega, trivial⟩]
/-! ### the store -/
theorem get_app {S : Sto} {n : Nat} {c : Cell} (T : Sto) (h : S[n]? = some c) : (S ++ T)[n]? = some c := by
  rw [List.getElem?_append_left (List.getElem?_eq_some_iff.mp h).1]; exact h
theorem get_end (S T : Sto) (c : Cell) : (S ++ c :: T)[S.length]? = some c := by simp
theorem set_end (S T : Sto) (c c' : Cell) : (S ++ c :: T).set S.length c' = S ++ c' :: T := by
  rw [List.set_append_right _ _ (Nat.le_refl _), Nat.sub_self]; rfl
theorem set_app {S : Sto} {n : Nat} (T : Sto) (c : Cell) (h : n < S.length) : (S ++ T).set n c = S.set n c ++ T := List.set_append_left _ _ h
theorem lt_get {S : Sto} {n : Nat} {c : Cell} (h : S[n]? = some c) : n < S.length := (List.getElem?_eq_some_iff.mp h).1
theorem get_set {S : Sto} {n : Nat} {c : Cell} (c' : Cell) (h : S[n]? = some c) : (S.set n c')[n]? = some c' := List.getElem?_set_self (lt_get h)
/-! ### sizes -/
theorem log_of {x k : Nat} (h : x < 2 ^ (k + 1)) : x.log2 ≤ k := by
  rcases Nat.eq_zero_or_pos x with e | e
  · subst e; simp
  · exact Nat.le_of_lt_succ ((Nat.log2_lt (by omega)).mpr h)
def Big (x : Int) : Prop := x.natAbs < 2 ^ 250
theorem mul_big {i j : Int} (h : Big i) (h' : Big j) : mulOk i j = true := by
  have a := log_of (k := 249) h
  have b := log_of (k := 249) h'
  have : i.natAbs.log2 + j.natAbs.log2 < 1000000 := by omega
  unfold mulOk
  rw [decide_eq_true this, Bool.or_true]
theorem fdv_big {j : Int} (h : Big j) : j.natAbs.log2 < 9000 := by
  have a := log_of (k := 249) h
  omega
theorem big_of {x : Int} {k : Nat} (h : x.natAbs < 2 ^ k) (hk : k ≤ 250) : Big x := Nat.lt_of_lt_of_le h (Nat.pow_le_pow_right (by decide) hk)
theorem small_of {x : Int} (h1 : 0 ≤ x) (h2 : x < 2 ^ 249) : Big x := by
  have : x.natAbs < 2 ^ 249 := by omega
  exact big_of this (by decide)
/-! ### loops -/
/-- a for loop that runs to its end -/
theorem forL_inv {t : FG} {body : FS} {lk : Lk} (its : List D) (I : Nat → Ctx → Sto → Prop) (hl : ∀ i Γ S, i ≤ its.length → I i Γ S → Lkd lk S)
    (hs : ∀ i d Γ S, its[i]? = some d → I i Γ S → ∃ Γ1, t d Γ S = some Γ1 ∧ ∃ Γ2 S2, body Γ1 S = some (.nx, Γ2, S2) ∧ I (i + 1) Γ2 S2) {Γ : Ctx} {S : Sto} (h0 : I 0 Γ S) :
    ∃ Γ' S', forL t body lk its Γ S = some (.nx, Γ', S') ∧ I its.length Γ' S' := by
  induction its generalizing I Γ S with
  | nil =>
    refine ⟨Γ, S, ?_, h0⟩
    rw [forL, if_pos (hl 0 Γ S (Nat.le_refl _) h0)]
  | cons d r ih =>
    obtain ⟨Γ1, e1, Γ2, S2, e2, h2⟩ := hs 0 d Γ S rfl h0
    obtain ⟨Γ', S', e3, h3⟩ := ih (fun i Γ S => I (i + 1) Γ S) (fun i Γ S hi h => hl (i + 1) Γ S (by simpa using hi) h) (fun i d Γ S hd h => hs (i + 1) d Γ S (by simpa using hd) h) h2
    refine ⟨Γ', S', ?_, h3⟩
    rw [forL, if_pos (hl 0 Γ S (Nat.zero_le _) h0), e1, Option.bind_some, e2, Option.bind_some]
    exact e3
/-- a for loop that may be broken off -/
theorem forL_brk {t : FG} {body : FS} {lk : Lk} (its : List D) (I : Nat → Ctx → Sto → Prop) (Q : Ctx → Sto → Prop) (hl : ∀ i Γ S, i ≤ its.length → I i Γ S → Lkd lk S)
    (hs : ∀ i d Γ S, its[i]? = some d → I i Γ S → ∃ Γ1, t d Γ S = some Γ1 ∧ ∃ Γ2 S2, (body Γ1 S = some (.nx, Γ2, S2) ∧ I (i + 1) Γ2 S2) ∨ (body Γ1 S = some (.bk, Γ2, S2) ∧ Q Γ2 S2))
    (hq : ∀ Γ S, I its.length Γ S → Q Γ S) {Γ : Ctx} {S : Sto} (h0 : I 0 Γ S) :
    ∃ Γ' S', forL t body lk its Γ S = some (.nx, Γ', S') ∧ Q Γ' S' := by
  induction its generalizing I Γ S with
  | nil =>
    refine ⟨Γ, S, ?_, hq Γ S h0⟩
    rw [forL, if_pos (hl 0 Γ S (Nat.le_refl _) h0)]
  | cons d r ih =>
    obtain ⟨Γ1, e1, Γ2, S2, h2⟩ := hs 0 d Γ S rfl h0
    rcases h2 with ⟨e2, h2⟩ | ⟨e2, h2⟩
    · obtain ⟨Γ', S', e3, h3⟩ := ih (fun i Γ S => I (i + 1) Γ S) (fun i Γ S hi h => hl (i + 1) Γ S (by simpa using hi) h) (fun i d Γ S hd h => hs (i + 1) d Γ S (by simpa using hd) h) (fun Γ S h => hq Γ S h) h2
      refine ⟨Γ', S', ?_, h3⟩
      rw [forL, if_pos (hl 0 Γ S (Nat.zero_le _) h0), e1, Option.bind_some, e2, Option.bind_some]
      exact e3
    · refine ⟨Γ2, S2, ?_, h2⟩
      rw [forL, if_pos (hl 0 Γ S (Nat.zero_le _) h0), e1, Option.bind_some, e2, Option.bind_some]
theorem lkd_nil (S : Sto) : Lkd [] S := fun p hp => absurd hp (by simp)
theorem lkd_one {S : Sto} {n : Nat} {c : Cell} (h : S[n]? = some c) : Lkd [(n, c)] S := fun p hp => by
  rw [List.mem_singleton.mp hp]
  exact h
/-- a list comprehension whose element and tests leave the store alone -/
theorem lc_pure {it : FI} {g : FG} {ts : FT} {el : FE} {vs : List Nat} {Γ : Ctx} {S S1 : Sto} {its : List D} {lk : Lk} (f : D → Option D) (h1 : it Γ S = some ((its, lk), S1)) (hlk : Lkd lk S1) (hz : its.length < sizeLine)
    (h : ∀ d ∈ its, ∀ acc, ∃ Γ1, g d (wipeD Γ vs) (S1 ++ [.lst acc]) = some Γ1 ∧ ((f d = none ∧ ts Γ1 (S1 ++ [.lst acc]) = some (false, S1 ++ [.lst acc])) ∨ (∃ y, f d = some y ∧ ts Γ1 (S1 ++ [.lst acc]) = some (true, S1 ++ [.lst acc]) ∧ el Γ1 (S1 ++ [.lst acc]) = some (y, S1 ++ [.lst acc])))) :
    eLc it g ts el vs Γ S = some (.loc S1.length, S1 ++ [.lst (its.filterMap f)]) := by
  have key : ∀ (r : List D) (acc : List D), (∀ d ∈ r, d ∈ its) → acc.length + r.length < sizeLine + 0 → lcL g ts el vs S1.length lk r Γ (S1 ++ [.lst acc]) = some (S1 ++ [.lst (acc ++ r.filterMap f)]) := by
    intro r
    induction r with
    | nil =>
      intro acc _ _
      have : Lkd lk (S1 ++ [.lst acc]) := fun p hp => get_app _ (hlk p hp)
      rw [lcL, if_pos this]
      simp
    | cons d r ih =>
      intro acc hm hz'
      have hL : Lkd lk (S1 ++ [.lst acc]) := fun p hp => get_app _ (hlk p hp)
      obtain ⟨Γ1, e1, h2⟩ := h d (hm d (by simp)) acc
      rw [lcL, if_pos hL, e1, Option.bind_some]
      rcases h2 with ⟨e2, e3⟩ | ⟨y, e2, e3, e4⟩
      · rw [e3, Option.bind_some, if_neg Bool.false_ne_true, ih acc (fun d hd => hm d (by simp [hd])) (by simp only [List.length_cons] at hz'; omega), List.filterMap_cons, e2]
      · rw [e3, Option.bind_some, if_pos rfl, e4, Option.bind_some]
        simp only [get_end, set_end]
        rw [if_pos (by simp only [List.length_cons] at hz'; omega), ih (acc ++ [y]) (fun d hd => hm d (by simp [hd])) (by simp only [List.length_cons, List.length_append, List.length_nil] at hz' ⊢; omega), List.filterMap_cons, e2]
        simp
  unfold eLc
  rw [h1, Option.bind_some]
  simp only
  rw [key its [] (fun _ h => h) (by simpa using hz)]
  rfl
/-! ### equality of atoms -/
theorem eq_int (a b : Int) (S : Sto) : oEq (.int a) (.int b) S = some (.bl (a == b), S) := by
  simp [oEq, eqB, py1, D.pure, D.py, SeqAt.shaped, PyData.canLay0, PyData.depth, PyData.eqv]
theorem ne_int (a b : Int) (S : Sto) : oNe (.int a) (.int b) S = some (.bl (!(a == b)), S) := by
  simp [oNe, eqB, py1, D.pure, D.py, SeqAt.shaped, PyData.canLay0, PyData.depth, PyData.eqv]
theorem eq_str {a b : Str} (ha : PyData.strOk a = true) (hb : PyData.strOk b = true) (S : Sto) : oEq (.str a) (.str b) S = some (.bl (a == b), S) := by
  simp [oEq, eqB, py1, D.pure, D.py, SeqAt.shaped, PyData.canLay0, PyData.depth, PyData.eqv, ha, hb]
theorem ne_str {a b : Str} (ha : PyData.strOk a = true) (hb : PyData.strOk b = true) (S : Sto) : oNe (.str a) (.str b) S = some (.bl (!(a == b)), S) := by
  simp [oNe, eqB, py1, D.pure, D.py, SeqAt.shaped, PyData.canLay0, PyData.depth, PyData.eqv, ha, hb]
end Dl

/-! DlN: steps of a program on data -/
namespace Dl
open PySem PySem.Spec PyProof.Rows L2
section
variable {Γ Γ1 Γ2 : Ctx} {S S1 S2 S3 : Sto} {fa fb fc fo fi f : FE} {fs : List FE} {x y z d : D} {ds : List D} {i n : Nat} {g h : FT} {b : Bool} {o : O2} {F : FF} {s t : FS} {r : Option (Out × Ctx × Sto)}
theorem ev_c : eC d Γ S = some (d, S) := rfl
theorem ev_v (h : Γ[i]? = some (some d)) : eVar i Γ S = some (d, S) := by rw [eVar, h]
theorem ev_b (h1 : fa Γ S = some (x, S1)) (h2 : fb Γ S1 = some (y, S2)) (h3 : o x y S2 = some (z, S3)) : eBin o fa fb Γ S = some (z, S3) := by
  rw [eBin, h1, Option.bind_some, h2, Option.bind_some, h3]
theorem ev_u {o : D → Option D} (h1 : fa Γ S = some (x, S1)) (h2 : o x = some z) : eUn o fa Γ S = some (z, S1) := by
  rw [eUn, h1, Option.bind_some, h2]; rfl
theorem ar_0 : args [] Γ S = some ([], S) := rfl
theorem ar_1 (h1 : f Γ S = some (d, S1)) (h2 : args fs Γ S1 = some (ds, S2)) : args (f :: fs) Γ S = some (d :: ds, S2) := by
  rw [args, h1, Option.bind_some, h2]; rfl
theorem ev_f (h1 : args fs Γ S = some (ds, S1)) (h2 : F ds S1 = some (z, S2)) : eCall F fs Γ S = some (z, S2) := by
  rw [eCall, h1, Option.bind_some, h2]
theorem ev_t (h1 : args fs Γ S = some (ds, S1)) : eTup fs Γ S = some (.tup ds, S1) := by rw [eTup, h1]; rfl
theorem ev_l (h1 : args fs Γ S = some (ds, S1)) : eLst fs Γ S = some (.loc S1.length, S1 ++ [.lst ds]) := by rw [eLst, h1]; rfl
theorem ev_iT (h1 : g Γ S = some (true, S1)) (h2 : fa Γ S1 = some (z, S2)) : eIf g fa fb Γ S = some (z, S2) := by
  rw [eIf, h1, Option.bind_some, if_pos rfl, h2]
theorem ev_iF (h1 : g Γ S = some (false, S1)) (h2 : fb Γ S1 = some (z, S2)) : eIf g fa fb Γ S = some (z, S2) := by
  rw [eIf, h1, Option.bind_some, if_neg Bool.false_ne_true, h2]
theorem ev_m {T : String} {F : FM} (h1 : fo Γ S = some (x, S1)) (h2 : tyD T S1 x = true) (h3 : args fs Γ S1 = some (ds, S2)) (h4 : F x ds S2 = some (z, S3)) : eMeth T F fo fs Γ S = some (z, S3) := by
  rw [eMeth, h1, Option.bind_some]
  simp only
  rw [if_pos h2, h3, Option.bind_some, h4]
theorem ev_s {lo hi : FO} {l u : Option Int} (h1 : fa Γ S = some (x, S1)) (h2 : lo Γ S1 = some (l, S2)) (h3 : hi Γ S2 = some (u, S3)) {p : D × Sto} (h4 : oSl x l u S3 = some p) : eSl fa lo hi Γ S = some p := by
  rw [eSl, h1, Option.bind_some, h2, Option.bind_some, h3, Option.bind_some, h4]
theorem ev_p {k : Int} (h : fa Γ S = some (.int k, S1)) : oPart fa Γ S = some (some k, S1) := by rw [oPart, h]; rfl
theorem ev_n : oNo Γ S = some (none, S) := rfl
theorem ev_andT (h1 : fa Γ S = some (.bl true, S1)) (h2 : fb Γ S1 = some (z, S2)) : eAnd fa fb Γ S = some (z, S2) := by
  rw [eAnd, h1, Option.bind_some]; exact h2
theorem ev_andF (h1 : fa Γ S = some (.bl false, S1)) : eAnd fa fb Γ S = some (.bl false, S1) := by
  rw [eAnd, h1, Option.bind_some]
theorem ch_T {o o' : O2} {w : D} {S4 S5 : Sto} (h1 : fa Γ S = some (x, S1)) (h2 : fb Γ S1 = some (y, S2)) (h3 : o x y S2 = some (.bl true, S3)) (h4 : fc Γ S3 = some (z, S4)) (h5 : o' y z S4 = some (w, S5)) : eChain o o' fa fb fc Γ S = some (w, S5) := by
  rw [eChain, h1, Option.bind_some, h2, Option.bind_some, h3, Option.bind_some]
  simp only
  rw [h4, Option.bind_some, h5]
theorem ch_F {o o' : O2} (h1 : fa Γ S = some (x, S1)) (h2 : fb Γ S1 = some (y, S2)) (h3 : o x y S2 = some (.bl false, S3)) : eChain o o' fa fb fc Γ S = some (.bl false, S3) := by
  rw [eChain, h1, Option.bind_some, h2, Option.bind_some, h3, Option.bind_some]
theorem ev_tidy {p : D × Sto} (h : fa Γ S = some (d, S1)) (h2 : fin2 S.length (d, S1) = p) : tidy2 fa Γ S = some p := by
  rw [tidy2, h, Option.map_some, h2]
theorem te_s (h : f Γ S = some (.bl b, S1)) : tst f Γ S = some (b, S1) := by rw [tst, h]; rfl
theorem te_t (h : f Γ S = some (d, S1)) (h2 : dTru S1 d = some b) : tru f Γ S = some (b, S1) := by
  rw [tru, h, Option.bind_some]; simp only; rw [h2]; rfl
theorem te_n (h1 : g Γ S = some (b, S1)) : tNo g Γ S = some (!b, S1) := by rw [tNo, h1]; rfl
theorem te_nT (h1 : g Γ S = some (true, S1)) : tNo g Γ S = some (false, S1) := te_n h1
theorem te_nF (h1 : g Γ S = some (false, S1)) : tNo g Γ S = some (true, S1) := te_n h1
theorem te_a (h1 : g Γ S = some (true, S1)) (h2 : h Γ S1 = some (b, S2)) : tAnd2 g h Γ S = some (b, S2) := by rw [tAnd2, h1, Option.bind_some, if_pos rfl, h2]
theorem te_aF (h1 : g Γ S = some (false, S1)) : tAnd2 g h Γ S = some (false, S1) := by rw [tAnd2, h1, Option.bind_some, if_neg Bool.false_ne_true]
theorem te_o (h1 : g Γ S = some (false, S1)) (h2 : h Γ S1 = some (b, S2)) : tOr2 g h Γ S = some (b, S2) := by rw [tOr2, h1, Option.bind_some, if_neg Bool.false_ne_true, h2]
theorem te_oT (h1 : g Γ S = some (true, S1)) : tOr2 g h Γ S = some (true, S1) := by rw [tOr2, h1, Option.bind_some, if_pos rfl]
/-! statements -/
theorem st_q (h1 : s Γ S = some (.nx, Γ1, S1)) (h2 : t Γ1 S1 = r) : qSeq s t Γ S = r := by rw [qSeq, h1, Option.bind_some]; exact h2
theorem st_qr (h1 : s Γ S = some (.rt d, Γ1, S1)) : qSeq s t Γ S = some (.rt d, Γ1, S1) := by rw [qSeq, h1, Option.bind_some]
theorem st_qb (h1 : s Γ S = some (.bk, Γ1, S1)) : qSeq s t Γ S = some (.bk, Γ1, S1) := by rw [qSeq, h1, Option.bind_some]
theorem st_s (h1 : fa Γ S = some (d, S1)) : qSet n fa Γ S = some (.nx, Γ.set n (some d), S1) := by rw [qSet, h1]; rfl
theorem st_p (h1 : fa Γ S = some (d, S1)) (h2 : fo Γ S1 = some (x, S2)) (h3 : fi Γ S2 = some (y, S3)) {S4 : Sto} (h4 : setIt x y d S3 = some S4) : qPut fa fo fi Γ S = some (.nx, Γ, S4) := by
  rw [qPut, h1, Option.bind_some, h2, Option.bind_some, h3, Option.bind_some]; simp only; rw [h4]; rfl
theorem st_i (h1 : g Γ S = some (b, S1)) (h2 : (if b = true then s Γ S1 else t Γ S1) = r) : qIf g s t Γ S = r := by rw [qIf, h1, Option.bind_some]; exact h2
theorem st_iT (h1 : g Γ S = some (true, S1)) (h2 : s Γ S1 = r) : qIf g s t Γ S = r := by rw [qIf, h1, Option.bind_some, if_pos rfl, h2]
theorem st_iF (h1 : g Γ S = some (false, S1)) (h2 : t Γ S1 = r) : qIf g s t Γ S = r := by rw [qIf, h1, Option.bind_some, if_neg Bool.false_ne_true, h2]
theorem st_r (h1 : fa Γ S = some (d, S1)) : qRet fa Γ S = some (.rt d, Γ, S1) := by rw [qRet, h1]; rfl
theorem st_d (h1 : fa Γ S = some (d, S1)) : qDrop fa Γ S = some (.nx, Γ, S1) := by rw [qDrop, h1]; rfl
theorem st_n : qNx Γ S = some (.nx, Γ, S) := rfl
theorem st_b : qBk Γ S = some (.bk, Γ, S) := rfl
theorem st_a {tg : FG} (h1 : fa Γ S = some (d, S1)) (h2 : tg d Γ S1 = some Γ1) : qAsg tg fa Γ S = some (.nx, Γ1, S1) := by rw [qAsg, h1, Option.bind_some]; simp only; rw [h2]; rfl
theorem st_2 {is : List Nat} (h1 : args fs Γ S = some (ds, S1)) : qPar is fs Γ S = some (.nx, setsD is ds Γ, S1) := by rw [qPar, h1]; rfl
theorem st_g {o : O2} (h0 : Γ[n]? = some (some x)) (h1 : fa Γ S = some (y, S1)) (h2 : o x y S1 = some (z, S2)) : qAug n o fa Γ S = some (.nx, Γ.set n (some z), S2) := by
  rw [qAug, h0]; simp only; rw [h1, Option.bind_some]; simp only; rw [h2]; rfl
theorem st_f {it : FI} {tg : FG} {its : List D} {lk : Lk} (h1 : it Γ S = some ((its, lk), S1)) (h2 : forL tg s lk its Γ S1 = r) : qFor it tg s Γ S = r := by rw [qFor, h1, Option.bind_some]; exact h2
theorem it_v {l : List D} (h1 : fa Γ S = some (.tup l, S1)) : iVal fa Γ S = some ((l, []), S1) := by rw [iVal, h1]; rfl
theorem it_l {l : List D} {m : Nat} (h1 : fa Γ S = some (.loc m, S1)) (h2 : S1[m]? = some (.lst l)) : iVal fa Γ S = some ((l, [(m, .lst l)]), S1) := by
  rw [iVal, h1, Option.bind_some]; simp only [srcD]; rw [h2]; rfl
theorem it_r {l : List D} (h1 : args fs Γ S = some (ds, S1)) (h2 : rngOf ds = some l) : iRng fs Γ S = some ((l, []), S1) := by
  rw [iRng, h1, Option.bind_some]; simp only; rw [h2]; rfl
theorem rg_1 {k : Int} (h1 : 0 ≤ k) (h2 : k < 2 ^ 62) : rngOf [.int k] = some (rgD 0 1 k.toNat) := by
  rw [rngOf, if_pos ⟨by omega, h2⟩]
theorem run_r {np n : Nat} {body : FS} {p : D × Sto} (hl : ds.length = np) (h : body (ds.map some ++ List.replicate (n - np) none) S = some (.rt d, Γ1, S1)) (h2 : fin2 S.length (d, S1) = p) : runD np n body ds S = some p := by
  rw [runD, if_pos hl, h, Option.bind_some]; simp only; rw [h2]
theorem run_n {np n : Nat} {body : FS} {p : D × Sto} (hl : ds.length = np) (h : body (ds.map some ++ List.replicate (n - np) none) S = some (.nx, Γ1, S1)) (h2 : fin2 S.length (.non, S1) = p) : runD np n body ds S = some p := by
  rw [runD, if_pos hl, h, Option.bind_some]; simp only; rw [h2]
/-- the block returns -/
def Rt (s : FS) (Γ : Ctx) (S : Sto) (d : D) (S1 : Sto) : Prop := ∃ Γ1, s Γ S = some (.rt d, Γ1, S1)
theorem rt_q (h1 : s Γ S = some (.nx, Γ1, S1)) (h2 : Rt t Γ1 S1 d S2) : Rt (qSeq s t) Γ S d S2 := by
  obtain ⟨Γ2, e⟩ := h2
  exact ⟨Γ2, st_q h1 e⟩
theorem rt_q1 (h1 : Rt s Γ S d S1) : Rt (qSeq s t) Γ S d S1 := by
  obtain ⟨Γ2, e⟩ := h1
  exact ⟨Γ2, st_qr e⟩
theorem rt_r (h1 : fa Γ S = some (d, S1)) : Rt (qRet fa) Γ S d S1 := ⟨Γ, st_r h1⟩
theorem rt_iT (h1 : g Γ S = some (true, S1)) (h2 : Rt s Γ S1 d S2) : Rt (qIf g s t) Γ S d S2 := by
  obtain ⟨Γ2, e⟩ := h2
  exact ⟨Γ2, st_iT h1 e⟩
theorem rt_iF (h1 : g Γ S = some (false, S1)) (h2 : Rt t Γ S1 d S2) : Rt (qIf g s t) Γ S d S2 := by
  obtain ⟨Γ2, e⟩ := h2
  exact ⟨Γ2, st_iF h1 e⟩
theorem run_t {np n : Nat} {body : FS} {p : D × Sto} (hl : ds.length = np) (h : Rt body (ds.map some ++ List.replicate (n - np) none) S d S1) (h2 : fin2 S.length (d, S1) = p) : runD np n body ds S = some p := by
  obtain ⟨Γ2, e⟩ := h
  exact run_r hl e h2
/-! operations -/
theorem o_mul {i j : Int} (h : mulOk i j = true) : oMul (.int i) (.int j) S = some (.int (i * j), S) := by rw [oMul, if_pos h]
theorem o_mulr {i j : Int} (h : j.natAbs < 2 ^ 64) : oMul (.int i) (.int j) S = some (.int (i * j), S) := o_mul (by unfold mulOk; rw [decide_eq_true h, Bool.or_true, Bool.true_or])
theorem o_mull {i j : Int} (h : i.natAbs < 2 ^ 64) : oMul (.int i) (.int j) S = some (.int (i * j), S) := o_mul (by unfold mulOk; rw [decide_eq_true h, Bool.true_or, Bool.true_or])
theorem o_fdv {i j : Int} (h : 0 < j) (h2 : j.natAbs.log2 < 9000) : oFdiv (.int i) (.int j) S = some (.int (i / j), S) := by rw [oFdiv, if_pos ⟨h, h2⟩]
theorem o_fdvs {i j : Int} (h : 0 < j) (h2 : j < 2 ^ 249) : oFdiv (.int i) (.int j) S = some (.int (i / j), S) := o_fdv h (fdv_big (small_of (by omega) h2))
theorem o_mod {i j : Int} (h : 0 < j) : oMod (.int i) (.int j) S = some (.int (i % j), S) := by rw [oMod, if_pos h]
theorem o_ixl {l : List D} {k : Int} (h : S[n]? = some (.lst l)) (h2 : atI l k = some d) : oIx (.loc n) (.int k) S = some (d, S) := by
  simp only [oIx, h, h2]; rfl
theorem o_ixt {l : List D} {k : Int} (h2 : atI l k = some d) : oIx (.tup l) (.int k) S = some (d, S) := by
  simp only [oIx, h2]; rfl
theorem b_lenl {l : List D} (h : S[n]? = some (.lst l)) : bLen [.loc n] S = some (.int l.length, S) := by
  simp only [bLen, lenD, h]; rfl
theorem b_abs {i : Int} : bAbs [.int i] S = some (.int (if i < 0 then -i else i), S) := rfl
theorem s_l {l : List D} {k : Int} {j : Nat} (h : S[n]? = some (.lst l)) (h2 : ixN l.length k = some j) : setIt (.loc n) (.int k) d S = some (S.set n (.lst (l.set j d))) := by
  simp only [setIt, h, h2]; rfl
theorem s_e {l : List D} {k : Int} {j : Nat} {c : Cell} (h : S[n]? = some (.lst l)) (h2 : ixN l.length k = some j) (h3 : Cell.lst (l.set j d) = c) : setIt (.loc n) (.int k) d S = some (S.set n c) := by
  rw [← h3]
  exact s_l h h2
theorem m_app {l : List D} (h : S[n]? = some (.lst l)) (h2 : l.length < sizeLine) : mAppend (.loc n) [d] S = some (.non, S.set n (.lst (l ++ [d]))) := by
  simp only [mAppend, h, if_pos h2]
theorem m_pop {l : List D} (h : S[n]? = some (.lst l)) (h2 : l[l.length - 1]? = some d) : mPop (.loc n) [] S = some (d, S.set n (.lst l.dropLast)) := by
  simp only [mPop, h, h2]; rfl
theorem m_pope {l : List D} {c : Cell} (h : S[n]? = some (.lst l)) (h2 : l[l.length - 1]? = some d) (h3 : Cell.lst l.dropLast = c) : mPop (.loc n) [] S = some (d, S.set n c) := by
  rw [← h3]
  exact m_pop h h2
theorem m_appe {l : List D} {c : Cell} (h : S[n]? = some (.lst l)) (h2 : l.length < sizeLine) (h3 : Cell.lst (l ++ [d]) = c) : mAppend (.loc n) [d] S = some (.non, S.set n c) := by
  rw [← h3]
  exact m_app h h2
theorem ty_l {l : List D} (h : S[n]? = some (.lst l)) : tyD "list" S (.loc n) = true := by
  simp only [tyD, h]; rfl
end
theorem ne_int_s (a : Int) (S : Sto) : oNe (.int a) (.int a) S = some (.bl false, S) := by rw [ne_int]; simp
theorem ne_str_s {a : Str} (h : PyData.strOk a = true) (S : Sto) : oNe (.str a) (.str a) S = some (.bl false, S) := by rw [ne_str h h]; simp
theorem ne_bl_s (a : Bool) (S : Sto) : oNe (.bl a) (.bl a) S = some (.bl false, S) := by
  simp [oNe, eqB, py1, D.pure, D.py, SeqAt.shaped, PyData.canLay0, PyData.depth, PyData.eqv]
theorem b_tup {S : Sto} {n : Nat} {l : List D} (h : S[n]? = some (.lst l)) : bTup [.loc n] S = some (.tup l, S) := by
  simp only [bTup, seqD, h]
  rfl
theorem app_end {S T : Sto} {l : List D} {d : D} {c : Cell} (h : l.length < sizeLine) (h2 : Cell.lst (l ++ [d]) = c) : mAppend (.loc S.length) [d] (S ++ .lst l :: T) = some (.non, S ++ c :: T) := by
  rw [m_app (get_end S T _) h, set_end, h2]
/-! ### places -/
theorem ix_nat {n k : Nat} (h : k < n) : ixN n (k : Int) = some k := by
  unfold ixN
  rw [if_pos (by omega), if_pos (by omega)]
  congr 1
theorem at_nat {α : Type} {l : List α} {k : Nat} (h : k < l.length) : atI l (k : Int) = some (l[k]) := by
  unfold atI
  rw [ix_nat h]
  exact List.getElem?_eq_getElem h
theorem at_get {α : Type} {l : List α} {k : Nat} {x : α} (h : l[k]? = some x) : atI l (k : Int) = some x := by
  have hk := (List.getElem?_eq_some_iff.mp h).1
  rw [at_nat hk, ← h, List.getElem?_eq_getElem hk]
theorem ix_0 {n : Nat} (h : 0 < n) : ixN n 0 = some 0 := ix_nat (k := 0) h
theorem ix_1 {n : Nat} (h : 1 < n) : ixN n 1 = some 1 := ix_nat (k := 1) h
theorem at_0 {α : Type} (x : α) (l : List α) : atI (x :: l) 0 = some x := at_get (k := 0) rfl
theorem at_1 {α : Type} (x y : α) (l : List α) : atI (x :: y :: l) 1 = some y := at_get (k := 1) rfl
theorem ix_neg {n : Nat} (h : 0 < n) : ixN n (-1) = some (n - 1) := by
  unfold ixN
  rw [if_neg (by omega), if_pos (by omega)]
  congr 1
  omega
theorem at_last {α : Type} {l : List α} {x : α} (h : l[l.length - 1]? = some x) : atI l (-1) = some x := by
  have hk := (List.getElem?_eq_some_iff.mp h).1
  unfold atI
  rw [ix_neg (by omega)]
  exact h
end Dl

namespace K84
open PySem PySem.Spec PyProof.Rows L2 Dl
/-- _law_ledger -/
noncomputable def m__law_ledger : FS :=
    (qSeq (qSet 1 (eLst [(eC (.int 70079)), (eC (.int 113))]))
    (qSeq (qFor (iVal (eSl (eVar 0) oNo (oPart (eC (.int 60))))) (gN 2)
    (qSeq (qSet 3 (eCall bAbs [(eCall bInt [(eVar 2)])]))
    (qSeq (qPut (eBin oMod (eCall bInt [(eBin oAdd (eBin oAdd (eBin oMul (eBin oIx (eVar 1) (eC (.int 0))) (eC (.int 17011))) (eBin oMod (eCall bInt [(eVar 3)]) (eC (.int 1000453)))) (eC (.int 167)))]) (eC (.int 2147482867))) (eVar 1) (eC (.int 0)))
    (qIf (tst (eBin oGe (eVar 3) (eBin oPow (eC (.int 10)) (eC (.int 16)))))
    (qDrop (eMeth "list" mInsert (eVar 1) [(eC (.int 2)), (eVar 3)]))
    qNx))))
    (qRet (eVar 1))))
noncomputable def F__law_ledger : FF := runD 1 4 m__law_ledger
/-- _law_entry -/
noncomputable def m__law_entry : FS :=
    (qSeq (qPut (eBin oAdd (eBin oIx (eVar 0) (eC (.int 1))) (eC (.int 1))) (eVar 0) (eC (.int 1)))
    (qSeq (qIf (tst (eBin oGt (eCall bLen [(eVar 0)]) (eC (.int 2))))
    (qSeq (qSet 2 (eCall bInt [(eBin oIx (eVar 0) (eUn oNeg (eC (.int 1))))]))
    (qSeq (qPut (eBin oFdiv (eVar 2) (eVar 1)) (eVar 0) (eUn oNeg (eC (.int 1))))
    (qSeq (qIf (tst (eBin oEq (eBin oIx (eVar 0) (eUn oNeg (eC (.int 1)))) (eC (.int 0))))
    (qDrop (eMeth "list" mPop (eVar 0) []))
    qNx)
    (qRet (eBin oMod (eCall bInt [(eVar 2)]) (eVar 1))))))
    qNx)
    (qSeq (qPut (eBin oMod (eCall bInt [(eBin oAdd (eBin oAdd (eBin oMul (eBin oIx (eVar 0) (eC (.int 0))) (eC (.int 2003))) (eBin oMul (eBin oIx (eVar 0) (eC (.int 1))) (eC (.int 401)))) (eC (.int 139)))]) (eC (.int 2147482867))) (eVar 0) (eC (.int 0)))
    (qRet (eBin oMod (eCall bInt [(eBin oFdiv (eBin oIx (eVar 0) (eC (.int 0))) (eC (.int 181)))]) (eVar 1))))))
noncomputable def F__law_entry : FF := runD 2 3 m__law_entry
/-- _law_of -/
noncomputable def m__law_of : FS :=
    (qRet (eBin oIx (eVar 1) (eCall F__law_entry [(eVar 0), (eCall bLen [(eVar 1)])])))
noncomputable def F__law_of : FF := runD 2 2 m__law_of
/-- _law_inverse -/
noncomputable def m__law_inverse : FS :=
    (qSeq (qAsg (gT [(gN 2), (gN 3), (gN 4), (gN 5)]) (eTup [(eVar 0), (eVar 1), (eC (.int 1)), (eC (.int 0))]))
    (qSeq (qFor (iRng [(eBin oAdd (eBin oMul (eC (.int 2)) (eUn oBits (eVar 1))) (eC (.int 2)))]) (gN 6)
    (qSeq (qIf (tst (eBin oEq (eVar 3) (eC (.int 0))))
    qBk
    qNx)
    (qSeq (qSet 7 (eBin oFdiv (eVar 2) (eVar 3)))
    (qAsg (gT [(gN 2), (gN 3), (gN 4), (gN 5)]) (eTup [(eVar 3), (eBin oSub (eVar 2) (eBin oMul (eVar 7) (eVar 3))), (eVar 5), (eBin oSub (eVar 4) (eBin oMul (eVar 7) (eVar 5)))])))))
    (qRet (eBin oMod (eCall bInt [(eVar 4)]) (eVar 1)))))
noncomputable def F__law_inverse : FF := runD 2 8 m__law_inverse
/-- multiplied_rights -/
noncomputable def m_multiplied_rights : FS :=
    (qSeq (qSet 2 (eLst []))
    (qSeq (qFor (iVal (eVar 0)) (gT [(gN 3), (gN 4), (gN 5), (gN 6), (gN 7)])
    (qDrop (eMeth "list" mAppend (eVar 2) [(eTup [(eVar 3), (eVar 4), (eVar 5), (eVar 6), (eBin oMul (eVar 7) (eVar 1))])])))
    (qRet (eCall bTup [(eVar 2)]))))
noncomputable def F_multiplied_rights : FF := runD 2 8 m_multiplied_rights
/-- both_books -/
noncomputable def m_both_books : FS :=
    (qSeq (qSet 2 (eCall bLcm [(eBin oIx (eVar 0) (eC (.int 0))), (eBin oIx (eVar 1) (eC (.int 0)))]))
    (qSeq (qSet 3 (eCall F_multiplied_rights [(eBin oIx (eVar 0) (eC (.int 1))), (eBin oFdiv (eVar 2) (eBin oIx (eVar 0) (eC (.int 0))))]))
    (qSeq (qSet 4 (eCall F_multiplied_rights [(eBin oIx (eVar 1) (eC (.int 1))), (eBin oFdiv (eVar 2) (eBin oIx (eVar 1) (eC (.int 0))))]))
    (qRet (eTup [(eVar 2), (eBin oAdd (eVar 3) (eVar 4))])))))
noncomputable def F_both_books : FF := runD 2 5 m_both_books
/-- _law_divisor -/
noncomputable def m__law_divisor : FS :=
    (qSeq (qPar [0, 1] [(eCall bAbs [(eVar 0)]), (eCall bAbs [(eVar 1)])])
    (qSeq (qFor (iRng [(eBin oAdd (eBin oMul (eC (.int 2)) (eUn oBits (eCall bMax2 [(eVar 0), (eVar 1)]))) (eC (.int 2)))]) (gN 2)
    (qSeq (qIf (tst (eBin oEq (eVar 1) (eC (.int 0))))
    qBk
    qNx)
    (qPar [0, 1] [(eVar 1), (eBin oMod (eCall bInt [(eVar 0)]) (eVar 1))])))
    (qRet (eVar 0))))
noncomputable def F__law_divisor : FF := runD 2 3 m__law_divisor
/-- _law_low -/
noncomputable def m__law_low : FS :=
    (qSeq (qSet 2 (eCall F__law_divisor [(eVar 0), (eVar 1)]))
    (qRet (eTup [(eBin oFdiv (eVar 0) (eVar 2)), (eBin oFdiv (eVar 1) (eVar 2))])))
noncomputable def F__law_low : FF := runD 2 3 m__law_low
/-- _law_same -/
noncomputable def m__law_same : FS :=
    (qSeq (qSet 2 (eLst [(eTup [(eVar 0), (eVar 1)])]))
    (qSeq (qWhile (tru (eVar 2))
    (qSeq (qAsg (gT [(gN 3), (gN 4)]) (eMeth "list" mPop (eVar 2) []))
    (qIf (tru (eIsi "tuple" (eVar 4)))
    (qSeq (qIf (tOr2 (tNo (tru (eIsi "tuple" (eVar 3)))) (tst (eBin oNe (eCall bLen [(eVar 3)]) (eCall bLen [(eVar 4)]))))
    (qRet (eC (.bl false)))
    qNx)
    (qFor (iRng [(eCall bLen [(eVar 4)])]) (gN 5)
    (qDrop (eMeth "list" mAppend (eVar 2) [(eTup [(eBin oIx (eVar 3) (eVar 5)), (eBin oIx (eVar 4) (eVar 5))])]))))
    (qIf (tru (eIsi "str" (eVar 4)))
    (qIf (tOr2 (tNo (tru (eIsi "str" (eVar 3)))) (tst (eBin oNe (eVar 3) (eVar 4))))
    (qRet (eC (.bl false)))
    qNx)
    (qIf (tOr2 (tru (eIsi "bool" (eVar 4))) (tru (eIsi "bool" (eVar 3))))
    (qIf (tOr2 (tNo (tru (eIsi "bool" (eVar 4)))) (tOr2 (tNo (tru (eIsi "bool" (eVar 3)))) (tst (eBin oNe (eVar 3) (eVar 4)))))
    (qRet (eC (.bl false)))
    qNx)
    (qIf (tOr2 (tNo (tru (eIsi "int" (eVar 3)))) (tst (eBin oNe (eVar 3) (eVar 4))))
    (qRet (eC (.bl false)))
    qNx))))))
    (qRet (eC (.bl true)))))
noncomputable def F__law_same : FF := runD 2 6 m__law_same
/-- side_of_mask -/
noncomputable def m_side_of_mask : FS :=
    (qRet (tidy2 (eCall bTup [(eLc (iEnum [(eVar 0)]) (gT [(gN 2), (gN 3)]) (tru (eBin oAndB (eBin oShr (eVar 1) (eVar 2)) (eC (.int 1)))) (eVar 3) [2, 3])])))
noncomputable def F_side_of_mask : FF := runD 2 4 m_side_of_mask
/-- sides_of -/
noncomputable def m_sides_of : FS :=
    (qRet (tidy2 (eCall bTup [(tidy2 (eCall bSorted [(eLc (iRng [(eC (.int 1)), (eBin oSub (eBin oShl (eC (.int 1)) (eCall bLen [(eVar 0)])) (eC (.int 1)))]) (gN 1) tYs (eCall F_side_of_mask [(eVar 0), (eVar 1)]) [1])]))])))
noncomputable def F_sides_of : FF := runD 1 2 m_sides_of
/-- sold_pairs -/
noncomputable def m_sold_pairs : FS :=
    (qSeq (qSet 1 eDt)
    (qSeq (qFor (iVal (eBin oIx (eVar 0) (eC (.int 1)))) (gN 2)
    (qSeq (qSet 3 (eTup [(eBin oIx (eVar 2) (eC (.int 2))), (eBin oIx (eVar 2) (eC (.int 3)))]))
    (qSeq (qPut (eBin oAdd (eGet2 (eVar 1) (eVar 3) (eC (.int 0))) (eBin oIx (eVar 2) (eC (.int 4)))) (eVar 1) (eVar 3))
    (qIf (tst (eBin oEq (eBin oIx (eVar 2) (eC (.int 1))) (eC (.str "must"))))
    (qSeq (qSet 4 (eTup [(eBin oIx (eVar 2) (eC (.int 3))), (eBin oIx (eVar 2) (eC (.int 2)))]))
    (qPut (eBin oSub (eGet2 (eVar 1) (eVar 4) (eC (.int 0))) (eBin oIx (eVar 2) (eC (.int 4)))) (eVar 1) (eVar 4)))
    qNx))))
    (qRet (eLc (iVal (eCall bSorted [(eVar 1)])) (gN 5) (tst (eBin oNe (eBin oIx (eVar 1) (eVar 5)) (eC (.int 0)))) (eTup [(eBin oIx (eVar 5) (eC (.int 0))), (eBin oIx (eVar 5) (eC (.int 1))), (eBin oIx (eVar 1) (eVar 5))]) [5]))))
noncomputable def F_sold_pairs : FF := runD 1 6 m_sold_pairs
/-- sums_over -/
noncomputable def m_sums_over : FS :=
    (qSeq (qSet 2 (eCall F_sold_pairs [(eVar 1)]))
    (qSeq (qSet 3 (eLst []))
    (qSeq (qFor (iVal (eVar 0)) (gN 4)
    (qSeq (qSet 5 (eDc (iVal (eVar 4)) (gN 6) tYs (eVar 6) (eC (.bl true)) [6]))
    (qDrop (eMeth "list" mAppend (eVar 3) [(tidy2 (eCall bSum [(eLc (iVal (eVar 2)) (gT [(gN 6), (gN 7), (gN 8)]) (tAnd2 (tst (eBin oIn (eVar 6) (eVar 5))) (tst (eBin oNotIn (eVar 7) (eVar 5)))) (eVar 8) [6, 7, 8])]))]))))
    (qRet (eCall bTup [(eVar 3)])))))
noncomputable def F_sums_over : FF := runD 2 9 m_sums_over
/-- quotient_of -/
noncomputable def m_quotient_of : FS :=
    (qSeq (qIf (tst (eBin oEq (eVar 1) (eC (.int 0))))
    qNever
    qNx)
    (qSeq (qSet 2 (eCall bGcd [(eVar 0), (eVar 1)]))
    (qSeq (qIf (tst (eBin oLt (eVar 1) (eC (.int 0))))
    (qSet 2 (eUn oNeg (eVar 2)))
    qNx)
    (qRet (eTup [(eBin oFdiv (eVar 0) (eVar 2)), (eBin oFdiv (eVar 1) (eVar 2))])))))
noncomputable def F_quotient_of : FF := runD 2 3 m_quotient_of
/-- gap_of -/
noncomputable def m_gap_of : FS :=
    (qSeq (qSet 3 (eCall F_sides_of [(eVar 0)]))
    (qSeq (qSet 4 (eC (.int 0)))
    (qSeq (qSet 5 (eTup []))
    (qSeq (qFor (iZip [(eVar 3), (eCall F_sums_over [(eVar 3), (eVar 1)]), (eCall F_sums_over [(eVar 3), (eVar 2)])]) (gT [(gN 6), (gN 7), (gN 8)])
    (qSeq (qSet 9 (eBin oSub (eBin oMul (eVar 7) (eBin oIx (eVar 2) (eC (.int 0)))) (eBin oMul (eVar 8) (eBin oIx (eVar 1) (eC (.int 0))))))
    (qIf (tst (eBin oGt (eVar 9) (eVar 4)))
    (qSeq (qSet 4 (eVar 9))
    (qSet 5 (eVar 6)))
    qNx)))
    (qRet (eTup [(eCall F_quotient_of [(eVar 4), (eBin oMul (eBin oIx (eVar 1) (eC (.int 0))) (eBin oIx (eVar 2) (eC (.int 0))))]), (eVar 5)]))))))
noncomputable def F_gap_of : FF := runD 3 10 m_gap_of
/-- never_less -/
noncomputable def m_never_less : FS :=
    (qSeq (qAsg (gT [(gN 3), (gN 4)]) (eCall F_gap_of [(eVar 0), (eVar 2), (eVar 1)]))
    (qRet (eAnd (eBin oEq (eBin oIx (eVar 3) (eC (.int 0))) (eC (.int 0))) (eBin oEq (eVar 4) (eTup [])))))
noncomputable def F_never_less : FF := runD 3 5 m_never_less
/-- _law_fine -/
noncomputable def m__law_fine : FS :=
    (qSeq (qSet 1 (tidy2 (eCall F__law_of [(eVar 0), (eLst [(eTup [(eC (.int 999983)), (eC (.int 999979)), (eC (.int 999961))]), (eTup [(eC (.int 999979)), (eC (.int 999953)), (eC (.int 999983))]), (eTup [(eC (.int 999961)), (eC (.int 999983)), (eC (.int 999931))])])])))
    (qSeq (qSet 2 (eBin oAdd (eC (.int 1)) (eCall F__law_entry [(eVar 0), (eBin oPow (eC (.int 10)) (eC (.int 6)))])))
    (qSeq (qSet 3 (eTup [(eC (.int 1)), (eTup [(eTup [(eC (.str "ann")), (eC (.str "must")), (eC (.str "a")), (eC (.str "b")), (eVar 2)])])]))
    (qSeq (qSet 4 (eC (.int 0)))
    (qSeq (qFor (iRng [(eC (.int 3))]) (gN 5)
    (qSeq (qSet 6 (eBin oMul (eBin oIx (eVar 1) (eBin oMod (eCall bInt [(eBin oAdd (eVar 5) (eC (.int 1)))]) (eC (.int 3)))) (eBin oIx (eVar 1) (eBin oMod (eCall bInt [(eBin oAdd (eVar 5) (eC (.int 2)))]) (eC (.int 3))))))
    (qSeq (qSet 7 (eCall F__law_inverse [(eBin oMod (eCall bInt [(eVar 6)]) (eBin oIx (eVar 1) (eVar 5))), (eBin oIx (eVar 1) (eVar 5))]))
    (qSeq (qSet 4 (eBin oAdd (eVar 4) (eBin oMul (eVar 7) (eVar 6))))
    (qSet 3 (eCall F_both_books [(eVar 3), (eTup [(eBin oIx (eVar 1) (eVar 5)), (eTup [(eTup [(eC (.str "bob")), (eC (.str "must")), (eC (.str "c")), (eC (.str "b")), (eVar 7)])])])]))))))
    (qSeq (qSet 8 (eBin oMul (eBin oMul (eBin oIx (eVar 1) (eC (.int 0))) (eBin oIx (eVar 1) (eC (.int 1)))) (eBin oIx (eVar 1) (eC (.int 2)))))
    (qSeq (qIf (tst (eBin oGt (eBin oFdiv (eVar 4) (eVar 8)) (eC (.int 0))))
    (qSet 3 (eCall F_both_books [(eVar 3), (eTup [(eC (.int 1)), (eTup [(eTup [(eC (.str "cy")), (eC (.str "must")), (eC (.str "b")), (eC (.str "c")), (eBin oFdiv (eVar 4) (eVar 8))])])])]))
    qNx)
    (qSeq (qSet 9 (eTup [(eCall F__law_low [(eBin oAdd (eBin oMul (eVar 2) (eVar 8)) (eBin oMod (eCall bInt [(eVar 4)]) (eVar 8))), (eVar 8)]), (eTup [(eC (.str "a")), (eC (.str "c"))])]))
    (qRet (eAnd (eBin oEq (eBin oMod (eCall bInt [(eVar 4)]) (eVar 8)) (eC (.int 1))) (eAnd (eCall F__law_same [(eCall F_gap_of [(eTup [(eC (.str "a")), (eC (.str "b")), (eC (.str "c"))]), (eVar 3), (eTup [(eC (.int 1)), (eTup [])])]), (eVar 9)]) (eCall F__law_same [(eCall F_never_less [(eTup [(eC (.str "a")), (eC (.str "b")), (eC (.str "c"))]), (eTup [(eC (.int 1)), (eTup [])]), (eVar 3)]), (eC (.bl false))]))))))))))))
noncomputable def F__law_fine : FF := runD 1 10 m__law_fine
/-- _law_places -/
noncomputable def m__law_places : FS :=
    (qSeq (qSet 2 (eC (.str "abcdefghijklmnopqrstuvwxyz")))
    (qSeq (qSet 3 (eLst []))
    (qSeq (qSet 4 (eCall F__law_entry [(eVar 0), (eC (.int 26))]))
    (qSeq (qFor (iRng [(eVar 1)]) (gN 5)
    (qSeq (qSet 6 (eBin oAdd (eBin oIx (eVar 2) (eBin oMod (eCall bInt [(eBin oAdd (eVar 4) (eBin oMul (eVar 5) (tidy2 (eCall F__law_of [(eVar 0), (eLst [(eC (.int 0)), (eC (.int 1))])]))))]) (eC (.int 26)))) (eCall bStr [(eVar 5)])))
    (qDrop (eMeth "list" mAppend (eVar 3) [(eBin oAdd (eVar 6) (eSl (eC (.str "ab0")) oNo (oPart (eCall F__law_entry [(eVar 0), (eC (.int 4))]))))]))))
    (qRet (tidy2 (eCall bTup [(eCall bSorted [(eVar 3)])])))))))
noncomputable def F__law_places : FF := runD 2 7 m__law_places
/-- _law_all_sides -/
noncomputable def m__law_all_sides : FS :=
    (qSeq (qSet 1 (eLst [(eTup [])]))
    (qSeq (qFor (iVal (eVar 0)) (gN 2)
    (qSet 1 (tidy2 (eBin oAdd (eVar 1) (eLc (iVal (eVar 1)) (gN 3) tYs (eBin oAdd (eVar 3) (eTup [(eVar 2)])) [3])))))
    (qRet (tidy2 (eCall bSorted [(eLc (iVal (eVar 1)) (gN 3) (tst (eChain oLt oLt (eC (.int 0)) (eCall bLen [(eVar 3)]) (eCall bLen [(eVar 0)]))) (eVar 3) [3])])))))
noncomputable def F__law_all_sides : FF := runD 1 4 m__law_all_sides
/-- _law_book -/
noncomputable def m__law_book : FS :=
    (qSeq (qSet 3 (tidy2 (eCall F__law_of [(eVar 0), (eLst [(eC (.int 1)), (eC (.int 2)), (eC (.int 12)), (eC (.int 999983)), (eC (.int 999979)), (eC (.int 1000000)), (eBin oAdd (eC (.int 1)) (eCall F__law_entry [(eVar 0), (eC (.int 60))]))])])))
    (qSeq (qSet 4 (tidy2 (eCall F__law_of [(eVar 0), (eLst [(eLst [(eC (.str "must"))]), (eLst [(eC (.str "may"))]), (eLst [(eC (.str "must")), (eC (.str "may"))]), (eLst [(eC (.str "must")), (eC (.str "may"))])])])))
    (qSeq (qSet 5 (eLst []))
    (qSeq (qFor (iRng [(eCall F__law_entry [(eVar 0), (eBin oAdd (eVar 2) (eC (.int 1)))])]) (gN 6)
    (qSeq (qSet 7 (eCall F__law_entry [(eVar 0), (eCall bLen [(eVar 1)])]))
    (qSeq (qSet 8 (eBin oMod (eCall bInt [(eBin oAdd (eBin oAdd (eVar 7) (eC (.int 1))) (eCall F__law_entry [(eVar 0), (eBin oSub (eCall bLen [(eVar 1)]) (eC (.int 1)))]))]) (eCall bLen [(eVar 1)])))
    (qSeq (qSet 9 (tidy2 (eCall F__law_of [(eVar 0), (eLst [(eC (.int 1)), (eC (.int 2)), (eC (.int 3)), (eVar 3), (eBin oAdd (eC (.int 1)) (eCall F__law_entry [(eVar 0), (eC (.int 50))])), (eBin oSub (eBin oPow (eC (.int 10)) (eC (.int 9))) (eCall F__law_entry [(eVar 0), (eC (.int 3))]))])])))
    (qDrop (eMeth "list" mAppend (eVar 5) [(eTup [(tidy2 (eCall F__law_of [(eVar 0), (eLst [(eC (.str "ann")), (eC (.str "bob"))])])), (eCall F__law_of [(eVar 0), (eVar 4)]), (eBin oIx (eVar 1) (eVar 7)), (eBin oIx (eVar 1) (eVar 8)), (eVar 9)])]))))))
    (qRet (eTup [(eVar 3), (eCall bTup [(eVar 5)])]))))))
noncomputable def F__law_book : FF := runD 3 10 m__law_book
/-- _law_sold -/
noncomputable def m__law_sold : FS :=
    (qSeq (qSet 2 (eLst []))
    (qSeq (qFor (iVal (eVar 1)) (gN 3)
    (qSeq (qSet 4 (eC (.int 0)))
    (qSeq (qFor (iVal (eBin oIx (eVar 0) (eC (.int 1)))) (gT [(gN 5), (gN 6), (gN 7), (gN 8), (gN 9)])
    (qIf (tAnd2 (tst (eBin oIn (eVar 7) (eVar 3))) (tst (eBin oNotIn (eVar 8) (eVar 3))))
    (qSet 4 (eBin oAdd (eVar 4) (eVar 9)))
    (qIf (tAnd2 (tst (eBin oEq (eVar 6) (eC (.str "must")))) (tAnd2 (tst (eBin oIn (eVar 8) (eVar 3))) (tst (eBin oNotIn (eVar 7) (eVar 3)))))
    (qSet 4 (eBin oSub (eVar 4) (eVar 9)))
    qNx)))
    (qDrop (eMeth "list" mAppend (eVar 2) [(eVar 4)])))))
    (qRet (eVar 2))))
noncomputable def F__law_sold : FF := runD 2 10 m__law_sold
/-- _law_gap -/
noncomputable def m__law_gap : FS :=
    (qSeq (qSet 4 (eC (.int 0)))
    (qSeq (qSet 5 (eTup []))
    (qSeq (qPar [6, 7] [(eBin oIx (eVar 3) (eC (.int 0))), (eBin oIx (eVar 3) (eC (.int 1)))])
    (qSeq (qFor (iRng [(eCall bLen [(eVar 2)])]) (gN 8)
    (qSeq (qSet 9 (eBin oSub (eBin oMul (eBin oIx (eVar 6) (eVar 8)) (eBin oIx (eVar 1) (eC (.int 0)))) (eBin oMul (eBin oIx (eVar 7) (eVar 8)) (eBin oIx (eVar 0) (eC (.int 0))))))
    (qIf (tst (eBin oGt (eVar 9) (eVar 4)))
    (qSeq (qSet 4 (eVar 9))
    (qSet 5 (eBin oIx (eVar 2) (eVar 8))))
    qNx)))
    (qRet (eTup [(eIf (tru (eVar 4)) (eCall F__law_low [(eVar 4), (eBin oMul (eBin oIx (eVar 0) (eC (.int 0))) (eBin oIx (eVar 1) (eC (.int 0))))]) (eTup [(eC (.int 0)), (eC (.int 1))])), (eVar 5)]))))))
noncomputable def F__law_gap : FF := runD 4 10 m__law_gap
/-- sold_amount -/
noncomputable def m_sold_amount : FS :=
    (qSeq (qSet 2 (eC (.int 0)))
    (qSeq (qFor (iVal (eBin oIx (eVar 0) (eC (.int 1)))) (gN 3)
    (qSeq (qSet 4 (eBin oIn (eBin oIx (eVar 3) (eC (.int 2))) (eVar 1)))
    (qSeq (qSet 5 (eBin oIn (eBin oIx (eVar 3) (eC (.int 3))) (eVar 1)))
    (qSeq (qIf (tAnd2 (tru (eVar 4)) (tNo (tru (eVar 5))))
    (qAug 2 (oI fun i j => i + j) (eBin oIx (eVar 3) (eC (.int 4))))
    qNx)
    (qIf (tAnd2 (tru (eVar 5)) (tAnd2 (tNo (tru (eVar 4))) (tst (eBin oEq (eBin oIx (eVar 3) (eC (.int 1))) (eC (.str "must"))))))
    (qAug 2 (oI fun i j => i - j) (eBin oIx (eVar 3) (eC (.int 4))))
    qNx)))))
    (qRet (eVar 2))))
noncomputable def F_sold_amount : FF := runD 2 6 m_sold_amount
/-- sold_over -/
noncomputable def m_sold_over : FS :=
    (qRet (eCall F_quotient_of [(eCall F_sold_amount [(eVar 0), (eVar 1)]), (eBin oIx (eVar 0) (eC (.int 0)))]))
noncomputable def F_sold_over : FF := runD 2 2 m_sold_over
/-- _law_asked -/
noncomputable def m__law_asked : FS :=
    (qSeq (qSet 4 (tidy2 (eTup [(eCall F__law_sold [(eVar 1), (eVar 3)]), (eCall F__law_sold [(eVar 2), (eVar 3)])])))
    (qSeq (qSet 5 (eCall F__law_gap [(eVar 1), (eVar 2), (eVar 3), (eVar 4)]))
    (qSeq (qSet 6 (eCall F__law_gap [(eVar 2), (eVar 1), (eVar 3), (eRev (eVar 4))]))
    (qSeq (qIf (tOr2 (tNo (tru (eCall F__law_same [(eCall F_gap_of [(eVar 0), (eVar 1), (eVar 2)]), (eVar 5)]))) (tNo (tru (eCall F__law_same [(eCall F_gap_of [(eVar 0), (eVar 2), (eVar 1)]), (eVar 6)]))))
    (qRet (eC .non))
    qNx)
    (qSeq (qIf (tOr2 (tNo (tru (eCall F__law_same [(eCall F_never_less [(eVar 0), (eVar 1), (eVar 2)]), (eBin oEq (eBin oIx (eVar 6) (eC (.int 1))) (eTup []))]))) (tNo (tru (eCall F__law_same [(eCall F_never_less [(eVar 0), (eVar 2), (eVar 1)]), (eBin oEq (eBin oIx (eVar 5) (eC (.int 1))) (eTup []))]))))
    (qRet (eC .non))
    qNx)
    (qSeq (qFor (iVal (eLst [(eVar 5), (eVar 6)])) (gT [(gN 7), (gN 8)])
    (qIf (tst (eBin oNe (eVar 8) (eTup [])))
    (qSeq (qSet 9 (eMeth "list" mIndex (eVar 3) [(eVar 8)]))
    (qIf (tOr2 (tNo (tru (eCall F__law_same [(eCall F_sold_over [(eVar 1), (eVar 8)]), (eCall F__law_low [(eBin oIx (eBin oIx (eVar 4) (eC (.int 0))) (eVar 9)), (eBin oIx (eVar 1) (eC (.int 0)))])]))) (tNo (tru (eCall F__law_same [(eCall F_sold_over [(eVar 2), (eVar 8)]), (eCall F__law_low [(eBin oIx (eBin oIx (eVar 4) (eC (.int 1))) (eVar 9)), (eBin oIx (eVar 2) (eC (.int 0)))])]))))
    (qRet (eC .non))
    qNx))
    qNx))
    (qRet (eVar 5))))))))
noncomputable def F__law_asked : FF := runD 4 10 m__law_asked
/-- _law_both -/
noncomputable def m__law_both : FS :=
    (qSeq (qSet 2 (eBin oMul (eBin oFdiv (eBin oIx (eVar 0) (eC (.int 0))) (eCall F__law_divisor [(eBin oIx (eVar 0) (eC (.int 0))), (eBin oIx (eVar 1) (eC (.int 0)))])) (eBin oIx (eVar 1) (eC (.int 0)))))
    (qSeq (qSet 3 (eLc (iVal (eBin oIx (eVar 0) (eC (.int 1)))) (gN 4) tYs (eBin oAdd (eSl (eVar 4) oNo (oPart (eC (.int 4)))) (eTup [(eBin oMul (eBin oIx (eVar 4) (eC (.int 4))) (eBin oFdiv (eVar 2) (eBin oIx (eVar 0) (eC (.int 0)))))])) [4]))
    (qRet (eTup [(eVar 2), (tidy2 (eCall bTup [(eBin oAdd (eVar 3) (eLc (iVal (eBin oIx (eVar 1) (eC (.int 1)))) (gN 4) tYs (eBin oAdd (eSl (eVar 4) oNo (oPart (eC (.int 4)))) (eTup [(eBin oMul (eBin oIx (eVar 4) (eC (.int 4))) (eBin oFdiv (eVar 2) (eBin oIx (eVar 1) (eC (.int 0)))))])) [4]))]))]))))
noncomputable def F__law_both : FF := runD 2 5 m__law_both
/-- with_unit -/
noncomputable def m_with_unit : FS :=
    (qSeq (qAsg (gT [(gN 2), (gN 3)]) (eVar 0))
    (qRet (eTup [(eBin oMul (eVar 2) (eVar 1)), (eCall F_multiplied_rights [(eVar 3), (eVar 1)])])))
noncomputable def F_with_unit : FF := runD 2 4 m_with_unit
/-- _law_turned -/
noncomputable def m__law_turned : FS :=
    (qRet (eTup [(eBin oIx (eVar 0) (eC (.int 0))), (tidy2 (eCall bTup [(eLc (iVal (eBin oIx (eVar 0) (eC (.int 1)))) (gN 1) tYs (eBin oAdd (eSl (eVar 1) oNo (oPart (eC (.int 2)))) (eTup [(eBin oIx (eVar 1) (eC (.int 3))), (eBin oIx (eVar 1) (eC (.int 2))), (eBin oIx (eVar 1) (eC (.int 4)))])) [1])]))]))
noncomputable def F__law_turned : FF := runD 1 2 m__law_turned
/-- law -/
noncomputable def m_law : FS :=
    (qSeq (qSet 1 (eCall F__law_ledger [(eVar 0)]))
    (qSeq (qIf (tNo (tru (eCall F__law_fine [(eVar 1)])))
    (qRet (eC (.bl false)))
    qNx)
    (qSeq (qSet 2 (eIf (tst (eBin oEq (eCall F__law_entry [(eVar 1), (eC (.int 11))]) (eC (.int 5)))) (eC (.int 9)) (eBin oAdd (eC (.int 2)) (eCall F__law_entry [(eVar 1), (eC (.int 5))]))))
    (qSeq (qSet 3 (eCall F__law_places [(eVar 1), (eVar 2)]))
    (qSeq (qSet 4 (eCall F__law_all_sides [(eVar 3)]))
    (qSeq (qIf (tNo (tru (eCall F__law_same [(eCall F_sides_of [(eVar 3)]), (eCall bTup [(eVar 4)])])))
    (qRet (eC (.bl false)))
    qNx)
    (qSeq (qSet 5 (eIf (tst (eBin oGt (eVar 2) (eC (.int 6)))) (eC (.int 4)) (eC (.int 7))))
    (qSeq (qAsg (gT [(gN 6), (gN 7), (gN 8)]) (eLc (iRng [(eC (.int 3))]) (gN 18) tYs (eCall F__law_book [(eVar 1), (eVar 3), (eVar 5)]) [18]))
    (qSeq (qIf (tAnd2 (tru (eBin oIx (eVar 6) (eC (.int 1)))) (tst (eBin oEq (eCall F__law_entry [(eVar 1), (eC (.int 2))]) (eC (.int 0)))))
    (qSet 7 (eTup [(eBin oIx (eVar 6) (eC (.int 0))), (eBin oAdd (eSl (eBin oIx (eVar 6) (eC (.int 1))) oNo (oPart (eBin oAdd (eC (.int 1)) (eCall F__law_entry [(eVar 1), (eCall bLen [(eBin oIx (eVar 6) (eC (.int 1)))])])))) (eSl (eBin oIx (eVar 7) (eC (.int 1))) oNo (oPart (eC (.int 3)))))]))
    qNx)
    (qSeq (qSet 9 (eCall F__law_asked [(eVar 3), (eVar 6), (eVar 7), (eVar 4)]))
    (qSeq (qIf (tOr2 (tst (eBin oIsN (eVar 9) (eC .non))) (tst (eBin oIsN (eCall F__law_asked [(eVar 3), (eVar 7), (eVar 8), (eVar 4)]) (eC .non))))
    (qRet (eC (.bl false)))
    qNx)
    (qSeq (qSet 10 (eLst []))
    (qSeq (qFor (iVal (eLst [(eVar 6), (eVar 7)])) (gN 11)
    (qSeq (qSet 12 (eCall F_both_books [(eVar 11), (eVar 8)]))
    (qSeq (qIf (tNo (tru (eCall F__law_same [(eVar 12), (eCall F__law_both [(eVar 11), (eVar 8)])])))
    (qRet (eC (.bl false)))
    qNx)
    (qDrop (eMeth "list" mAppend (eVar 10) [(eVar 12)])))))
    (qSeq (qIf (tOr2 (tNo (tru (eCall F__law_same [(eCall F_gap_of [(eVar 3), (eBin oIx (eVar 10) (eC (.int 0))), (eBin oIx (eVar 10) (eC (.int 1)))]), (eVar 9)]))) (tst (eBin oNe (eCall F__law_asked [(eVar 3), (eBin oIx (eVar 10) (eC (.int 0))), (eBin oIx (eVar 10) (eC (.int 1))), (eVar 4)]) (eVar 9))))
    (qRet (eC (.bl false)))
    qNx)
    (qSeq (qSet 13 (tidy2 (eCall F__law_gap [(eVar 8), (eTup [(eC (.int 1)), (eTup [])]), (eVar 4), (eTup [(eCall F__law_sold [(eVar 8), (eVar 4)]), (eBin oMul (eLst [(eC (.int 0))]) (eCall bLen [(eVar 4)]))])])))
    (qSeq (qIf (tOr2 (tNo (tru (eCall F__law_same [(eCall F_gap_of [(eVar 3), (eBin oIx (eVar 10) (eC (.int 0))), (eVar 6)]), (eVar 13)]))) (tNo (tru (eCall F__law_same [(eCall F_never_less [(eVar 3), (eVar 6), (eBin oIx (eVar 10) (eC (.int 0)))]), (eBin oEq (eBin oIx (eVar 13) (eC (.int 1))) (eTup []))]))))
    (qRet (eC (.bl false)))
    qNx)
    (qSeq (qSet 14 (tidy2 (eCall F__law_of [(eVar 1), (eLst [(eC (.int 1)), (eC (.int 7)), (eC (.int 997)), (eC (.int 1000))])])))
    (qSeq (qSet 15 (eCall F_both_books [(eCall F_with_unit [(eBin oIx (eVar 10) (eC (.int 0))), (eVar 14)]), (eBin oIx (eVar 10) (eC (.int 0)))]))
    (qSeq (qIf (tNo (tru (eCall F__law_same [(eCall F_with_unit [(eBin oIx (eVar 10) (eC (.int 0))), (eVar 14)]), (eTup [(eBin oMul (eBin oIx (eBin oIx (eVar 10) (eC (.int 0))) (eC (.int 0))) (eVar 14)), (tidy2 (eCall bTup [(eLc (iVal (eBin oIx (eBin oIx (eVar 10) (eC (.int 0))) (eC (.int 1)))) (gN 16) tYs (eBin oAdd (eSl (eVar 16) oNo (oPart (eC (.int 4)))) (eTup [(eBin oMul (eBin oIx (eVar 16) (eC (.int 4))) (eVar 14))])) [16])]))])])))
    (qRet (eC (.bl false)))
    qNx)
    (qSeq (qIf (tNo (tru (eCall F__law_same [(eCall F_gap_of [(eVar 3), (eVar 15), (eCall F_both_books [(eBin oIx (eVar 10) (eC (.int 1))), (eBin oIx (eVar 10) (eC (.int 1)))])]), (eTup [(eCall F__law_low [(eBin oMul (eC (.int 2)) (eBin oIx (eBin oIx (eVar 9) (eC (.int 0))) (eC (.int 0)))), (eBin oIx (eBin oIx (eVar 9) (eC (.int 0))) (eC (.int 1)))]), (eBin oIx (eVar 9) (eC (.int 1)))])])))
    (qRet (eC (.bl false)))
    qNx)
    (qSeq (qIf (tAnd2 (tst (eBin oLt (eVar 2) (eC (.int 9)))) (tst (eBin oIsN (eCall F__law_asked [(eVar 3), (eCall F__law_turned [(eVar 6)]), (eCall F__law_turned [(eVar 7)]), (eVar 4)]) (eC .non))))
    (qRet (eC (.bl false)))
    qNx)
    (qSeq (qSet 16 (eTup [(eC (.str "zed")), (tidy2 (eCall F__law_of [(eVar 1), (eLst [(eC (.str "may")), (eC (.str "must"))])])), (eBin oIx (eVar 3) (eC (.int 0))), (eBin oIx (eVar 3) (eUn oNeg (eC (.int 1)))), (eBin oAdd (eC (.int 1)) (eCall F__law_entry [(eVar 1), (eC (.int 9))]))]))
    (qSeq (qSet 17 (eCall F_both_books [(eBin oIx (eVar 10) (eC (.int 0))), (eTup [(eBin oAdd (eC (.int 1)) (eCall F__law_entry [(eVar 1), (eC (.int 9))])), (eTup [(eVar 16)])])]))
    (qSeq (qIf (tAnd2 (tst (eBin oEq (eBin oIx (eVar 16) (eC (.int 1))) (eC (.str "may")))) (tNo (tru (eCall F__law_same [(eCall F_never_less [(eVar 3), (eVar 17), (eBin oIx (eVar 10) (eC (.int 0)))]), (eC (.bl true))]))))
    (qRet (eC (.bl false)))
    qNx)
    (qRet (eCall F__law_same [(eCall F_never_less [(eVar 3), (eBin oIx (eVar 10) (eC (.int 0))), (eVar 17)]), (eC (.bl false))]))))))))))))))))))))))))))
noncomputable def F_law : FF := runD 1 19 m_law
end K84

namespace K84
open PySem L2 Dl
/-- the ledger -/
def enL (a b : Int) (r : List Int) : Cell := .lst (.int a :: .int b :: r.map D.int)
structure LedOk (r : List Int) : Prop where
  len : r.length ≤ 60
  pos : ∀ x ∈ r, 0 ≤ x
/-- the store holds a ledger at n -/
def Led (S : Sto) (n : Nat) : Prop := ∃ a b r, S[n]? = some (enL a b r) ∧ LedOk r
theorem set_set {S : Sto} {n : Nat} {c c' : Cell} : (S.set n c).set n c' = S.set n c' := List.set_set ..
theorem entry_0 {S : Sto} {n : Nat} {a b m : Int} (hS : S[n]? = some (enL a b [])) (hm : 0 < m) : ∃ v a' b', F__law_entry [.loc n, .int m] S = some (.int v, S.set n (enL a' b' [])) ∧ 0 ≤ v ∧ v < m := by
  have h1 : ∀ a b, (S.set n (enL a b []))[n]? = some (enL a b []) := fun a b => get_set _ hS
  refine ⟨(a * 2003 + (b + 1) * 401 + 139) % 2147482867 / 181 % m, (a * 2003 + (b + 1) * 401 + 139) % 2147482867, b + 1, run_t rfl ?_ (fin2_same _ (by simp)), ?_, ?_⟩
  rotate_left
  · exact Int.emod_nonneg _ (by omega)
  · exact Int.emod_lt_of_pos _ hm
  · show Rt m__law_entry [some (.loc n), some (.int m), none] S _ _
    refine rt_q (st_p (S4 := S.set n (enL a (b + 1) [])) (ev_b (ev_b (ev_v rfl) ev_c (o_ixl hS rfl)) ev_c rfl) (ev_v rfl) ev_c (s_e hS rfl rfl)) ?_
    refine rt_q (st_iF (te_s (ev_b (ev_f (ar_1 (ev_v rfl) ar_0) (b_lenl (h1 _ _))) ev_c rfl)) st_n) ?_
    refine rt_q (st_p (ev_b (ev_f (ar_1 (ev_b (ev_b (ev_b (ev_b (ev_v rfl) ev_c (o_ixl (h1 _ _) rfl)) ev_c (o_mulr (by decide))) (ev_b (ev_b (ev_v rfl) ev_c (o_ixl (h1 _ _) rfl)) ev_c (o_mulr (by decide))) rfl) ev_c rfl) ar_0) rfl) ev_c (o_mod (by decide))) (ev_v rfl) ev_c (s_e (c := enL _ _ []) (h1 _ _) rfl rfl)) ?_
    rw [set_set]
    exact rt_r (ev_b (ev_f (ar_1 (ev_b (ev_b (ev_v rfl) ev_c (o_ixl (h1 _ _) rfl)) ev_c (o_fdv (by decide) (by decide))) ar_0) rfl) (ev_v rfl) (o_mod hm))
theorem last_get (a b : Int) (q : List Int) (x : Int) : (D.int a :: D.int b :: (q ++ [x]).map D.int)[(D.int a :: D.int b :: (q ++ [x]).map D.int).length - 1]? = some (.int x) := by
  simp
theorem last_set (a b : Int) (q : List Int) (x y : Int) : (D.int a :: D.int b :: (q ++ [x]).map D.int).set ((D.int a :: D.int b :: (q ++ [x]).map D.int).length - 1) (.int y) = D.int a :: D.int b :: (q ++ [y]).map D.int := by
  simp
theorem last_drop (a b : Int) (q : List Int) (x : Int) : (D.int a :: D.int b :: (q ++ [x]).map D.int).dropLast = D.int a :: D.int b :: q.map D.int := by
  rw [show (D.int a :: D.int b :: (q ++ [x]).map D.int) = (D.int a :: D.int b :: q.map D.int) ++ [.int x] by simp, List.dropLast_concat]
theorem entry_1 {S : Sto} {n : Nat} {a b m x : Int} {q : List Int} (hS : S[n]? = some (enL a b (q ++ [x]))) (hm : 0 < m) (hm2 : m < 2 ^ 249) :
    F__law_entry [.loc n, .int m] S = some (.int (x % m), S.set n (enL a (b + 1) (if x / m = 0 then q else q ++ [x / m]))) := by
  have h1 : ∀ a b r, (S.set n (enL a b r))[n]? = some (enL a b r) := fun a b r => get_set _ hS
  refine run_t rfl ?_ (fin2_same _ (by simp))
  show Rt m__law_entry [some (.loc n), some (.int m), none] S _ _
  have hlen : 0 < (D.int a :: D.int (b + 1) :: (q ++ [x]).map D.int).length := by simp
  refine rt_q (st_p (S4 := S.set n (enL a (b + 1) (q ++ [x]))) (ev_b (ev_b (ev_v rfl) ev_c (o_ixl hS (at_1 _ _ _))) ev_c rfl) (ev_v rfl) ev_c (s_e hS (ix_1 (by simp)) rfl)) ?_
  have hd : decide ((2 : Int) < ((D.int a :: D.int (b + 1) :: (q ++ [x]).map D.int).length : Int)) = true := by
    apply decide_eq_true
    simp only [List.length_cons, List.length_map, List.length_append, List.length_nil]
    omega
  refine rt_q1 (rt_iT (S1 := S.set n (enL a (b + 1) (q ++ [x]))) (te_s (ev_b (ev_f (ar_1 (ev_v rfl) ar_0) (b_lenl (h1 _ _ _))) ev_c (by rw [oGt, hd]))) ?_)
  refine rt_q (st_s (ev_f (ar_1 (ev_b (ev_v rfl) (ev_u ev_c rfl) (o_ixl (h1 _ _ _) (at_last (last_get a (b + 1) q x)))) ar_0) rfl)) ?_
  refine rt_q (st_p (S4 := S.set n (enL a (b + 1) (q ++ [x / m]))) (ev_b (ev_v rfl) (ev_v rfl) (o_fdvs hm hm2)) (ev_v rfl) (ev_u ev_c rfl) ?_) ?_
  · rw [s_e (c := enL a (b + 1) (q ++ [x / m])) (h1 _ _ _) (ix_neg hlen) (congrArg Cell.lst (last_set a (b + 1) q x (x / m))), set_set]
  · refine rt_q (Γ1 := [some (.loc n), some (.int m), some (.int x)]) (S1 := S.set n (enL a (b + 1) (if x / m = 0 then q else q ++ [x / m]))) (st_i (te_s (ev_b (ev_b (ev_v rfl) (ev_u ev_c rfl) (o_ixl (h1 _ _ _) (at_last (last_get a (b + 1) q (x / m))))) ev_c (eq_int _ _ _))) ?_) (rt_r (ev_b (ev_f (ar_1 (ev_v rfl) ar_0) rfl) (ev_v rfl) (o_mod hm)))
    by_cases hx : x / m = 0
    · rw [if_pos (by simpa using hx), if_pos hx]
      refine st_d (d := .int (x / m)) (ev_m (ev_v rfl) (ty_l (h1 _ _ _)) ar_0 ?_)
      rw [m_pop (h1 _ _ _) (last_get a (b + 1) q (x / m)), set_set, last_drop]
      rfl
    · rw [if_neg (by simpa using hx), if_neg hx]
      rfl
/-- a draw -/
theorem entry {S : Sto} {n : Nat} {m : Int} (h : Led S n) (hm : 0 < m) (hm2 : m < 2 ^ 249) : ∃ v c, F__law_entry [.loc n, .int m] S = some (.int v, S.set n c) ∧ 0 ≤ v ∧ v < m ∧ Led (S.set n c) n ∧ c.flat = true := by
  obtain ⟨a, b, r, hS, ok⟩ := h
  have fl : ∀ a b (r : List Int), (enL a b r).flat = true := fun a b r => by
    have : ∀ r : List Int, D.pures (r.map D.int) = true := fun r => by
      rw [pures_all]
      exact List.all_eq_true.mpr fun d hd => by
        obtain ⟨i, _, e⟩ := List.mem_map.mp hd
        rw [← e, D.pure]
    simp [enL, Cell.flat, D.pures, D.pure, this]
  rcases List.eq_nil_or_concat r with e | ⟨q, x, e⟩
  · subst e
    obtain ⟨v, a', b', e1, e2, e3⟩ := entry_0 hS hm
    exact ⟨v, _, e1, e2, e3, ⟨a', b', [], get_set _ hS, ok⟩, fl _ _ _⟩
  · rw [List.concat_eq_append] at e
    subst e
    have hx : 0 ≤ x := ok.pos x (by simp)
    refine ⟨x % m, _, entry_1 hS hm hm2, Int.emod_nonneg _ (by omega), Int.emod_lt_of_pos _ hm, ⟨a, b + 1, _, get_set _ hS, ?_⟩, fl _ _ _⟩
    split
    · exact ⟨by have := ok.len; simp at this; omega, fun y hy => ok.pos y (by simp [hy])⟩
    · refine ⟨by have := ok.len; simpa using this, fun y hy => ?_⟩
      rcases List.mem_append.mp hy with h | h
      · exact ok.pos y (by simp [h])
      · rw [List.mem_singleton.mp h]
        exact Int.ediv_nonneg hx (by omega)
end K84

namespace K84
open PySem L2 Dl
/-- the store after draws -/
def Up (n : Nat) (S S' : Sto) : Prop := ∃ c, S' = S.set n c ∧ c.flat = true ∧ Led S' n
theorem Up.led {n : Nat} {S S' : Sto} (u : Up n S S') : Led S' n := by obtain ⟨c, _, _, h⟩ := u; exact h
theorem Up.len {n : Nat} {S S' : Sto} (u : Up n S S') : S'.length = S.length := by obtain ⟨c, e, _, _⟩ := u; rw [e, List.length_set]
theorem Up.flat {n : Nat} {S S' : Sto} (u : Up n S S') (h : Flat S) : Flat S' := by obtain ⟨c, e, f, _⟩ := u; rw [e]; exact h.set n f
theorem Up.get {n m : Nat} {S S' : Sto} (u : Up n S S') (h : m ≠ n) : S'[m]? = S[m]? := by obtain ⟨c, e, _, _⟩ := u; rw [e, List.getElem?_set_ne (Ne.symm h)]
theorem Up.trans {n : Nat} {S S' S2 : Sto} (u : Up n S S') (v : Up n S' S2) : Up n S S2 := by
  obtain ⟨c, e, f, h⟩ := u
  obtain ⟨c', e', f', h'⟩ := v
  exact ⟨c', by rw [e', e, set_set], f', h'⟩
theorem Led.lt {n : Nat} {S : Sto} (h : Led S n) : n < S.length := by obtain ⟨a, b, r, e, _⟩ := h; exact lt_get e
theorem set_same {α : Type} : ∀ (l : List α) (n : Nat) (c : α), l[n]? = some c → l.set n c = l
  | [], _, _, h => by simp at h
  | x :: l, 0, c, h => by simp at h; simp [h]
  | x :: l, n + 1, c, h => by simp at h; simp [set_same l n c h]
theorem Led.app {n : Nat} {S : Sto} (h : Led S n) (T : Sto) : Led (S ++ T) n := by
  obtain ⟨a, b, r, e, ok⟩ := h
  exact ⟨a, b, r, get_app T e, ok⟩
theorem Up.refl {n : Nat} {S : Sto} (h : Led S n) (hf : Flat S) : Up n S S := by
  obtain ⟨a, b, r, e, ok⟩ := h
  exact ⟨_, (set_same S n _ e).symm, hf _ (List.mem_of_getElem? e), a, b, r, e, ok⟩
theorem Up.app {n : Nat} {S S' T : Sto} (h : n < S.length) (u : Up n (S ++ T) S') : ∃ S2, S' = S2 ++ T ∧ Up n S S2 := by
  obtain ⟨c, e, f, a, b, r, g, ok⟩ := u
  rw [set_app _ _ h] at e
  refine ⟨S.set n c, e, c, rfl, f, a, b, r, ?_, ok⟩
  rw [e, List.getElem?_append_left (by rw [List.length_set]; exact h)] at g
  exact g
theorem draw {S : Sto} {n : Nat} {m : Int} (h : Led S n) (hm : 0 < m) (hm2 : m < 2 ^ 249) : ∃ (v : Nat) (S' : Sto), F__law_entry [.loc n, .int m] S = some (.int v, S') ∧ (v : Int) < m ∧ Up n S S' := by
  obtain ⟨v, c, e1, e2, e3, e4, e5⟩ := entry h hm hm2
  exact ⟨v.toNat, _, by rw [e1]; congr 3; omega, by omega, c, rfl, e5, e4⟩
theorem of_ {S : Sto} {n r : Nat} {rows : List D} (h : Led S n) (hr : S[r]? = some (.lst rows)) (hne : r ≠ n) (h0 : 0 < rows.length) (hl : rows.length < 1000) :
    ∃ d S', d ∈ rows ∧ F__law_of [.loc n, .loc r] S = some (d, S') ∧ Up n S S' := by
  obtain ⟨v, S', e1, e2, u⟩ := draw (m := (rows.length : Int)) h (by omega) (by omega)
  have hv : v < rows.length := by omega
  have hr' : S'[r]? = some (.lst rows) := by rw [u.get hne]; exact hr
  refine ⟨rows[v], S', List.getElem_mem hv, ?_, u⟩
  refine run_t rfl ?_ (fin2_same _ u.len)
  show Rt m__law_of [some (.loc n), some (.loc r)] S _ _
  exact rt_r (ev_b (ev_v rfl) (ev_f (ar_1 (ev_v rfl) (ar_1 (ev_f (ar_1 (ev_v rfl) ar_0) (b_lenl hr)) ar_0)) e1) (o_ixl hr' (at_nat hv)))
theorem pures_of {ds : List D} (h : ∀ d ∈ ds, d.pure = true) : D.pures ds = true := by
  rw [pures_all]
  exact List.all_eq_true.mpr h
/-- one of a written list of plain data -/
theorem of_lit {Γ : Dl.Ctx} {S S1 : Sto} {n i : Nat} {fs : List FE} {ds : List D} (hi : Γ[i]? = some (some (.loc n))) (ha : args fs Γ S = some (ds, S1)) (h : Led S1 n) (hf : Flat S1) (hp : ∀ d ∈ ds, d.pure = true) (h0 : 0 < ds.length) (hl : ds.length < 1000) (hs : S1.length = S.length) :
    ∃ d S', d ∈ ds ∧ tidy2 (eCall F__law_of [eVar i, eLst fs]) Γ S = some (d, S') ∧ Up n S1 S' := by
  have hn := h.lt
  obtain ⟨d, S', e1, e2, u⟩ := of_ (r := S1.length) (rows := ds) (h.app [.lst ds]) (get_end S1 [] _) (by omega) h0 hl
  obtain ⟨S2, rfl, u2⟩ := u.app hn
  exact ⟨d, S2, e1, ev_tidy (ev_f (ar_1 (ev_v hi) (ar_1 (ev_l ha) ar_0)) e2) (fin2_pure _ (u2.flat hf) (by rw [u2.len, hs]) (hp d e1)), u2⟩
/-! ### Euclid -/
theorem euclid_step {x y : Nat} (h : y ≤ x) (hy : 0 < y) : y * (x % y) * 2 ≤ x * y := by
  have h1 : x % y < y := Nat.mod_lt _ hy
  have h2 : y + x % y ≤ x := by
    have := Nat.div_add_mod x y
    have h3 : 1 ≤ x / y := (Nat.le_div_iff_mul_le hy).mpr (by omega)
    have h4 : y * 1 ≤ y * (x / y) := Nat.mul_le_mul_left _ h3
    omega
  calc y * (x % y) * 2 = (x % y + x % y) * y := by rw [Nat.mul_assoc, Nat.mul_comm]; congr 1; omega
    _ ≤ x * y := Nat.mul_le_mul_right _ (by omega)
theorem abs_nat (a : Int) : (if a < 0 then -a else a) = (a.natAbs : Int) := by split <;> omega
theorem max_nat (x y : Nat) : (if (y : Int) > (x : Int) then (y : Int) else (x : Int)) = ((max x y : Nat) : Int) := by split <;> omega
theorem bits_lt (x : Nat) : x < 2 ^ Builtin.Int.intBits (x : Int) := by
  unfold Builtin.Int.intBits
  split
  · rename_i h
    have : x = 0 := by simpa using h
    subst this
    decide
  · rw [Int.natAbs_natCast]
    exact Nat.lt_log2_self
theorem bits_le {x k : Nat} (h : x < 2 ^ (k + 1)) : Builtin.Int.intBits (x : Int) ≤ k + 1 := by
  unfold Builtin.Int.intBits
  split
  · omega
  · rw [Int.natAbs_natCast]
    have := log_of h
    omega
/-- where the loop of divisor stands at turn i -/
def Euc (g B : Nat) (i : Nat) (x y : Nat) : Prop := Nat.gcd x y = g ∧ ((i = 0 ∧ x < 2 ^ B ∧ y < 2 ^ B) ∨ (1 ≤ i ∧ y < x ∧ x * y * 2 ^ (i - 1) < 2 ^ (2 * B)))
theorem Euc.next {g B i x y : Nat} (h : Euc g B i x y) (hy : 0 < y) : Euc g B (i + 1) y (x % y) := by
  obtain ⟨h1, h2⟩ := h
  refine ⟨by rw [Nat.gcd_comm, ← Nat.gcd_rec, Nat.gcd_comm]; exact h1, .inr ⟨by omega, Nat.mod_lt _ hy, ?_⟩⟩
  rcases h2 with ⟨rfl, a, b⟩ | ⟨hi, a, b⟩
  · have c : x % y ≤ x := Nat.mod_le _ _
    have d : y * (x % y) ≤ y * x := Nat.mul_le_mul_left _ c
    have e : y * x < 2 ^ B * 2 ^ B := Nat.mul_lt_mul'' b a
    have f : 2 ^ (2 * B) = 2 ^ B * 2 ^ B := by rw [← Nat.pow_add]; congr 1; omega
    simp only [Nat.zero_add, Nat.sub_self, Nat.pow_zero, Nat.mul_one]
    omega
  · have c := euclid_step (Nat.le_of_lt a) hy
    have e : 2 ^ (i + 1 - 1) = 2 * 2 ^ (i - 1) := by
      rw [show i + 1 - 1 = (i - 1) + 1 by omega, Nat.pow_succ, Nat.mul_comm]
    rw [e, ← Nat.mul_assoc]
    exact Nat.lt_of_le_of_lt (Nat.mul_le_mul_right _ c) b
theorem Euc.done {g B x y : Nat} (h : Euc g B (2 * B + 1) x y) : y = 0 := by
  obtain ⟨h1, h2⟩ := h
  rcases h2 with ⟨e, _⟩ | ⟨_, a, b⟩
  · omega
  · rw [show 2 * B + 1 - 1 = 2 * B by omega] at b
    rcases Nat.eq_zero_or_pos y with z | z
    · exact z
    · have h3 : 1 ≤ x * y := Nat.mul_pos (by omega) z
      have h4 : 1 * 2 ^ (2 * B) ≤ x * y * 2 ^ (2 * B) := Nat.mul_le_mul_right _ h3
      omega
def divBody : FS := qSeq (qIf (tst (eBin oEq (eVar 1) (eC (.int 0)))) qBk qNx) (qPar [0, 1] [eVar 1, eBin oMod (eCall bInt [eVar 0]) (eVar 1)])
theorem divisor {a b : Int} {S : Sto} (ha : Big a) (hb : Big b) : F__law_divisor [.int a, .int b] S = some (.int ((Nat.gcd a.natAbs b.natAbs : Nat) : Int), S) := by
  have hB : Builtin.Int.intBits ((max a.natAbs b.natAbs : Nat) : Int) ≤ 250 := bits_le (k := 249) (Nat.max_lt.mpr ⟨ha, hb⟩)
  have hM := bits_lt (max a.natAbs b.natAbs)
  generalize hBe : Builtin.Int.intBits ((max a.natAbs b.natAbs : Nat) : Int) = B at hB hM
  have hx : a.natAbs < 2 ^ B := Nat.lt_of_le_of_lt (Nat.le_max_left _ _) hM
  have hy : b.natAbs < 2 ^ B := Nat.lt_of_le_of_lt (Nat.le_max_right _ _) hM
  have key : ∃ Γ' S', forL (gN 2) divBody [] (rgD 0 1 (2 * B + 2)) [some (.int a.natAbs), some (.int b.natAbs), none] S = some (.nx, Γ', S') ∧ (S' = S ∧ ∃ (k : Option D), Γ' = [some (.int (Nat.gcd a.natAbs b.natAbs : Nat)), some (.int 0), k]) := by
    refine forL_brk (rgD 0 1 (2 * B + 2)) (fun i Γ T => T = S ∧ ∃ (x y : Nat) (k : Option D), Γ = [some (.int x), some (.int y), k] ∧ Euc (Nat.gcd a.natAbs b.natAbs) B i x y ∧ i ≤ 2 * B + 1)
      (fun Γ T => T = S ∧ ∃ (k : Option D), Γ = [some (.int (Nat.gcd a.natAbs b.natAbs : Nat)), some (.int 0), k]) (fun i Γ T _ _ => lkd_nil T) (fun i d Γ T hd h => ?_) (fun Γ T h => ?_) ⟨rfl, _, _, _, rfl, ⟨rfl, .inl ⟨rfl, hx, hy⟩⟩, by omega⟩
    · obtain ⟨rfl, x, y, k, rfl, h, hi⟩ := h
      have hil := (List.getElem?_eq_some_iff.mp hd).1
      rw [rgD_len] at hil
      refine ⟨_, rfl, ?_⟩
      rcases Nat.eq_zero_or_pos y with z | z
      · subst z
        have hg : x = Nat.gcd a.natAbs b.natAbs := by have := h.1; rw [Nat.gcd_zero_right] at this; exact this
        refine ⟨_, _, .inr ⟨st_qb (st_iT (te_s (ev_b (ev_v rfl) ev_c (eq_int _ _ _))) st_b), rfl, _, by rw [← hg]; rfl⟩⟩
      · have hlt : i < 2 * B + 1 := by
          rcases Nat.lt_or_ge i (2 * B + 1) with q | q
          · exact q
          · have : i = 2 * B + 1 := by omega
            subst this
            exact absurd h.done (by omega)
        refine ⟨[some (.int y), some (.int ((x % y : Nat) : Int)), some d], T, .inl ⟨st_q (st_iF (te_s (ev_b (ev_v rfl) ev_c ?_)) st_n) (st_2 (ar_1 (ev_v rfl) (ar_1 (ev_b (ev_f (ar_1 (ev_v rfl) ar_0) rfl) (ev_v rfl) (o_mod (i := (x : Int)) (j := (y : Int)) (by omega))) ar_0))), rfl, _, _, _, rfl, h.next z, by omega⟩⟩
        rw [eq_int]
        congr 3
        have : (y : Int) ≠ 0 := by omega
        simpa using this
    · obtain ⟨rfl, x, y, k, rfl, h, hi⟩ := h
      rw [rgD_len] at hi
      omega
  obtain ⟨Γ', S', e, q⟩ := key
  obtain ⟨rfl, k, rfl⟩ := q
  refine run_t rfl ?_ (fin2_same _ rfl)
  show Rt m__law_divisor [some (.int a), some (.int b), none] S' _ _
  refine rt_q (st_2 (ar_1 (ev_f (ar_1 (ev_v rfl) ar_0) b_abs) (ar_1 (ev_f (ar_1 (ev_v rfl) ar_0) b_abs) ar_0))) ?_
  rw [abs_nat, abs_nat]
  refine rt_q (Γ1 := [some (.int (Nat.gcd a.natAbs b.natAbs : Nat)), some (.int 0), k]) (S1 := S') ?_ (rt_r (ev_v rfl))
  refine st_f (it_r (ds := [.int (2 * (B : Int) + 2)]) (ar_1 (ev_b (ev_b ev_c (ev_u (ev_f (ar_1 (ev_v rfl) (ar_1 (ev_v rfl) ar_0)) rfl) ?_) (o_mull (by decide))) ev_c rfl) ar_0) (rg_1 (by omega) (by omega))) ?_
  · rw [max_nat, oBits, hBe]
  · rw [show (2 * (B : Int) + 2).toNat = 2 * B + 2 by omega]
    exact e
theorem low {a b : Int} {S : Sto} (ha : Big a) (hb : Big b) (h0 : 0 < b) : F__law_low [.int a, .int b] S = some (.tup [.int (a / (Nat.gcd a.natAbs b.natAbs : Nat)), .int (b / (Nat.gcd a.natAbs b.natAbs : Nat))], S) := by
  have hg : 0 < Nat.gcd a.natAbs b.natAbs := Nat.gcd_pos_of_pos_right _ (by omega)
  have hl : Nat.gcd a.natAbs b.natAbs ≤ b.natAbs := Nat.le_of_dvd (by omega) (Nat.gcd_dvd_right _ _)
  have hb' : b.natAbs < 2 ^ 250 := hb
  have hbig : (((Nat.gcd a.natAbs b.natAbs : Nat) : Int)).natAbs.log2 < 9000 := fdv_big (show Big _ from Nat.lt_of_le_of_lt (by rw [Int.natAbs_natCast]; exact hl) hb)
  refine run_t rfl ?_ (fin2_same _ rfl)
  show Rt m__law_low [some (.int a), some (.int b), none] S _ _
  exact rt_q (st_s (ev_f (ar_1 (ev_v rfl) (ar_1 (ev_v rfl) ar_0)) (divisor ha hb))) (rt_r (ev_t (ar_1 (ev_b (ev_v rfl) (ev_v rfl) (o_fdv (by omega) hbig)) (ar_1 (ev_b (ev_v rfl) (ev_v rfl) (o_fdv (by omega) hbig)) ar_0))))
theorem quotient {a b : Int} {S : Sto} (hb : Big b) (h0 : 0 < b) : F_quotient_of [.int a, .int b] S = some (.tup [.int (a / (Nat.gcd a.natAbs b.natAbs : Nat)), .int (b / (Nat.gcd a.natAbs b.natAbs : Nat))], S) := by
  have hg : 0 < Nat.gcd a.natAbs b.natAbs := Nat.gcd_pos_of_pos_right _ (by omega)
  have hl : Nat.gcd a.natAbs b.natAbs ≤ b.natAbs := Nat.le_of_dvd (by omega) (Nat.gcd_dvd_right _ _)
  have hb' : b.natAbs < 2 ^ 250 := hb
  have hbig : (((Nat.gcd a.natAbs b.natAbs : Nat) : Int)).natAbs.log2 < 9000 := fdv_big (show Big _ from Nat.lt_of_le_of_lt (by rw [Int.natAbs_natCast]; exact hl) hb)
  have e1 : ((b == 0) : Bool) = false := by simp; omega
  have e2 : decide (b < 0) = false := decide_eq_false (by omega)
  refine run_t rfl ?_ (fin2_same _ rfl)
  show Rt m_quotient_of [some (.int a), some (.int b), none] S _ _
  refine rt_q (st_iF (te_s (ev_b (ev_v rfl) ev_c (by rw [eq_int, e1]))) st_n) ?_
  refine rt_q (st_s (ev_f (ar_1 (ev_v rfl) (ar_1 (ev_v rfl) ar_0)) rfl)) ?_
  refine rt_q (st_iF (te_s (ev_b (ev_v rfl) ev_c (by rw [oLt, e2]))) st_n) ?_
  exact rt_r (ev_t (ar_1 (ev_b (ev_v rfl) (ev_v rfl) (o_fdv (by omega) hbig)) (ar_1 (ev_b (ev_v rfl) (ev_v rfl) (o_fdv (by omega) hbig)) ar_0)))
end K84

namespace K84
open PySem L2 Dl
mutual
/-- what _law_same can compare -/
def good : D → Bool
  | .tup l => goods l
  | .str x => PyData.strOk x
  | .int _ => true
  | .bl _ => true
  | .non => false
  | .loc _ => false
def goods : List D → Bool
  | [] => true
  | d :: r => good d && goods r
end
mutual
def sz : D → Nat
  | .tup l => szs l + 1
  | .str _ => 1
  | .int _ => 1
  | .bl _ => 1
  | .non => 1
  | .loc _ => 1
def szs : List D → Nat
  | [] => 0
  | d :: r => sz d + szs r
end
theorem goods_all : ∀ l : List D, goods l = l.all good
  | [] => rfl
  | d :: r => by rw [goods, goods_all r, List.all_cons]
theorem szs_app : ∀ l m : List D, szs (l ++ m) = szs l + szs m
  | [], m => by rw [List.nil_append, szs, Nat.zero_add]
  | d :: r, m => by rw [List.cons_append, szs, szs_app r m, szs, Nat.add_assoc]
theorem sz_pos (d : D) : 1 ≤ sz d := by cases d <;> simp [sz]
theorem len_szs : ∀ l : List D, l.length ≤ szs l
  | [] => Nat.zero_le _
  | d :: r => by
    have := sz_pos d
    have := len_szs r
    rw [szs, List.length_cons]
    omega
mutual
theorem good_pure : ∀ d : D, good d = true → d.pure = true
  | .tup l, h => by rw [good] at h; rw [D.pure]; exact goods_pure l h
  | .str _, _ => by rw [D.pure]
  | .int _, _ => by rw [D.pure]
  | .bl _, _ => by rw [D.pure]
  | .non, _ => by rw [D.pure]
  | .loc _, h => by rw [good] at h; cases h
theorem goods_pure : ∀ l : List D, goods l = true → D.pures l = true
  | [], _ => by rw [D.pures]
  | d :: r, h => by
    rw [goods, Bool.and_eq_true] at h
    rw [D.pures, good_pure d h.1, goods_pure r h.2]
    rfl
end
def dup (d : D) : D := .tup [d, d]
theorem isi {Γ : Dl.Ctx} {S S1 : Sto} {f : FE} {T t : String} {d : D} {b : Bool} (h : f Γ S = some (d, S1)) (h2 : tyN S1 d = some t) (h3 : kitB t T = some b) : tru (eIsi T f) Γ S = some (b, S1) := by
  refine te_t (d := .bl b) ?_ rfl
  rw [eIsi, h, Option.bind_some]
  simp only
  rw [h2, Option.bind_some, h3]
  rfl
theorem m_pop' {S : Sto} {n : Nat} {l : List D} {d : D} (h : S[n]? = some (.lst (l ++ [d]))) : mPop (.loc n) [] S = some (d, S.set n (.lst l)) :=
  m_pope h (by simp) (by rw [List.dropLast_concat])
def sameC : FT := tru (eVar 2)
noncomputable def sameB : FS := (qSeq (qAsg (gT [(gN 3), (gN 4)]) (eMeth "list" mPop (eVar 2) []))
    (qIf (tru (eIsi "tuple" (eVar 4)))
    (qSeq (qIf (tOr2 (tNo (tru (eIsi "tuple" (eVar 3)))) (tst (eBin oNe (eCall bLen [(eVar 3)]) (eCall bLen [(eVar 4)]))))
    (qRet (eC (.bl false)))
    qNx)
    (qFor (iRng [(eCall bLen [(eVar 4)])]) (gN 5)
    (qDrop (eMeth "list" mAppend (eVar 2) [(eTup [(eBin oIx (eVar 3) (eVar 5)), (eBin oIx (eVar 4) (eVar 5))])]))))
    (qIf (tru (eIsi "str" (eVar 4)))
    (qIf (tOr2 (tNo (tru (eIsi "str" (eVar 3)))) (tst (eBin oNe (eVar 3) (eVar 4))))
    (qRet (eC (.bl false)))
    qNx)
    (qIf (tOr2 (tru (eIsi "bool" (eVar 4))) (tru (eIsi "bool" (eVar 3))))
    (qIf (tOr2 (tNo (tru (eIsi "bool" (eVar 4)))) (tOr2 (tNo (tru (eIsi "bool" (eVar 3)))) (tst (eBin oNe (eVar 3) (eVar 4)))))
    (qRet (eC (.bl false)))
    qNx)
    (qIf (tOr2 (tNo (tru (eIsi "int" (eVar 3)))) (tst (eBin oNe (eVar 3) (eVar 4))))
    (qRet (eC (.bl false)))
    qNx)))))
/-- one turn -/
theorem same_turn {S : Sto} {a b : D} {o3 o4 o5 : Option D} {l : List D} {d : D} (hd : good d = true) (hz : szs l + sz d < sizeLine) : ∃ Γ' l', sameB [some a, some b, some (.loc S.length), o3, o4, o5] (S ++ [.lst ((l ++ [d]).map dup)]) = some (.nx, Γ', S ++ [.lst (l'.map dup)]) ∧
    (∃ o3 o4 o5, Γ' = [some a, some b, some (.loc S.length), o3, o4, o5]) ∧ szs l' + 1 ≤ szs l + sz d ∧ (goods l = true → goods l' = true) := by
  have hpop : (eMeth "list" mPop (eVar 2) []) [some a, some b, some (.loc S.length), o3, o4, o5] (S ++ [.lst ((l ++ [d]).map dup)]) = some (dup d, S ++ [.lst (l.map dup)]) := by
    refine ev_m (ev_v rfl) (ty_l (get_end S [] _)) ar_0 ?_
    rw [List.map_append]
    exact (m_pop' (get_end S [] _)).trans (by rw [set_end])
  have first : (qAsg (gT [(gN 3), (gN 4)]) (eMeth "list" mPop (eVar 2) [])) [some a, some b, some (.loc S.length), o3, o4, o5] (S ++ [.lst ((l ++ [d]).map dup)]) = some (.nx, [some a, some b, some (.loc S.length), some d, some d, o5], S ++ [.lst (l.map dup)]) := st_a hpop rfl
  cases d with
  | tup xs =>
    have hlx := len_szs xs
    rw [sz] at hz
    have key : ∃ Γ' S', forL (gN 5) (qDrop (eMeth "list" mAppend (eVar 2) [(eTup [(eBin oIx (eVar 3) (eVar 5)), (eBin oIx (eVar 4) (eVar 5))])])) [] (rgD 0 1 xs.length) [some a, some b, some (.loc S.length), some (.tup xs), some (.tup xs), o5] (S ++ [.lst (l.map dup)]) = some (.nx, Γ', S') ∧
        (S' = S ++ [.lst ((l ++ xs).map dup)] ∧ ∃ o5, Γ' = [some a, some b, some (.loc S.length), some (.tup xs), some (.tup xs), o5]) := by
      obtain ⟨Γ', S', e, h1, h2⟩ := forL_inv (t := gN 5) (body := qDrop (eMeth "list" mAppend (eVar 2) [(eTup [(eBin oIx (eVar 3) (eVar 5)), (eBin oIx (eVar 4) (eVar 5))])])) (lk := []) (rgD 0 1 xs.length)
        (fun i Γ T => T = S ++ [.lst ((l ++ xs.take i).map dup)] ∧ ∃ o5, Γ = [some a, some b, some (.loc S.length), some (.tup xs), some (.tup xs), o5]) (fun i Γ T _ _ => lkd_nil T) (fun i d Γ T hd h => by
          obtain ⟨rfl, o, rfl⟩ := h
          have hil := (List.getElem?_eq_some_iff.mp hd).1
          rw [rgD_len] at hil
          have ed : d = .int (i : Nat) := by
            rw [rgD_get _ _ _ _ hil] at hd
            cases hd
            congr 1
            omega
          subst ed
          refine ⟨_, rfl, [some a, some b, some (.loc S.length), some (.tup xs), some (.tup xs), some (.int (i : Nat))], S ++ [.lst ((l ++ xs.take (i + 1)).map dup)], ?_, rfl, _, rfl⟩
          refine st_d (d := .non) (ev_m (ev_v rfl) (ty_l (get_end S [] _)) (ar_1 (ev_t (ar_1 (ev_b (ev_v rfl) (ev_v rfl) (o_ixt (at_nat hil))) (ar_1 (ev_b (ev_v rfl) (ev_v rfl) (o_ixt (at_nat hil))) ar_0))) ar_0) ?_)
          rw [m_app (get_end S [] _) (by rw [List.length_map, List.length_append, List.length_take]; have := len_szs l; omega), set_end]
          have ee : (l ++ xs.take (i + 1)).map dup = (l ++ xs.take i).map dup ++ [dup xs[i]] := by
            rw [← List.take_append_getElem hil, ← List.append_assoc, List.map_append]
            rfl
          rw [ee]
          rfl) (Γ := [some a, some b, some (.loc S.length), some (.tup xs), some (.tup xs), o5]) (S := S ++ [.lst (l.map dup)]) ⟨by simp, _, rfl⟩
      refine ⟨Γ', S', e, ?_, h2⟩
      rw [h1, rgD_len, List.take_length]
    obtain ⟨Γ', S', e, rfl, o, rfl⟩ := key
    refine ⟨_, l ++ xs, st_q first (st_iT (isi (ev_v rfl) rfl (by decide)) (st_q (st_iF (te_o (te_nT (isi (ev_v rfl) rfl (by decide))) (te_s (ev_b (ev_f (ar_1 (ev_v rfl) ar_0) rfl) (ev_f (ar_1 (ev_v rfl) ar_0) rfl) (ne_int_s _ _)))) st_n) (st_f (it_r (ar_1 (ev_f (ar_1 (ev_v rfl) ar_0) rfl) ar_0) (rg_1 (by omega) (by have : sizeLine = 16777216 := sizeLine_eq; omega))) e))), ⟨_, _, _, rfl⟩, ?_, ?_⟩
    · rw [szs_app, sz]; omega
    · intro h
      rw [good] at hd
      rw [goods_all] at h hd ⊢
      rw [List.all_append, h, hd]
      rfl
  | str x =>
    rw [good] at hd
    refine ⟨_, l, st_q first (st_iF (isi (ev_v rfl) rfl (by decide)) (st_iT (isi (ev_v rfl) rfl (by decide)) (st_iF (te_o (te_nT (isi (ev_v rfl) rfl (by decide))) (te_s (ev_b (ev_v rfl) (ev_v rfl) (ne_str_s hd _)))) st_n))), ⟨_, _, _, rfl⟩, by rw [sz]; omega, id⟩
  | int x =>
    refine ⟨_, l, st_q first (st_iF (isi (ev_v rfl) rfl (by decide)) (st_iF (isi (ev_v rfl) rfl (by decide)) (st_iF (te_o (isi (ev_v rfl) rfl (by decide)) (isi (ev_v rfl) rfl (by decide))) (st_iF (te_o (te_nT (isi (ev_v rfl) rfl (by decide))) (te_s (ev_b (ev_v rfl) (ev_v rfl) (ne_int_s _ _)))) st_n)))), ⟨_, _, _, rfl⟩, by rw [sz]; omega, id⟩
  | bl x =>
    refine ⟨_, l, st_q first (st_iF (isi (ev_v rfl) rfl (by decide)) (st_iF (isi (ev_v rfl) rfl (by decide)) (st_iT (te_oT (isi (ev_v rfl) rfl (by decide))) (st_iF (te_o (te_nT (isi (ev_v rfl) rfl (by decide))) (te_o (te_nT (isi (ev_v rfl) rfl (by decide))) (te_s (ev_b (ev_v rfl) (ev_v rfl) (ne_bl_s _ _))))) st_n)))), ⟨_, _, _, rfl⟩, by rw [sz]; omega, id⟩
  | non => rw [good] at hd; cases hd
  | loc _ => rw [good] at hd; cases hd
theorem same_run {S : Sto} {a b : D} : ∀ (n : Nat) (l : List D) (o3 o4 o5 : Option D), szs l ≤ n → szs l < sizeLine → goods l = true →
    ∃ k Γ', whL sameC sameB k [some a, some b, some (.loc S.length), o3, o4, o5] (S ++ [.lst (l.map dup)]) = some (.nx, Γ', S ++ [.lst []])
  | n, l, o3, o4, o5, hn, hz, hg => by
    rcases List.eq_nil_or_concat l with e | ⟨q, d, e⟩
    · subst e
      refine ⟨1, [some a, some b, some (.loc S.length), o3, o4, o5], ?_⟩
      have : sameC [some a, some b, some (.loc S.length), o3, o4, o5] (S ++ [.lst ([].map dup)]) = some (false, S ++ [.lst []]) := te_t (ev_v rfl) (by simp only [dTru, List.map_nil, get_end]; rfl)
      rw [whL, this, Option.bind_some, if_neg Bool.false_ne_true]
    · rw [List.concat_eq_append] at e
      subst e
      rw [szs_app, szs, szs] at hn hz
      rw [goods_all, List.all_append, Bool.and_eq_true, ← goods_all] at hg
      have hd : good d = true := by simpa using hg.2
      obtain ⟨Γ', l', e1, ⟨p3, p4, p5, rfl⟩, h2, h3⟩ := same_turn (S := S) (a := a) (b := b) (o3 := o3) (o4 := o4) (o5 := o5) (l := q) hd (by omega)
      cases n with
      | zero => have := sz_pos d; omega
      | succ n =>
        obtain ⟨k, Γ2, e2⟩ := same_run n l' p3 p4 p5 (by omega) (by omega) (h3 hg.1)
        refine ⟨k + 1, Γ2, ?_⟩
        have : sameC [some a, some b, some (.loc S.length), o3, o4, o5] (S ++ [.lst ((q ++ [d]).map dup)]) = some (true, S ++ [.lst ((q ++ [d]).map dup)]) := te_t (ev_v rfl) (by simp only [dTru, get_end]; simp)
        rw [whL, this, Option.bind_some, if_pos rfl, e1, Option.bind_some]
        exact e2
theorem same {S : Sto} {d : D} (hf : Flat S) (hd : good d = true) (hz : sz d < 16777216) : F__law_same [d, d] S = some (.bl true, S) := by
  have hs : sizeLine = 16777216 := sizeLine_eq
  obtain ⟨k, Γ', e⟩ := same_run (S := S) (a := d) (b := d) (sz d) [d] none none none (by simp [szs]) (by simp [szs]; omega) (by simp [goods, hd])
  refine run_t (S1 := S ++ [.lst []]) rfl ?_ (fin2_pure _ hf rfl (by rw [D.pure]))
  show Rt m__law_same [some d, some d, none, none, none, none] S _ _
  exact rt_q (st_s (ev_l (ar_1 (ev_t (ar_1 (ev_v rfl) (ar_1 (ev_v rfl) ar_0))) ar_0))) (rt_q (qWhile_of e) (rt_r ev_c))
end K84

namespace K84
open PySem L2 Dl
/-- a right -/
structure Rg where
  h : Str
  k : Str
  a : Str
  b : Str
  n : Int
def encR (r : Rg) : D := .tup [.str r.h, .str r.k, .str r.a, .str r.b, .int r.n]
def encRs (rs : List Rg) : D := .tup (rs.map encR)
def encB (u : Int) (rs : List Rg) : D := .tup [.int u, encRs rs]
def mulR (t : Int) (r : Rg) : Rg := { r with n := r.n * t }
structure RgOk (r : Rg) : Prop where
  sh : PyData.strOk r.h = true
  sk : PyData.strOk r.k = true
  sa : PyData.strOk r.a = true
  sb : PyData.strOk r.b = true
  sm : r.n.natAbs < 2 ^ 100
/-- a book that can be read -/
structure BkOk (u : Int) (rs : List Rg) : Prop where
  pos : 0 < u
  lt : u < 2 ^ 64
  few : rs.length ≤ 100
  all : ∀ r ∈ rs, RgOk r
theorem BkOk.big {u : Int} {rs : List Rg} (h : BkOk u rs) : Big u := small_of (by have := h.pos; omega) (by have := h.lt; omega)
theorem line : sizeLine = 16777216 := sizeLine_eq
theorem good_R {r : Rg} (h : RgOk r) : good (encR r) = true := by simp [encR, good, goods, h.sh, h.sk, h.sa, h.sb]
theorem good_Rs {rs : List Rg} (h : ∀ r ∈ rs, RgOk r) : good (encRs rs) = true := by
  rw [encRs, good, goods_all]
  exact List.all_eq_true.mpr fun d hd => by
    obtain ⟨r, hr, e⟩ := List.mem_map.mp hd
    rw [← e]
    exact good_R (h r hr)
theorem good_B {u : Int} {rs : List Rg} (h : BkOk u rs) : good (encB u rs) = true := by simp [encB, good, goods, good_Rs h.all]
theorem sz_Rs : ∀ rs : List Rg, szs (rs.map encR) = 6 * rs.length
  | [] => rfl
  | r :: rs => by
    have := sz_Rs rs
    simp only [List.map_cons, szs, List.length_cons, this, encR, sz]
    omega
theorem sz_B {u : Int} {rs : List Rg} (h : BkOk u rs) : sz (encB u rs) < 16777216 := by
  have := h.few
  simp only [encB, encRs, sz, szs, sz_Rs]
  omega
theorem mulR_ok {r : Rg} {t : Int} {j : Nat} (h : RgOk r) (hn : r.n.natAbs < 2 ^ j) (ht : t.natAbs < 2 ^ (100 - j)) (hj : j ≤ 100) : RgOk (mulR t r) := ⟨h.sh, h.sk, h.sa, h.sb, by
  show (r.n * t).natAbs < 2 ^ 100
  rw [Int.natAbs_mul]
  have := Nat.mul_lt_mul'' hn ht
  rw [← Nat.pow_add] at this
  rwa [show j + (100 - j) = 100 by omega] at this⟩
theorem o_cat {l m : List D} {S : Sto} (h : l.length + m.length ≤ 16777216) : oAdd (.tup l) (.tup m) S = some (.tup (l ++ m), S) := by
  rw [oAdd, if_pos (by rw [line]; exact h)]
theorem mult {rs : List Rg} {t : Int} {S : Sto} (hf : Flat S) (h : ∀ r ∈ rs, mulOk r.n t = true) (hl : rs.length ≤ 1000) : F_multiplied_rights [encRs rs, .int t] S = some (encRs (rs.map (mulR t)), S) := by
  have key : ∃ Γ' S', forL (gT [(gN 3), (gN 4), (gN 5), (gN 6), (gN 7)]) (qDrop (eMeth "list" mAppend (eVar 2) [(eTup [(eVar 3), (eVar 4), (eVar 5), (eVar 6), (eBin oMul (eVar 7) (eVar 1))])])) [] (rs.map encR) [some (encRs rs), some (.int t), some (.loc S.length), none, none, none, none, none] (S ++ [.lst []]) = some (.nx, Γ', S') ∧
      (S' = S ++ [.lst (((rs.map (mulR t)).take (rs.map encR).length).map encR)] ∧ ∃ a b c d e, Γ' = [some (encRs rs), some (.int t), some (.loc S.length), a, b, c, d, e]) := by
    refine forL_inv (S := S ++ [.lst []]) (rs.map encR) (fun i Γ T => T = S ++ [.lst (((rs.map (mulR t)).take i).map encR)] ∧ ∃ a b c d e, Γ = [some (encRs rs), some (.int t), some (.loc S.length), a, b, c, d, e]) (fun i Γ T _ _ => lkd_nil T) (fun i d Γ T hd h' => ?_) ⟨by simp [-List.map_take], _, _, _, _, _, rfl⟩
    obtain ⟨rfl, a, b, c, e, f, rfl⟩ := h'
    rw [List.getElem?_map] at hd
    obtain ⟨r, hr, rfl⟩ := map_some hd
    have hil := (List.getElem?_eq_some_iff.mp hr).1
    refine ⟨_, rfl, _, S ++ [.lst (((rs.map (mulR t)).take (i + 1)).map encR)], st_d (d := .non) (ev_m (ev_v rfl) (ty_l (get_end S [] _)) (ar_1 (ev_t (ar_1 (ev_v rfl) (ar_1 (ev_v rfl) (ar_1 (ev_v rfl) (ar_1 (ev_v rfl) (ar_1 (ev_b (ev_v rfl) (ev_v rfl) (o_mul (h r (List.mem_of_getElem? hr)))) ar_0)))))) ar_0) ?_), rfl, _, _, _, _, _, rfl⟩
    rw [m_app (get_end S [] _) (by rw [line, List.length_map, List.length_take]; omega), set_end]
    have ee : ((rs.map (mulR t)).take (i + 1)).map encR = ((rs.map (mulR t)).take i).map encR ++ [encR (mulR t r)] := by
      rw [List.take_succ, List.getElem?_map, hr]
      simp
    rw [ee]
    rfl
  obtain ⟨Γ', S', e, rfl, a, b, c, d, f, rfl⟩ := key
  rw [List.length_map, show rs.length = (rs.map (mulR t)).length by simp, List.take_length] at e
  refine run_t (S1 := S ++ [.lst ((rs.map (mulR t)).map encR)]) rfl ?_ (fin2_pure _ hf rfl ?_)
  · show Rt m_multiplied_rights [some (encRs rs), some (.int t), none, none, none, none, none, none] S _ _
    refine rt_q (st_s (ev_l ar_0)) (rt_q (st_f (it_v (ev_v rfl)) e) (rt_r (ev_f (ar_1 (ev_v rfl) ar_0) ?_)))
    simp only [bTup, seqD, get_end]
    rfl
  · rw [encRs, D.pure, pures_all]
    exact List.all_eq_true.mpr fun d hd => by
      obtain ⟨r, hr, e⟩ := List.mem_map.mp hd
      rw [← e]
      simp [encR, D.pure, D.pures]
/-- the unit of two books -/
def lcmI (u v : Int) : Int := ((Nat.lcm u.natAbs v.natAbs : Nat) : Int)
def bothR (u v : Int) (rs qs : List Rg) : List Rg := rs.map (mulR (lcmI u v / u)) ++ qs.map (mulR (lcmI u v / v))
theorem both {u v : Int} {rs qs : List Rg} {S : Sto} (hf : Flat S) (hu : BkOk u rs) (hv : BkOk v qs) (h1 : ∀ r ∈ rs, mulOk r.n (lcmI u v / u) = true) (h2 : ∀ r ∈ qs, mulOk r.n (lcmI u v / v) = true) :
    F_both_books [encB u rs, encB v qs] S = some (encB (lcmI u v) (bothR u v rs qs), S) := by
  have a := hu.few
  have b := hv.few
  refine run_t rfl ?_ (fin2_same _ rfl)
  show Rt m_both_books [some (encB u rs), some (encB v qs), none, none, none] S _ _
  refine rt_q (S1 := S) (st_s (ev_f (ar_1 (ev_b (ev_v rfl) ev_c rfl) (ar_1 (ev_b (ev_v rfl) ev_c rfl) ar_0)) (z := .int (lcmI u v)) ?_)) ?_
  · rw [bLcm, if_pos ⟨by have := hu.lt; have := hu.pos; omega, by have := hv.lt; have := hv.pos; omega⟩]
    rfl
  refine rt_q (st_s (ev_f (ar_1 (ev_b (ev_v rfl) ev_c rfl) (ar_1 (ev_b (ev_v rfl) (ev_b (ev_v rfl) ev_c rfl) (o_fdv hu.pos (fdv_big hu.big))) ar_0)) (mult hf h1 (by omega)))) ?_
  refine rt_q (st_s (ev_f (ar_1 (ev_b (ev_v rfl) ev_c rfl) (ar_1 (ev_b (ev_v rfl) (ev_b (ev_v rfl) ev_c rfl) (o_fdv hv.pos (fdv_big hv.big))) ar_0)) (mult hf h2 (by omega)))) ?_
  refine rt_r (ev_t (ar_1 (ev_v rfl) (ar_1 (ev_b (ev_v rfl) (ev_v rfl) ?_) ar_0)))
  rw [encRs, encRs, o_cat (by simp only [List.length_map]; omega), encRs, bothR, List.map_append]
theorem with_u {u t : Int} {rs : List Rg} {S : Sto} (hf : Flat S) (hu : BkOk u rs) (ht : mulOk u t = true) (h1 : ∀ r ∈ rs, mulOk r.n t = true) : F_with_unit [encB u rs, .int t] S = some (encB (u * t) (rs.map (mulR t)), S) := by
  have a := hu.few
  refine run_t rfl ?_ (fin2_same _ rfl)
  show Rt m_with_unit [some (encB u rs), some (.int t), none, none] S _ _
  exact rt_q (st_a (ev_v rfl) rfl) (rt_r (ev_t (ar_1 (ev_b (ev_v rfl) (ev_v rfl) (o_mul ht)) (ar_1 (ev_f (ar_1 (ev_v rfl) (ar_1 (ev_v rfl) ar_0)) (mult hf h1 (by omega))) ar_0))))
/-- a comprehension over rights -/
theorem lc_rights {fe el : FE} {ts : FT} {Γ : Dl.Ctx} {S S1 : Sto} {rs : List Rg} {v : Nat} {fR : Rg → D} (h1 : fe Γ S = some (encRs rs, S1)) (hl : rs.length ≤ 1000)
    (h : ∀ r ∈ rs, ∀ acc, el ((wipeD Γ [v]).set v (some (encR r))) (S1 ++ [.lst acc]) = some (fR r, S1 ++ [.lst acc])) : eLc (iVal fe) (gN v) tYs el [v] Γ S = some (.loc S1.length, S1 ++ [.lst (rs.map fR)]) := by
  have h0 : iVal fe Γ S = some ((rs.map encR, []), S1) := it_v h1
  have hi : ∀ r r' : Rg, encR r = encR r' → fR r = fR r' := fun r r' e => by
    cases r
    cases r'
    simp only [encR] at e
    cases e
    rfl
  have := lc_pure (it := iVal fe) (g := gN v) (ts := tYs) (el := el) (vs := [v]) (fun d => match d with
    | .tup [.str h, .str k, .str a, .str b, .int n] => some (fR ⟨h, k, a, b, n⟩)
    | _ => none) h0 (lkd_nil _) (by rw [List.length_map, line]; omega) (fun d hd acc => by
      obtain ⟨r, hr, rfl⟩ := List.mem_map.mp hd
      exact ⟨_, rfl, .inr ⟨fR r, rfl, rfl, h r hr acc⟩⟩)
  rw [this]
  congr 6
  rw [List.filterMap_map]
  exact List.filterMap_eq_map (f := fR) ▸ rfl
end K84

namespace K84
open PySem L2 Dl
def must : Str := "must"
theorem must_ok : PyData.strOk must = true := by decide +kernel
def encS (s : List Str) : D := .tup (s.map D.str)
/-- the sum of f over a list -/
def sm {α : Type} (f : α → Int) : List α → Int
  | [] => 0
  | x :: l => f x + sm f l
theorem sm_app {α : Type} (f : α → Int) : ∀ l m : List α, sm f (l ++ m) = sm f l + sm f m
  | [], m => by simp [sm]
  | x :: l, m => by simp [sm, sm_app f l m, Int.add_assoc]
theorem sm_take {α : Type} (f : α → Int) {l : List α} {i : Nat} {x : α} (h : l[i]? = some x) : sm f (l.take (i + 1)) = sm f (l.take i) + f x := by
  rw [List.take_succ, h, sm_app]
  simp [sm]
theorem sm_perm {α : Type} (f : α → Int) {l m : List α} (h : l.Perm m) : sm f l = sm f m := by
  induction h with
  | nil => rfl
  | cons x _ ih => simp [sm, ih]
  | swap x y l => simp only [sm]; omega
  | trans _ _ a b => exact a.trans b
theorem sm_map {α β : Type} (f : β → Int) (g : α → β) : ∀ l : List α, sm f (l.map g) = sm (fun x => f (g x)) l
  | [] => rfl
  | x :: l => by simp [sm, sm_map f g l]
/-- what a right sells over a side -/
def soldR (s : List Str) (r : Rg) : Int := if r.a ∈ s ∧ r.b ∉ s then r.n else if r.k = must ∧ r.b ∈ s ∧ r.a ∉ s then - r.n else 0
def soldS (rs : List Rg) (s : List Str) : Int := sm (soldR s) rs
theorem in_strs (a : Str) (s : List Str) (S : Sto) : oIn (.str a) (encS s) S = some (.bl (decide (a ∈ s)), S) := by
  have h1 : (s.map D.str).all flatD = true := by simp [flatD]
  have h2 : (s.map D.str).any (fun z => eqF z (.str a)) = decide (a ∈ s) := by
    rw [List.any_map]
    induction s with
    | nil => rfl
    | cons x s ih =>
      have : (s.map D.str).all flatD = true := by simp [flatD]
      rw [List.any_cons, ih this]
      by_cases hx : a = x
      · subst hx; simp [eqF]
      · have : ¬ x = a := fun e => hx e.symm
        simp [eqF, hx, this]
  simp only [oIn, encS, inB, h1, h2, flatD]
  rfl
theorem notin_strs (a : Str) (s : List Str) (S : Sto) : oNotIn (.str a) (encS s) S = some (.bl (!decide (a ∈ s)), S) := by
  have := in_strs a s S
  simp only [oIn] at this
  obtain ⟨b, e1, e2⟩ := map_some this
  rw [oNotIn, e1]
  have : b = decide (a ∈ s) := by injection e2 with e2 _; injection e2
  rw [this]
  rfl
theorem in_T {a : Str} {s : List Str} (h : a ∈ s) (S : Sto) : oIn (.str a) (encS s) S = some (.bl true, S) := by rw [in_strs, decide_eq_true h]
theorem in_F {a : Str} {s : List Str} (h : a ∉ s) (S : Sto) : oIn (.str a) (encS s) S = some (.bl false, S) := by rw [in_strs, decide_eq_false h]
theorem nin_T {a : Str} {s : List Str} (h : a ∉ s) (S : Sto) : oNotIn (.str a) (encS s) S = some (.bl true, S) := by rw [notin_strs, decide_eq_false h]; rfl
theorem nin_F {a : Str} {s : List Str} (h : a ∈ s) (S : Sto) : oNotIn (.str a) (encS s) S = some (.bl false, S) := by rw [notin_strs, decide_eq_true h]; rfl
theorem must_T {k : Str} (h : k = must) (S : Sto) : oEq (.str k) (.str "must") S = some (.bl true, S) := by
  subst h
  show oEq (.str must) (.str must) S = _
  rw [eq_str must_ok must_ok]
  simp
theorem must_F {k : Str} (hk : PyData.strOk k = true) (h : ¬ k = must) (S : Sto) : oEq (.str k) (.str "must") S = some (.bl false, S) := by
  show oEq (.str k) (.str must) S = _
  rw [eq_str hk must_ok]
  congr 3
  exact beq_false_of_ne h
theorem mem_of_get {α : Type} {l : List α} {i : Nat} {x : α} (h : l[i]? = some x) : x ∈ l := List.mem_of_getElem? h
theorem sold_amount {u : Int} {rs : List Rg} {s : List Str} {S : Sto} (hb : BkOk u rs) : F_sold_amount [encB u rs, encS s] S = some (.int (soldS rs s), S) := by
  have key : ∃ Γ' S', forL (gN 3) (qSeq (qSet 4 (eBin oIn (eBin oIx (eVar 3) (eC (.int 2))) (eVar 1)))
    (qSeq (qSet 5 (eBin oIn (eBin oIx (eVar 3) (eC (.int 3))) (eVar 1)))
    (qSeq (qIf (tAnd2 (tru (eVar 4)) (tNo (tru (eVar 5))))
    (qAug 2 (oI fun i j => i + j) (eBin oIx (eVar 3) (eC (.int 4))))
    qNx)
    (qIf (tAnd2 (tru (eVar 5)) (tAnd2 (tNo (tru (eVar 4))) (tst (eBin oEq (eBin oIx (eVar 3) (eC (.int 1))) (eC (.str "must"))))))
    (qAug 2 (oI fun i j => i - j) (eBin oIx (eVar 3) (eC (.int 4))))
    qNx)))) [] (rs.map encR) [some (encB u rs), some (encS s), some (.int 0), none, none, none] S = some (.nx, Γ', S') ∧
      (S' = S ∧ ∃ a b c, Γ' = [some (encB u rs), some (encS s), some (.int (sm (soldR s) (rs.take (rs.map encR).length))), a, b, c]) := by
    refine forL_inv (S := S) (rs.map encR) (fun i Γ T => T = S ∧ ∃ a b c, Γ = [some (encB u rs), some (encS s), some (.int (sm (soldR s) (rs.take i))), a, b, c]) (fun i Γ T _ _ => lkd_nil T) (fun i d Γ T hd h' => ?_) ⟨rfl, _, _, _, rfl⟩
    obtain ⟨rfl, x, y, z, rfl⟩ := h'
    rw [List.getElem?_map] at hd
    obtain ⟨r, hr, rfl⟩ := map_some hd
    have ok := hb.all r (mem_of_get hr)
    rw [sm_take _ hr]
    refine ⟨_, rfl, [some (encB u rs), some (encS s), some (.int (sm (soldR s) (rs.take i) + soldR s r)), some (encR r), some (.bl (decide (r.a ∈ s))), some (.bl (decide (r.b ∈ s)))], T, ?_, rfl, _, _, _, rfl⟩
    refine st_q (st_s (ev_b (ev_b (ev_v rfl) ev_c rfl) (ev_v rfl) (in_strs _ _ _))) (st_q (st_s (ev_b (ev_b (ev_v rfl) ev_c rfl) (ev_v rfl) (in_strs _ _ _))) ?_)
    by_cases ha : r.a ∈ s <;> by_cases hc : r.b ∈ s
    · have e : soldR s r = 0 := by simp [soldR, ha, hc]
      rw [decide_eq_true ha, decide_eq_true hc, e, Int.add_zero]
      exact st_q (st_iF (te_a (te_t (ev_v rfl) rfl) (te_nT (te_t (ev_v rfl) rfl))) st_n) (st_iF (te_a (te_t (ev_v rfl) rfl) (te_aF (te_nT (te_t (ev_v rfl) rfl)))) st_n)
    · have e : soldR s r = r.n := by simp [soldR, ha, hc]
      rw [decide_eq_true ha, decide_eq_false hc, e]
      exact st_q (st_iT (te_a (te_t (ev_v rfl) rfl) (te_nF (te_t (ev_v rfl) rfl))) (st_g rfl (ev_b (ev_v rfl) ev_c rfl) rfl)) (st_iF (te_aF (te_t (ev_v rfl) rfl)) st_n)
    · rw [decide_eq_false ha, decide_eq_true hc]
      by_cases hk : r.k = must
      · have e : soldR s r = - r.n := by simp [soldR, ha, hc, hk]
        rw [e]
        refine st_q (st_iF (te_aF (te_t (ev_v rfl) rfl)) st_n) (st_iT (te_a (te_t (ev_v rfl) rfl) (te_a (te_nF (te_t (ev_v rfl) rfl)) (te_s (ev_b (ev_b (ev_v rfl) ev_c rfl) ev_c (must_T hk _))))) (st_g rfl (ev_b (ev_v rfl) ev_c rfl) rfl))
      · have e : soldR s r = 0 := by simp [soldR, ha, hc, hk]
        rw [e, Int.add_zero]
        exact st_q (st_iF (te_aF (te_t (ev_v rfl) rfl)) st_n) (st_iF (te_a (te_t (ev_v rfl) rfl) (te_a (te_nF (te_t (ev_v rfl) rfl)) (te_s (ev_b (ev_b (ev_v rfl) ev_c rfl) ev_c (must_F ok.sk hk _))))) st_n)
    · have e : soldR s r = 0 := by simp [soldR, ha, hc]
      rw [decide_eq_false ha, decide_eq_false hc, e, Int.add_zero]
      exact st_q (st_iF (te_aF (te_t (ev_v rfl) rfl)) st_n) (st_iF (te_aF (te_t (ev_v rfl) rfl)) st_n)
  obtain ⟨Γ', S', e, rfl, a, b, c, rfl⟩ := key
  rw [List.length_map, List.take_length] at e
  refine run_t rfl ?_ (fin2_same _ rfl)
  show Rt m_sold_amount [some (encB u rs), some (encS s), none, none, none, none] S' _ _
  exact rt_q (st_s ev_c) (rt_q (st_f (it_v (ev_b (ev_v rfl) ev_c rfl)) e) (rt_r (ev_v rfl)))
/-- sums stay readable -/
theorem soldR_le (s : List Str) {r : Rg} (h : RgOk r) : (soldR s r).natAbs < 2 ^ 100 := by
  unfold soldR
  have := h.sm
  split
  · exact this
  · split
    · rw [Int.natAbs_neg]; exact this
    · decide
theorem sm_le {α : Type} (f : α → Int) : ∀ l : List α, (∀ x ∈ l, (f x).natAbs < 2 ^ 100) → (sm f l).natAbs ≤ l.length * 2 ^ 100
  | [], _ => by simp [sm]
  | x :: l, h => by
    have a := h x (by simp)
    have b := sm_le f l fun y hy => h y (by simp [hy])
    have c := Int.natAbs_add_le (f x) (sm f l)
    rw [sm, List.length_cons, Nat.add_mul]
    omega
theorem soldS_lt {u : Int} {rs : List Rg} (hb : BkOk u rs) (s : List Str) : (soldS rs s).natAbs < 2 ^ 107 := by
  have a := sm_le (soldR s) rs fun r hr => soldR_le s (hb.all r hr)
  have b := hb.few
  have c : rs.length * 2 ^ 100 ≤ 100 * 2 ^ 100 := Nat.mul_le_mul_right _ b
  have d : 100 * 2 ^ 100 < 2 ^ 107 := by decide
  unfold soldS
  omega
def lowI (a b : Int) : D := .tup [.int (a / (Nat.gcd a.natAbs b.natAbs : Nat)), .int (b / (Nat.gcd a.natAbs b.natAbs : Nat))]
theorem sold_over {u : Int} {rs : List Rg} {s : List Str} {S : Sto} (hb : BkOk u rs) : F_sold_over [encB u rs, encS s] S = some (lowI (soldS rs s) u, S) := by
  refine run_t rfl ?_ (fin2_same _ rfl)
  show Rt m_sold_over [some (encB u rs), some (encS s)] S _ _
  exact rt_r (ev_f (ar_1 (ev_f (ar_1 (ev_v rfl) (ar_1 (ev_v rfl) ar_0)) (sold_amount hb)) (ar_1 (ev_b (ev_v rfl) ev_c rfl) ar_0)) (quotient hb.big hb.pos))
end K84

namespace K84
open PySem L2 Dl
def soldI : FS := (qIf (tAnd2 (tst (eBin oIn (eVar 7) (eVar 3))) (tst (eBin oNotIn (eVar 8) (eVar 3))))
    (qSet 4 (eBin oAdd (eVar 4) (eVar 9)))
    (qIf (tAnd2 (tst (eBin oEq (eVar 6) (eC (.str "must")))) (tAnd2 (tst (eBin oIn (eVar 8) (eVar 3))) (tst (eBin oNotIn (eVar 7) (eVar 3)))))
    (qSet 4 (eBin oSub (eVar 4) (eVar 9)))
    qNx))
theorem sold_inner {u : Int} {rs : List Rg} {s : List Str} {T : Sto} (hb : BkOk u rs) (b sd td o5 o6 o7 o8 o9 : Option D) :
    ∃ p5 p6 p7 p8 p9, forL (gT [(gN 5), (gN 6), (gN 7), (gN 8), (gN 9)]) soldI [] (rs.map encR) [b, sd, td, some (encS s), some (.int 0), o5, o6, o7, o8, o9] T = some (.nx, [b, sd, td, some (encS s), some (.int (soldS rs s)), p5, p6, p7, p8, p9], T) := by
  have key : ∃ Γ' S', forL (gT [(gN 5), (gN 6), (gN 7), (gN 8), (gN 9)]) soldI [] (rs.map encR) [b, sd, td, some (encS s), some (.int 0), o5, o6, o7, o8, o9] T = some (.nx, Γ', S') ∧
      (S' = T ∧ ∃ p5 p6 p7 p8 p9, Γ' = [b, sd, td, some (encS s), some (.int (sm (soldR s) (rs.take (rs.map encR).length))), p5, p6, p7, p8, p9]) := by
    refine forL_inv (S := T) (rs.map encR) (fun i Γ T' => T' = T ∧ ∃ p5 p6 p7 p8 p9, Γ = [b, sd, td, some (encS s), some (.int (sm (soldR s) (rs.take i))), p5, p6, p7, p8, p9]) (fun i Γ T _ _ => lkd_nil T) (fun i d Γ T hd h' => ?_) ⟨rfl, _, _, _, _, _, rfl⟩
    obtain ⟨rfl, p5, p6, p7, p8, p9, rfl⟩ := h'
    rw [List.getElem?_map] at hd
    obtain ⟨r, hr, rfl⟩ := map_some hd
    have ok := hb.all r (mem_of_get hr)
    rw [sm_take _ hr]
    refine ⟨_, rfl, [b, sd, td, some (encS s), some (.int (sm (soldR s) (rs.take i) + soldR s r)), some (.str r.h), some (.str r.k), some (.str r.a), some (.str r.b), some (.int r.n)], T, ?_, rfl, _, _, _, _, _, rfl⟩
    by_cases ha : r.a ∈ s <;> by_cases hc : r.b ∈ s
    · have e : soldR s r = 0 := by simp [soldR, ha, hc]
      rw [e, Int.add_zero]
      refine st_iF (te_a (te_s (ev_b (ev_v rfl) (ev_v rfl) (in_T ha _))) (te_s (ev_b (ev_v rfl) (ev_v rfl) (nin_F hc _)))) ?_
      by_cases hk : r.k = must
      · exact st_iF (te_a (te_s (ev_b (ev_v rfl) ev_c (must_T hk _))) (te_a (te_s (ev_b (ev_v rfl) (ev_v rfl) (in_T hc _))) (te_s (ev_b (ev_v rfl) (ev_v rfl) (nin_F ha _))))) st_n
      · exact st_iF (te_aF (te_s (ev_b (ev_v rfl) ev_c (must_F ok.sk hk _)))) st_n
    · have e : soldR s r = r.n := by simp [soldR, ha, hc]
      rw [e]
      exact st_iT (te_a (te_s (ev_b (ev_v rfl) (ev_v rfl) (in_T ha _))) (te_s (ev_b (ev_v rfl) (ev_v rfl) (nin_T hc _)))) (st_s (ev_b (ev_v rfl) (ev_v rfl) rfl))
    · refine st_iF (te_aF (te_s (ev_b (ev_v rfl) (ev_v rfl) (in_F ha _)))) ?_
      by_cases hk : r.k = must
      · have e : soldR s r = - r.n := by simp [soldR, ha, hc, hk]
        rw [e]
        exact st_iT (te_a (te_s (ev_b (ev_v rfl) ev_c (must_T hk _))) (te_a (te_s (ev_b (ev_v rfl) (ev_v rfl) (in_T hc _))) (te_s (ev_b (ev_v rfl) (ev_v rfl) (nin_T ha _))))) (st_s (ev_b (ev_v rfl) (ev_v rfl) rfl))
      · have e : soldR s r = 0 := by simp [soldR, ha, hc, hk]
        rw [e, Int.add_zero]
        exact st_iF (te_aF (te_s (ev_b (ev_v rfl) ev_c (must_F ok.sk hk _)))) st_n
    · have e : soldR s r = 0 := by simp [soldR, ha, hc]
      rw [e, Int.add_zero]
      refine st_iF (te_aF (te_s (ev_b (ev_v rfl) (ev_v rfl) (in_F ha _)))) ?_
      by_cases hk : r.k = must
      · exact st_iF (te_a (te_s (ev_b (ev_v rfl) ev_c (must_T hk _))) (te_aF (te_s (ev_b (ev_v rfl) (ev_v rfl) (in_F hc _))))) st_n
      · exact st_iF (te_aF (te_s (ev_b (ev_v rfl) ev_c (must_F ok.sk hk _)))) st_n
  obtain ⟨Γ', S', e, rfl, a, b, c, d, f, rfl⟩ := key
  rw [List.length_map, List.take_length] at e
  exact ⟨_, _, _, _, _, e⟩
def intsC (l : List Int) : Cell := .lst (l.map D.int)
theorem intsC_flat (l : List Int) : (intsC l).flat = true := pures_of fun d hd => by
  obtain ⟨i, _, e⟩ := List.mem_map.mp hd
  rw [← e, D.pure]
def sidesC (l : List (List Str)) : Cell := .lst (l.map encS)
theorem encS_pure (s : List Str) : (encS s).pure = true := by
  rw [encS, D.pure]
  exact pures_of fun d hd => by
    obtain ⟨i, _, e⟩ := List.mem_map.mp hd
    rw [← e, D.pure]
theorem sidesC_flat (l : List (List Str)) : (sidesC l).flat = true := pures_of fun d hd => by
  obtain ⟨s, _, e⟩ := List.mem_map.mp hd
  rw [← e]
  exact encS_pure s
theorem law_sold {u : Int} {rs : List Rg} {sides : List (List Str)} {S : Sto} {m : Nat} (hf : Flat S) (hb : BkOk u rs) (hm : S[m]? = some (sidesC sides)) (hl : sides.length ≤ 1000) :
    F__law_sold [encB u rs, .loc m] S = some (.loc S.length, S ++ [intsC (sides.map (soldS rs))]) := by
  have hlt := lt_get hm
  have key : ∃ Γ' S', forL (gN 3) (qSeq (qSet 4 (eC (.int 0))) (qSeq (qFor (iVal (eBin oIx (eVar 0) (eC (.int 1)))) (gT [(gN 5), (gN 6), (gN 7), (gN 8), (gN 9)]) soldI) (qDrop (eMeth "list" mAppend (eVar 2) [(eVar 4)])))) [(m, sidesC sides)] (sides.map encS)
      [some (encB u rs), some (.loc m), some (.loc S.length), none, none, none, none, none, none, none] (S ++ [intsC []]) = some (.nx, Γ', S') ∧
      (S' = S ++ [intsC ((sides.map (soldS rs)).take (sides.map encS).length)] ∧ ∃ a b c d e f g, Γ' = [some (encB u rs), some (.loc m), some (.loc S.length), a, b, c, d, e, f, g]) := by
    refine forL_inv (S := S ++ [intsC []]) (sides.map encS) (fun i Γ T => T = S ++ [intsC ((sides.map (soldS rs)).take i)] ∧ ∃ a b c d e f g, Γ = [some (encB u rs), some (.loc m), some (.loc S.length), a, b, c, d, e, f, g]) (fun i Γ T _ h => ?_) (fun i d Γ T hd h' => ?_) ⟨by simp, _, _, _, _, _, _, _, rfl⟩
    · rw [h.1]
      exact lkd_one (get_app _ hm)
    · obtain ⟨rfl, a, b, c, d', e, f, g, rfl⟩ := h'
      rw [List.getElem?_map] at hd
      obtain ⟨s, hs, rfl⟩ := map_some hd
      have hil := (List.getElem?_eq_some_iff.mp hs).1
      obtain ⟨p5, p6, p7, p8, p9, e1⟩ := sold_inner (s := s) (T := S ++ [intsC ((sides.map (soldS rs)).take i)]) hb (some (encB u rs)) (some (.loc m)) (some (.loc S.length)) c d' e f g
      refine ⟨_, rfl, _, S ++ [intsC ((sides.map (soldS rs)).take (i + 1))], st_q (st_s ev_c) (st_q (st_f (it_v (ev_b (ev_v rfl) ev_c rfl)) e1) (st_d (d := .non) (ev_m (ev_v rfl) (ty_l (get_end S [] _)) (ar_1 (ev_v rfl) ar_0) ?_))), rfl, _, _, _, _, _, _, _, rfl⟩
      have ee : intsC ((sides.map (soldS rs)).take (i + 1)) = .lst (((sides.map (soldS rs)).take i).map D.int ++ [.int (soldS rs s)]) := by
        rw [List.take_succ, List.getElem?_map, hs, intsC]
        simp
      exact app_end (by rw [line, List.length_map, List.length_take]; omega) ee.symm
  obtain ⟨Γ', S', e, rfl, a, b, c, d, f, g, h, rfl⟩ := key
  rw [List.length_map, show sides.length = (sides.map (soldS rs)).length by simp, List.take_length] at e
  refine run_t (S1 := S ++ [intsC (sides.map (soldS rs))]) rfl ?_ (fin2_loc (j := 0) (c := intsC (sides.map (soldS rs))) hf rfl rfl (intsC_flat _))
  show Rt m__law_sold [some (encB u rs), some (.loc m), none, none, none, none, none, none, none, none] S _ _
  exact rt_q (st_s (ev_l ar_0)) (rt_q (st_f (it_l (ev_v rfl) (get_app _ hm)) e) (rt_r (ev_v rfl)))
end K84

namespace K84
open PySem L2 Dl
/-- a comprehension over encoded things -/
theorem lc_typed {α : Type} {it : FI} {g : FG} {ts : FT} {el : FE} {vs : List Nat} {Γ : Dl.Ctx} {S S1 : Sto} {lk : Lk} (xs : List α) (enc : α → D) (f : α → Option D) (h1 : it Γ S = some ((xs.map enc, lk), S1)) (hlk : Lkd lk S1) (hz : xs.length < sizeLine)
    (h : ∀ x ∈ xs, ∀ acc, (∀ y ∈ acc, ∃ x ∈ xs, f x = some y) → ∃ Γ1, g (enc x) (wipeD Γ vs) (S1 ++ [.lst acc]) = some Γ1 ∧ ((f x = none ∧ ts Γ1 (S1 ++ [.lst acc]) = some (false, S1 ++ [.lst acc])) ∨ (∃ y, f x = some y ∧ ts Γ1 (S1 ++ [.lst acc]) = some (true, S1 ++ [.lst acc]) ∧ el Γ1 (S1 ++ [.lst acc]) = some (y, S1 ++ [.lst acc])))) :
    eLc it g ts el vs Γ S = some (.loc S1.length, S1 ++ [.lst (xs.filterMap f)]) := by
  have key : ∀ (r : List α) (acc : List D), (∀ x ∈ r, x ∈ xs) → (∀ y ∈ acc, ∃ x ∈ xs, f x = some y) → acc.length + r.length < sizeLine + 0 → lcL g ts el vs S1.length lk (r.map enc) Γ (S1 ++ [.lst acc]) = some (S1 ++ [.lst (acc ++ r.filterMap f)]) := by
    intro r
    induction r with
    | nil =>
      intro acc _ _ _
      have : Lkd lk (S1 ++ [.lst acc]) := fun p hp => get_app _ (hlk p hp)
      rw [List.map_nil, lcL, if_pos this]
      simp
    | cons d r ih =>
      intro acc hm ha hz'
      have hL : Lkd lk (S1 ++ [.lst acc]) := fun p hp => get_app _ (hlk p hp)
      obtain ⟨Γ1, e1, h2⟩ := h d (hm d (by simp)) acc ha
      rw [List.map_cons, lcL, if_pos hL, e1, Option.bind_some]
      rcases h2 with ⟨e2, e3⟩ | ⟨y, e2, e3, e4⟩
      · rw [e3, Option.bind_some, if_neg Bool.false_ne_true, ih acc (fun d hd => hm d (by simp [hd])) ha (by simp only [List.length_cons] at hz'; omega), List.filterMap_cons, e2]
      · rw [e3, Option.bind_some, if_pos rfl, e4, Option.bind_some]
        simp only [get_end, set_end]
        rw [if_pos (by simp only [List.length_cons] at hz'; omega), ih (acc ++ [y]) (fun d hd => hm d (by simp [hd])) (fun z hz => by
          rcases List.mem_append.mp hz with q | q
          · exact ha z q
          · rw [List.mem_singleton.mp q]
            exact ⟨d, hm d (by simp), e2⟩) (by simp only [List.length_cons, List.length_append, List.length_nil] at hz' ⊢; omega), List.filterMap_cons, e2]
        simp
  unfold eLc
  rw [h1, Option.bind_some]
  simp only
  rw [key xs [] (fun _ h => h) (fun y hy => by simp at hy) (by simpa using hz)]
  rfl
/-! ### sides -/
def sideM (ps : List Str) (m : Nat) : List Str := ps.zipIdx.filterMap fun q => if m.testBit q.2 = true then some q.1 else none
theorem sideM_snoc (ps : List Str) (p : Str) (m : Nat) : sideM (ps ++ [p]) m = sideM ps m ++ (if m.testBit ps.length = true then [p] else []) := by
  unfold sideM
  rw [List.zipIdx_append, List.filterMap_append]
  congr 1
  by_cases h : m.testBit ps.length = true
  · simp [h]
  · simp [h]
theorem fm_congr {α β : Type} {f g : α → Option β} : ∀ {l : List α}, (∀ x ∈ l, f x = g x) → l.filterMap f = l.filterMap g
  | [], _ => rfl
  | x :: l, h => by rw [List.filterMap_cons, List.filterMap_cons, h x (by simp), fm_congr fun y hy => h y (by simp [hy])]
theorem sideM_low (ps : List Str) : ∀ (m k : Nat), ps.length ≤ k → sideM ps (2 ^ k + m) = sideM ps m := by
  intro m k hk
  unfold sideM
  refine fm_congr fun q hq => ?_
  have : q.2 < ps.length := by
    obtain ⟨_, h2, _⟩ := List.mem_zipIdx hq
    omega
  rw [Nat.testBit_two_pow_add_gt (by omega)]
/-- the rows that the law builds -/
def rowsF (ps : List Str) : List (List Str) := ps.foldl (fun rows p => rows ++ rows.map (· ++ [p])) [[]]
theorem rowsF_snoc (ps : List Str) (p : Str) : rowsF (ps ++ [p]) = rowsF ps ++ (rowsF ps).map (· ++ [p]) := by
  unfold rowsF
  rw [List.foldl_append]
  rfl
/-- lists from their ends -/
theorem snoc_ind {α : Type} {P : List α → Prop} (h0 : P []) (h1 : ∀ l x, P l → P (l ++ [x])) : ∀ l, P l := fun l => by
  have : ∀ r : List α, P r.reverse := fun r => by
    induction r with
    | nil => exact h0
    | cons x r ih => rw [List.reverse_cons]; exact h1 _ _ ih
  have h := this l.reverse
  rwa [List.reverse_reverse] at h
theorem rows_masks (ps : List Str) : rowsF ps = (List.range (2 ^ ps.length)).map (sideM ps) := by
  induction ps using snoc_ind with
  | h0 => rfl
  | h1 ps p ih =>
    rw [rowsF_snoc, ih, List.length_append, List.length_singleton, Nat.pow_succ, Nat.mul_two, List.range_add, List.map_append, List.map_map, List.map_map]
    congr 1
    · refine List.map_congr_left fun m hm => ?_
      rw [sideM_snoc, if_neg (by rw [Nat.testBit_lt_two_pow (List.mem_range.mp hm)]; exact Bool.false_ne_true), List.append_nil]
    · refine List.map_congr_left fun m hm => ?_
      show sideM ps m ++ [p] = sideM (ps ++ [p]) (2 ^ ps.length + m)
      rw [sideM_snoc, sideM_low ps m _ (Nat.le_refl _), Nat.testBit_two_pow_add_eq, Nat.testBit_lt_two_pow (List.mem_range.mp hm)]
      rfl
theorem rows_shape (ps : List Str) (h : ps ≠ []) : ∃ mid, rowsF ps = [] :: mid ++ [ps] ∧ ∀ r ∈ mid, 0 < r.length ∧ r.length < ps.length := by
  induction ps using snoc_ind with
  | h0 => exact absurd rfl h
  | h1 ps p ih =>
    by_cases h' : ps = []
    · subst h'
      exact ⟨[], rfl, fun r hr => by simp at hr⟩
    · obtain ⟨mid, e, hm⟩ := ih h'
      have hp : 0 < ps.length := List.length_pos_iff.mpr h'
      refine ⟨mid ++ [ps] ++ [p] :: mid.map (· ++ [p]), ?_, fun r hr => ?_⟩
      · rw [rowsF_snoc, e]
        simp
      · rw [List.length_append, List.length_singleton]
        rcases List.mem_append.mp hr with q | q
        · rcases List.mem_append.mp q with q | q
          · have := hm r q; omega
          · rw [List.mem_singleton.mp q]; omega
        · rcases List.mem_cons.mp q with q | q
          · rw [q]; simp; omega
          · obtain ⟨r', q1, q2⟩ := List.mem_map.mp q
            have := hm r' q1
            rw [← q2, List.length_append, List.length_singleton]
            omega
def sidesRaw (ps : List Str) : List (List Str) := (List.range' 1 (2 ^ ps.length - 2)).map (sideM ps)
theorem raw_mid (ps : List Str) (h : ps ≠ []) : rowsF ps = [] :: sidesRaw ps ++ [ps] ∧ ∀ r ∈ sidesRaw ps, 0 < r.length ∧ r.length < ps.length := by
  obtain ⟨mid, e, hm⟩ := rows_shape ps h
  have hp : 0 < ps.length := List.length_pos_iff.mpr h
  have h2 : 2 ≤ 2 ^ ps.length := by
    have : 2 ^ 1 ≤ 2 ^ ps.length := Nat.pow_le_pow_right (by decide) hp
    omega
  have er : List.range (2 ^ ps.length) = 0 :: List.range' 1 (2 ^ ps.length - 2) ++ [2 ^ ps.length - 1] := by
    rw [List.range_eq_range']
    obtain ⟨k, hk⟩ : ∃ k, 2 ^ ps.length = k + 2 := ⟨2 ^ ps.length - 2, by omega⟩
    rw [hk, List.range'_succ]
    show 0 :: List.range' 1 (k + 1) = _
    rw [List.range'_1_concat]
    simp
    omega
  have e2 := rows_masks ps
  rw [er, e] at e2
  simp only [List.map_cons, List.map_append, List.cons_append, List.map_nil] at e2
  obtain ⟨e3, e4⟩ := List.cons.inj e2
  have e5 := congrArg List.dropLast e4
  rw [List.dropLast_concat, List.dropLast_concat] at e5
  have : mid = sidesRaw ps := e5
  rw [← this]
  exact ⟨e, hm⟩
theorem rows_filter (ps : List Str) (h : ps ≠ []) : (rowsF ps).filter (fun r => decide (0 < r.length) && decide (r.length < ps.length)) = sidesRaw ps := by
  obtain ⟨e, hm⟩ := raw_mid ps h
  rw [e, List.filter_append, List.filter_cons]
  simp only [List.length_nil, Nat.lt_irrefl, decide_false, Bool.false_and, Bool.false_eq_true, if_false]
  rw [List.filter_eq_self.mpr fun r hr => by have := hm r hr; simp [this]]
  simp
/-- the order in which sorted puts sides -/
def sortS (l : List (List Str)) : List (List Str) := l.mergeSort fun a b => PySem.W.dataLe false D.py (encS a) (encS b)
theorem sortD_S (l : List (List Str)) : sortD (l.map encS) = (sortS l).map encS := (List.map_mergeSort (f := encS) (s := PySem.W.dataLe false D.py) fun a _ b _ => rfl).symm
theorem alike_strs : ∀ s t : List Str, PySem.W.alikeAll (D.pys (s.map D.str)) (D.pys (t.map D.str)) = true
  | [], t => by cases t <;> rfl
  | a :: s, [] => rfl
  | a :: s, b :: t => by
    have := alike_strs s t
    simp [D.pys, D.py, PySem.W.alikeAll, PySem.W.alike, this]
theorem depth_strs : ∀ s : List Str, PyData.depthAll (D.pys (s.map D.str)) = 0
  | [] => rfl
  | a :: s => by simp [D.pys, D.py, PyData.depthAll, PyData.depth, depth_strs s]
theorem sortOk_S (l : List (List Str)) (h : ∀ s ∈ l, s ≠ []) (hl : l.length ≤ 1000) : SortOk (l.map encS) where
  pure := List.all_eq_true.mpr fun d hd => by
    obtain ⟨s, _, e⟩ := List.mem_map.mp hd
    rw [← e]
    exact encS_pure s
  al := fun d hd d' hd' => by
    rw [List.map_map] at hd hd'
    obtain ⟨s, _, e⟩ := List.mem_map.mp hd
    obtain ⟨t, _, e'⟩ := List.mem_map.mp hd'
    rw [← e, ← e']
    simp only [Function.comp, encS, D.py, PySem.W.alike]
    exact alike_strs s t
  so := .inl fun d hd => by
    rw [List.map_map] at hd
    obtain ⟨s, hs, e⟩ := List.mem_map.mp hd
    rw [← e]
    cases s with
    | nil => exact absurd rfl (h [] hs)
    | cons a s => exact ⟨_, _, rfl⟩
  few := by rw [List.length_map, line]; omega
  deep := fun d hd => by
    obtain ⟨s, _, e⟩ := List.mem_map.mp hd
    rw [← e]
    simp [encS, D.py, PyData.depth, depth_strs s]
/-- all sides of the places, in order -/
def sides (ps : List Str) : List (List Str) := sortS (sidesRaw ps)
theorem sorted_S {S : Sto} {n : Nat} {l : List (List Str)} (hn : S[n]? = some (sidesC l)) (h : ∀ s ∈ l, s ≠ []) (hl : l.length ≤ 1000) : bSorted [.loc n] S = some (.loc S.length, S ++ [sidesC (sortS l)]) := by
  have e : iterD S (.loc n) = some (l.map encS) := by simp only [iterD, hn, sidesC]
  rw [bSorted, e]
  simp only
  rw [if_pos (sortOk_S l h hl), sortD_S]
  rfl
end K84

namespace K84
open PySem L2 Dl
theorem fm_filter {α β : Type} (p : α → Bool) (f : α → β) : ∀ l : List α, (l.filterMap fun r => if p r = true then some (f r) else none) = (l.filter p).map f
  | [] => rfl
  | r :: l => by
    have ih := fm_filter p f l
    rw [List.filterMap_cons, List.filter_cons, ih]
    by_cases h : p r = true
    · rw [if_pos h, if_pos h]; rfl
    · rw [if_neg h, if_neg h]
theorem and_bit (m i : Nat) : dTru S (.int (Builtin.bitAnd ((m : Int) / 2 ^ i) 1)) = some (m.testBit i) := by
  have e : ((m : Int) / 2 ^ i) = ((m / 2 ^ i : Nat) : Int) := by
    rw [Int.natCast_ediv, Int.natCast_pow]
    rfl
  have e2 : Builtin.bitAnd ((m / 2 ^ i : Nat) : Int) 1 = (((m / 2 ^ i) &&& 1 : Nat) : Int) := by
    unfold Builtin.bitAnd
    rw [decide_eq_true (Int.natCast_nonneg _ : (0 : Int) ≤ ((m / 2 ^ i : Nat) : Int)), show decide ((0 : Int) ≤ 1) = true by decide]
    rfl
  rw [e, e2, dTru]
  congr 1
  rw [Nat.testBit, Nat.shiftRight_eq_div_pow, Nat.and_comm]
  rcases Nat.eq_zero_or_pos (1 &&& m / 2 ^ i) with h | h
  · rw [h]; rfl
  · rw [bne_iff_ne.mpr (by omega : (1 &&& m / 2 ^ i) ≠ 0), bne_iff_ne.mpr]
    omega
theorem side_of_mask {ps : List Str} {m : Nat} {S : Sto} (hf : Flat S) (hl : ps.length ≤ 1000) : F_side_of_mask [encS ps, .int m] S = some (encS (sideM ps m), S) := by
  refine run_t (S1 := S) rfl ?_ (fin2_same _ rfl)
  show Rt m_side_of_mask [some (encS ps), some (.int m), none, none] S _ _
  have e := lc_typed (it := iEnum [eVar 0]) (g := gT [gN 2, gN 3]) (ts := tru (eBin oAndB (eBin oShr (eVar 1) (eVar 2)) (eC (.int 1)))) (el := eVar 3) (vs := [2, 3]) (Γ := [some (encS ps), some (.int m), none, none]) (S := S) (S1 := S) (lk := [])
    ps.zipIdx (fun q => D.tup [.int (q.2 : Nat), .str q.1]) (fun q => if m.testBit q.2 = true then some (.str q.1) else none) (by
      have : enD (ps.map D.str) = ps.zipIdx.map fun q => D.tup [.int (q.2 : Nat), .str q.1] := by
        unfold enD
        refine List.ext_getElem? fun i => ?_
        rw [List.getElem?_mapIdx, List.getElem?_map, List.getElem?_map, List.getElem?_zipIdx]
        cases ps[i]? with
        | none => rfl
        | some x => simp
      rw [← this]
      rfl) (lkd_nil _) (by rw [List.length_zipIdx, line]; omega) (fun q hq acc _ => by
      refine ⟨_, rfl, ?_⟩
      have ht : ∀ T, (tru (eBin oAndB (eBin oShr (eVar 1) (eVar 2)) (eC (.int 1)))) [some (encS ps), some (.int m), some (.int (q.2 : Nat)), some (.str q.1)] T = some (m.testBit q.2, T) := fun T =>
        te_t (ev_b (ev_b (ev_v rfl) (ev_v rfl) (by rw [oShr, if_pos (by omega)])) ev_c rfl) (by rw [Int.toNat_natCast]; exact and_bit m q.2)
      by_cases hb : m.testBit q.2 = true
      · exact .inr ⟨_, if_pos hb, (ht _).trans (by rw [hb]), ev_v rfl⟩
      · refine .inl ⟨if_neg hb, (ht _).trans ?_⟩
        rw [Bool.not_eq_true] at hb
        rw [hb])
  have e2 : (ps.zipIdx.filterMap fun q => if m.testBit q.2 = true then some (D.str q.1) else none) = (sideM ps m).map D.str := by
    unfold sideM
    rw [List.map_filterMap]
    refine fm_congr fun q _ => ?_
    by_cases hb : m.testBit q.2 = true
    · simp [hb]
    · simp [hb]
  rw [e2] at e
  refine rt_r (ev_tidy (ev_f (ar_1 e ar_0) (z := encS (sideM ps m)) (S2 := S ++ [.lst ((sideM ps m).map D.str)]) ?_) (fin2_pure _ hf rfl (encS_pure _)))
  simp only [bTup, seqD, get_end]
  rfl
theorem raw_len (ps : List Str) : (sidesRaw ps).length = 2 ^ ps.length - 2 := by simp [sidesRaw]
theorem pow_few {n : Nat} (h : n ≤ 9) : 2 ^ n ≤ 512 := Nat.pow_le_pow_right (by decide) h
theorem raw_ne {ps : List Str} (h : ps ≠ []) : ∀ s ∈ sidesRaw ps, s ≠ [] := fun s hs e => by
  have := ((raw_mid ps h).2 s hs).1
  rw [e] at this
  exact absurd this (by simp)
theorem sides_of {ps : List Str} {S : Sto} (hf : Flat S) (h0 : ps ≠ []) (hl : ps.length ≤ 9) : F_sides_of [encS ps] S = some (.tup ((sides ps).map encS), S) := by
  have hp : 0 < ps.length := List.length_pos_iff.mpr h0
  have h9 := pow_few hl
  have h2 : 2 ≤ 2 ^ ps.length := by
    have : 2 ^ 1 ≤ 2 ^ ps.length := Nat.pow_le_pow_right (by decide) hp
    omega
  refine run_t (S1 := S) rfl ?_ (fin2_same _ rfl)
  show Rt m_sides_of [some (encS ps), none] S _ _
  have hr : rngOf [.int 1, .int ((2 ^ ps.length : Nat) - 1 : Int)] = some ((List.range (2 ^ ps.length - 2)).map fun t => .int ((1 + t : Nat) : Int)) := by
    have a : ((1 : Int) * 2 ^ ps.length) = ((2 ^ ps.length : Nat) : Int) := by rw [Int.one_mul]; exact (Int.natCast_pow 2 _).symm
    rw [rngOf, if_pos (by omega), rgD]
    congr 1
    rw [show (((2 ^ ps.length : Nat) : Int) - 1 - 1).toNat = 2 ^ ps.length - 2 by omega]
    refine List.map_congr_left fun t _ => ?_
    congr 1
    omega
  have e := lc_typed (it := iRng [(eC (.int 1)), (eBin oSub (eBin oShl (eC (.int 1)) (eCall bLen [(eVar 0)])) (eC (.int 1)))]) (g := gN 1) (ts := tYs) (el := eCall F_side_of_mask [(eVar 0), (eVar 1)]) (vs := [1]) (Γ := [some (encS ps), none]) (S := S) (S1 := S) (lk := [])
    (List.range (2 ^ ps.length - 2)) (fun t => D.int ((1 + t : Nat) : Int)) (fun t => some (encS (sideM ps (1 + t)))) (it_r (ar_1 ev_c (ar_1 (ev_b (ev_b ev_c (ev_f (ar_1 (ev_v rfl) ar_0) rfl) (z := .int ((2 ^ ps.length : Nat) : Int)) (S3 := S) (by
        have a : ((1 : Int) * 2 ^ ps.length) = ((2 ^ ps.length : Nat) : Int) := by rw [Int.one_mul]; exact (Int.natCast_pow 2 _).symm
        rw [List.length_map, oShl, if_pos ⟨by omega, by omega, by decide⟩, Int.toNat_natCast, a])) ev_c rfl) ar_0)) hr) (lkd_nil _) (by rw [List.length_range, line]; omega) (fun t ht acc ha => by
      refine ⟨_, rfl, .inr ⟨_, rfl, rfl, ?_⟩⟩
      have hacc : Flat (S ++ [.lst acc]) := hf.app (pures_of fun y hy => by
        obtain ⟨x, _, e⟩ := ha y hy
        cases e
        exact encS_pure _)
      exact ev_f (ar_1 (ev_v rfl) (ar_1 (ev_v rfl) ar_0)) (side_of_mask (ps := ps) (m := 1 + t) hacc (by omega)))
  have e2 : ((List.range (2 ^ ps.length - 2)).filterMap fun t => some (encS (sideM ps (1 + t)))) = (sidesRaw ps).map encS := by
    rw [sidesRaw, List.range'_eq_map_range, List.map_map, List.map_map]
    exact List.filterMap_eq_map (f := fun t => encS (sideM ps (1 + t))) ▸ rfl
  rw [e2] at e
  have hs : bSorted [.loc S.length] (S ++ [sidesC (sidesRaw ps)]) = some (.loc (S.length + 1), S ++ [sidesC (sidesRaw ps)] ++ [sidesC (sides ps)]) := by
    have := sorted_S (S := S ++ [sidesC (sidesRaw ps)]) (n := S.length) (l := sidesRaw ps) (get_end S [] _) (raw_ne h0) (by rw [raw_len]; omega)
    rw [this, List.length_append]
    rfl
  have h5 : tidy2 (eCall bSorted [(eLc (iRng [(eC (.int 1)), (eBin oSub (eBin oShl (eC (.int 1)) (eCall bLen [(eVar 0)])) (eC (.int 1)))]) (gN 1) tYs (eCall F_side_of_mask [(eVar 0), (eVar 1)]) [1])]) [some (encS ps), none] S = some (.loc S.length, S ++ [sidesC (sides ps)]) := by
    refine ev_tidy (ev_f (ar_1 e ar_0) hs) ?_
    rw [List.append_assoc]
    exact fin2_loc (j := 1) hf rfl rfl (sidesC_flat _)
  refine rt_r (ev_tidy (ev_f (ar_1 h5 ar_0) (z := .tup ((sides ps).map encS)) (S2 := S ++ [sidesC (sides ps)]) ?_) (fin2_pure _ hf rfl ?_))
  · simp only [bTup, seqD, sidesC, get_end]
    rfl
  · have := sidesC_flat (sides ps)
    rw [D.pure]
    exact this
/-- the law's own list of sides -/
theorem all_sides {ps : List Str} {S : Sto} (hf : Flat S) (h0 : ps ≠ []) (hl : ps.length ≤ 9) : F__law_all_sides [encS ps] S = some (.loc S.length, S ++ [sidesC (sides ps)]) := by
  have h9 := pow_few hl
  have key : ∃ Γ' S', forL (gN 2) (qSet 1 (tidy2 (eBin oAdd (eVar 1) (eLc (iVal (eVar 1)) (gN 3) tYs (eBin oAdd (eVar 3) (eTup [(eVar 2)])) [3])))) [] (ps.map D.str) [some (encS ps), some (.loc S.length), none, none] (S ++ [sidesC (rowsF [])]) = some (.nx, Γ', S') ∧
      (∃ G, Flat G ∧ S' = S ++ G ++ [sidesC (rowsF (ps.take (ps.map D.str).length))] ∧ ∃ a b, Γ' = [some (encS ps), some (.loc (S.length + G.length)), a, b]) := by
    refine forL_inv (S := S ++ [sidesC (rowsF [])]) (ps.map D.str) (fun i Γ T => ∃ G, Flat G ∧ T = S ++ G ++ [sidesC (rowsF (ps.take i))] ∧ ∃ a b, Γ = [some (encS ps), some (.loc (S.length + G.length)), a, b]) (fun i Γ T _ _ => lkd_nil T) (fun i d Γ T hd h' => ?_) ⟨[], fun c hc => by simp at hc, by simp, _, _, rfl⟩
    obtain ⟨G, hG, rfl, a, b, rfl⟩ := h'
    rw [List.getElem?_map] at hd
    obtain ⟨p, hp, rfl⟩ := map_some hd
    have hil := (List.getElem?_eq_some_iff.mp hp).1
    have hSG : Flat (S ++ G) := fun c hc => (List.mem_append.mp hc).elim (hf c) (hG c)
    have hlen : (S ++ G).length = S.length + G.length := List.length_append
    have hrl : (rowsF (ps.take i)).length ≤ 512 := by
      rw [rows_masks, List.length_map, List.length_range, List.length_take]
      exact pow_few (by omega)
    have hst : rowsF (ps.take (i + 1)) = rowsF (ps.take i) ++ (rowsF (ps.take i)).map (· ++ [p]) := by
      rw [List.take_succ, hp]
      exact rowsF_snoc _ _
    have hT : ((S ++ G) ++ [sidesC (rowsF (ps.take i))])[S.length + G.length]? = some (sidesC (rowsF (ps.take i))) := by
      rw [← hlen]
      exact get_end _ [] _
    have e := lc_typed (it := iVal (eVar 1)) (g := gN 3) (ts := tYs) (el := eBin oAdd (eVar 3) (eTup [(eVar 2)])) (vs := [3]) (Γ := [some (encS ps), some (.loc (S.length + G.length)), some (.str p), b]) (S := (S ++ G) ++ [sidesC (rowsF (ps.take i))]) (S1 := (S ++ G) ++ [sidesC (rowsF (ps.take i))])
      (rowsF (ps.take i)) encS (fun r => some (encS (r ++ [p]))) (it_l (ev_v rfl) hT) (lkd_one hT) (by rw [line]; omega) (fun r hr acc _ => ⟨_, rfl, .inr ⟨_, rfl, rfl, by
        refine (ev_b (ev_v rfl) (ev_t (ar_1 (ev_v rfl) ar_0)) (o_cat ?_)).trans ?_
        · rw [rows_masks] at hr
          obtain ⟨m, _, rfl⟩ := List.mem_map.mp hr
          have h1 : (sideM (ps.take i) m).length ≤ (ps.take i).zipIdx.length := List.length_filterMap_le _ _
          rw [List.length_zipIdx, List.length_take] at h1
          simp only [List.length_map, List.length_singleton]
          omega
        · simp [encS]⟩⟩)
    have e2 : ((rowsF (ps.take i)).filterMap fun r => some (encS (r ++ [p]))) = ((rowsF (ps.take i)).map (· ++ [p])).map encS := by
      rw [List.map_map]
      exact List.filterMap_eq_map (f := fun r => encS (r ++ [p])) ▸ rfl
    rw [e2] at e
    refine ⟨_, rfl, [some (encS ps), some (.loc (S.length + (G ++ [sidesC (rowsF (ps.take i))]).length)), some (.str p), b], S ++ (G ++ [sidesC (rowsF (ps.take i))]) ++ [sidesC (rowsF (ps.take (i + 1)))], ?_, G ++ [sidesC (rowsF (ps.take i))], hG.app (sidesC_flat _), rfl, _, _, rfl⟩
    have hb : ((S ++ G) ++ [sidesC (rowsF (ps.take i))]).length = S.length + (G ++ [sidesC (rowsF (ps.take i))]).length := by simp only [List.length_append]; omega
    refine st_s (n := 1) (d := .loc (S.length + (G ++ [sidesC (rowsF (ps.take i))]).length)) (ev_tidy (ev_b (ev_v rfl) e (z := .loc (((S ++ G) ++ [sidesC (rowsF (ps.take i))]).length + 1)) (S3 := ((S ++ G) ++ [sidesC (rowsF (ps.take i))]) ++ [sidesC ((rowsF (ps.take i)).map (· ++ [p])), sidesC (rowsF (ps.take (i + 1)))]) ?_) ?_)
    · have g1 := get_app [sidesC ((rowsF (ps.take i)).map (· ++ [p]))] hT
      have g2 := get_end ((S ++ G) ++ [sidesC (rowsF (ps.take i))]) [] (sidesC ((rowsF (ps.take i)).map (· ++ [p])))
      rw [oAdd]
      simp only [sidesC] at g1 g2 ⊢
      rw [g1, g2]
      simp only
      rw [if_pos (by simp only [List.length_map]; rw [line]; omega), ← List.map_append, ← hst, List.length_append, List.length_singleton]
      simp only [List.append_assoc, List.singleton_append, List.cons_append, List.nil_append]
    · rw [fin2_loc (j := 1) (hSG.app (sidesC_flat _)) rfl rfl (sidesC_flat _), hb, List.append_assoc S G]
  obtain ⟨Γ', S', e, G, hG, rfl, a, b, rfl⟩ := key
  rw [List.length_map, List.take_length] at e
  have hSG : Flat (S ++ G) := fun c hc => (List.mem_append.mp hc).elim (hf c) (hG c)
  have hlen : (S ++ G).length = S.length + G.length := List.length_append
  have hrl : (rowsF ps).length ≤ 512 := by
    rw [rows_masks, List.length_map, List.length_range]
    exact h9
  have hT : ((S ++ G) ++ [sidesC (rowsF ps)])[S.length + G.length]? = some (sidesC (rowsF ps)) := by
    rw [← hlen]
    exact get_end _ [] _
  have e1 := lc_typed (it := iVal (eVar 1)) (g := gN 3) (ts := tst (eChain oLt oLt (eC (.int 0)) (eCall bLen [(eVar 3)]) (eCall bLen [(eVar 0)]))) (el := eVar 3) (vs := [3]) (Γ := [some (encS ps), some (.loc (S.length + G.length)), a, b]) (S := (S ++ G) ++ [sidesC (rowsF ps)]) (S1 := (S ++ G) ++ [sidesC (rowsF ps)])
    (rowsF ps) encS (fun r => if (decide (0 < r.length) && decide (r.length < ps.length)) = true then some (encS r) else none) (it_l (ev_v rfl) hT) (lkd_one hT) (by rw [line]; omega) (fun r hr acc _ => by
      refine ⟨_, rfl, ?_⟩
      have ht : ∀ T, (tst (eChain oLt oLt (eC (.int 0)) (eCall bLen [(eVar 3)]) (eCall bLen [(eVar 0)]))) [some (encS ps), some (.loc (S.length + G.length)), a, some (encS r)] T = some (decide (0 < r.length) && decide (r.length < ps.length), T) := fun T => by
        have z1 : (eCall bLen [(eVar 3)]) [some (encS ps), some (.loc (S.length + G.length)), a, some (encS r)] T = some (.int (r.length : Nat), T) := by
          refine (ev_f (ar_1 (ev_v rfl) ar_0) rfl).trans ?_
          simp
        have z2 : (eCall bLen [(eVar 0)]) [some (encS ps), some (.loc (S.length + G.length)), a, some (encS r)] T = some (.int (ps.length : Nat), T) := by
          refine (ev_f (ar_1 (ev_v rfl) ar_0) rfl).trans ?_
          simp
        by_cases h : 0 < r.length
        · rw [decide_eq_true h, Bool.true_and]
          refine te_s (ch_T ev_c z1 (by rw [oLt, decide_eq_true (by omega)]) z2 ?_)
          rw [oLt]
          congr 3
          exact decide_eq_decide.mpr (by omega)
        · rw [decide_eq_false h, Bool.false_and]
          exact te_s (ch_F ev_c z1 (by rw [oLt, decide_eq_false (by omega)]))
      by_cases hb : (decide (0 < r.length) && decide (r.length < ps.length)) = true
      · exact .inr ⟨_, if_pos hb, (ht _).trans (by rw [hb]), ev_v rfl⟩
      · refine .inl ⟨if_neg hb, (ht _).trans ?_⟩
        rw [Bool.not_eq_true] at hb
        rw [hb])
  have e2 : ((rowsF ps).filterMap fun r => if (decide (0 < r.length) && decide (r.length < ps.length)) = true then some (encS r) else none) = (sidesRaw ps).map encS := by
    rw [← rows_filter ps h0]
    exact fm_filter _ _ _
  rw [e2] at e1
  have hs : bSorted [.loc ((S ++ G) ++ [sidesC (rowsF ps)]).length] (((S ++ G) ++ [sidesC (rowsF ps)]) ++ [sidesC (sidesRaw ps)]) = some (.loc (((S ++ G) ++ [sidesC (rowsF ps)]).length + 1), ((S ++ G) ++ [sidesC (rowsF ps)]) ++ [sidesC (sidesRaw ps), sidesC (sides ps)]) := by
    have := sorted_S (S := ((S ++ G) ++ [sidesC (rowsF ps)]) ++ [sidesC (sidesRaw ps)]) (n := ((S ++ G) ++ [sidesC (rowsF ps)]).length) (l := sidesRaw ps) (get_end _ [] _) (raw_ne h0) (by rw [raw_len]; omega)
    rw [this, List.length_append, List.length_singleton]
    simp only [List.append_assoc, List.singleton_append, List.cons_append, List.nil_append]
    rfl
  have hTl : ((S ++ G) ++ [sidesC (rowsF ps)]).length = S.length + (G.length + 1) := by simp only [List.length_append, List.length_singleton]; omega
  refine run_t (S1 := S ++ (G ++ [sidesC (rowsF ps), sidesC (sides ps)])) (d := .loc (S.length + (G.length + 1))) rfl ?_ (fin2_loc (j := G.length + 1) (c := sidesC (sides ps)) hf rfl (by rw [List.getElem?_append_right (by omega), show G.length + 1 - G.length = 1 by omega]; rfl) (sidesC_flat _))
  show Rt m__law_all_sides [some (encS ps), none, none, none] S _ _
  refine rt_q (st_s (ev_l (ar_1 (ev_t ar_0) ar_0))) (rt_q (st_f (it_v (ev_v rfl)) e) (rt_r (ev_tidy (ev_f (ar_1 e1 ar_0) hs) ?_)))
  rw [fin2_loc (j := 1) (hSG.app (sidesC_flat _)) rfl rfl (sidesC_flat _), hTl]
  simp only [List.append_assoc, List.singleton_append, List.cons_append, List.nil_append]
end K84

namespace K84
open PySem L2 Dl
/-- what is sold between two places, in the order in which it was met -/
abbrev Tab := List ((Str × Str) × Int)
def encK (k : Str × Str) : List Key := [.inr k.1, .inr k.2]
theorem encK_inj {k l : Str × Str} (h : encK k = encK l) : k = l := by
  simp only [encK, List.cons.injEq, Sum.inr.injEq, and_true] at h
  exact Prod.ext h.1 h.2
def encE (e : (Str × Str) × Int) : List Key × D := (encK e.1, .int e.2)
def tabC (T : Tab) : Cell := .dt (T.map encE)
def lookT (T : Tab) (k : Str × Str) : Option Int := (T.find? fun e => decide (e.1 = k)).map (·.2)
def putT (T : Tab) (k : Str × Str) (v : Int) : Tab := if (T.any fun e => decide (e.1 = k)) = true then T.map (fun e => if e.1 = k then (e.1, v) else e) else T ++ [(k, v)]
theorem dec_K (k l : Str × Str) : decide (encK k = encK l) = decide (k = l) := decide_eq_decide.mpr ⟨encK_inj, fun e => by rw [e]⟩
theorem val_T (T : Tab) (k : Str × Str) : valD (T.map encE) (encK k) = (lookT T k).map D.int := by
  unfold valD lookT
  rw [List.find?_map]
  have : ((fun kv : List Key × D => decide (kv.1 = encK k)) ∘ encE) = fun e : (Str × Str) × Int => decide (e.1 = k) := by
    funext e
    exact dec_K e.1 k
  rw [this]
  cases T.find? fun e => decide (e.1 = k) <;> rfl
theorem put_T (T : Tab) (k : Str × Str) (v : Int) : putD (T.map encE) (encK k) (.int v) = (putT T k v).map encE := by
  unfold putD putT
  rw [List.any_map]
  have : ((fun kv : List Key × D => decide (kv.1 = encK k)) ∘ encE) = fun e : (Str × Str) × Int => decide (e.1 = k) := by
    funext e
    exact dec_K e.1 k
  rw [this]
  split
  · rw [List.map_map, List.map_map]
    refine List.map_congr_left fun e _ => ?_
    show (if encK e.1 = encK k then (encK e.1, D.int v) else encE e) = encE (if e.1 = k then (e.1, v) else e)
    by_cases h : e.1 = k
    · rw [if_pos (by rw [h]), if_pos h]; rfl
    · rw [if_neg (fun q => h (encK_inj q)), if_neg h]
  · rw [List.map_append]; rfl
/-- x more at k -/
def addT (T : Tab) (k : Str × Str) (x : Int) : Tab := putT T k ((lookT T k).getD 0 + x)
/-- the sum of what φ picks -/
def wt (φ : Str × Str → Bool) (T : Tab) : Int := sm (fun e => if φ e.1 = true then e.2 else 0) T
def keysT (T : Tab) : List (Str × Str) := T.map (·.1)
theorem any_keys (T : Tab) (k : Str × Str) : (T.any fun e => decide (e.1 = k)) = decide (k ∈ keysT T) := by
  induction T with
  | nil => rfl
  | cons e T ih =>
    have e0 : keysT (e :: T) = e.1 :: keysT T := rfl
    rw [List.any_cons, ih, e0]
    by_cases h : e.1 = k
    · simp [h]
    · have : ¬ k = e.1 := fun q => h q.symm
      simp [h, this]
theorem putT_keys (T : Tab) (k : Str × Str) (v : Int) : keysT (putT T k v) = if k ∈ keysT T then keysT T else keysT T ++ [k] := by
  unfold putT
  rw [any_keys]
  by_cases h : k ∈ keysT T
  · rw [if_pos (decide_eq_true h), if_pos h]
    unfold keysT
    rw [List.map_map]
    refine List.map_congr_left fun e _ => ?_
    show (if e.1 = k then (e.1, v) else e).1 = e.1
    split <;> rfl
  · rw [if_neg (by simp [h]), if_neg h, keysT, List.map_append]
    rfl
theorem putT_nd {T : Tab} (h : (keysT T).Nodup) (k : Str × Str) (v : Int) : (keysT (putT T k v)).Nodup := by
  rw [putT_keys]
  split
  · exact h
  · rename_i hk
    rw [List.nodup_append]
    refine ⟨h, by simp, fun a ha b hb e => ?_⟩
    rw [List.mem_singleton.mp hb] at e
    rw [e] at ha
    exact hk ha
theorem map_other {T : Tab} {k : Str × Str} {v : Int} (h : k ∉ keysT T) : T.map (fun e => if e.1 = k then (e.1, v) else e) = T := by
  induction T with
  | nil => rfl
  | cons e T ih =>
    rw [keysT, List.map_cons, List.mem_cons, not_or] at h
    rw [List.map_cons, if_neg (fun q => h.1 q.symm), ih h.2]
theorem look_none {T : Tab} {k : Str × Str} (h : k ∉ keysT T) : lookT T k = none := by
  unfold lookT
  rw [List.find?_eq_none.mpr fun e he => ?_]
  · rfl
  · simp only [decide_eq_true_eq]
    intro q
    exact h (by rw [← q]; exact List.mem_map_of_mem he)
theorem wt_map (φ : Str × Str → Bool) (x : Int) (k : Str × Str) : ∀ {T : Tab}, (keysT T).Nodup → k ∈ keysT T →
    wt φ (T.map (fun e => if e.1 = k then (e.1, (lookT T k).getD 0 + x) else e)) = wt φ T + if φ k = true then x else 0
  | [], _, h => by simp [keysT] at h
  | e :: T, nd, h => by
    rw [keysT, List.map_cons, List.nodup_cons] at nd
    by_cases hk : e.1 = k
    · have hn : k ∉ keysT T := by rw [← hk]; exact nd.1
      have hl : lookT (e :: T) k = some e.2 := by simp [lookT, hk]
      rw [List.map_cons, if_pos hk, map_other hn, hl]
      simp only [wt, sm, Option.getD_some, hk]
      split <;> omega
    · have hm : k ∈ keysT T := by
        rw [keysT, List.map_cons, List.mem_cons] at h
        rcases h with q | q
        · exact absurd q.symm hk
        · exact q
      have hl : lookT (e :: T) k = lookT T k := by simp [lookT, hk]
      have ih := wt_map φ x k nd.2 hm
      rw [List.map_cons, if_neg hk, hl]
      simp only [wt, sm] at ih ⊢
      rw [ih]
      omega
theorem wt_add (φ : Str × Str → Bool) {T : Tab} (nd : (keysT T).Nodup) (k : Str × Str) (x : Int) : wt φ (addT T k x) = wt φ T + if φ k = true then x else 0 := by
  unfold addT putT
  rw [any_keys]
  by_cases h : k ∈ keysT T
  · rw [if_pos (decide_eq_true h)]
    exact wt_map φ x k nd h
  · rw [if_neg (by simp [h]), look_none h]
    simp only [wt, sm_app, sm, Option.getD_none, Int.zero_add, Int.add_zero]
theorem putT_len (T : Tab) (k : Str × Str) (v : Int) : (putT T k v).length ≤ T.length + 1 := by
  unfold putT
  split
  · simp
  · simp
/-- a right is booked -/
def addR (T : Tab) (r : Rg) : Tab := if r.k = must then addT (addT T (r.a, r.b) r.n) (r.b, r.a) (- r.n) else addT T (r.a, r.b) r.n
def tabOf (rs : List Rg) : Tab := rs.foldl addR []
theorem tabOf_take {rs : List Rg} {i : Nat} {r : Rg} (h : rs[i]? = some r) : tabOf (rs.take (i + 1)) = addR (tabOf (rs.take i)) r := by
  rw [List.take_succ, h, tabOf, List.foldl_append]
  rfl
theorem addR_ok {T : Tab} (r : Rg) (nd : (keysT T).Nodup) : (keysT (addR T r)).Nodup ∧ (addR T r).length ≤ T.length + 2 ∧ ∀ s : List Str, wt (fun k => decide (k.1 ∈ s) && !decide (k.2 ∈ s)) (addR T r) = wt (fun k => decide (k.1 ∈ s) && !decide (k.2 ∈ s)) T + soldR s r := by
  have n1 : (keysT (addT T (r.a, r.b) r.n)).Nodup := putT_nd nd _ _
  have l1 : (addT T (r.a, r.b) r.n).length ≤ T.length + 1 := putT_len _ _ _
  unfold addR
  by_cases hk : r.k = must
  · rw [if_pos hk]
    refine ⟨putT_nd n1 _ _, Nat.le_trans (putT_len _ _ _) (by omega), fun s => ?_⟩
    rw [wt_add _ n1, wt_add _ nd]
    unfold soldR
    by_cases ha : r.a ∈ s <;> by_cases hb : r.b ∈ s <;> simp [ha, hb, hk]
  · rw [if_neg hk]
    refine ⟨n1, by omega, fun s => ?_⟩
    rw [wt_add _ nd]
    unfold soldR
    by_cases ha : r.a ∈ s <;> by_cases hb : r.b ∈ s <;> simp [ha, hb, hk]
theorem tab_ok (rs : List Rg) : (keysT (tabOf rs)).Nodup ∧ (tabOf rs).length ≤ 2 * rs.length ∧ ∀ s : List Str, wt (fun k => decide (k.1 ∈ s) && !decide (k.2 ∈ s)) (tabOf rs) = soldS rs s := by
  induction rs using snoc_ind with
  | h0 => exact ⟨List.nodup_nil, Nat.le_refl _, fun s => rfl⟩
  | h1 rs r ih =>
    have e : tabOf (rs ++ [r]) = addR (tabOf rs) r := by unfold tabOf; rw [List.foldl_append]; rfl
    rw [e]
    obtain ⟨a, b, c⟩ := addR_ok r ih.1
    refine ⟨a, by rw [List.length_append, List.length_singleton]; have := ih.2.1; omega, fun s => ?_⟩
    rw [c s, ih.2.2 s, soldS, soldS, sm_app]
    simp [sm]
theorem tabC_flat (T : Tab) : (tabC T).flat = true := by
  show D.pures ((T.map encE).map (·.2)) = true
  refine pures_of fun d hd => ?_
  rw [List.map_map] at hd
  obtain ⟨e, _, q⟩ := List.mem_map.mp hd
  rw [← q]
  simp only [Function.comp, encE]
  rw [D.pure]
end K84

namespace K84
open PySem L2 Dl
def enc2 (a b : Str) : D := .tup [.str a, .str b]
theorem dget_T {S : Sto} {n : Nat} {T : Tab} (h : S[n]? = some (tabC T)) (a b : Str) : dGet S (.loc n) (enc2 a b) = some ((lookT T (a, b)).map D.int) := by
  have e : (enc2 a b).tkey = some (encK (a, b)) := rfl
  simp only [dGet, h, tabC, e, Option.map_some]
  rw [val_T]
theorem get_T {S : Sto} {n : Nat} {T : Tab} {Γ : Dl.Ctx} {fo fa fb : FE} {a b : Str} (h : S[n]? = some (tabC T)) (h1 : fo Γ S = some (.loc n, S)) (h2 : fa Γ S = some (enc2 a b, S)) (h3 : fb Γ S = some (.int 0, S)) :
    eGet2 fo fa fb Γ S = some (.int ((lookT T (a, b)).getD 0), S) := by
  rw [eGet2, h1, Option.bind_some]
  simp only
  rw [if_pos (by simp only [isDict, h, tabC]), h2, Option.bind_some, h3, Option.bind_some]
  simp only
  rw [dget_T h]
  cases lookT T (a, b) <;> rfl
theorem set_T {S : Sto} {n : Nat} {T : Tab} {a b : Str} {v : Int} (h : S[n]? = some (tabC T)) (hl : T.length < sizeLine) : setIt (.loc n) (enc2 a b) (.int v) S = some (S.set n (tabC (putT T (a, b) v))) := by
  have e : (enc2 a b).tkey = some (encK (a, b)) := rfl
  simp only [setIt, h, tabC, e, Option.map_some]
  rw [if_pos (by rw [List.length_map]; exact hl), put_T]
theorem ix_T {S : Sto} {n : Nat} {T : Tab} {a b : Str} {v : Int} (h : S[n]? = some (tabC T)) (hv : lookT T (a, b) = some v) : oIx (.loc n) (enc2 a b) S = some (.int v, S) := by
  have := dget_T h a b
  rw [hv] at this
  simp only [oIx, h, tabC, enc2] at this ⊢
  rw [this]
  rfl
theorem look_mem {T : Tab} (nd : (keysT T).Nodup) {e : (Str × Str) × Int} (h : e ∈ T) : lookT T e.1 = some e.2 := by
  induction T with
  | nil => simp at h
  | cons x T ih =>
    have e0 : keysT (x :: T) = x.1 :: keysT T := rfl
    rw [e0, List.nodup_cons] at nd
    rcases List.mem_cons.mp h with q | q
    · subst q
      simp [lookT]
    · have : ¬ x.1 = e.1 := fun z => nd.1 (by rw [z]; exact List.mem_map_of_mem q)
      have := ih nd.2 q
      unfold lookT at this ⊢
      rw [List.find?_cons, decide_eq_false ‹¬ x.1 = e.1›]
      exact this
def ksOf (T : Tab) : List (List Str) := (keysT T).map fun k => [k.1, k.2]
abbrev Pr := Str × Str × Int
def encP (p : Pr) : D := .tup [.str p.1, .str p.2.1, .int p.2.2]
def pairsC (P : List Pr) : Cell := .lst (P.map encP)
theorem pairsC_flat (P : List Pr) : (pairsC P).flat = true := pures_of fun d hd => by
  obtain ⟨p, _, e⟩ := List.mem_map.mp hd
  rw [← e]
  simp [encP, D.pure, D.pures]
def prG (T : Tab) : List Str → Option Pr
  | [a, b] => match lookT T (a, b) with
    | some v => if v = 0 then none else some (a, b, v)
    | none => none
  | _ => none
def prs (T : Tab) : List Pr := (sortS (ksOf T)).filterMap (prG T)
theorem sm_fm {α β : Type} (F : β → Int) (g : α → Option β) : ∀ l : List α, sm F (l.filterMap g) = sm (fun x => match g x with | some p => F p | none => 0) l
  | [] => rfl
  | x :: l => by
    rw [List.filterMap_cons, sm]
    cases h : g x with
    | none => simp only; rw [sm_fm F g l]; omega
    | some y => simp only; rw [sm, sm_fm F g l]
theorem sm_congr {α : Type} {f g : α → Int} : ∀ {l : List α}, (∀ x ∈ l, f x = g x) → sm f l = sm g l
  | [], _ => rfl
  | x :: l, h => by rw [sm, sm, h x (by simp), sm_congr fun y hy => h y (by simp [hy])]
theorem prs_sum (φ : Str × Str → Bool) {T : Tab} (nd : (keysT T).Nodup) : sm (fun p : Pr => if φ (p.1, p.2.1) = true then p.2.2 else 0) (prs T) = wt φ T := by
  have hp : (sortS (ksOf T)).Perm (ksOf T) := List.mergeSort_perm _ _
  rw [prs, sm_fm, sm_perm _ hp, ksOf, keysT, sm_map, sm_map, wt]
  refine sm_congr fun e he => ?_
  have hl := look_mem nd he
  have hl' : lookT T (e.1.1, e.1.2) = some e.2 := hl
  by_cases hv : e.2 = 0
  · simp [prG, hl', hv]
  · simp [prG, hl', hv]
def pairB : FS := (qSeq (qSet 3 (eTup [(eBin oIx (eVar 2) (eC (.int 2))), (eBin oIx (eVar 2) (eC (.int 3)))]))
    (qSeq (qPut (eBin oAdd (eGet2 (eVar 1) (eVar 3) (eC (.int 0))) (eBin oIx (eVar 2) (eC (.int 4)))) (eVar 1) (eVar 3))
    (qIf (tst (eBin oEq (eBin oIx (eVar 2) (eC (.int 1))) (eC (.str "must"))))
    (qSeq (qSet 4 (eTup [(eBin oIx (eVar 2) (eC (.int 3))), (eBin oIx (eVar 2) (eC (.int 2)))]))
    (qPut (eBin oSub (eGet2 (eVar 1) (eVar 4) (eC (.int 0))) (eBin oIx (eVar 2) (eC (.int 4)))) (eVar 1) (eVar 4)))
    qNx)))
theorem sortS_perm (l : List (List Str)) : (sortS l).Perm l := List.mergeSort_perm _ _
theorem iter_dt {S : Sto} {n : Nat} {l : List (List Key × D)} (h : S[n]? = some (.dt l)) : iterD S (.loc n) = some (l.map fun p => .tup (p.1.map Key.d)) := by simp only [iterD, h]
theorem sold_pairs {u : Int} {rs : List Rg} {S : Sto} (hf : Flat S) (hb : BkOk u rs) : F_sold_pairs [encB u rs] S = some (.loc S.length, S ++ [pairsC (prs (tabOf rs))]) := by
  have hfew := hb.few
  have htl : ∀ i, (tabOf (rs.take i)).length ≤ 200 := fun i => by
    have := (tab_ok (rs.take i)).2.1
    rw [List.length_take] at this
    omega
  have key : ∃ Γ' S', forL (gN 2) pairB [] (rs.map encR) [some (encB u rs), some (.loc S.length), none, none, none, none] (S ++ [tabC []]) = some (.nx, Γ', S') ∧
      (S' = S ++ [tabC (tabOf (rs.take (rs.map encR).length))] ∧ ∃ a b c d, Γ' = [some (encB u rs), some (.loc S.length), a, b, c, d]) := by
    refine forL_inv (S := S ++ [tabC []]) (rs.map encR) (fun i Γ T => T = S ++ [tabC (tabOf (rs.take i))] ∧ ∃ a b c d, Γ = [some (encB u rs), some (.loc S.length), a, b, c, d]) (fun i Γ T _ _ => lkd_nil T) (fun i d Γ T hd h' => ?_) ⟨by simp [tabOf], _, _, _, _, rfl⟩
    obtain ⟨rfl, a, b, c, d', rfl⟩ := h'
    rw [List.getElem?_map] at hd
    obtain ⟨r, hr, rfl⟩ := map_some hd
    have ok := hb.all r (mem_of_get hr)
    have g0 : ∀ T, (S ++ [tabC T])[S.length]? = some (tabC T) := fun T => get_end S [] _
    have l0 : (tabOf (rs.take i)).length < sizeLine := by rw [line]; have := htl i; omega
    have l1 : (addT (tabOf (rs.take i)) (r.a, r.b) r.n).length < sizeLine := by
      have : (addT (tabOf (rs.take i)) (r.a, r.b) r.n).length ≤ _ + 1 := putT_len _ _ _
      have := htl i
      rw [line]
      omega
    have s1 : (qSet 3 (eTup [(eBin oIx (eVar 2) (eC (.int 2))), (eBin oIx (eVar 2) (eC (.int 3)))])) [some (encB u rs), some (.loc S.length), some (encR r), b, c, d'] (S ++ [tabC (tabOf (rs.take i))]) = some (.nx, [some (encB u rs), some (.loc S.length), some (encR r), some (enc2 r.a r.b), c, d'], S ++ [tabC (tabOf (rs.take i))]) :=
      st_s (ev_t (ar_1 (ev_b (ev_v rfl) ev_c rfl) (ar_1 (ev_b (ev_v rfl) ev_c rfl) ar_0)))
    have s2 : (qPut (eBin oAdd (eGet2 (eVar 1) (eVar 3) (eC (.int 0))) (eBin oIx (eVar 2) (eC (.int 4)))) (eVar 1) (eVar 3)) [some (encB u rs), some (.loc S.length), some (encR r), some (enc2 r.a r.b), c, d'] (S ++ [tabC (tabOf (rs.take i))]) = some (.nx, [some (encB u rs), some (.loc S.length), some (encR r), some (enc2 r.a r.b), c, d'], S ++ [tabC (addT (tabOf (rs.take i)) (r.a, r.b) r.n)]) := by
      refine st_p (ev_b (get_T (g0 _) (ev_v rfl) (ev_v rfl) ev_c) (ev_b (ev_v rfl) ev_c rfl) rfl) (ev_v rfl) (ev_v rfl) ?_
      exact (set_T (g0 _) l0).trans (by rw [set_end]; rfl)
    rw [tabOf_take hr, addR]
    by_cases hk : r.k = must
    · rw [if_pos hk]
      refine ⟨_, rfl, [some (encB u rs), some (.loc S.length), some (encR r), some (enc2 r.a r.b), some (enc2 r.b r.a), d'], S ++ [tabC (addT (addT (tabOf (rs.take i)) (r.a, r.b) r.n) (r.b, r.a) (- r.n))], ?_, rfl, _, _, _, _, rfl⟩
      refine st_q s1 (st_q s2 (st_iT (te_s (ev_b (ev_b (ev_v rfl) ev_c rfl) ev_c (must_T hk _))) (st_q (st_s (ev_t (ar_1 (ev_b (ev_v rfl) ev_c rfl) (ar_1 (ev_b (ev_v rfl) ev_c rfl) ar_0)))) ?_)))
      refine st_p (ev_b (get_T (a := r.b) (b := r.a) (g0 _) (ev_v rfl) (ev_v rfl) ev_c) (ev_b (ev_v rfl) ev_c rfl) rfl) (ev_v rfl) (ev_v rfl) ?_
      exact (set_T (a := r.b) (b := r.a) (g0 _) l1).trans (by rw [set_end, Int.sub_eq_add_neg]; rfl)
    · rw [if_neg hk]
      exact ⟨_, rfl, _, _, st_q s1 (st_q s2 (st_iF (te_s (ev_b (ev_b (ev_v rfl) ev_c rfl) ev_c (must_F ok.sk hk _))) st_n)), rfl, _, _, _, _, rfl⟩
  obtain ⟨Γ', S', e, rfl, a, b, c, d, rfl⟩ := key
  rw [List.length_map, List.take_length] at e
  have nd := (tab_ok rs).1
  have hT := (tab_ok rs).2.1
  have hkl : (ksOf (tabOf rs)).length ≤ 200 := by simp only [ksOf, keysT, List.length_map]; omega
  have hss : (sortS (ksOf (tabOf rs))).length ≤ 200 := by rw [(sortS_perm _).length_eq]; exact hkl
  have hs : bSorted [.loc S.length] (S ++ [tabC (tabOf rs)]) = some (.loc (S.length + 1), S ++ [tabC (tabOf rs), sidesC (sortS (ksOf (tabOf rs)))]) := by
    have e0 : iterD (S ++ [tabC (tabOf rs)]) (.loc S.length) = some ((ksOf (tabOf rs)).map encS) := by
      rw [iter_dt (get_end S [] (tabC (tabOf rs)))]
      congr 1
      rw [ksOf, keysT, List.map_map, List.map_map, List.map_map]
      rfl
    rw [bSorted, e0]
    simp only
    rw [if_pos (sortOk_S _ (fun s hs => by
      obtain ⟨k, _, rfl⟩ := List.mem_map.mp hs
      simp) (by omega)), sortD_S, List.length_append, List.append_assoc]
    rfl
  have gt : (S ++ [tabC (tabOf rs), sidesC (sortS (ksOf (tabOf rs)))])[S.length]? = some (tabC (tabOf rs)) := get_end S _ _
  have e1 := lc_typed (it := iVal (eCall bSorted [(eVar 1)])) (g := gN 5) (ts := tst (eBin oNe (eBin oIx (eVar 1) (eVar 5)) (eC (.int 0)))) (el := eTup [(eBin oIx (eVar 5) (eC (.int 0))), (eBin oIx (eVar 5) (eC (.int 1))), (eBin oIx (eVar 1) (eVar 5))]) (vs := [5]) (Γ := [some (encB u rs), some (.loc S.length), a, b, c, d]) (S := S ++ [tabC (tabOf rs)])
    (sortS (ksOf (tabOf rs))) encS (fun x => (prG (tabOf rs) x).map encP) (it_l (ev_f (ar_1 (ev_v rfl) ar_0) hs) (l := (sortS (ksOf (tabOf rs))).map encS) (by rw [List.getElem?_append_right (by omega), show S.length + 1 - S.length = 1 by omega]; rfl))
    (lkd_one (by rw [List.getElem?_append_right (by omega), show S.length + 1 - S.length = 1 by omega]; rfl)) (by rw [line]; omega) (fun x hx acc _ => by
      have hx' : x ∈ ksOf (tabOf rs) := (sortS_perm _).mem_iff.mp hx
      obtain ⟨k, hk, rfl⟩ := List.mem_map.mp hx'
      obtain ⟨en, hen, rfl⟩ := List.mem_map.mp hk
      have hl : lookT (tabOf rs) (en.1.1, en.1.2) = some en.2 := look_mem nd hen
      have ht : ∀ acc, (tst (eBin oNe (eBin oIx (eVar 1) (eVar 5)) (eC (.int 0)))) [some (encB u rs), some (.loc S.length), a, b, c, some (enc2 en.1.1 en.1.2)] (S ++ [tabC (tabOf rs), sidesC (sortS (ksOf (tabOf rs)))] ++ [.lst acc]) = some (!(en.2 == 0), S ++ [tabC (tabOf rs), sidesC (sortS (ksOf (tabOf rs)))] ++ [.lst acc]) := fun acc =>
        te_s (ev_b (ev_b (ev_v rfl) (ev_v rfl) (ix_T (get_app _ gt) hl)) ev_c (ne_int _ _ _))
      refine ⟨_, rfl, ?_⟩
      by_cases hv : en.2 = 0
      · refine .inl ⟨by simp [prG, hl, hv], (ht acc).trans ?_⟩
        rw [hv]
        rfl
      · refine .inr ⟨encP (en.1.1, en.1.2, en.2), by simp [prG, hl, hv], (ht acc).trans ?_, ?_⟩
        · have : (en.2 == 0) = false := by simpa using hv
          rw [this]
          rfl
        · exact ev_t (ar_1 (ev_b (ev_v rfl) ev_c rfl) (ar_1 (ev_b (ev_v rfl) ev_c rfl) (ar_1 (ev_b (ev_v rfl) (ev_v rfl) (ix_T (get_app _ gt) hl)) ar_0))))
  have e2 : ((sortS (ksOf (tabOf rs))).filterMap fun x => (prG (tabOf rs) x).map encP) = (prs (tabOf rs)).map encP := by rw [prs, List.map_filterMap]
  rw [e2, List.length_append, List.append_assoc] at e1
  refine run_t (S1 := S ++ [tabC (tabOf rs), sidesC (sortS (ksOf (tabOf rs))), pairsC (prs (tabOf rs))]) (d := .loc (S.length + 2)) rfl ?_ (fin2_loc (j := 2) hf rfl rfl (pairsC_flat _))
  show Rt m_sold_pairs [some (encB u rs), none, none, none, none, none] S _ _
  exact rt_q (st_s rfl) (rt_q (st_f (it_v (ev_b (ev_v rfl) ev_c rfl)) e) (rt_r e1))
end K84

namespace K84
open PySem L2 Dl
theorem valD_map {κ : Type} [DecidableEq κ] (k k' : κ) (v : D) : ∀ a : List (κ × D), valD (a.map fun kv => if kv.1 = k then (kv.1, v) else kv) k' = if k' = k then (if (a.any fun kv => decide (kv.1 = k)) = true then some v else none) else valD a k'
  | [] => by simp [valD]
  | p :: a => by
    have ih := valD_map k k' v a
    unfold valD at ih ⊢
    rw [List.map_cons, List.find?_cons, List.find?_cons, List.any_cons]
    by_cases h : p.1 = k
    · rw [if_pos h]
      by_cases h' : k' = k
      · subst h'
        simp [h]
      · have h2 : ¬ p.1 = k' := fun q => h' (by rw [← q, h])
        simp only [h2, decide_false, h', if_false] at ih ⊢
        rw [ih]
    · rw [if_neg h]
      by_cases h' : k' = k
      · subst h'
        simp only [h, decide_false, Bool.false_or] at ih ⊢
        exact ih
      · by_cases h2 : p.1 = k'
        · simp [h2, h']
        · simp only [h2, decide_false, h', if_false] at ih ⊢
          exact ih
theorem valD_put {κ : Type} [DecidableEq κ] (a : List (κ × D)) (k k' : κ) (v : D) : valD (putD a k v) k' = if k' = k then some v else valD a k' := by
  unfold putD
  split
  · rename_i h
    rw [valD_map, h]
    simp
  · rename_i h
    unfold valD
    rw [List.find?_append]
    by_cases h' : k' = k
    · subst h'
      have : a.find? (fun kv => decide (kv.1 = k')) = none := by
        rw [List.find?_eq_none]
        intro x hx q
        exact h (List.any_eq_true.mpr ⟨x, hx, q⟩)
      simp [this]
    · have h2 : ¬ k = k' := fun q => h' q.symm
      simp [h', h2]
def dictOf (s : List Str) (acc : List (Key × D)) : List (Key × D) := s.foldl (fun a x => putD a (.inr x) (.bl true)) acc
theorem dict_has (p : Str) : ∀ (s : List Str) (acc : List (Key × D)), (valD (dictOf s acc) (.inr p)).isSome = (decide (p ∈ s) || (valD acc (.inr p)).isSome)
  | [], acc => by simp [dictOf]
  | x :: s, acc => by
    have ih := dict_has p s (putD acc (.inr x) (.bl true))
    have e : dictOf (x :: s) acc = dictOf s (putD acc (.inr x) (.bl true)) := rfl
    rw [e, ih, valD_put]
    by_cases h : p = x
    · subst h; simp
    · simp [h]
theorem putD_len {κ : Type} [DecidableEq κ] (a : List (κ × D)) (k : κ) (v : D) : (putD a k v).length ≤ a.length + 1 := by
  unfold putD
  split
  · simp
  · simp
theorem putD_flat {a : List (Key × D)} {k : Key} (h : D.pures (a.map (·.2)) = true) : D.pures ((putD a k (.bl true)).map (·.2)) = true := by
  rw [pures_all, List.all_eq_true] at h ⊢
  intro d hd
  obtain ⟨e, he, rfl⟩ := List.mem_map.mp hd
  unfold putD at he
  split at he
  · obtain ⟨e', he', q⟩ := List.mem_map.mp he
    rw [← q]
    split
    · rw [D.pure]
    · exact h _ (List.mem_map_of_mem he')
  · rcases List.mem_append.mp he with q | q
    · exact h _ (List.mem_map_of_mem q)
    · rw [List.mem_singleton.mp q, D.pure]
theorem dict_flat : ∀ (s : List Str) (acc : List (Key × D)), D.pures (acc.map (·.2)) = true → (Cell.dk (dictOf s acc)).flat = true
  | [], acc, h => h
  | x :: s, acc, h => dict_flat s _ (putD_flat h)
theorem dc_true {S : Sto} {o0 o1 o2 o3 o4 o5 o6 o7 o8 : Option D} : ∀ (s : List Str) (acc : List (Key × D)), acc.length + s.length < sizeLine →
    dcL (gN 6) tYs (eVar 6) (eC (.bl true)) [6] S.length [] (s.map D.str) [o0, o1, o2, o3, o4, o5, o6, o7, o8] (S ++ [.dk acc]) = some (S ++ [.dk (dictOf s acc)])
  | [], acc, _ => by
    rw [List.map_nil, dcL, if_pos (lkd_nil _)]
    rfl
  | x :: s, acc, hl => by
    rw [List.length_cons] at hl
    rw [List.map_cons, dcL, if_pos (lkd_nil _)]
    rw [show gN 6 (D.str x) (wipeD [o0, o1, o2, o3, o4, o5, o6, o7, o8] [6]) (S ++ [Cell.dk acc]) = some [o0, o1, o2, o3, o4, o5, some (.str x), o7, o8] from rfl, Option.bind_some,
      show tYs [o0, o1, o2, o3, o4, o5, some (.str x), o7, o8] (S ++ [Cell.dk acc]) = some (true, S ++ [Cell.dk acc]) from rfl, Option.bind_some, if_pos (show ((true, S ++ [Cell.dk acc]) : Bool × Sto).1 = true from rfl), ev_v (d := .str x) rfl, Option.bind_some, ev_c, Option.bind_some]
    simp only [D.key, Option.bind_some, get_end]
    rw [if_pos (by omega), set_end]
    exact dc_true s _ (by have := putD_len acc (.inr x) (.bl true); omega)
theorem ints_of (l : List Int) : intsOf (l.map D.int) = some l := by
  induction l with
  | nil => rfl
  | cons i l ih => rw [List.map_cons, intsOf, ih]; rfl
theorem sum_sm : ∀ l : List Int, l.sum = sm id l
  | [] => rfl
  | i :: l => by rw [List.sum_cons, sm, sum_sm l]; rfl
theorem b_sum {S : Sto} {n : Nat} {l : List Int} {v : Int} (h : S[n]? = some (.lst (l.map D.int))) (hv : l.sum = v) : bSum [.loc n] S = some (.int v, S) := by
  subst hv
  simp only [bSum, h, ints_of]
  rfl
theorem in_dk {S : Sto} {n : Nat} {L : List (Key × D)} (h : S[n]? = some (.dk L)) (p : Str) : inB S (.str p) (.loc n) = some (valD L (.inr p)).isSome := by
  simp only [inB, h, dGet]
  rfl
noncomputable def sumB : FS := (qSeq (qSet 5 (eDc (iVal (eVar 4)) (gN 6) tYs (eVar 6) (eC (.bl true)) [6]))
    (qDrop (eMeth "list" mAppend (eVar 3) [(tidy2 (eCall bSum [(eLc (iVal (eVar 2)) (gT [(gN 6), (gN 7), (gN 8)]) (tAnd2 (tst (eBin oIn (eVar 6) (eVar 5))) (tst (eBin oNotIn (eVar 7) (eVar 5)))) (eVar 8) [6, 7, 8])]))])))
theorem sums_over {u : Int} {rs : List Rg} {sides : List (List Str)} {S : Sto} (hf : Flat S) (hb : BkOk u rs) (hl : sides.length ≤ 1000) (hs : ∀ s ∈ sides, s.length ≤ 1000) :
    F_sums_over [.tup (sides.map encS), encB u rs] S = some (.tup ((sides.map (soldS rs)).map D.int), S) := by
  let P := prs (tabOf rs)
  have nd := (tab_ok rs).1
  have hPl : P.length ≤ 200 := by
    have h1 : P.length ≤ (sortS (ksOf (tabOf rs))).length := List.length_filterMap_le _ _
    rw [(sortS_perm _).length_eq] at h1
    have h2 : (ksOf (tabOf rs)).length = (tabOf rs).length := by simp [ksOf, keysT]
    have h3 := (tab_ok rs).2.1
    have := hb.few
    omega
  have key : ∃ Γ' S', forL (gN 4) sumB [] (sides.map encS) [some (.tup (sides.map encS)), some (encB u rs), some (.loc S.length), some (.loc (S.length + 1)), none, none, none, none, none] (S ++ pairsC P :: intsC [] :: []) = some (.nx, Γ', S') ∧
      (∃ G, Flat G ∧ S' = S ++ pairsC P :: intsC ((sides.map (soldS rs)).take (sides.map encS).length) :: G ∧ ∃ a b c d e, Γ' = [some (.tup (sides.map encS)), some (encB u rs), some (.loc S.length), some (.loc (S.length + 1)), a, b, c, d, e]) := by
    refine forL_inv (S := S ++ pairsC P :: intsC [] :: []) (sides.map encS) (fun i Γ T => ∃ G, Flat G ∧ T = S ++ pairsC P :: intsC ((sides.map (soldS rs)).take i) :: G ∧ ∃ a b c d e, Γ = [some (.tup (sides.map encS)), some (encB u rs), some (.loc S.length), some (.loc (S.length + 1)), a, b, c, d, e]) (fun i Γ T _ _ => lkd_nil T) (fun i d Γ T hd h' => ?_) ⟨[], fun c hc => by simp at hc, by simp, _, _, _, _, _, rfl⟩
    obtain ⟨G, hG, rfl, a, b, c, d', e, rfl⟩ := h'
    rw [List.getElem?_map] at hd
    obtain ⟨s, hsi, rfl⟩ := map_some hd
    have hil := (List.getElem?_eq_some_iff.mp hsi).1
    have hsl := hs s (mem_of_get hsi)
    generalize hT : S ++ pairsC P :: intsC ((sides.map (soldS rs)).take i) :: G = T
    have hfT : Flat T := by
      rw [← hT]
      intro c hc
      rcases List.mem_append.mp hc with q | q
      · exact hf c q
      · rcases List.mem_cons.mp q with q | q
        · rw [q]; exact pairsC_flat _
        · rcases List.mem_cons.mp q with q | q
          · rw [q]; exact intsC_flat _
          · exact hG c q
    have hgT : T[S.length]? = some (pairsC P) := by rw [← hT]; exact get_end S _ _
    let T2 : Sto := T ++ [.dk (dictOf s [])]
    have hfT2 : Flat T2 := hfT.app (dict_flat s [] rfl)
    have hg2 : T2[S.length]? = some (pairsC P) := get_app _ hgT
    have hgd : T2[T.length]? = some (.dk (dictOf s [])) := get_end T [] _
    have hin : ∀ (p : Str) (acc : List D), inB (T2 ++ [.lst acc]) (.str p) (.loc T.length) = some (decide (p ∈ s)) := fun p acc => by
      rw [in_dk (get_app _ hgd), dict_has]
      simp [valD]
    have st5 : (qSet 5 (eDc (iVal (eVar 4)) (gN 6) tYs (eVar 6) (eC (.bl true)) [6])) [some (.tup (sides.map encS)), some (encB u rs), some (.loc S.length), some (.loc (S.length + 1)), some (encS s), b, c, d', e] T = some (.nx, [some (.tup (sides.map encS)), some (encB u rs), some (.loc S.length), some (.loc (S.length + 1)), some (encS s), some (.loc T.length), c, d', e], T2) := by
      refine st_s (n := 5) (d := .loc T.length) ?_
      rw [eDc, it_v (l := s.map D.str) (ev_v rfl), Option.bind_some]
      simp only
      rw [dc_true s [] (by rw [line]; simp; omega)]
      rfl
    have e1 := lc_typed (it := iVal (eVar 2)) (g := gT [(gN 6), (gN 7), (gN 8)]) (ts := tAnd2 (tst (eBin oIn (eVar 6) (eVar 5))) (tst (eBin oNotIn (eVar 7) (eVar 5)))) (el := eVar 8) (vs := [6, 7, 8]) (Γ := [some (.tup (sides.map encS)), some (encB u rs), some (.loc S.length), some (.loc (S.length + 1)), some (encS s), some (.loc T.length), c, d', e]) (S := T2)
      P encP (fun p => if (decide (p.1 ∈ s) && !decide (p.2.1 ∈ s)) = true then some (.int p.2.2) else none) (it_l (ev_v rfl) hg2) (lkd_one hg2) (by rw [line]; omega) (fun p hp acc _ => by
        refine ⟨_, rfl, ?_⟩
        have t1 : (tst (eBin oIn (eVar 6) (eVar 5))) [some (.tup (sides.map encS)), some (encB u rs), some (.loc S.length), some (.loc (S.length + 1)), some (encS s), some (.loc T.length), some (.str p.1), some (.str p.2.1), some (.int p.2.2)] (T2 ++ [.lst acc]) = some (decide (p.1 ∈ s), T2 ++ [.lst acc]) :=
          te_s (ev_b (ev_v rfl) (ev_v rfl) (by rw [oIn, hin]; rfl))
        have t2 : (tst (eBin oNotIn (eVar 7) (eVar 5))) [some (.tup (sides.map encS)), some (encB u rs), some (.loc S.length), some (.loc (S.length + 1)), some (encS s), some (.loc T.length), some (.str p.1), some (.str p.2.1), some (.int p.2.2)] (T2 ++ [.lst acc]) = some (!decide (p.2.1 ∈ s), T2 ++ [.lst acc]) :=
          te_s (ev_b (ev_v rfl) (ev_v rfl) (by rw [oNotIn, hin]; rfl))
        have t3 : (tAnd2 (tst (eBin oIn (eVar 6) (eVar 5))) (tst (eBin oNotIn (eVar 7) (eVar 5)))) [some (.tup (sides.map encS)), some (encB u rs), some (.loc S.length), some (.loc (S.length + 1)), some (encS s), some (.loc T.length), some (.str p.1), some (.str p.2.1), some (.int p.2.2)] (T2 ++ [.lst acc]) = some (decide (p.1 ∈ s) && !decide (p.2.1 ∈ s), T2 ++ [.lst acc]) := by
          by_cases h : p.1 ∈ s
          · rw [decide_eq_true h] at t1 ⊢
            exact te_a t1 t2
          · rw [decide_eq_false h] at t1 ⊢
            exact te_aF t1
        by_cases hc : (decide (p.1 ∈ s) && !decide (p.2.1 ∈ s)) = true
        · exact .inr ⟨_, if_pos hc, t3.trans (by rw [hc]), ev_v rfl⟩
        · refine .inl ⟨if_neg hc, t3.trans ?_⟩
          rw [Bool.not_eq_true] at hc
          rw [hc])
    have e2 : (P.filterMap fun p => if (decide (p.1 ∈ s) && !decide (p.2.1 ∈ s)) = true then some (D.int p.2.2) else none) = ((P.filter fun p => decide (p.1 ∈ s) && !decide (p.2.1 ∈ s)).map fun p => p.2.2).map D.int := by
      rw [List.map_map]
      exact fm_filter _ _ _
    have e3 : ((P.filter fun p => decide (p.1 ∈ s) && !decide (p.2.1 ∈ s)).map fun p => p.2.2).sum = soldS rs s := by
      rw [sum_sm, sm_map, ← (tab_ok rs).2.2 s, ← prs_sum _ nd]
      show sm (fun p : Pr => p.2.2) (P.filter fun p => decide (p.1 ∈ s) && !decide (p.2.1 ∈ s)) = sm (fun p : Pr => if (decide (p.1 ∈ s) && !decide (p.2.1 ∈ s)) = true then p.2.2 else 0) P
      induction P with
      | nil => rfl
      | cons p l ih =>
        rw [List.filter_cons]
        by_cases hc : (decide (p.1 ∈ s) && !decide (p.2.1 ∈ s)) = true
        · rw [if_pos hc, sm, sm, if_pos hc, ih]
        · rw [if_neg hc, sm, if_neg hc, ih, Int.zero_add]
    rw [e2] at e1
    have e4 : (tidy2 (eCall bSum [(eLc (iVal (eVar 2)) (gT [(gN 6), (gN 7), (gN 8)]) (tAnd2 (tst (eBin oIn (eVar 6) (eVar 5))) (tst (eBin oNotIn (eVar 7) (eVar 5)))) (eVar 8) [6, 7, 8])])) [some (.tup (sides.map encS)), some (encB u rs), some (.loc S.length), some (.loc (S.length + 1)), some (encS s), some (.loc T.length), c, d', e] T2 = some (.int (soldS rs s), T2) := by
      exact ev_tidy (ev_f (ar_1 e1 ar_0) (b_sum (get_end T2 [] _) e3)) (fin2_pure _ hfT2 rfl (by rw [D.pure]))
    have hx : T2 = (S ++ [pairsC P]) ++ intsC ((sides.map (soldS rs)).take i) :: (G ++ [.dk (dictOf s [])]) := by
      show T ++ _ = _
      rw [← hT]
      simp
    have hln : (S ++ [pairsC P]).length = S.length + 1 := by simp
    refine ⟨_, rfl, _, S ++ pairsC P :: intsC ((sides.map (soldS rs)).take (i + 1)) :: (G ++ [.dk (dictOf s [])]), st_q st5 (st_d (d := .non) (ev_m (ev_v rfl) (ty_l (l := ((sides.map (soldS rs)).take i).map D.int) ?_) (ar_1 e4 ar_0) ?_)), G ++ [.dk (dictOf s [])], hG.app (dict_flat s [] rfl), rfl, _, _, _, _, _, rfl⟩
    · rw [hx, ← hln]
      exact get_end _ _ _
    · have ee : intsC ((sides.map (soldS rs)).take (i + 1)) = .lst (((sides.map (soldS rs)).take i).map D.int ++ [.int (soldS rs s)]) := by
        rw [List.take_succ, List.getElem?_map, hsi, intsC]
        simp
      rw [hx, ← hln]
      refine (app_end (S := S ++ [pairsC P]) (T := G ++ [.dk (dictOf s [])]) (l := ((sides.map (soldS rs)).take i).map D.int) (by rw [line, List.length_map, List.length_take]; omega) ee.symm).trans ?_
      simp
  obtain ⟨Γ', S', e, G, hG, rfl, a, b, c, d, f, rfl⟩ := key
  rw [List.length_map, show sides.length = (sides.map (soldS rs)).length by simp, List.take_length] at e
  refine run_t (S1 := S ++ pairsC P :: intsC (sides.map (soldS rs)) :: G) rfl ?_ (fin2_pure _ hf rfl ?_)
  · show Rt m_sums_over [some (.tup (sides.map encS)), some (encB u rs), none, none, none, none, none, none, none] S _ _
    refine rt_q (st_s (ev_f (ar_1 (ev_v rfl) ar_0) (sold_pairs hf hb))) (rt_q (st_s (n := 3) (d := .loc (S.length + 1)) (S1 := S ++ pairsC P :: intsC [] :: []) ?_) (rt_q (st_f (it_v (ev_v rfl)) e) (rt_r (ev_f (ar_1 (ev_v rfl) ar_0) ?_))))
    · refine (ev_l ar_0).trans ?_
      rw [List.length_append, List.append_assoc]
      rfl
    · have g1 : (S ++ pairsC P :: intsC (sides.map (soldS rs)) :: G)[S.length + 1]? = some (intsC (sides.map (soldS rs))) := by
        rw [List.getElem?_append_right (by omega), show S.length + 1 - S.length = 1 by omega]
        rfl
      exact b_tup g1
  · rw [D.pure]
    exact intsC_flat _
end K84

namespace K84
open PySem L2 Dl
/-- the first greatest -/
def gstep (f : List Str → Int) (bw : Int × List Str) (s : List Str) : Int × List Str := if f s > bw.1 then (f s, s) else bw
def gapS (f : List Str → Int) (l : List (List Str)) : Int × List Str := l.foldl (gstep f) (0, [])
theorem gapS_take (f : List Str → Int) {l : List (List Str)} {i : Nat} {s : List Str} (h : l[i]? = some s) : gapS f (l.take (i + 1)) = gstep f (gapS f (l.take i)) s := by
  rw [List.take_succ, h, gapS, List.foldl_append]
  rfl
theorem gapS_snoc (f : List Str → Int) (l : List (List Str)) (s : List Str) : gapS f (l ++ [s]) = gstep f (gapS f l) s := by rw [gapS, List.foldl_append]; rfl
/-- what is known of it -/
theorem gapS_ok (f : List Str → Int) (l : List (List Str)) : (∀ s ∈ l, f s ≤ (gapS f l).1) ∧ ((gapS f l = (0, [])) ∨ (0 < (gapS f l).1 ∧ (gapS f l).2 ∈ l ∧ f (gapS f l).2 = (gapS f l).1)) := by
  induction l using snoc_ind with
  | h0 => exact ⟨fun s hs => by simp at hs, .inl rfl⟩
  | h1 l s ih =>
    obtain ⟨h1, h2⟩ := ih
    rw [gapS_snoc]
    unfold gstep
    by_cases hc : f s > (gapS f l).1
    · rw [if_pos hc]
      have h0 : 0 ≤ (gapS f l).1 := by
        rcases h2 with q | q
        · rw [q]; exact Int.le_refl _
        · omega
      refine ⟨fun t ht => ?_, .inr ⟨by show 0 < f s; omega, by simp, rfl⟩⟩
      rcases List.mem_append.mp ht with q | q
      · have := h1 t q; show f t ≤ f s; omega
      · rw [List.mem_singleton.mp q]; exact Int.le_refl _
    · rw [if_neg hc]
      refine ⟨fun t ht => ?_, ?_⟩
      · rcases List.mem_append.mp ht with q | q
        · exact h1 t q
        · rw [List.mem_singleton.mp q]; omega
      · rcases h2 with q | ⟨q1, q2, q3⟩
        · exact .inl q
        · exact .inr ⟨q1, by simp [q2], q3⟩
/-- one book against another -/
def diff (u v : Int) (rs qs : List Rg) (s : List Str) : Int := soldS rs s * v - soldS qs s * u
def encG (u v : Int) (g : Int × List Str) : D := .tup [lowI g.1 (u * v), encS g.2]
theorem natAbs_mul_lt {a b : Int} {i j : Nat} (h : a.natAbs < 2 ^ i) (h' : b.natAbs < 2 ^ j) : (a * b).natAbs < 2 ^ (i + j) := by
  rw [Int.natAbs_mul, Nat.pow_add]
  exact Nat.mul_lt_mul'' h h'
theorem BkOk.lt' {u : Int} {rs : List Rg} (h : BkOk u rs) : u.natAbs < 2 ^ 64 := by have := h.lt; have := h.pos; omega
theorem diff_lt {u v : Int} {rs qs : List Rg} (hu : BkOk u rs) (hv : BkOk v qs) (s : List Str) : (diff u v rs qs s).natAbs < 2 ^ 172 := by
  have a := natAbs_mul_lt (soldS_lt hu s) hv.lt'
  have b := natAbs_mul_lt (soldS_lt hv s) hu.lt'
  unfold diff
  have : 2 ^ (107 + 64) + 2 ^ (107 + 64) ≤ 2 ^ 172 := by decide
  omega
theorem big_sold {u : Int} {rs : List Rg} (hu : BkOk u rs) (s : List Str) : Big (soldS rs s) := big_of (soldS_lt hu s) (by decide)
theorem big_uv {u v : Int} {rs qs : List Rg} (hu : BkOk u rs) (hv : BkOk v qs) : Big (u * v) := big_of (natAbs_mul_lt hu.lt' hv.lt') (by decide)
theorem pos_uv {u v : Int} {rs qs : List Rg} (hu : BkOk u rs) (hv : BkOk v qs) : 0 < u * v := Int.mul_pos hu.pos hv.pos
theorem zp3_map {α : Type} (f g h : α → D) : ∀ l : List α, zp3 (l.map f) (l.map g) (l.map h) = l.map fun x => .tup [f x, g x, h x]
  | [] => rfl
  | x :: l => by
    have ih := zp3_map f g h l
    unfold zp3 at ih ⊢
    simp only [List.map_cons, List.zip_cons_cons, List.zipWith_cons_cons, ih]
theorem it_z3 {Γ : Dl.Ctx} {S S1 : Sto} {fs : List FE} {l m n : List D} (h : args fs Γ S = some ([.tup l, .tup m, .tup n], S1)) : Dl.iZip fs Γ S = some ((zp3 l m n, []), S1) := by
  rw [Dl.iZip, h, Option.bind_some]
  rfl
theorem sides_len {ps : List Str} (hl : ps.length ≤ 9) : (sides ps).length ≤ 512 := by
  have := pow_few hl
  rw [sides, (sortS_perm _).length_eq, raw_len]
  omega
theorem mem_sides {ps : List Str} {s : List Str} (h0 : ps ≠ []) : s ∈ sides ps ↔ s ∈ sidesRaw ps := (sortS_perm _).mem_iff
theorem side_few {ps : List Str} (h0 : ps ≠ []) (hl : ps.length ≤ 9) {s : List Str} (h : s ∈ sides ps) : 0 < s.length ∧ s.length ≤ 9 := by
  have := (raw_mid ps h0).2 s ((mem_sides h0).mp h)
  omega
def gapB : FS := (qSeq (qSet 9 (eBin oSub (eBin oMul (eVar 7) (eBin oIx (eVar 2) (eC (.int 0)))) (eBin oMul (eVar 8) (eBin oIx (eVar 1) (eC (.int 0))))))
    (qIf (tst (eBin oGt (eVar 9) (eVar 4)))
    (qSeq (qSet 4 (eVar 9))
    (qSet 5 (eVar 6)))
    qNx))
theorem gap_of {ps : List Str} {u v : Int} {rs qs : List Rg} {S : Sto} (hf : Flat S) (h0 : ps ≠ []) (hl : ps.length ≤ 9) (hu : BkOk u rs) (hv : BkOk v qs) :
    F_gap_of [encS ps, encB u rs, encB v qs] S = some (encG u v (gapS (diff u v rs qs) (sides ps)), S) := by
  have hsl := sides_len hl
  have hse : ∀ s ∈ sides ps, s.length ≤ 1000 := fun s hs => by have := side_few h0 hl hs; omega
  have key : ∃ Γ' S', forL (gT [(gN 6), (gN 7), (gN 8)]) gapB [] ((sides ps).map fun s => .tup [encS s, .int (soldS rs s), .int (soldS qs s)]) [some (encS ps), some (encB u rs), some (encB v qs), some (.tup ((sides ps).map encS)), some (.int 0), some (.tup []), none, none, none, none] S = some (.nx, Γ', S') ∧
      (S' = S ∧ ∃ a b c d, Γ' = [some (encS ps), some (encB u rs), some (encB v qs), some (.tup ((sides ps).map encS)), some (.int (gapS (diff u v rs qs) ((sides ps).take ((sides ps).map fun s => D.tup [encS s, .int (soldS rs s), .int (soldS qs s)]).length)).1), some (encS (gapS (diff u v rs qs) ((sides ps).take ((sides ps).map fun s => D.tup [encS s, .int (soldS rs s), .int (soldS qs s)]).length)).2), a, b, c, d]) := by
    refine forL_inv (S := S) ((sides ps).map fun s => .tup [encS s, .int (soldS rs s), .int (soldS qs s)]) (fun i Γ T => T = S ∧ ∃ a b c d, Γ = [some (encS ps), some (encB u rs), some (encB v qs), some (.tup ((sides ps).map encS)), some (.int (gapS (diff u v rs qs) ((sides ps).take i)).1), some (encS (gapS (diff u v rs qs) ((sides ps).take i)).2), a, b, c, d]) (fun i Γ T _ _ => lkd_nil T) (fun i d Γ T hd h' => ?_) ⟨rfl, _, _, _, _, rfl⟩
    obtain ⟨rfl, a, b, c, d', rfl⟩ := h'
    rw [List.getElem?_map] at hd
    obtain ⟨s, hs, rfl⟩ := map_some hd
    rw [gapS_take _ hs]
    have e9 : (qSet 9 (eBin oSub (eBin oMul (eVar 7) (eBin oIx (eVar 2) (eC (.int 0)))) (eBin oMul (eVar 8) (eBin oIx (eVar 1) (eC (.int 0)))))) [some (encS ps), some (encB u rs), some (encB v qs), some (.tup ((sides ps).map encS)), some (.int (gapS (diff u v rs qs) ((sides ps).take i)).1), some (encS (gapS (diff u v rs qs) ((sides ps).take i)).2), some (encS s), some (.int (soldS rs s)), some (.int (soldS qs s)), d'] T = some (.nx, [some (encS ps), some (encB u rs), some (encB v qs), some (.tup ((sides ps).map encS)), some (.int (gapS (diff u v rs qs) ((sides ps).take i)).1), some (encS (gapS (diff u v rs qs) ((sides ps).take i)).2), some (encS s), some (.int (soldS rs s)), some (.int (soldS qs s)), some (.int (diff u v rs qs s))], T) :=
      st_s (ev_b (ev_b (ev_v rfl) (ev_b (ev_v rfl) ev_c rfl) (o_mul (mul_big (big_sold hu s) hv.big))) (ev_b (ev_v rfl) (ev_b (ev_v rfl) ev_c rfl) (o_mul (mul_big (big_sold hv s) hu.big))) rfl)
    refine ⟨_, rfl, ?_⟩
    unfold gstep
    by_cases hc : diff u v rs qs s > (gapS (diff u v rs qs) ((sides ps).take i)).1
    · rw [if_pos hc]
      exact ⟨_, _, st_q e9 (st_iT (te_s (ev_b (ev_v rfl) (ev_v rfl) (by rw [oGt, decide_eq_true hc]))) (st_q (st_s (ev_v rfl)) (st_s (ev_v rfl)))), rfl, _, _, _, _, rfl⟩
    · rw [if_neg hc]
      exact ⟨_, _, st_q e9 (st_iF (te_s (ev_b (ev_v rfl) (ev_v rfl) (by rw [oGt, decide_eq_false hc]))) st_n), rfl, _, _, _, _, rfl⟩
  obtain ⟨Γ', S', e, rfl, a, b, c, d, rfl⟩ := key
  rw [List.length_map, List.take_length] at e
  have hz3 : zp3 ((sides ps).map encS) (((sides ps).map (soldS rs)).map D.int) (((sides ps).map (soldS qs)).map D.int) = (sides ps).map fun s => D.tup [encS s, .int (soldS rs s), .int (soldS qs s)] := by
    rw [List.map_map, List.map_map]
    exact zp3_map _ _ _ _
  rw [← hz3] at e
  refine run_t rfl ?_ (fin2_same _ rfl)
  show Rt m_gap_of [some (encS ps), some (encB u rs), some (encB v qs), none, none, none, none, none, none, none] S' _ _
  exact rt_q (st_s (ev_f (ar_1 (ev_v rfl) ar_0) (sides_of hf h0 hl))) (rt_q (st_s ev_c) (rt_q (st_s (ev_t ar_0)) (rt_q (st_f (it_z3 (ar_1 (ev_v rfl) (ar_1 (ev_f (ar_1 (ev_v rfl) (ar_1 (ev_v rfl) ar_0)) (sums_over hf hu (by omega) hse)) (ar_1 (ev_f (ar_1 (ev_v rfl) (ar_1 (ev_v rfl) ar_0)) (sums_over hf hv (by omega) hse)) ar_0)))) e) (rt_r (ev_t (ar_1 (ev_f (ar_1 (ev_v rfl) (ar_1 (ev_b (ev_b (ev_v rfl) ev_c rfl) (ev_b (ev_v rfl) ev_c rfl) (o_mul (mul_big hu.big hv.big))) ar_0)) (quotient (big_uv hu hv) (pos_uv hu hv))) (ar_1 (ev_v rfl) ar_0)))))))
theorem low_0 {b : Int} (h : 0 < b) : lowI 0 b = .tup [.int 0, .int 1] := by
  have : ((b.natAbs : Nat) : Int) = b := by omega
  simp only [lowI, Int.natAbs_zero, Nat.gcd_zero_left, this, Int.zero_ediv]
  rw [Int.ediv_self (by omega)]
def lgapB : FS := (qSeq (qSet 9 (eBin oSub (eBin oMul (eBin oIx (eVar 6) (eVar 8)) (eBin oIx (eVar 1) (eC (.int 0)))) (eBin oMul (eBin oIx (eVar 7) (eVar 8)) (eBin oIx (eVar 0) (eC (.int 0))))))
    (qIf (tst (eBin oGt (eVar 9) (eVar 4)))
    (qSeq (qSet 4 (eVar 9))
    (qSet 5 (eBin oIx (eVar 2) (eVar 8))))
    qNx))
theorem law_gap {l : List (List Str)} {u v : Int} {rs qs : List Rg} {S : Sto} {m p q : Nat} (hl : l.length ≤ 512) (hu : BkOk u rs) (hv : BkOk v qs) (hm : S[m]? = some (sidesC l)) (hp : S[p]? = some (intsC (l.map (soldS rs)))) (hq : S[q]? = some (intsC (l.map (soldS qs)))) :
    F__law_gap [encB u rs, encB v qs, .loc m, .tup [.loc p, .loc q]] S = some (encG u v (gapS (diff u v rs qs) l), S) := by
  have key : ∃ Γ' S', forL (gN 8) lgapB [] (rgD 0 1 l.length) [some (encB u rs), some (encB v qs), some (.loc m), some (.tup [.loc p, .loc q]), some (.int 0), some (.tup []), some (.loc p), some (.loc q), none, none] S = some (.nx, Γ', S') ∧
      (S' = S ∧ ∃ a b, Γ' = [some (encB u rs), some (encB v qs), some (.loc m), some (.tup [.loc p, .loc q]), some (.int (gapS (diff u v rs qs) (l.take (rgD 0 1 l.length).length)).1), some (encS (gapS (diff u v rs qs) (l.take (rgD 0 1 l.length).length)).2), some (.loc p), some (.loc q), a, b]) := by
    refine forL_inv (S := S) (rgD 0 1 l.length) (fun i Γ T => T = S ∧ ∃ a b, Γ = [some (encB u rs), some (encB v qs), some (.loc m), some (.tup [.loc p, .loc q]), some (.int (gapS (diff u v rs qs) (l.take i)).1), some (encS (gapS (diff u v rs qs) (l.take i)).2), some (.loc p), some (.loc q), a, b]) (fun i Γ T _ _ => lkd_nil T) (fun i d Γ T hd h' => ?_) ⟨rfl, _, _, rfl⟩
    obtain ⟨rfl, a, b, rfl⟩ := h'
    have hil := (List.getElem?_eq_some_iff.mp hd).1
    rw [rgD_len] at hil
    have ed : d = .int (i : Nat) := by
      rw [rgD_get _ _ _ _ hil] at hd
      cases hd
      congr 1
      omega
    subst ed
    have hs : l[i]? = some l[i] := List.getElem?_eq_getElem hil
    have i1 : oIx (.loc p) (.int (i : Nat)) T = some (.int (soldS rs l[i]), T) := o_ixl hp (at_get (by rw [List.getElem?_map, List.getElem?_map, hs]; rfl))
    have i2 : oIx (.loc q) (.int (i : Nat)) T = some (.int (soldS qs l[i]), T) := o_ixl hq (at_get (by rw [List.getElem?_map, List.getElem?_map, hs]; rfl))
    have i3 : oIx (.loc m) (.int (i : Nat)) T = some (encS l[i], T) := o_ixl hm (at_get (by rw [List.getElem?_map, hs]; rfl))
    rw [gapS_take _ hs]
    have e9 : (qSet 9 (eBin oSub (eBin oMul (eBin oIx (eVar 6) (eVar 8)) (eBin oIx (eVar 1) (eC (.int 0)))) (eBin oMul (eBin oIx (eVar 7) (eVar 8)) (eBin oIx (eVar 0) (eC (.int 0)))))) [some (encB u rs), some (encB v qs), some (.loc m), some (.tup [.loc p, .loc q]), some (.int (gapS (diff u v rs qs) (l.take i)).1), some (encS (gapS (diff u v rs qs) (l.take i)).2), some (.loc p), some (.loc q), some (.int (i : Nat)), b] T = some (.nx, [some (encB u rs), some (encB v qs), some (.loc m), some (.tup [.loc p, .loc q]), some (.int (gapS (diff u v rs qs) (l.take i)).1), some (encS (gapS (diff u v rs qs) (l.take i)).2), some (.loc p), some (.loc q), some (.int (i : Nat)), some (.int (diff u v rs qs l[i]))], T) :=
      st_s (ev_b (ev_b (ev_b (ev_v rfl) (ev_v rfl) i1) (ev_b (ev_v rfl) ev_c rfl) (o_mul (mul_big (big_sold hu _) hv.big))) (ev_b (ev_b (ev_v rfl) (ev_v rfl) i2) (ev_b (ev_v rfl) ev_c rfl) (o_mul (mul_big (big_sold hv _) hu.big))) rfl)
    refine ⟨_, rfl, ?_⟩
    unfold gstep
    by_cases hc : diff u v rs qs l[i] > (gapS (diff u v rs qs) (l.take i)).1
    · rw [if_pos hc]
      exact ⟨_, _, st_q e9 (st_iT (te_s (ev_b (ev_v rfl) (ev_v rfl) (by rw [oGt, decide_eq_true hc]))) (st_q (st_s (ev_v rfl)) (st_s (ev_b (ev_v rfl) (ev_v rfl) i3)))), rfl, _, _, rfl⟩
    · rw [if_neg hc]
      exact ⟨_, _, st_q e9 (st_iF (te_s (ev_b (ev_v rfl) (ev_v rfl) (by rw [oGt, decide_eq_false hc]))) st_n), rfl, _, _, rfl⟩
  obtain ⟨Γ', S', e, rfl, a, b, rfl⟩ := key
  rw [rgD_len, List.take_length] at e
  have hbig : Big (gapS (diff u v rs qs) l).1 := by
    rcases (gapS_ok (diff u v rs qs) l).2 with h | ⟨_, _, h⟩
    · rw [h]; exact small_of (by decide) (by decide)
    · rw [← h]; exact big_of (diff_lt hu hv _) (by decide)
  refine run_t rfl ?_ (fin2_same _ rfl)
  show Rt m__law_gap [some (encB u rs), some (encB v qs), some (.loc m), some (.tup [.loc p, .loc q]), none, none, none, none, none, none] S' _ _
  refine rt_q (st_s ev_c) (rt_q (st_s (ev_t ar_0)) (rt_q (st_2 (ar_1 (ev_b (ev_v rfl) ev_c rfl) (ar_1 (ev_b (ev_v rfl) ev_c rfl) ar_0))) (rt_q (st_f (it_r (ds := [.int (l.length : Nat)]) (ar_1 (ev_f (ar_1 (ev_v rfl) ar_0) ((b_lenl hm).trans (by rw [List.length_map]))) ar_0) (rg_1 (by omega) (by omega))) e) (rt_r (ev_t (ar_1 (d := lowI (gapS (diff u v rs qs) l).1 (u * v)) ?_ (ar_1 (ev_v rfl) ar_0)))))))
  by_cases hz : (gapS (diff u v rs qs) l).1 = 0
  · rw [hz, low_0 (pos_uv hu hv)]
    exact ev_iF (te_t (ev_v rfl) rfl) (ev_t (ar_1 ev_c (ar_1 ev_c ar_0)))
  · exact ev_iT (te_t (ev_v rfl) (by rw [dTru]; congr 1; simpa using hz)) (ev_f (ar_1 (ev_v rfl) (ar_1 (ev_b (ev_b (ev_v rfl) ev_c rfl) (ev_b (ev_v rfl) ev_c rfl) (o_mul (mul_big hu.big hv.big))) ar_0)) (low hbig (big_uv hu hv) (pos_uv hu hv)))
end K84

namespace K84
open PySem L2 Dl
def SOk (s : List Str) : Prop := ∀ x ∈ s, PyData.strOk x = true
theorem eqv_strs : ∀ a b : List Str, PyData.eqvAll (D.pys (a.map D.str)) (D.pys (b.map D.str)) = decide (a = b)
  | [], [] => rfl
  | [], b :: bs => rfl
  | a :: as, [] => rfl
  | a :: as, b :: bs => by
    have ih := eqv_strs as bs
    simp only [List.map_cons, D.pys, D.py, PyData.eqvAll, PyData.eqv, ih]
    by_cases h : a = b
    · subst h; by_cases h' : as = bs <;> simp [h']
    · simp [h]
theorem lay_strs : ∀ {s : List Str}, SOk s → PyData.canLayAll0 (D.pys (s.map D.str)) = true
  | [], _ => rfl
  | a :: s, h => by
    have := lay_strs (s := s) fun x hx => h x (by simp [hx])
    simp [D.pys, D.py, PyData.canLayAll0, PyData.canLay0, this, h a (by simp)]
theorem shaped_S {s : List Str} (h : SOk s) : SeqAt.shaped (encS s).py = true := by
  simp [encS, D.py, SeqAt.shaped, PyData.canLay0, lay_strs h, PyData.depth, depth_strs s]
theorem py1_S (S : Sto) (s : List Str) : py1 S (encS s) = some (encS s).py := by
  have := encS_pure s
  simp only [encS] at this ⊢
  simp only [py1, this]
  rfl
theorem eq_SS {s t : List Str} (hs : SOk s) (ht : SOk t) (S : Sto) : oEq (encS s) (encS t) S = some (.bl (decide (s = t)), S) := by
  rw [oEq, eqB, py1_S, py1_S]
  simp only
  rw [if_pos ⟨shaped_S hs, shaped_S ht⟩]
  simp only [encS, D.py, PyData.eqv, eqv_strs, Option.map_some]
theorem ne_SS {s t : List Str} (hs : SOk s) (ht : SOk t) (S : Sto) : oNe (encS s) (encS t) S = some (.bl (!decide (s = t)), S) := by
  rw [oNe, eqB, py1_S, py1_S]
  simp only
  rw [if_pos ⟨shaped_S hs, shaped_S ht⟩]
  simp only [encS, D.py, PyData.eqv, eqv_strs, Option.map_some]
theorem sok_nil : SOk [] := fun x hx => by simp at hx
theorem pyO_S (S : Sto) : ∀ l : List (List Str), pyO S (l.map encS) = some (l.map fun s => (encS s).py)
  | [] => rfl
  | s :: l => by rw [List.map_cons, pyO, py1_S, pyO_S S l]; rfl
theorem shaped_L {l : List (List Str)} (h : ∀ s ∈ l, SOk s) : SeqAt.shaped (.list (l.map fun s => (encS s).py)) = true := by
  have h1 : PyData.canLayAll0 (l.map fun s => (encS s).py) = true := by
    induction l with
    | nil => rfl
    | cons s l ih =>
      rw [List.map_cons, PyData.canLayAll0, ih fun t ht => h t (by simp [ht])]
      simp [encS, D.py, PyData.canLay0, lay_strs (h s (by simp))]
  have h2 : PyData.depthAll (l.map fun s => (encS s).py) ≤ 1 := by
    clear h1
    induction l with
    | nil => exact Nat.zero_le _
    | cons s l ih =>
      have := ih fun t ht => h t (by simp [ht])
      rw [List.map_cons, PyData.depthAll]
      simp only [encS, D.py, PyData.depth, depth_strs] at this ⊢
      omega
  show (PyData.canLay0 _ && decide (PyData.depth _ ≤ 64)) = true
  rw [PyData.canLay0, h1, Bool.true_and]
  apply decide_eq_true
  rw [PyData.depth]
  omega
theorem idx_S (t : List Str) : ∀ (l : List (List Str)) (i : Nat), t ∈ l → ∃ j, idxP (l.map fun s => (encS s).py) (encS t).py i = some (i + j) ∧ l[j]? = some t
  | [], i, h => by simp at h
  | s :: l, i, h => by
    have e : PyData.eqv (encS s).py (encS t).py = decide (s = t) := by simp only [encS, D.py, PyData.eqv, eqv_strs]
    rw [List.map_cons, idxP, e]
    by_cases hs : s = t
    · rw [if_pos (decide_eq_true hs)]
      exact ⟨0, rfl, by rw [hs]; rfl⟩
    · rw [if_neg (by simp [hs])]
      have h' : t ∈ l := by
        rcases List.mem_cons.mp h with q | q
        · exact absurd q.symm hs
        · exact q
      obtain ⟨j, e1, e2⟩ := idx_S t l (i + 1) h'
      exact ⟨j + 1, by rw [e1]; congr 1; omega, e2⟩
theorem m_idx {S : Sto} {m : Nat} {l : List (List Str)} {t : List Str} (hm : S[m]? = some (sidesC l)) (hl : ∀ s ∈ l, SOk s) (ht : t ∈ l) : ∃ j : Nat, mIndex (.loc m) [encS t] S = some (.int (j : Nat), S) ∧ l[j]? = some t := by
  obtain ⟨j, e1, e2⟩ := idx_S t l 0 ht
  refine ⟨j, ?_, e2⟩
  simp only [mIndex, hm, sidesC]
  rw [pyO_S, py1_S]
  simp only
  rw [if_pos ⟨shaped_L hl, shaped_S (hl t ht)⟩, e1, Nat.zero_add]
  rfl
theorem never_less {ps : List Str} {u v : Int} {rs qs : List Rg} {S : Sto} (hf : Flat S) (h0 : ps ≠ []) (hl : ps.length ≤ 9) (hu : BkOk u rs) (hv : BkOk v qs) :
    F_never_less [encS ps, encB u rs, encB v qs] S = some (.bl (decide ((gapS (diff v u qs rs) (sides ps)).2 = [])), S) := by
  refine run_t rfl ?_ (fin2_same _ rfl)
  show Rt m_never_less [some (encS ps), some (encB u rs), some (encB v qs), none, none] S _ _
  refine rt_q (st_a (ev_f (ar_1 (ev_v rfl) (ar_1 (ev_v rfl) (ar_1 (ev_v rfl) ar_0))) (gap_of hf h0 hl hv hu)) rfl) (rt_r ?_)
  rcases (gapS_ok (diff v u qs rs) (sides ps)).2 with h | ⟨h1, h2, h3⟩
  · rw [h]
    refine ev_andT (S1 := S) (ev_b (ev_b (ev_v rfl) ev_c rfl) ev_c ?_) (ev_b (ev_v rfl) (ev_t ar_0) ?_)
    · rw [Dl.eq_int]
      simp
    · exact (eq_SS sok_nil sok_nil S).trans (by simp)
  · have hn : (gapS (diff v u qs rs) (sides ps)).2 ≠ [] := fun e => by
      have := (side_few h0 hl h2).1
      rw [e] at this
      exact absurd this (by simp)
    rw [decide_eq_false hn]
    refine ev_andF (ev_b (ev_b (ev_v rfl) ev_c rfl) ev_c ?_)
    rw [Dl.eq_int]
    congr 3
    have hd : Nat.gcd (gapS (diff v u qs rs) (sides ps)).1.natAbs (v * u).natAbs ∣ (gapS (diff v u qs rs) (sides ps)).1.natAbs := Nat.gcd_dvd_left _ _
    have hg : 0 < Nat.gcd (gapS (diff v u qs rs) (sides ps)).1.natAbs (v * u).natAbs := Nat.gcd_pos_of_pos_left _ (by omega)
    have hle := Nat.le_of_dvd (by omega) hd
    have : (1 : Int) ≤ (gapS (diff v u qs rs) (sides ps)).1 / ((Nat.gcd (gapS (diff v u qs rs) (sides ps)).1.natAbs (v * u).natAbs : Nat) : Int) := (Int.le_ediv_iff_mul_le (by omega)).mpr (by omega)
    exact beq_false_of_ne (by omega)
theorem fin2_pair (S T : Sto) (b n : Nat) : fin2 b (.tup [.loc b, .loc n], T) = (.tup [.loc b, .loc n], T) := by
  have e : (D.tup [.loc b, .loc n]).lo b = false := by simp [D.lo, D.los]
  unfold fin2
  split
  · rw [if_neg (by rw [e]; exact Bool.false_ne_true)]
  · rfl
theorem good_S {s : List Str} (h : SOk s) : good (encS s) = true := by
  rw [encS, good, goods_all]
  exact List.all_eq_true.mpr fun d hd => by
    obtain ⟨x, hx, e⟩ := List.mem_map.mp hd
    rw [← e, good]
    exact h x hx
theorem szs_S : ∀ s : List Str, szs (s.map D.str) = s.length
  | [] => rfl
  | x :: s => by rw [List.map_cons, szs, szs_S s, sz, List.length_cons]; omega
theorem good_G (u v : Int) {g : Int × List Str} (h : SOk g.2) : good (encG u v g) = true := by simp [encG, lowI, good, goods, good_S h]
theorem sz_G (u v : Int) {g : Int × List Str} (h : g.2.length ≤ 9) : sz (encG u v g) < 16777216 := by
  simp only [encG, lowI, encS, sz, szs, szs_S]
  omega
/-- what a gap's side is -/
theorem gap_side {ps : List Str} (f : List Str → Int) (h0 : ps ≠ []) (hl : ps.length ≤ 9) (hs : ∀ s ∈ sides ps, SOk s) : SOk (gapS f (sides ps)).2 ∧ (gapS f (sides ps)).2.length ≤ 9 ∧ ((gapS f (sides ps)).2 ≠ [] → (gapS f (sides ps)).2 ∈ sides ps) := by
  rcases (gapS_ok f (sides ps)).2 with h | ⟨h1, h2, h3⟩
  · rw [h]
    exact ⟨sok_nil, Nat.zero_le _, fun q => absurd rfl q⟩
  · exact ⟨hs _ h2, (side_few h0 hl h2).2, fun _ => h2⟩
noncomputable def askB : FS := (qIf (tst (eBin oNe (eVar 8) (eTup [])))
    (qSeq (qSet 9 (eMeth "list" mIndex (eVar 3) [(eVar 8)]))
    (qIf (tOr2 (tNo (tru (eCall F__law_same [(eCall F_sold_over [(eVar 1), (eVar 8)]), (eCall F__law_low [(eBin oIx (eBin oIx (eVar 4) (eC (.int 0))) (eVar 9)), (eBin oIx (eVar 1) (eC (.int 0)))])]))) (tNo (tru (eCall F__law_same [(eCall F_sold_over [(eVar 2), (eVar 8)]), (eCall F__law_low [(eBin oIx (eBin oIx (eVar 4) (eC (.int 1))) (eVar 9)), (eBin oIx (eVar 2) (eC (.int 0)))])]))))
    (qRet (eC .non))
    qNx))
    qNx)
end K84

namespace K84
open PySem L2 Dl
theorem sz_low (a b : Int) : sz (lowI a b) < 16777216 := by simp only [lowI, sz, szs]; decide
theorem asked {ps : List Str} {u v : Int} {rs qs : List Rg} {S : Sto} {m : Nat} (hf : Flat S) (h0 : ps ≠ []) (hl : ps.length ≤ 9) (hok : ∀ s ∈ sides ps, SOk s) (hu : BkOk u rs) (hv : BkOk v qs) (hm : S[m]? = some (sidesC (sides ps))) :
    F__law_asked [encS ps, encB u rs, encB v qs, .loc m] S = some (encG u v (gapS (diff u v rs qs) (sides ps)), S) := by
  have hsl := sides_len hl
  obtain ⟨ok1, few1, in1⟩ := gap_side (diff u v rs qs) h0 hl hok
  obtain ⟨ok2, few2, in2⟩ := gap_side (diff v u qs rs) h0 hl hok
  generalize hg1 : gapS (diff u v rs qs) (sides ps) = g1 at ok1 few1 in1
  generalize hg2 : gapS (diff v u qs rs) (sides ps) = g2 at ok2 few2 in2
  have hf1 : Flat (S ++ [intsC ((sides ps).map (soldS rs))]) := hf.app (intsC_flat _)
  let S1 : Sto := S ++ [intsC ((sides ps).map (soldS rs))] ++ [intsC ((sides ps).map (soldS qs))]
  have hfS1 : Flat S1 := hf1.app (intsC_flat _)
  have hm1 : S1[m]? = some (sidesC (sides ps)) := get_app _ (get_app _ hm)
  have hln : (S ++ [intsC ((sides ps).map (soldS rs))]).length = S.length + 1 := by simp
  have hp : S1[S.length]? = some (intsC ((sides ps).map (soldS rs))) := get_app _ (get_end S [] _)
  have hq : S1[S.length + 1]? = some (intsC ((sides ps).map (soldS qs))) := by rw [← hln]; exact get_end _ [] _
  let S2 : Sto := S1 ++ [.lst [encG u v g1, encG v u g2]]
  have hd1 : (encG u v g1).pure = true := good_pure _ (good_G u v ok1)
  have hd2 : (encG v u g2).pure = true := good_pure _ (good_G v u ok2)
  have hfS2 : Flat S2 := hfS1.app (pures_of fun d hd => by
    rcases List.mem_cons.mp hd with q | q
    · rw [q]; exact hd1
    · rw [List.mem_singleton.mp q]; exact hd2)
  have e_due := law_gap (S := S1) (l := sides ps) hsl hu hv hm1 hp hq
  have e_back := law_gap (S := S1) (l := sides ps) hsl hv hu hm1 hq hp
  have e_gap1 := gap_of (S := S1) hfS1 h0 hl hu hv
  have e_gap2 := gap_of (S := S1) hfS1 h0 hl hv hu
  have e_nl1 := never_less (S := S1) hfS1 h0 hl hu hv
  have e_nl2 := never_less (S := S1) hfS1 h0 hl hv hu
  rw [hg1] at e_due e_gap1 e_nl2
  rw [hg2] at e_back e_gap2 e_nl1
  have t4 : (tidy2 (eTup [(eCall F__law_sold [(eVar 1), (eVar 3)]), (eCall F__law_sold [(eVar 2), (eVar 3)])])) [some (encS ps), some (encB u rs), some (encB v qs), some (.loc m), none, none, none, none, none, none] S = some (.tup [.loc S.length, .loc (S.length + 1)], S1) := by
    refine ev_tidy (ev_t (ar_1 (ev_f (ar_1 (ev_v rfl) (ar_1 (ev_v rfl) ar_0)) (law_sold hf hu hm (by omega))) (ar_1 (ev_f (ar_1 (ev_v rfl) (ar_1 (ev_v rfl) ar_0)) (law_sold hf1 hv (get_app _ hm) (by omega))) ar_0))) ?_
    rw [hln]
    exact fin2_pair S _ _ _
  have loop : ∃ Γ' S', forL (gT [(gN 7), (gN 8)]) askB [(S1.length, .lst [encG u v g1, encG v u g2])] [encG u v g1, encG v u g2] [some (encS ps), some (encB u rs), some (encB v qs), some (.loc m), some (.tup [.loc S.length, .loc (S.length + 1)]), some (encG u v g1), some (encG v u g2), none, none, none] S2 = some (.nx, Γ', S') ∧
      (S' = S2 ∧ ∃ a b c, Γ' = [some (encS ps), some (encB u rs), some (encB v qs), some (.loc m), some (.tup [.loc S.length, .loc (S.length + 1)]), some (encG u v g1), some (encG v u g2), a, b, c]) := by
    refine forL_inv (S := S2) [encG u v g1, encG v u g2] (fun i Γ T => T = S2 ∧ ∃ a b c, Γ = [some (encS ps), some (encB u rs), some (encB v qs), some (.loc m), some (.tup [.loc S.length, .loc (S.length + 1)]), some (encG u v g1), some (encG v u g2), a, b, c]) (fun i Γ T _ h => ?_) (fun i d Γ T hd h' => ?_) ⟨rfl, _, _, _, rfl⟩
    · rw [h.1]
      exact lkd_one (get_end S1 [] _)
    · obtain ⟨rfl, a, b, c, rfl⟩ := h'
      obtain ⟨x, s, rfl, oks, ins⟩ : ∃ x s, d = .tup [x, encS s] ∧ SOk s ∧ (s ≠ [] → s ∈ sides ps) := by
        have hmem := mem_of_get hd
        rcases List.mem_cons.mp hmem with q | q
        · exact ⟨_, _, q, ok1, in1⟩
        · exact ⟨_, _, List.mem_singleton.mp q, ok2, in2⟩
      refine ⟨_, rfl, ?_⟩
      have t0 : (tst (eBin oNe (eVar 8) (eTup []))) [some (encS ps), some (encB u rs), some (encB v qs), some (.loc m), some (.tup [.loc S.length, .loc (S.length + 1)]), some (encG u v g1), some (encG v u g2), some x, some (encS s), c] S2 = some (!decide (s = []), S2) :=
        te_s (ev_b (ev_v rfl) (ev_t ar_0) (ne_SS oks sok_nil S2))
      by_cases hs : s = []
      · rw [decide_eq_true hs] at t0
        exact ⟨_, _, st_iF t0 st_n, rfl, _, _, _, rfl⟩
      · rw [decide_eq_false hs] at t0
        have his := ins hs
        obtain ⟨j, e9, hj⟩ := m_idx (S := S2) (get_app _ hm1) hok his
        have hA : oIx (.loc S.length) (.int (j : Nat)) S2 = some (.int (soldS rs s), S2) := o_ixl (get_app _ hp) (at_get (by rw [List.getElem?_map, List.getElem?_map, hj]; rfl))
        have hB : oIx (.loc (S.length + 1)) (.int (j : Nat)) S2 = some (.int (soldS qs s), S2) := o_ixl (get_app _ hq) (at_get (by rw [List.getElem?_map, List.getElem?_map, hj]; rfl))
        have g1' : good (lowI (soldS rs s) u) = true := by simp [lowI, good, goods]
        have g2' : good (lowI (soldS qs s) v) = true := by simp [lowI, good, goods]
        refine ⟨_, _, st_iT t0 (st_q (st_s (ev_m (ev_v rfl) (ty_l (get_app _ hm1)) (ar_1 (ev_v rfl) ar_0) e9)) (st_iF (te_o (te_nT (te_t (ev_f (ar_1 (ev_f (ar_1 (ev_v rfl) (ar_1 (ev_v rfl) ar_0)) (sold_over hu)) (ar_1 (ev_f (ar_1 (ev_b (ev_b (ev_v rfl) ev_c rfl) (ev_v rfl) hA) (ar_1 (ev_b (ev_v rfl) ev_c rfl) ar_0)) (low (big_sold hu s) hu.big hu.pos)) ar_0)) (same hfS2 g1' (sz_low _ _))) rfl)) (te_nT (te_t (ev_f (ar_1 (ev_f (ar_1 (ev_v rfl) (ar_1 (ev_v rfl) ar_0)) (sold_over hv)) (ar_1 (ev_f (ar_1 (ev_b (ev_b (ev_v rfl) ev_c rfl) (ev_v rfl) hB) (ar_1 (ev_b (ev_v rfl) ev_c rfl) ar_0)) (low (big_sold hv s) hv.big hv.pos)) ar_0)) (same hfS2 g2' (sz_low _ _))) rfl))) st_n)), rfl, _, _, _, rfl⟩
  obtain ⟨Γ', S', e, rfl, a, b, c, rfl⟩ := loop
  have gb : ∀ x : Bool, good (.bl x) = true := fun x => by rw [good]
  have zb : ∀ x : Bool, sz (.bl x) < 16777216 := fun x => by rw [sz]; decide
  have hgg : good (encG u v g1) = true := good_G u v ok1
  have hgb : good (encG v u g2) = true := good_G v u ok2
  refine run_t (S1 := S2) (d := encG u v g1) rfl ?_ ?_
  · show Rt m__law_asked [some (encS ps), some (encB u rs), some (encB v qs), some (.loc m), none, none, none, none, none, none] S _ _
    refine rt_q (st_s t4) (rt_q (st_s (ev_f (ar_1 (ev_v rfl) (ar_1 (ev_v rfl) (ar_1 (ev_v rfl) (ar_1 (ev_v rfl) ar_0)))) e_due)) (rt_q (st_s (ev_f (ar_1 (ev_v rfl) (ar_1 (ev_v rfl) (ar_1 (ev_v rfl) (ar_1 (d := .tup [.loc (S.length + 1), .loc S.length]) rfl ar_0)))) e_back)) ?_))
    refine rt_q (st_iF (te_o (te_nT (te_t (ev_f (ar_1 (ev_f (ar_1 (ev_v rfl) (ar_1 (ev_v rfl) (ar_1 (ev_v rfl) ar_0))) e_gap1) (ar_1 (ev_v rfl) ar_0)) (same hfS1 hgg (sz_G u v few1))) rfl)) (te_nT (te_t (ev_f (ar_1 (ev_f (ar_1 (ev_v rfl) (ar_1 (ev_v rfl) (ar_1 (ev_v rfl) ar_0))) e_gap2) (ar_1 (ev_v rfl) ar_0)) (same hfS1 hgb (sz_G v u few2))) rfl))) st_n) ?_
    refine rt_q (st_iF (te_o (te_nT (te_t (ev_f (ar_1 (ev_f (ar_1 (ev_v rfl) (ar_1 (ev_v rfl) (ar_1 (ev_v rfl) ar_0))) e_nl1) (ar_1 (ev_b (ev_b (ev_v rfl) ev_c rfl) (ev_t ar_0) (eq_SS ok2 sok_nil S1)) ar_0)) (same hfS1 (gb _) (zb _))) rfl)) (te_nT (te_t (ev_f (ar_1 (ev_f (ar_1 (ev_v rfl) (ar_1 (ev_v rfl) (ar_1 (ev_v rfl) ar_0))) e_nl2) (ar_1 (ev_b (ev_b (ev_v rfl) ev_c rfl) (ev_t ar_0) (eq_SS ok1 sok_nil S1)) ar_0)) (same hfS1 (gb _) (zb _))) rfl))) st_n) ?_
    exact rt_q (st_f (it_l (ev_l (ar_1 (ev_v rfl) (ar_1 (ev_v rfl) ar_0))) (get_end S1 [] _)) e) (rt_r (ev_v rfl))
  · show fin2 S.length (encG u v g1, S ++ [_] ++ [_] ++ [_]) = _
    rw [List.append_assoc, List.append_assoc]
    exact fin2_pure _ hf rfl hd1
end K84

namespace K84
open PySem L2 Dl
theorem sl_4 (r : Rg) (S : Sto) : oSl (encR r) none (some 4) S = some (.tup [.str r.h, .str r.k, .str r.a, .str r.b], S) := rfl
theorem sl_2 (r : Rg) (S : Sto) : oSl (encR r) none (some 2) S = some (.tup [.str r.h, .str r.k], S) := rfl
theorem lcm_eq {u v : Int} (hu : 0 < u) (hv : 0 < v) : u / ((Nat.gcd u.natAbs v.natAbs : Nat) : Int) * v = lcmI u v := by
  obtain ⟨m, rfl⟩ : ∃ m : Nat, u = m := ⟨u.natAbs, by omega⟩
  obtain ⟨n, rfl⟩ : ∃ n : Nat, v = n := ⟨v.natAbs, by omega⟩
  rw [lcmI]
  simp only [Int.natAbs_natCast]
  rw [← Int.natCast_ediv, ← Int.natCast_mul, Nat.lcm, Nat.div_mul_right_comm (Nat.gcd_dvd_left m n)]
theorem enc_mul (r : Rg) (t : Int) : D.tup ([.str r.h, .str r.k, .str r.a, .str r.b] ++ [.int (r.n * t)]) = encR (mulR t r) := rfl
theorem add_ls {S1 : Sto} {n : Nat} {l m : List D} (h1 : S1[n]? = some (.lst l)) (hl : l.length + m.length ≤ sizeLine) : oAdd (.loc n) (.loc S1.length) (S1 ++ [.lst m]) = some (.loc (S1.length + 1), S1 ++ ([.lst m] ++ [.lst (l ++ m)])) := by
  rw [oAdd, get_app [.lst m] h1, get_end S1 [] (.lst m)]
  simp only
  rw [if_pos hl, List.append_assoc, List.length_append]
  rfl
theorem law_both {u v : Int} {rs qs : List Rg} {S : Sto} (hf : Flat S) (hu : BkOk u rs) (hv : BkOk v qs) (h1 : ∀ r ∈ rs, mulOk r.n (lcmI u v / u) = true) (h2 : ∀ r ∈ qs, mulOk r.n (lcmI u v / v) = true) :
    F__law_both [encB u rs, encB v qs] S = some (encB (lcmI u v) (bothR u v rs qs), S) := by
  have a := hu.few
  have b := hv.few
  have hg : 0 < Nat.gcd u.natAbs v.natAbs := Nat.gcd_pos_of_pos_left _ (by have := hu.pos; omega)
  have hgl : Nat.gcd u.natAbs v.natAbs ≤ u.natAbs := Nat.le_of_dvd (by have := hu.pos; omega) (Nat.gcd_dvd_left _ _)
  have hgb : Big ((Nat.gcd u.natAbs v.natAbs : Nat) : Int) := small_of (by omega) (by have := hu.lt; have := hu.pos; omega)
  have hub := hu.big
  have hdb : Big (u / ((Nat.gcd u.natAbs v.natAbs : Nat) : Int)) := by
    have h3 : 0 ≤ u / ((Nat.gcd u.natAbs v.natAbs : Nat) : Int) := Int.ediv_nonneg (by have := hu.pos; omega) (by omega)
    have h4 : u / ((Nat.gcd u.natAbs v.natAbs : Nat) : Int) ≤ u := Int.ediv_le_self _ (by have := hu.pos; omega)
    exact small_of h3 (by have := hu.lt; omega)
  let S1 : Sto := S ++ [.lst ((rs.map (mulR (lcmI u v / u))).map encR)]
  have e2 : (eBin oMul (eBin oFdiv (eBin oIx (eVar 0) (eC (.int 0))) (eCall F__law_divisor [(eBin oIx (eVar 0) (eC (.int 0))), (eBin oIx (eVar 1) (eC (.int 0)))])) (eBin oIx (eVar 1) (eC (.int 0)))) [some (encB u rs), some (encB v qs), none, none, none] S = some (.int (lcmI u v), S) := by
    rw [← lcm_eq hu.pos hv.pos]
    exact ev_b (ev_b (ev_b (ev_v rfl) ev_c rfl) (ev_f (ar_1 (ev_b (ev_v rfl) ev_c rfl) (ar_1 (ev_b (ev_v rfl) ev_c rfl) ar_0)) (divisor hu.big hv.big)) (o_fdv (by omega) (fdv_big hgb))) (ev_b (ev_v rfl) ev_c rfl) (o_mul (mul_big hdb hv.big))
  have e3 := lc_rights (fe := eBin oIx (eVar 0) (eC (.int 1))) (el := eBin oAdd (eSl (eVar 4) oNo (oPart (eC (.int 4)))) (eTup [(eBin oMul (eBin oIx (eVar 4) (eC (.int 4))) (eBin oFdiv (eVar 2) (eBin oIx (eVar 0) (eC (.int 0)))))])) (ts := tYs) (Γ := [some (encB u rs), some (encB v qs), some (.int (lcmI u v)), none, none]) (S := S) (S1 := S) (rs := rs) (v := 4) (fR := fun r => encR (mulR (lcmI u v / u) r)) (ev_b (ev_v rfl) ev_c rfl) (by omega) (fun r hr acc =>
    (ev_b (ev_s (ev_v rfl) ev_n (ev_p ev_c) (sl_4 r _)) (ev_t (ar_1 (ev_b (ev_b (ev_v rfl) ev_c rfl) (ev_b (ev_v rfl) (ev_b (ev_v rfl) ev_c rfl) (o_fdv hu.pos (fdv_big hu.big))) (o_mul (h1 r hr))) ar_0)) (o_cat (by simp))).trans (by rw [enc_mul]))
  have e4 := lc_rights (fe := eBin oIx (eVar 1) (eC (.int 1))) (el := eBin oAdd (eSl (eVar 4) oNo (oPart (eC (.int 4)))) (eTup [(eBin oMul (eBin oIx (eVar 4) (eC (.int 4))) (eBin oFdiv (eVar 2) (eBin oIx (eVar 1) (eC (.int 0)))))])) (ts := tYs) (Γ := [some (encB u rs), some (encB v qs), some (.int (lcmI u v)), some (.loc S.length), none]) (S := S1) (S1 := S1) (rs := qs) (v := 4) (fR := fun r => encR (mulR (lcmI u v / v) r)) (ev_b (ev_v rfl) ev_c rfl) (by omega) (fun r hr acc =>
    (ev_b (ev_s (ev_v rfl) ev_n (ev_p ev_c) (sl_4 r _)) (ev_t (ar_1 (ev_b (ev_b (ev_v rfl) ev_c rfl) (ev_b (ev_v rfl) (ev_b (ev_v rfl) ev_c rfl) (o_fdv hv.pos (fdv_big hv.big))) (o_mul (h2 r hr))) ar_0)) (o_cat (by simp))).trans (by rw [enc_mul]))
  have m1 : rs.map (fun r => encR (mulR (lcmI u v / u) r)) = (rs.map (mulR (lcmI u v / u))).map encR := by rw [List.map_map]; rfl
  have m2 : qs.map (fun r => encR (mulR (lcmI u v / v) r)) = (qs.map (mulR (lcmI u v / v))).map encR := by rw [List.map_map]; rfl
  rw [m1] at e3
  rw [m2] at e4
  have pureR : ∀ l : List Rg, D.pures (l.map encR) = true := fun l => pures_of fun d hd => by
    obtain ⟨r, _, e⟩ := List.mem_map.mp hd
    rw [← e]
    simp [encR, D.pure, D.pures]
  have hfS1 : Flat S1 := hf.app (pureR _)
  have hS1l : S1.length = S.length + 1 := by simp [S1]
  have add : oAdd (.loc S.length) (.loc S1.length) (S1 ++ [.lst ((qs.map (mulR (lcmI u v / v))).map encR)]) = some (.loc (S1.length + 1), S1 ++ ([.lst ((qs.map (mulR (lcmI u v / v))).map encR)] ++ [.lst ((bothR u v rs qs).map encR)])) := by
    have := add_ls (S1 := S1) (n := S.length) (l := (rs.map (mulR (lcmI u v / u))).map encR) (m := (qs.map (mulR (lcmI u v / v))).map encR) (get_end S [] _) (by simp only [List.length_map]; rw [line]; omega)
    rw [← List.map_append] at this
    exact this
  have gg : (S1 ++ ([.lst ((qs.map (mulR (lcmI u v / v))).map encR)] ++ [.lst ((bothR u v rs qs).map encR)]))[S1.length + 1]? = some (.lst ((bothR u v rs qs).map encR)) := by
    rw [List.getElem?_append_right (by omega), show S1.length + 1 - S1.length = 1 by omega]
    rfl
  refine run_t (S1 := S1) (d := encB (lcmI u v) (bothR u v rs qs)) rfl ?_ (fin2_pure _ hf rfl ?_)
  · show Rt m__law_both [some (encB u rs), some (encB v qs), none, none, none] S _ _
    refine rt_q (st_s e2) (rt_q (st_s e3) (rt_r (ev_t (ar_1 (ev_v rfl) (ar_1 (ev_tidy (ev_f (ar_1 (ev_b (ev_v rfl) e4 add) ar_0) (b_tup gg)) ?_) ar_0)))))
    exact fin2_pure _ hfS1 rfl (by rw [D.pure]; exact pureR _)
  · simp only [encB, encRs, D.pure, D.pures, pureR, Bool.and_true]
def turnR (r : Rg) : Rg := { r with a := r.b, b := r.a }
theorem turned {u : Int} {rs : List Rg} {S : Sto} (hf : Flat S) (hu : BkOk u rs) : F__law_turned [encB u rs] S = some (encB u (rs.map turnR), S) := by
  have a := hu.few
  have e := lc_rights (fe := eBin oIx (eVar 0) (eC (.int 1))) (el := eBin oAdd (eSl (eVar 1) oNo (oPart (eC (.int 2)))) (eTup [(eBin oIx (eVar 1) (eC (.int 3))), (eBin oIx (eVar 1) (eC (.int 2))), (eBin oIx (eVar 1) (eC (.int 4)))])) (ts := tYs) (Γ := [some (encB u rs), none]) (S := S) (S1 := S) (rs := rs) (v := 1) (fR := fun r => encR (turnR r)) (ev_b (ev_v rfl) ev_c rfl) (by omega) (fun r hr acc =>
    (ev_b (ev_s (ev_v rfl) ev_n (ev_p ev_c) (sl_2 r _)) (ev_t (ar_1 (ev_b (ev_v rfl) ev_c rfl) (ar_1 (ev_b (ev_v rfl) ev_c rfl) (ar_1 (ev_b (ev_v rfl) ev_c rfl) ar_0)))) (o_cat (by simp))).trans rfl)
  have m1 : rs.map (fun r => encR (turnR r)) = (rs.map turnR).map encR := by rw [List.map_map]; rfl
  rw [m1] at e
  have pureR : D.pures ((rs.map turnR).map encR) = true := pures_of fun d hd => by
    obtain ⟨r, _, e⟩ := List.mem_map.mp hd
    rw [← e]
    simp [encR, D.pure, D.pures]
  refine run_t (S1 := S) rfl ?_ (fin2_same _ rfl)
  show Rt m__law_turned [some (encB u rs), none] S _ _
  exact rt_r (ev_t (ar_1 (ev_b (ev_v rfl) ev_c rfl) (ar_1 (ev_tidy (ev_f (ar_1 e ar_0) (b_tup (get_end S [] _))) (fin2_pure _ hf rfl (by rw [D.pure]; exact pureR))) ar_0)))
theorem turn_ok {u : Int} {rs : List Rg} (h : BkOk u rs) : BkOk u (rs.map turnR) := ⟨h.pos, h.lt, by rw [List.length_map]; exact h.few, fun r hr => by
  obtain ⟨q, hq, rfl⟩ := List.mem_map.mp hr
  have ok := h.all q hq
  exact ⟨ok.sh, ok.sk, ok.sb, ok.sa, ok.sm⟩⟩
end K84

namespace K84
open PySem L2 Dl
theorem sold_mul (rs : List Rg) (t : Int) (s : List Str) : soldS (rs.map (mulR t)) s = soldS rs s * t := by
  unfold soldS
  induction rs with
  | nil => simp [sm]
  | cons r rs ih =>
    rw [List.map_cons, sm, sm, ih, Int.add_mul]
    congr 1
    unfold soldR mulR
    simp only
    split
    · rfl
    · split
      · rw [Int.neg_mul]
      · rw [Int.zero_mul]
theorem sold_app (rs qs : List Rg) (s : List Str) : soldS (rs ++ qs) s = soldS rs s + soldS qs s := sm_app _ _ _
theorem sold_both (u v : Int) (rs qs : List Rg) (s : List Str) : soldS (bothR u v rs qs) s = soldS rs s * (lcmI u v / u) + soldS qs s * (lcmI u v / v) := by
  rw [bothR, sold_app, sold_mul, sold_mul]
theorem lcm_l {u v : Int} (hu : 0 < u) (hv : 0 < v) : lcmI u v / u * u = lcmI u v ∧ 0 < lcmI u v / u ∧ lcmI u v / u ≤ v := by
  obtain ⟨m, rfl⟩ : ∃ m : Nat, u = m := ⟨u.natAbs, by omega⟩
  obtain ⟨n, rfl⟩ : ∃ n : Nat, v = n := ⟨v.natAbs, by omega⟩
  have hd : m ∣ Nat.lcm m n := Nat.dvd_lcm_left m n
  have hp : 0 < Nat.lcm m n := Nat.lcm_pos (by omega) (by omega)
  have hl : Nat.lcm m n ≤ m * n := Nat.le_of_dvd (Nat.mul_pos (by omega) (by omega)) (Nat.lcm_dvd_mul m n)
  unfold lcmI
  simp only [Int.natAbs_natCast]
  rw [← Int.natCast_ediv, ← Int.natCast_mul, Nat.div_mul_cancel hd]
  refine ⟨rfl, ?_, ?_⟩
  · have := Nat.div_pos (Nat.le_of_dvd hp hd) (by omega : 0 < m)
    omega
  · have : Nat.lcm m n / m ≤ n := Nat.div_le_of_le_mul hl
    omega
theorem lcm_r {u v : Int} (hu : 0 < u) (hv : 0 < v) : lcmI u v / v * v = lcmI u v ∧ 0 < lcmI u v / v ∧ lcmI u v / v ≤ u := by
  have e : lcmI u v = lcmI v u := by unfold lcmI; rw [Nat.lcm_comm]
  rw [e]
  exact lcm_l hv hu
/-- a book of known size -/
structure Bk (a b c : Nat) (u : Int) (rs : List Rg) : Prop where
  pos : 0 < u
  lt : u.natAbs < 2 ^ a
  few : rs.length ≤ c
  all : ∀ r ∈ rs, RgOk r ∧ r.n.natAbs < 2 ^ b
theorem Bk.ok {a b c : Nat} {u : Int} {rs : List Rg} (h : Bk a b c u rs) (ha : a ≤ 64) (hc : c ≤ 100) : BkOk u rs := ⟨h.pos, by
  have h1 := h.lt
  have h2 : 2 ^ a ≤ 2 ^ 64 := Nat.pow_le_pow_right (by decide) ha
  have := h.pos
  omega, Nat.le_trans h.few hc, fun r hr => (h.all r hr).1⟩
theorem Bk.mono {a b c a' b' c' : Nat} {u : Int} {rs : List Rg} (h : Bk a b c u rs) (ha : a ≤ a') (hb : b ≤ b') (hc : c ≤ c') : Bk a' b' c' u rs :=
  ⟨h.pos, Nat.lt_of_lt_of_le h.lt (Nat.pow_le_pow_right (by decide) ha), Nat.le_trans h.few hc, fun r hr => ⟨(h.all r hr).1, Nat.lt_of_lt_of_le (h.all r hr).2 (Nat.pow_le_pow_right (by decide) hb)⟩⟩
theorem mulR_bk {r : Rg} {t : Int} {i j : Nat} (h : RgOk r) (h1 : r.n.natAbs < 2 ^ i) (h2 : t.natAbs < 2 ^ j) (hij : i + j ≤ 100) : RgOk (mulR t r) ∧ (mulR t r).n.natAbs < 2 ^ (i + j) := by
  have : (r.n * t).natAbs < 2 ^ (i + j) := natAbs_mul_lt h1 h2
  exact ⟨⟨h.sh, h.sk, h.sa, h.sb, Nat.lt_of_lt_of_le this (Nat.pow_le_pow_right (by decide) hij)⟩, this⟩
theorem both_bk {a b c a' b' c' : Nat} {u v : Int} {rs qs : List Rg} (h : Bk a b c u rs) (h' : Bk a' b' c' v qs) (h1 : b + a' ≤ 100) (h2 : b' + a ≤ 100) : Bk (a + a') (max (b + a') (b' + a)) (c + c') (lcmI u v) (bothR u v rs qs) := by
  obtain ⟨l1, l2, l3⟩ := lcm_l h.pos h'.pos
  obtain ⟨r1, r2, r3⟩ := lcm_r h.pos h'.pos
  have t1 : (lcmI u v / u).natAbs < 2 ^ a' := by have := h'.lt; have := h'.pos; omega
  have t2 : (lcmI u v / v).natAbs < 2 ^ a := by have := h.lt; have := h.pos; omega
  refine ⟨?_, ?_, ?_, fun r hr => ?_⟩
  · rw [← l1]; exact Int.mul_pos l2 h.pos
  · rw [← l1, Nat.add_comm]; exact natAbs_mul_lt t1 h.lt
  · rw [bothR, List.length_append, List.length_map, List.length_map]; have := h.few; have := h'.few; omega
  · rcases List.mem_append.mp hr with q | q
    · obtain ⟨x, hx, rfl⟩ := List.mem_map.mp q
      obtain ⟨x1, x2⟩ := h.all x hx
      obtain ⟨y1, y2⟩ := mulR_bk x1 x2 t1 h1
      exact ⟨y1, Nat.lt_of_lt_of_le y2 (Nat.pow_le_pow_right (by decide) (Nat.le_max_left _ _))⟩
    · obtain ⟨x, hx, rfl⟩ := List.mem_map.mp q
      obtain ⟨x1, x2⟩ := h'.all x hx
      obtain ⟨y1, y2⟩ := mulR_bk x1 x2 t2 h2
      exact ⟨y1, Nat.lt_of_lt_of_le y2 (Nat.pow_le_pow_right (by decide) (Nat.le_max_right _ _))⟩
theorem both_mul {a b c a' b' c' : Nat} {u v : Int} {rs qs : List Rg} (h : Bk a b c u rs) (h' : Bk a' b' c' v qs) (ha : a ≤ 64) (ha' : a' ≤ 64) : (∀ r ∈ rs, mulOk r.n (lcmI u v / u) = true) ∧ ∀ r ∈ qs, mulOk r.n (lcmI u v / v) = true := by
  obtain ⟨l1, l2, l3⟩ := lcm_l h.pos h'.pos
  obtain ⟨r1, r2, r3⟩ := lcm_r h.pos h'.pos
  have t1 : (lcmI u v / u).natAbs < 2 ^ a' := by have := h'.lt; have := h'.pos; omega
  have t2 : (lcmI u v / v).natAbs < 2 ^ a := by have := h.lt; have := h.pos; omega
  exact ⟨fun r hr => mul_big (big_of (h.all r hr).1.sm (by decide)) (big_of t1 (by omega)), fun r hr => mul_big (big_of (h'.all r hr).1.sm (by decide)) (big_of t2 (by omega))⟩
/-! ### fractions, scaled -/
theorem low_scale {k a b : Int} (hk : 0 < k) (hb : 0 < b) : lowI (k * a) (k * b) = lowI a b := by
  have hg : ((Nat.gcd (k * a).natAbs (k * b).natAbs : Nat) : Int) = k * ((Nat.gcd a.natAbs b.natAbs : Nat) : Int) := by
    rw [Int.natAbs_mul, Int.natAbs_mul, Nat.gcd_mul_left, Int.natCast_mul]
    congr 1
    omega
  unfold lowI
  rw [hg, Int.mul_ediv_mul_of_pos _ _ hk, Int.mul_ediv_mul_of_pos _ _ hk]
theorem gapS_scale {f g : List Str → Int} {c : Int} (hc : 0 < c) (h : ∀ s, g s = c * f s) (l : List (List Str)) : gapS g l = (c * (gapS f l).1, (gapS f l).2) := by
  induction l using snoc_ind with
  | h0 => simp [gapS]
  | h1 l s ih =>
    rw [gapS_snoc, gapS_snoc, ih]
    unfold gstep
    rw [h s]
    by_cases hq : f s > (gapS f l).1
    · rw [if_pos hq, if_pos (show c * f s > c * (gapS f l).1 from Int.mul_lt_mul_of_pos_left hq hc)]
    · rw [if_neg hq, if_neg (show ¬ c * f s > c * (gapS f l).1 from fun z => hq (Int.lt_of_mul_lt_mul_left z (Int.le_of_lt hc)))]
theorem gapS_ext {f g : List Str → Int} (h : ∀ s, g s = f s) (l : List (List Str)) : gapS g l = gapS f l := by
  have : g = f := funext h
  rw [this]
theorem gapS_none {f : List Str → Int} {l : List (List Str)} (h : ∀ s ∈ l, f s ≤ 0) : gapS f l = (0, []) := by
  rcases (gapS_ok f l).2 with q | ⟨q1, q2, q3⟩
  · exact q
  · have := h _ q2
    omega
theorem gapS_some {f : List Str → Int} {l : List (List Str)} {s : List Str} (hs : s ∈ l) (h : 0 < f s) (hl : ∀ s ∈ l, s ≠ []) : (gapS f l).2 ≠ [] := by
  obtain ⟨a, b⟩ := gapS_ok f l
  have := a s hs
  rcases b with q | ⟨q1, q2, q3⟩
  · rw [q] at this
    have : f s ≤ 0 := this
    omega
  · exact hl _ q2
/-- the same book added to both -/
theorem diff_both {u1 u2 u3 : Int} {r1 r2 r3 : List Rg} (p1 : 0 < u1) (p2 : 0 < u2) (p3 : 0 < u3) (s : List Str) :
    diff (lcmI u1 u3) (lcmI u2 u3) (bothR u1 u3 r1 r3) (bothR u2 u3 r2 r3) s = (lcmI u1 u3 / u1 * (lcmI u2 u3 / u2)) * diff u1 u2 r1 r2 s := by
  obtain ⟨a, _, _⟩ := lcm_l p1 p3
  obtain ⟨b, _, _⟩ := lcm_r p1 p3
  obtain ⟨c, _, _⟩ := lcm_l p2 p3
  obtain ⟨d, _, _⟩ := lcm_r p2 p3
  unfold diff
  rw [sold_both, sold_both]
  generalize lcmI u1 u3 / u1 = a1 at *
  generalize lcmI u1 u3 / u3 = b1 at *
  generalize lcmI u2 u3 / u2 = a2 at *
  generalize lcmI u2 u3 / u3 = b2 at *
  generalize lcmI u1 u3 = U1 at *
  generalize lcmI u2 u3 = U2 at *
  generalize soldS r1 s = S1
  generalize soldS r2 s = S2
  generalize soldS r3 s = S3
  grind
theorem gap_both {u1 u2 u3 : Int} {r1 r2 r3 : List Rg} (p1 : 0 < u1) (p2 : 0 < u2) (p3 : 0 < u3) (l : List (List Str)) :
    encG (lcmI u1 u3) (lcmI u2 u3) (gapS (diff (lcmI u1 u3) (lcmI u2 u3) (bothR u1 u3 r1 r3) (bothR u2 u3 r2 r3)) l) = encG u1 u2 (gapS (diff u1 u2 r1 r2) l) := by
  obtain ⟨a, a0, _⟩ := lcm_l p1 p3
  obtain ⟨c, c0, _⟩ := lcm_l p2 p3
  rw [gapS_scale (Int.mul_pos a0 c0) (diff_both p1 p2 p3) l]
  unfold encG
  simp only
  have : lcmI u1 u3 * lcmI u2 u3 = (lcmI u1 u3 / u1 * (lcmI u2 u3 / u2)) * (u1 * u2) := by grind
  rw [this, low_scale (Int.mul_pos a0 c0) (Int.mul_pos p1 p2)]
/-- a book added against nothing -/
theorem gap_alone {u1 u3 : Int} {r1 r3 : List Rg} (p1 : 0 < u1) (p3 : 0 < u3) (l : List (List Str)) :
    encG (lcmI u1 u3) u1 (gapS (diff (lcmI u1 u3) u1 (bothR u1 u3 r1 r3) r1) l) = encG u3 1 (gapS (diff u3 1 r3 []) l) := by
  obtain ⟨a, a0, _⟩ := lcm_l p1 p3
  obtain ⟨b, b0, _⟩ := lcm_r p1 p3
  have e : ∀ s, diff (lcmI u1 u3) u1 (bothR u1 u3 r1 r3) r1 s = (lcmI u1 u3 / u3 * u1) * diff u3 1 r3 [] s := fun s => by
    unfold diff
    rw [sold_both]
    have : soldS [] s = 0 := rfl
    rw [this]
    generalize lcmI u1 u3 / u1 = a1 at *
    generalize lcmI u1 u3 / u3 = b1 at *
    generalize lcmI u1 u3 = U1 at *
    grind
  rw [gapS_scale (Int.mul_pos b0 p1) e l]
  unfold encG
  simp only
  have : lcmI u1 u3 * u1 = (lcmI u1 u3 / u3 * u1) * (u3 * 1) := by grind
  rw [this, low_scale (Int.mul_pos b0 p1) (by omega)]
/-- both books doubled, one of them in a finer unit -/
theorem gap_twice {U1 U2 t : Int} {r1 r2 : List Rg} (p1 : 0 < U1) (p2 : 0 < U2) (pt : 0 < t) (l : List (List Str)) :
    encG (lcmI (U1 * t) U1) (lcmI U2 U2) (gapS (diff (lcmI (U1 * t) U1) (lcmI U2 U2) (bothR (U1 * t) U1 (r1.map (mulR t)) r1) (bothR U2 U2 r2 r2)) l) =
      .tup [lowI (2 * (gapS (diff U1 U2 r1 r2) l).1) (U1 * U2), encS (gapS (diff U1 U2 r1 r2) l).2] := by
  obtain ⟨a, a0, a1⟩ := lcm_l (Int.mul_pos p1 pt) p1
  obtain ⟨b, b0, b1⟩ := lcm_r (Int.mul_pos p1 pt) p1
  obtain ⟨c, c0, c1⟩ := lcm_l p2 p2
  have e1 : lcmI (U1 * t) U1 = U1 * t := by
    unfold lcmI
    rw [Nat.lcm_eq_left (by rw [Int.natAbs_mul]; exact Nat.dvd_mul_right _ _)]
    have := Int.mul_pos p1 pt
    omega
  have e2 : lcmI U2 U2 = U2 := by unfold lcmI; rw [Nat.lcm_self]; omega
  have q1 : U1 * t / (U1 * t) = 1 := Int.ediv_self (by have := Int.mul_pos p1 pt; omega)
  have q2 : U1 * t / U1 = t := Int.mul_ediv_cancel_left _ (by omega)
  have q3 : U2 / U2 = 1 := Int.ediv_self (by omega)
  have e : ∀ s, diff (lcmI (U1 * t) U1) (lcmI U2 U2) (bothR (U1 * t) U1 (r1.map (mulR t)) r1) (bothR U2 U2 r2 r2) s = (2 * t) * diff U1 U2 r1 r2 s := fun s => by
    unfold diff
    rw [sold_both, sold_both, sold_mul, e1, e2, q1, q2, q3]
    grind
  rw [gapS_scale (by omega) e l]
  unfold encG
  simp only
  rw [e1, e2]
  have : U1 * t * U2 = t * (U1 * U2) := by grind
  have h2 : 2 * t * (gapS (diff U1 U2 r1 r2) l).1 = t * (2 * (gapS (diff U1 U2 r1 r2) l).1) := by grind
  rw [this, h2, low_scale pt (Int.mul_pos p1 p2)]
/-- twice a lowered fraction -/
theorem low_twice {a b : Int} (hb : 0 < b) : lowI (2 * (a / (Nat.gcd a.natAbs b.natAbs : Nat))) (b / (Nat.gcd a.natAbs b.natAbs : Nat)) = lowI (2 * a) b := by
  have hg : 0 < Nat.gcd a.natAbs b.natAbs := Nat.gcd_pos_of_pos_right _ (by omega)
  have d1 : ((Nat.gcd a.natAbs b.natAbs : Nat) : Int) ∣ a := Int.ofNat_dvd_left.mpr (Nat.gcd_dvd_left _ _)
  have d2 : ((Nat.gcd a.natAbs b.natAbs : Nat) : Int) ∣ b := Int.ofNat_dvd_left.mpr (Nat.gcd_dvd_right _ _)
  have e1 := Int.mul_ediv_cancel' d1
  have e2 := Int.mul_ediv_cancel' d2
  have hg' : 0 < ((Nat.gcd a.natAbs b.natAbs : Nat) : Int) := by omega
  generalize ((Nat.gcd a.natAbs b.natAbs : Nat) : Int) = g at *
  have hb' : 0 < b / g := by
    rcases Int.lt_or_le 0 (b / g) with q | q
    · exact q
    · have := Int.mul_nonpos_of_nonneg_of_nonpos (Int.le_of_lt hg') q
      omega
  have := low_scale (a := 2 * (a / g)) hg' hb'
  rw [← this, e2]
  congr 1
  grind
end K84

namespace K84
open PySem L2 Dl
theorem enL_flat (a b : Int) (r : List Int) : (enL a b r).flat = true := pures_of fun d hd => by
  rcases List.mem_cons.mp hd with q | q
  · rw [q, D.pure]
  · rcases List.mem_cons.mp q with q | q
    · rw [q, D.pure]
    · obtain ⟨i, _, e⟩ := List.mem_map.mp q
      rw [← e, D.pure]
def ledB : FS := (qSeq (qSet 3 (eCall bAbs [(eCall bInt [(eVar 2)])]))
    (qSeq (qPut (eBin oMod (eCall bInt [(eBin oAdd (eBin oAdd (eBin oMul (eBin oIx (eVar 1) (eC (.int 0))) (eC (.int 17011))) (eBin oMod (eCall bInt [(eVar 3)]) (eC (.int 1000453)))) (eC (.int 167)))]) (eC (.int 2147482867))) (eVar 1) (eC (.int 0)))
    (qIf (tst (eBin oGe (eVar 3) (eBin oPow (eC (.int 10)) (eC (.int 16)))))
    (qDrop (eMeth "list" mInsert (eVar 1) [(eC (.int 2)), (eVar 3)]))
    qNx)))
theorem cut_ints (ns : List Int) : ∃ ms : List Int, Dl.cut (ns.map D.int) none (some 60) = ms.map D.int ∧ ms.length ≤ 60 := by
  refine ⟨(ns.drop 0).take (min 60 ns.length), ?_, by rw [List.length_take]; omega⟩
  unfold Dl.cut
  have : HT.sIx (ns.map D.int).length (ns.map D.int).length (some 60) = min 60 (ns.map D.int).length := HT.sIx_nat _ _ 60
  rw [this, HT.sIx_none, Nat.sub_zero, List.length_map, List.map_take, List.map_drop]
theorem ledger_ {ns : List Int} : ∃ a b r, F__law_ledger [.loc 0] [.ro (ns.map D.int)] = some (.loc 1, [.ro (ns.map D.int)] ++ [enL a b r]) ∧ LedOk r := by
  obtain ⟨ms, hc, hl⟩ := cut_ints ns
  have key : ∃ Γ' S', forL (gN 2) ledB [(2, .lst (ms.map D.int))] (ms.map D.int) [some (.loc 0), some (.loc 1), none, none] ([.ro (ns.map D.int)] ++ [enL 70079 113 []] ++ [.lst (ms.map D.int)]) = some (.nx, Γ', S') ∧
      (∃ a b r, S' = [.ro (ns.map D.int), enL a b r, .lst (ms.map D.int)] ∧ r.length ≤ (ms.map D.int).length ∧ (∀ x ∈ r, 0 ≤ x) ∧ ∃ c d, Γ' = [some (.loc 0), some (.loc 1), c, d]) := by
    refine forL_inv (S := [.ro (ns.map D.int)] ++ [enL 70079 113 []] ++ [.lst (ms.map D.int)]) (ms.map D.int) (fun i Γ T => ∃ a b r, T = [.ro (ns.map D.int), enL a b r, .lst (ms.map D.int)] ∧ r.length ≤ i ∧ (∀ x ∈ r, 0 ≤ x) ∧ ∃ c d, Γ = [some (.loc 0), some (.loc 1), c, d]) (fun i Γ T _ h => ?_) (fun i d Γ T hd h' => ?_) ⟨70079, 113, [], rfl, Nat.le_refl _, fun x hx => by simp at hx, _, _, rfl⟩
    · obtain ⟨a, b, r, rfl, _⟩ := h
      exact lkd_one rfl
    · obtain ⟨a, b, r, rfl, hr, hp, c, e, rfl⟩ := h'
      have hil := (List.getElem?_eq_some_iff.mp hd).1
      rw [List.length_map] at hil
      rw [List.getElem?_map] at hd
      obtain ⟨x, hx, rfl⟩ := map_some hd
      refine ⟨_, rfl, ?_⟩
      have hx0 : (0 : Int) ≤ (if x < 0 then -x else x) := by split <;> omega
      have s3 : (qSet 3 (eCall bAbs [(eCall bInt [(eVar 2)])])) [some (.loc 0), some (.loc 1), some (.int x), e] [.ro (ns.map D.int), enL a b r, .lst (ms.map D.int)] = some (.nx, [some (.loc 0), some (.loc 1), some (.int x), some (.int (if x < 0 then -x else x))], [.ro (ns.map D.int), enL a b r, .lst (ms.map D.int)]) :=
        st_s (ev_f (ar_1 (ev_f (ar_1 (ev_v rfl) ar_0) rfl) ar_0) rfl)
      generalize (if x < 0 then -x else x) = y at hx0 s3
      have s4 : (qPut (eBin oMod (eCall bInt [(eBin oAdd (eBin oAdd (eBin oMul (eBin oIx (eVar 1) (eC (.int 0))) (eC (.int 17011))) (eBin oMod (eCall bInt [(eVar 3)]) (eC (.int 1000453)))) (eC (.int 167)))]) (eC (.int 2147482867))) (eVar 1) (eC (.int 0))) [some (.loc 0), some (.loc 1), some (.int x), some (.int y)] [.ro (ns.map D.int), enL a b r, .lst (ms.map D.int)] = some (.nx, [some (.loc 0), some (.loc 1), some (.int x), some (.int y)], [.ro (ns.map D.int), enL ((a * 17011 + y % 1000453 + 167) % 2147482867) b r, .lst (ms.map D.int)]) :=
        st_p (ev_b (ev_f (ar_1 (ev_b (ev_b (ev_b (ev_b (ev_v rfl) ev_c (o_ixl rfl (at_0 _ _))) ev_c (o_mulr (by decide))) (ev_b (ev_f (ar_1 (ev_v rfl) ar_0) rfl) ev_c (o_mod (by decide))) rfl) ev_c rfl) ar_0) rfl) ev_c (o_mod (by decide))) (ev_v rfl) ev_c (s_e (c := enL _ b r) rfl (ix_0 (by simp)) rfl)
      have t5 : (tst (eBin oGe (eVar 3) (eBin oPow (eC (.int 10)) (eC (.int 16))))) [some (.loc 0), some (.loc 1), some (.int x), some (.int y)] [.ro (ns.map D.int), enL ((a * 17011 + y % 1000453 + 167) % 2147482867) b r, .lst (ms.map D.int)] = some (decide ((10000000000000000 : Int) ≤ y), [.ro (ns.map D.int), enL ((a * 17011 + y % 1000453 + 167) % 2147482867) b r, .lst (ms.map D.int)]) := by
        refine te_s (ev_b (ev_v rfl) (ev_b ev_c ev_c (z := .int 10000000000000000) (S3 := [.ro (ns.map D.int), enL ((a * 17011 + y % 1000453 + 167) % 2147482867) b r, .lst (ms.map D.int)]) ?_) rfl)
        rw [oPow, if_pos (by decide)]
        rfl
      by_cases hc : (10000000000000000 : Int) ≤ y
      · rw [decide_eq_true hc] at t5
        have t6 : (qDrop (eMeth "list" mInsert (eVar 1) [(eC (.int 2)), (eVar 3)])) [some (.loc 0), some (.loc 1), some (.int x), some (.int y)] [.ro (ns.map D.int), enL ((a * 17011 + y % 1000453 + 167) % 2147482867) b r, .lst (ms.map D.int)] = some (.nx, [some (.loc 0), some (.loc 1), some (.int x), some (.int y)], [.ro (ns.map D.int), enL ((a * 17011 + y % 1000453 + 167) % 2147482867) b (y :: r), .lst (ms.map D.int)]) := by
          refine st_d (d := .non) (ev_m (ev_v rfl) (ty_l rfl) (ar_1 ev_c (ar_1 (ev_v rfl) ar_0)) ?_)
          show (if _ then _ else _) = _
          rw [if_pos ⟨by rw [line]; simp only [List.length_cons, List.length_map]; omega, by decide, by decide⟩]
          rfl
        refine ⟨_, _, st_q s3 (st_q s4 (st_iT t5 t6)), _, _, _, rfl, by simp only [List.length_cons]; omega, fun z hz => ?_, _, _, rfl⟩
        rcases List.mem_cons.mp hz with q | q
        · rw [q]; exact hx0
        · exact hp z q
      · rw [decide_eq_false hc] at t5
        exact ⟨_, _, st_q s3 (st_q s4 (st_iF t5 st_n)), _, _, _, rfl, by omega, hp, _, _, rfl⟩
  obtain ⟨Γ', S', e, a, b, r, rfl, hr, hp, c, d, rfl⟩ := key
  have hro : Flat [Cell.ro (ns.map D.int)] := fun c hc => by
    rw [List.mem_singleton.mp hc]
    exact pures_of fun d hd => by
      obtain ⟨i, _, q⟩ := List.mem_map.mp hd
      rw [← q, D.pure]
  refine ⟨a, b, r, run_t (S1 := [.ro (ns.map D.int)] ++ [enL a b r, .lst (ms.map D.int)]) (d := .loc (1 + 0)) rfl ?_ (fin2_loc (j := 0) hro rfl rfl (enL_flat _ _ _)), ⟨by rw [List.length_map] at hr; omega, hp⟩⟩
  show Rt m__law_ledger [some (.loc 0), none, none, none] [.ro (ns.map D.int)] _ _
  have eit : (iVal (eSl (eVar 0) oNo (oPart (eC (.int 60))))) [some (.loc 0), some (.loc 1), none, none] ([.ro (ns.map D.int)] ++ [enL 70079 113 []]) = some ((ms.map D.int, [(2, .lst (ms.map D.int))]), [.ro (ns.map D.int)] ++ [enL 70079 113 []] ++ [.lst (ms.map D.int)]) := by
    refine it_l (m := 2) (ev_s (ev_v rfl) ev_n (ev_p ev_c) ?_) rfl
    show some (D.loc 2, [Cell.ro (ns.map D.int)] ++ [enL 70079 113 []] ++ [Cell.lst (Dl.cut (ns.map D.int) none (some 60))]) = _
    rw [hc]
  have e1 : (qSet 1 (eLst [(eC (.int 70079)), (eC (.int 113))])) [some (.loc 0), none, none, none] [.ro (ns.map D.int)] = some (.nx, [some (.loc 0), some (.loc 1), none, none], [.ro (ns.map D.int)] ++ [enL 70079 113 []]) := st_s (ev_l (ar_1 ev_c (ar_1 ev_c ar_0)))
  exact rt_q e1 (rt_q (st_f eit e) (rt_r (ev_v rfl)))
/-! ### names of places -/
theorem strOk_app {x y : Str} (h : PyData.strOk x = true) (h' : PyData.strOk y = true) : PyData.strOk (x ++ y) = true := by
  show (x.cps ++ y.cps).all _ = true
  rw [Array.all_append]
  exact Bool.and_eq_true_iff.mpr ⟨h, h'⟩
theorem digit {k : Nat} (h : k < 9) : (toString (k : Int) : Str) = ⟨#[48 + k]⟩ := by
  have : ∀ k : Fin 9, (toString ((k.val : Nat) : Int) : Str) = ⟨#[48 + k.val]⟩ := by decide +kernel
  exact this ⟨k, h⟩
theorem tail_ok {h : Nat} (hh : h < 4) : PyData.strOk (Txt.slice ("ab0" : Str) none (some (h : Int))) = true ∧ (Txt.slice ("ab0" : Str) none (some (h : Int))).length ≤ 3 := by
  have : ∀ k : Fin 4, PyData.strOk (Txt.slice ("ab0" : Str) none (some ((k.val : Nat) : Int))) = true ∧ (Txt.slice ("ab0" : Str) none (some ((k.val : Nat) : Int))).length ≤ 3 := by decide +kernel
  exact this ⟨h, hh⟩
def abc : Str := "abcdefghijklmnopqrstuvwxyz"
theorem abc_ok : abc.cps.toList.length = 26 ∧ ∀ c ∈ abc.cps.toList, c < 1114112 := by
  have : abc.cps.toList.length = 26 ∧ ∀ c ∈ abc.cps.toList, c < 1114112 := by decide +kernel
  exact this
theorem abc_len : abc.length ≤ sizeLine := by
  have : abc.length = 26 := by decide +kernel
  rw [this, line]
  omega
/-- the k-th name -/
def NameOk (k : Nat) (x : Str) : Prop := PyData.strOk x = true ∧ x.cps[1]? = some (48 + k)
end K84

namespace K84
open PySem L2 Dl
theorem strsC_flat (l : List Str) : (Cell.lst (l.map D.str)).flat = true := pures_of fun d hd => by
  obtain ⟨i, _, e⟩ := List.mem_map.mp hd
  rw [← e, D.pure]
theorem o_cats {x y : Str} {S : Sto} (h : x.length + y.length ≤ 1000) : oAdd (.str x) (.str y) S = some (.str (x ++ y), S) := by
  rw [oAdd, if_pos (by rw [line]; omega)]
theorem sl_str {z : Str} {lo hi : Option Int} {S : Sto} (h : z.length ≤ sizeLine) : oSl (.str z) lo hi S = some (.str (Txt.slice z lo hi), S) := by
  unfold oSl
  exact if_pos h
theorem len_app (x y : Str) : (x ++ y).length = x.length + y.length := by
  show (x.cps ++ y.cps).size = _
  rw [Array.size_append]
  rfl
noncomputable def plB : FS := (qSeq (qSet 6 (eBin oAdd (eBin oIx (eVar 2) (eBin oMod (eCall bInt [(eBin oAdd (eVar 4) (eBin oMul (eVar 5) (tidy2 (eCall F__law_of [(eVar 0), (eLst [(eC (.int 0)), (eC (.int 1))])]))))]) (eC (.int 26)))) (eCall bStr [(eVar 5)])))
    (qDrop (eMeth "list" mAppend (eVar 3) [(eBin oAdd (eVar 6) (eSl (eC (.str "ab0")) oNo (oPart (eCall F__law_entry [(eVar 0), (eC (.int 4))]))))])))
def sortN (l : List Str) : List Str := l.mergeSort fun a b => PySem.W.dataLe false D.py (.str a) (.str b)
theorem sortD_N (l : List Str) : sortD (l.map D.str) = (sortN l).map D.str := (List.map_mergeSort (f := D.str) (s := PySem.W.dataLe false D.py) fun a _ b _ => rfl).symm
theorem sortN_perm (l : List Str) : (sortN l).Perm l := List.mergeSort_perm _ _
theorem sortOk_N (l : List Str) (hl : l.length ≤ 1000) : SortOk (l.map D.str) where
  pure := List.all_eq_true.mpr fun d hd => by
    obtain ⟨s, _, e⟩ := List.mem_map.mp hd
    rw [← e, D.pure]
  al := fun d hd d' hd' => by
    rw [List.map_map] at hd hd'
    obtain ⟨s, _, e⟩ := List.mem_map.mp hd
    obtain ⟨t, _, e'⟩ := List.mem_map.mp hd'
    rw [← e, ← e']
    simp only [Function.comp, D.py, PySem.W.alike]
  so := .inr fun d hd => by
    rw [List.map_map] at hd
    obtain ⟨s, hs, e⟩ := List.mem_map.mp hd
    rw [← e]
    exact ⟨fun q => by simp [D.py] at q, fun xs q => by simp [D.py] at q⟩
  few := by rw [List.length_map, line]; omega
  deep := fun d hd => by
    obtain ⟨s, _, e⟩ := List.mem_map.mp hd
    rw [← e]
    simp [D.py, PyData.depth]
theorem places_ {S : Sto} {n many : Nat} (h : Led S n) (hf : Flat S) (hm : many ≤ 9) : ∃ ps S', F__law_places [.loc n, .int (many : Nat)] S = some (encS ps, S') ∧ Up n S S' ∧ ps.length = many ∧ SOk ps ∧ ps.Nodup := by
  have hn := h.lt
  obtain ⟨v, T1, ed, ev, ut⟩ := draw (S := S ++ [.lst []]) (m := 26) (h.app _) (by decide) (by decide)
  obtain ⟨S1, rfl, u1⟩ := ut.app hn
  have hS1l := u1.len
  have key : ∃ Γ' S', forL (gN 5) plB [] (rgD 0 1 many) [some (.loc n), some (.int (many : Nat)), some (.str abc), some (.loc S.length), some (.int (v : Nat)), none, none] (S1 ++ [.lst ([].map D.str)]) = some (.nx, Γ', S') ∧
      (∃ (S2 : Sto) (names : List Str), S' = S2 ++ [.lst (names.map D.str)] ∧ Up n S S2 ∧ names.length = (rgD 0 1 many).length ∧ (∀ j x, names[j]? = some x → NameOk j x) ∧ ∃ a b, Γ' = [some (.loc n), some (.int (many : Nat)), some (.str abc), some (.loc S.length), some (.int (v : Nat)), a, b]) := by
    refine forL_inv (S := S1 ++ [.lst ([].map D.str)]) (rgD 0 1 many) (fun i Γ T => ∃ (S2 : Sto) (names : List Str), T = S2 ++ [.lst (names.map D.str)] ∧ Up n S S2 ∧ names.length = i ∧ (∀ j x, names[j]? = some x → NameOk j x) ∧ ∃ a b, Γ = [some (.loc n), some (.int (many : Nat)), some (.str abc), some (.loc S.length), some (.int (v : Nat)), a, b]) (fun i Γ T _ _ => lkd_nil T) (fun i d Γ T hd h' => ?_) ⟨S1, [], rfl, u1, rfl, fun j x q => by simp at q, _, _, rfl⟩
    obtain ⟨S2, names, rfl, u2, hlen, hok, a, b, rfl⟩ := h'
    have hil := (List.getElem?_eq_some_iff.mp hd).1
    rw [rgD_len] at hil
    have edd : d = .int (i : Nat) := by
      rw [rgD_get _ _ _ _ hil] at hd
      cases hd
      congr 1
      omega
    subst edd
    have hf2 := u2.flat hf
    have hS2l := u2.len
    have hfT : Flat (S2 ++ [.lst (names.map D.str)]) := hf2.app (strsC_flat _)
    obtain ⟨dx, T', hdx, eo, uo⟩ := of_lit (Γ := [some (.loc n), some (.int (many : Nat)), some (.str abc), some (.loc S.length), some (.int (v : Nat)), some (.int (i : Nat)), b]) (S := S2 ++ [.lst (names.map D.str)]) (n := n) (i := 0) (fs := [(eC (.int 0)), (eC (.int 1))]) rfl (ar_1 ev_c (ar_1 ev_c ar_0)) (u2.led.app _) hfT (fun d hd => by
      rcases List.mem_cons.mp hd with q | q
      · rw [q, D.pure]
      · rw [List.mem_singleton.mp q, D.pure]) (by decide) (by decide) rfl
    obtain ⟨S3, rfl, u3⟩ := uo.app (by rw [hS2l]; exact hn)
    obtain ⟨x, rfl, hx⟩ : ∃ x : Int, dx = .int x ∧ x.natAbs < 2 ^ 64 := by
      rcases List.mem_cons.mp hdx with q | q
      · exact ⟨_, q, by decide⟩
      · exact ⟨_, List.mem_singleton.mp q, by decide⟩
    have hr0 : 0 ≤ ((v : Int) + (i : Int) * x) % 26 := Int.emod_nonneg _ (by decide)
    have hr1 : ((v : Int) + (i : Int) * x) % 26 < 26 := Int.emod_lt_of_pos _ (by decide)
    obtain ⟨rr, hrr⟩ : ∃ rr : Nat, ((v : Int) + (i : Int) * x) % 26 = rr := ⟨(((v : Int) + (i : Int) * x) % 26).toNat, by omega⟩
    have hrl : rr < abc.cps.toList.length := by rw [abc_ok.1]; omega
    have hlog : ((i : Nat) : Int).natAbs.log2 < 1920 := by
      have := log_of (x := ((i : Nat) : Int).natAbs) (k := 4) (by rw [Int.natAbs_natCast]; omega)
      omega
    have e6 : (qSet 6 (eBin oAdd (eBin oIx (eVar 2) (eBin oMod (eCall bInt [(eBin oAdd (eVar 4) (eBin oMul (eVar 5) (tidy2 (eCall F__law_of [(eVar 0), (eLst [(eC (.int 0)), (eC (.int 1))])]))))]) (eC (.int 26)))) (eCall bStr [(eVar 5)]))) [some (.loc n), some (.int (many : Nat)), some (.str abc), some (.loc S.length), some (.int (v : Nat)), some (.int (i : Nat)), b] (S2 ++ [.lst (names.map D.str)]) = some (.nx, [some (.loc n), some (.int (many : Nat)), some (.str abc), some (.loc S.length), some (.int (v : Nat)), some (.int (i : Nat)), some (.str ((⟨#[abc.cps.toList[rr]]⟩ : Str) ++ ⟨#[48 + i]⟩))], S3 ++ [.lst (names.map D.str)]) := by
      refine st_s (n := 6) (ev_b (ev_b (ev_v rfl) (ev_b (ev_f (ar_1 (ev_b (ev_v rfl) (ev_b (ev_v rfl) eo (o_mulr hx)) rfl) ar_0) rfl) ev_c (o_mod (by decide))) (z := .str ⟨#[abc.cps.toList[rr]]⟩) (S3 := S3 ++ [.lst (names.map D.str)]) ?_) (ev_f (ar_1 (ev_v rfl) ar_0) (z := .str ⟨#[48 + i]⟩) (S2 := S3 ++ [.lst (names.map D.str)]) ?_) (o_cats (by show 1 + 1 ≤ 1000; decide)))
      · rw [hrr]
        simp only [oIx]
        rw [if_pos abc_len, at_nat hrl]
        rfl
      · rw [bStr, if_pos hlog, digit (by omega)]
    obtain ⟨w, T4, e4, hw, u4⟩ := draw (S := S3 ++ [.lst (names.map D.str)]) (m := 4) (u3.led.app _) (by decide) (by decide)
    obtain ⟨S4, rfl, u5⟩ := u4.app (by rw [u3.len, hS2l]; exact hn)
    obtain ⟨ht1, ht2⟩ := tail_ok (h := w) (by omega)
    have hS4l : S4.length = S.length := by rw [u5.len, u3.len, hS2l]
    have hlast : abc.cps.toList[rr] < 1114112 := abc_ok.2 _ (List.getElem_mem hrl)
    have hnm : NameOk i (((⟨#[abc.cps.toList[rr]]⟩ : Str) ++ ⟨#[48 + i]⟩) ++ Txt.slice ("ab0" : Str) none (some (w : Int))) := by
      refine ⟨strOk_app (strOk_app ?_ ?_) ht1, ?_⟩
      · show (#[abc.cps.toList[rr]] : Array Nat).all _ = true
        simpa using hlast
      · show (#[48 + i] : Array Nat).all _ = true
        simp
        omega
      · show ((#[abc.cps.toList[rr]] ++ #[48 + i] : Array Nat) ++ _)[1]? = _
        rw [Array.getElem?_append_left (by simp)]
        rfl
    have e7 : (eBin oAdd (eVar 6) (eSl (eC (.str "ab0")) oNo (oPart (eCall F__law_entry [(eVar 0), (eC (.int 4))])))) [some (.loc n), some (.int (many : Nat)), some (.str abc), some (.loc S.length), some (.int (v : Nat)), some (.int (i : Nat)), some (.str ((⟨#[abc.cps.toList[rr]]⟩ : Str) ++ ⟨#[48 + i]⟩))] (S3 ++ [.lst (names.map D.str)]) = some (.str (((⟨#[abc.cps.toList[rr]]⟩ : Str) ++ ⟨#[48 + i]⟩) ++ Txt.slice ("ab0" : Str) none (some (w : Int))), S4 ++ [.lst (names.map D.str)]) := by
      have h3 : ("ab0" : Str).length = 3 := by decide +kernel
      have hsl : oSl (.str ("ab0" : Str)) none (some (w : Int)) (S4 ++ [.lst (names.map D.str)]) = some (.str (Txt.slice ("ab0" : Str) none (some (w : Int))), S4 ++ [.lst (names.map D.str)]) := sl_str (by rw [h3, line]; omega)
      exact ev_b (ev_v rfl) (ev_s ev_c ev_n (ev_p (ev_f (ar_1 (ev_v rfl) (ar_1 ev_c ar_0)) e4)) hsl) (o_cats (by
        rw [len_app]
        show 1 + 1 + _ ≤ 1000
        omega))
    refine ⟨_, rfl, _, S4 ++ [.lst ((names ++ [((⟨#[abc.cps.toList[rr]]⟩ : Str) ++ ⟨#[48 + i]⟩) ++ Txt.slice ("ab0" : Str) none (some (w : Int))]).map D.str)], st_q e6 (st_d (d := .non) (ev_m (ev_v rfl) (ty_l (l := names.map D.str) ?_) (ar_1 e7 ar_0) ?_)), S4, _, rfl, (u2.trans u3).trans u5, by rw [List.length_append, List.length_singleton, hlen], fun j y hj => ?_, _, _, rfl⟩
    · rw [show S.length = S3.length by rw [u3.len, hS2l]]
      exact get_end _ [] _
    · rw [← hS4l]
      refine app_end (by rw [line, List.length_map]; omega) ?_
      simp
    · by_cases hj' : j < names.length
      · rw [List.getElem?_append_left hj'] at hj
        exact hok j y hj
      · rw [List.getElem?_append_right (by omega)] at hj
        have h1 : j - names.length = 0 := by
          have := (List.getElem?_eq_some_iff.mp hj).1
          simp at this
          omega
        rw [h1] at hj
        cases hj
        have : j = i := by omega
        rw [this]
        exact hnm
  obtain ⟨Γ', S', e, S2, names, rfl, u2, hlen, hok, a, b, rfl⟩ := key
  rw [rgD_len] at hlen
  have hS2l := u2.len
  have hf2 := u2.flat hf
  have hp := sortN_perm names
  have nd : names.Nodup := by
    refine List.pairwise_iff_getElem.mpr fun i j hi hj hij e => ?_
    have h1 : names[j]? = some names[j] := List.getElem?_eq_getElem hj
    have h2 := hok j _ h1
    have h3 := hok i _ ((List.getElem?_eq_getElem hi).trans (congrArg some e))
    have := h2.2.symm.trans h3.2
    simp at this
    omega
  refine ⟨sortN names, S2, run_t (S1 := S2 ++ [.lst (names.map D.str)]) rfl ?_ (fin2_pure _ hf2 hS2l (encS_pure _)), u2, by rw [hp.length_eq, hlen], fun x hx => ?_, hp.nodup_iff.mpr nd⟩
  · show Rt m__law_places [some (.loc n), some (.int (many : Nat)), none, none, none, none, none] S _ _
    have eS : bSorted [.loc S.length] (S2 ++ [.lst (names.map D.str)]) = some (.loc (S.length + 1), S2 ++ [.lst (names.map D.str)] ++ [.lst ((sortN names).map D.str)]) := by
      have e0 : iterD (S2 ++ [.lst (names.map D.str)]) (.loc S.length) = some (names.map D.str) := by
        have g := get_end S2 [] (Cell.lst (names.map D.str))
        rw [hS2l] at g
        simp only [iterD, g]
      rw [bSorted, e0]
      simp only
      rw [if_pos (sortOk_N _ (by omega)), sortD_N, List.length_append, hS2l]
      rfl
    have l1 : (S2 ++ [Cell.lst (names.map D.str)]).length = S.length + 1 := by rw [List.length_append, hS2l]; rfl
    have g1 : (S2 ++ [.lst (names.map D.str)] ++ [.lst ((sortN names).map D.str)])[S.length + 1]? = some (.lst ((sortN names).map D.str)) := by
      rw [← l1]
      exact get_end _ [] _
    have eN : (qSet 3 (eLst [])) [some (.loc n), some (.int (many : Nat)), some (.str abc), none, none, none, none] S = some (.nx, [some (.loc n), some (.int (many : Nat)), some (.str abc), some (.loc S.length), none, none, none], S ++ [.lst []]) := st_s (ev_l ar_0)
    refine rt_q (st_s ev_c) (rt_q eN (rt_q (st_s (ev_f (ar_1 (ev_v rfl) (ar_1 ev_c ar_0)) ed)) (rt_q (st_f (it_r (ar_1 (ev_v rfl) ar_0) (rg_1 (by omega) (by omega))) e) (rt_r (ev_tidy (ev_f (ar_1 (ev_f (ar_1 (ev_v rfl) ar_0) eS) ar_0) (b_tup g1)) ?_)))))
    exact fin2_pure _ (hf2.app (strsC_flat _)) rfl (encS_pure _)
  · obtain ⟨j, hj, e⟩ := List.getElem_of_mem (hp.mem_iff.mp hx)
    exact (hok j x (by rw [← e]; exact List.getElem?_eq_getElem hj)).1
end K84

namespace K84
open PySem L2 Dl
theorem draw_x {S : Sto} (X : Sto) {n : Nat} {m : Int} (h : Led S n) (hm : 0 < m) (hm2 : m < 2 ^ 249) : ∃ (v : Nat) (S' : Sto), F__law_entry [.loc n, .int m] (S ++ X) = some (.int v, S' ++ X) ∧ (v : Int) < m ∧ Up n S S' := by
  obtain ⟨v, T, e1, e2, u⟩ := draw (S := S ++ X) (h.app X) hm hm2
  obtain ⟨S', rfl, u'⟩ := u.app h.lt
  exact ⟨v, S', e1, e2, u'⟩
theorem of_x {S : Sto} (X : Sto) {n r : Nat} {rows : List D} (h : Led S n) (hr : (S ++ X)[r]? = some (.lst rows)) (hne : r ≠ n) (h0 : 0 < rows.length) (hl : rows.length < 1000) :
    ∃ d S', d ∈ rows ∧ F__law_of [.loc n, .loc r] (S ++ X) = some (d, S' ++ X) ∧ Up n S S' := by
  obtain ⟨d, T, e1, e2, u⟩ := of_ (S := S ++ X) (h.app X) hr hne h0 hl
  obtain ⟨S', rfl, u'⟩ := u.app h.lt
  exact ⟨d, S', e1, e2, u'⟩
theorem of_lit_x {Γ : Dl.Ctx} {S S1 : Sto} (X : Sto) {n i : Nat} {fs : List FE} {ds : List D} (hi : Γ[i]? = some (some (.loc n))) (ha : args fs Γ (S ++ X) = some (ds, S1 ++ X)) (h : Led S1 n) (hf : Flat (S1 ++ X)) (hp : ∀ d ∈ ds, d.pure = true) (h0 : 0 < ds.length) (hl : ds.length < 1000) (hs : S1.length = S.length) :
    ∃ d S', d ∈ ds ∧ tidy2 (eCall F__law_of [eVar i, eLst fs]) Γ (S ++ X) = some (d, S' ++ X) ∧ Up n S1 S' := by
  obtain ⟨d, T, e1, e2, u⟩ := of_lit (S1 := S1 ++ X) hi ha (h.app X) hf hp h0 hl (by rw [List.length_append, List.length_append, hs])
  obtain ⟨S', rfl, u'⟩ := u.app h.lt
  exact ⟨d, S', e1, e2, u'⟩
theorem ints_pure {l : List Int} : ∀ d ∈ l.map D.int, d.pure = true := fun d hd => by
  obtain ⟨i, _, e⟩ := List.mem_map.mp hd
  rw [← e, D.pure]
theorem strs_pure {l : List Str} : ∀ d ∈ l.map D.str, d.pure = true := fun d hd => by
  obtain ⟨i, _, e⟩ := List.mem_map.mp hd
  rw [← e, D.pure]
def may : Str := "may"
theorem may_ok : PyData.strOk may = true := by decide +kernel
theorem ann_ok : PyData.strOk ("ann" : Str) = true ∧ PyData.strOk ("bob" : Str) = true ∧ PyData.strOk ("cy" : Str) = true ∧ PyData.strOk ("zed" : Str) = true := by decide +kernel
noncomputable def kindE : FE := tidy2 (eCall F__law_of [(eVar 0), (eLst [(eLst [(eC (.str "must"))]), (eLst [(eC (.str "may"))]), (eLst [(eC (.str "must")), (eC (.str "may"))]), (eLst [(eC (.str "must")), (eC (.str "may"))])])])
def kindK : Sto := [.lst [.str must], .lst [.str may], .lst [.str must, .str may], .lst [.str must, .str may]]
theorem kinds_ {Γ : Dl.Ctx} {S : Sto} {n : Nat} (hi : Γ[0]? = some (some (.loc n))) (h : Led S n) (hf : Flat S) : ∃ (ks : List Str) (S' : Sto), kindE Γ S = some (.loc S.length, S' ++ [.lst (ks.map D.str)]) ∧ Up n S S' ∧ 0 < ks.length ∧ ks.length ≤ 2 ∧ ∀ k ∈ ks, k = must ∨ k = may := by
  have hn := h.lt
  have ea : args [(eLst [(eC (.str "must"))]), (eLst [(eC (.str "may"))]), (eLst [(eC (.str "must")), (eC (.str "may"))]), (eLst [(eC (.str "must")), (eC (.str "may"))])] Γ S = some ([.loc S.length, .loc (S.length + 1), .loc (S.length + 2), .loc (S.length + 3)], S ++ kindK) := by
    refine (ar_1 (ev_l (ar_1 ev_c ar_0)) (ar_1 (ev_l (ar_1 ev_c ar_0)) (ar_1 (ev_l (ar_1 ev_c (ar_1 ev_c ar_0))) (ar_1 (ev_l (ar_1 ev_c (ar_1 ev_c ar_0))) ar_0)))).trans ?_
    simp only [List.length_append, List.length_singleton, List.append_assoc]
    rfl
  have el := ev_l ea
  rw [List.append_assoc, List.length_append] at el
  obtain ⟨d, S', hd, e2, u⟩ := of_x (kindK ++ [.lst [.loc S.length, .loc (S.length + 1), .loc (S.length + 2), .loc (S.length + 3)]]) (r := S.length + 4) (rows := [.loc S.length, .loc (S.length + 1), .loc (S.length + 2), .loc (S.length + 3)]) h (by
    rw [List.getElem?_append_right (by omega), show S.length + 4 - S.length = 4 by omega]
    rfl) (by omega) (by simp) (by simp)
  have run : ∀ (j : Nat) (ks : List Str), (kindK ++ [Cell.lst [.loc S.length, .loc (S.length + 1), .loc (S.length + 2), .loc (S.length + 3)]])[j]? = some (.lst (ks.map D.str)) → d = .loc (S.length + j) → kindE Γ S = some (.loc S.length, S' ++ [.lst (ks.map D.str)]) := fun j ks hj ed => by
    subst ed
    exact ev_tidy (ev_f (ar_1 (ev_v hi) (ar_1 el ar_0)) e2) (fin2_loc (j := j) (u.flat hf) u.len hj (strsC_flat _))
  rcases List.mem_cons.mp hd with q | hd
  · exact ⟨[must], S', run 0 [must] rfl q, u, by decide, by decide, fun k hk => .inl (List.mem_singleton.mp hk)⟩
  rcases List.mem_cons.mp hd with q | hd
  · exact ⟨[may], S', run 1 [may] rfl q, u, by decide, by decide, fun k hk => .inr (List.mem_singleton.mp hk)⟩
  have both : ∀ k ∈ [must, may], k = must ∨ k = may := fun k hk => by
    rcases List.mem_cons.mp hk with q | q
    · exact .inl q
    · exact .inr (List.mem_singleton.mp q)
  rcases List.mem_cons.mp hd with q | hd
  · exact ⟨[must, may], S', run 2 [must, may] rfl q, u, by simp, by simp, both⟩
  · exact ⟨[must, may], S', run 3 [must, may] rfl (List.mem_singleton.mp hd), u, by simp, by simp, both⟩
noncomputable def bookB : FS := (qSeq (qSet 7 (eCall F__law_entry [(eVar 0), (eCall bLen [(eVar 1)])]))
    (qSeq (qSet 8 (eBin oMod (eCall bInt [(eBin oAdd (eBin oAdd (eVar 7) (eC (.int 1))) (eCall F__law_entry [(eVar 0), (eBin oSub (eCall bLen [(eVar 1)]) (eC (.int 1)))]))]) (eCall bLen [(eVar 1)])))
    (qSeq (qSet 9 (tidy2 (eCall F__law_of [(eVar 0), (eLst [(eC (.int 1)), (eC (.int 2)), (eC (.int 3)), (eVar 3), (eBin oAdd (eC (.int 1)) (eCall F__law_entry [(eVar 0), (eC (.int 50))])), (eBin oSub (eBin oPow (eC (.int 10)) (eC (.int 9))) (eCall F__law_entry [(eVar 0), (eC (.int 3))]))])])))
    (qDrop (eMeth "list" mAppend (eVar 5) [(eTup [(tidy2 (eCall F__law_of [(eVar 0), (eLst [(eC (.str "ann")), (eC (.str "bob"))])])), (eCall F__law_of [(eVar 0), (eVar 4)]), (eBin oIx (eVar 1) (eVar 7)), (eBin oIx (eVar 1) (eVar 8)), (eVar 9)])])))))
theorem encRs_flat (rs : List Rg) : (Cell.lst (rs.map encR)).flat = true := pures_of fun d hd => by
  obtain ⟨r, _, e⟩ := List.mem_map.mp hd
  rw [← e]
  simp [encR, D.pure, D.pures]
/-- a turn of the book's loop -/
theorem book_turn {S : Sto} {n L : Nat} {ps ks : List Str} {u : Int} {rs : List Rg} {o2 o6 o7 o8 o9 : Option D} (h : Led S n) (hf : Flat S) (hL : S.length = L) (hp2 : 2 ≤ ps.length) (hp9 : ps.length ≤ 9) (hpo : SOk ps) (hk0 : 0 < ks.length) (hk2 : ks.length ≤ 2) (hk : ∀ k ∈ ks, k = must ∨ k = may) (hu1 : 0 < u) (hu2 : u ≤ 1000000) (hrs : rs.length ≤ 100) :
    ∃ Γ' S' r, bookB [some (.loc n), some (encS ps), o2, some (.int u), some (.loc L), some (.loc (L + 1)), o6, o7, o8, o9] (S ++ [.lst (ks.map D.str), .lst (rs.map encR)]) = some (.nx, Γ', S' ++ [.lst (ks.map D.str), .lst ((rs ++ [r]).map encR)]) ∧ Up n S S' ∧ (RgOk r ∧ r.n.natAbs < 2 ^ 30) ∧ ∃ p7 p8 p9, Γ' = [some (.loc n), some (encS ps), o2, some (.int u), some (.loc L), some (.loc (L + 1)), o6, p7, p8, p9] := by
  have hn := h.lt
  have hlen : (ps.map D.str).length = ps.length := List.length_map ..
  let X : Sto := [.lst (ks.map D.str), .lst (rs.map encR)]
  have hX : Flat X := fun c hc => by
    rcases List.mem_cons.mp hc with q | q
    · rw [q]; exact strsC_flat _
    · rw [List.mem_singleton.mp q]; exact encRs_flat _
  have hfX : ∀ {S' : Sto}, Flat S' → Flat (S' ++ X) := fun h c hc => (List.mem_append.mp hc).elim (h c) (hX c)
  obtain ⟨v7, S1, e7, l7, u1⟩ := draw_x X (m := (ps.length : Nat)) h (by omega) (by omega)
  obtain ⟨v8, S2, e8, l8, u2⟩ := draw_x X (m := (ps.length : Int) - 1) u1.led (by omega) (by omega)
  obtain ⟨va, S3, ea, la, u3⟩ := draw_x X (m := 50) u2.led (by decide) (by decide)
  obtain ⟨vb, S4, eb, lb, u4⟩ := draw_x X (m := 3) u3.led (by decide) (by decide)
  have hf4 : Flat S4 := u4.flat (u3.flat (u2.flat (u1.flat hf)))
  have hbl : ∀ (Γ : Dl.Ctx) (T : Sto), Γ[1]? = some (some (encS ps)) → (eCall bLen [(eVar 1)]) Γ T = some (.int (ps.length : Nat), T) := fun Γ T h => by
    refine (ev_f (ar_1 (ev_v h) ar_0) rfl).trans ?_
    rw [hlen]
  have s7 : (qSet 7 (eCall F__law_entry [(eVar 0), (eCall bLen [(eVar 1)])])) [some (.loc n), some (encS ps), o2, some (.int u), some (.loc L), some (.loc (L + 1)), o6, o7, o8, o9] (S ++ X) = some (.nx, [some (.loc n), some (encS ps), o2, some (.int u), some (.loc L), some (.loc (L + 1)), o6, some (.int v7), o8, o9], S1 ++ X) :=
    st_s (ev_f (ar_1 (ev_v rfl) (ar_1 (hbl _ _ rfl) ar_0)) e7)
  have hm0 : 0 ≤ ((v7 : Int) + 1 + v8) % (ps.length : Nat) := Int.emod_nonneg _ (by omega)
  have hm1 : ((v7 : Int) + 1 + v8) % (ps.length : Nat) < (ps.length : Nat) := Int.emod_lt_of_pos _ (by omega)
  obtain ⟨w8, hw8⟩ : ∃ w8 : Nat, ((v7 : Int) + 1 + v8) % (ps.length : Nat) = w8 := ⟨(((v7 : Int) + 1 + v8) % (ps.length : Nat)).toNat, by omega⟩
  have s8 : (qSet 8 (eBin oMod (eCall bInt [(eBin oAdd (eBin oAdd (eVar 7) (eC (.int 1))) (eCall F__law_entry [(eVar 0), (eBin oSub (eCall bLen [(eVar 1)]) (eC (.int 1)))]))]) (eCall bLen [(eVar 1)]))) [some (.loc n), some (encS ps), o2, some (.int u), some (.loc L), some (.loc (L + 1)), o6, some (.int v7), o8, o9] (S1 ++ X) = some (.nx, [some (.loc n), some (encS ps), o2, some (.int u), some (.loc L), some (.loc (L + 1)), o6, some (.int v7), some (.int w8), o9], S2 ++ X) := by
    rw [← hw8]
    exact st_s (ev_b (ev_f (ar_1 (ev_b (ev_b (ev_v rfl) ev_c rfl) (ev_f (ar_1 (ev_v rfl) (ar_1 (ev_b (hbl _ _ rfl) ev_c rfl) ar_0)) e8) rfl) ar_0) rfl) (hbl _ _ rfl) (o_mod (by omega)))
  have hds : ∀ d ∈ [D.int 1, .int 2, .int 3, .int u, .int (1 + (va : Int)), .int (1000000000 - (vb : Int))], ∃ x : Int, d = .int x ∧ 0 < x ∧ x ≤ 1000000000 := fun d hd => by
    simp only [List.mem_cons, List.not_mem_nil, or_false] at hd
    rcases hd with q | q | q | q | q | q <;> exact ⟨_, q, by omega, by omega⟩
  obtain ⟨d9, S5, hd9, e9, u5⟩ := of_lit_x X (Γ := [some (.loc n), some (encS ps), o2, some (.int u), some (.loc L), some (.loc (L + 1)), o6, some (.int v7), some (.int w8), o9]) (S := S2) (S1 := S4) (i := 0) (n := n) (fs := [(eC (.int 1)), (eC (.int 2)), (eC (.int 3)), (eVar 3), (eBin oAdd (eC (.int 1)) (eCall F__law_entry [(eVar 0), (eC (.int 50))])), (eBin oSub (eBin oPow (eC (.int 10)) (eC (.int 9))) (eCall F__law_entry [(eVar 0), (eC (.int 3))]))]) (ds := [D.int 1, .int 2, .int 3, .int u, .int (1 + (va : Int)), .int (1000000000 - (vb : Int))]) rfl
    (ar_1 ev_c (ar_1 ev_c (ar_1 ev_c (ar_1 (ev_v rfl) (ar_1 (ev_b ev_c (ev_f (ar_1 (ev_v rfl) (ar_1 ev_c ar_0)) ea) rfl) (ar_1 (ev_b (ev_b ev_c ev_c (z := .int 1000000000) (S3 := S3 ++ X) (by rw [oPow, if_pos (by decide)]; rfl)) (ev_f (ar_1 (ev_v rfl) (ar_1 ev_c ar_0)) eb) rfl) ar_0)))))) u4.led (hfX hf4) (fun d hd => by
      obtain ⟨x, q, _⟩ := hds d hd
      rw [q, D.pure]) (by simp) (by simp) (by rw [u4.len, u3.len])
  obtain ⟨am, rfl, ha1, ha2⟩ := hds d9 hd9
  have hf5 : Flat S5 := u5.flat hf4
  obtain ⟨dh, S6, hdh, eh, u6⟩ := of_lit_x X (Γ := [some (.loc n), some (encS ps), o2, some (.int u), some (.loc L), some (.loc (L + 1)), o6, some (.int v7), some (.int w8), some (.int am)]) (S := S5) (S1 := S5) (i := 0) (n := n) (fs := [(eC (.str "ann")), (eC (.str "bob"))]) (ds := ["ann", "bob"].map fun s : String => D.str s) rfl
    (ar_1 ev_c (ar_1 ev_c ar_0)) u5.led (hfX hf5) (fun d hd => by
      obtain ⟨x, _, q⟩ := List.mem_map.mp hd
      rw [← q, D.pure]) (by decide) (by decide) rfl
  have hS6 : S6.length = L := by rw [u6.len, u5.len, u4.len, u3.len, u2.len, u1.len, hL]
  obtain ⟨hs, rfl, hhs⟩ : ∃ hs : Str, dh = .str hs ∧ PyData.strOk hs = true := by
    rcases List.mem_cons.mp hdh with q | q
    · exact ⟨_, q, ann_ok.1⟩
    · exact ⟨_, List.mem_singleton.mp q, ann_ok.2.1⟩
  obtain ⟨dk, S7, hdk, ek, u7⟩ := of_x X (S := S6) (n := n) (r := L) (rows := ks.map D.str) u6.led (by rw [← hS6]; exact get_end S6 _ _) (by rw [← hL]; omega) (by rw [List.length_map]; exact hk0) (by rw [List.length_map]; omega)
  obtain ⟨kk, hkk, rfl⟩ := List.mem_map.mp hdk
  have hko : PyData.strOk kk = true := by
    rcases hk kk hkk with q | q
    · rw [q]; exact must_ok
    · rw [q]; exact may_ok
  have hv7 : v7 < ps.length := by omega
  have hw8l : w8 < ps.length := by omega
  have i7 : ∀ T, oIx (encS ps) (.int (v7 : Nat)) T = some (.str ps[v7], T) := fun T => o_ixt (at_get (by rw [List.getElem?_map, List.getElem?_eq_getElem hv7]; rfl))
  have i8 : ∀ T, oIx (encS ps) (.int (w8 : Nat)) T = some (.str ps[w8], T) := fun T => o_ixt (at_get (by rw [List.getElem?_map, List.getElem?_eq_getElem hw8l]; rfl))
  have hS7 : S7.length = L := by rw [u7.len, hS6]
  have hln : (S7 ++ [Cell.lst (ks.map D.str)]).length = L + 1 := by rw [List.length_append, hS7]; rfl
  have hx7 : S7 ++ X = (S7 ++ [Cell.lst (ks.map D.str)]) ++ Cell.lst (rs.map encR) :: [] := by
    show S7 ++ [_, _] = _
    rw [List.append_assoc]
    rfl
  refine ⟨_, S7, ⟨hs, kk, ps[v7], ps[w8], am⟩, st_q s7 (st_q s8 (st_q (st_s e9) (st_d (d := .non) (ev_m (S1 := S5 ++ X) (S2 := S7 ++ X) (ev_v rfl) (ty_l (l := rs.map encR) ?_) (ar_1 (ev_t (ar_1 eh (ar_1 (ev_f (ar_1 (ev_v rfl) (ar_1 (ev_v rfl) ar_0)) ek) (ar_1 (ev_b (ev_v rfl) (ev_v rfl) (i7 _)) (ar_1 (ev_b (ev_v rfl) (ev_v rfl) (i8 _)) (ar_1 (ev_v rfl) ar_0)))))) ar_0) ?_)))), ((((((u1.trans u2).trans u3).trans u4).trans u5).trans u6).trans u7), ⟨⟨hhs, hko, hpo _ (List.getElem_mem hv7), hpo _ (List.getElem_mem hw8l), ?_⟩, ?_⟩, _, _, _, rfl⟩
  · have hS5 : S5.length = L := by rw [u5.len, u4.len, u3.len, u2.len, u1.len, hL]
    show (S5 ++ [_, _])[L + 1]? = _
    rw [List.getElem?_append_right (by omega), hS5, show L + 1 - L = 1 by omega]
    rfl
  · rw [hx7, ← hln]
    refine (app_end (by rw [line, List.length_map]; omega) rfl).trans ?_
    rw [List.append_assoc, List.map_append]
    rfl
  · show am.natAbs < 2 ^ 100
    have : (1000000000 : Nat) < 2 ^ 100 := by decide
    omega
  · show am.natAbs < 2 ^ 30
    have : (1000000000 : Nat) < 2 ^ 30 := by decide
    omega
end K84

namespace K84
open PySem L2 Dl
theorem book_ {S : Sto} {n most : Nat} {ps : List Str} (h : Led S n) (hf : Flat S) (hp2 : 2 ≤ ps.length) (hp9 : ps.length ≤ 9) (hpo : SOk ps) (hm : most ≤ 20) :
    ∃ u rs S', F__law_book [.loc n, encS ps, .int (most : Nat)] S = some (encB u rs, S') ∧ Up n S S' ∧ Bk 20 30 most u rs := by
  have hn := h.lt
  obtain ⟨v, S1, ev, lv, u1⟩ := draw (m := 60) h (by decide) (by decide)
  have hds : ∀ d ∈ [D.int 1, .int 2, .int 12, .int 999983, .int 999979, .int 1000000, .int (1 + (v : Int))], ∃ x : Int, d = .int x ∧ 0 < x ∧ x ≤ 1000000 := fun d hd => by
    simp only [List.mem_cons, List.not_mem_nil, or_false] at hd
    rcases hd with q | q | q | q | q | q | q <;> exact ⟨_, q, by omega, by omega⟩
  obtain ⟨d3, S2, hd3, e3, u2⟩ := of_lit (Γ := [some (.loc n), some (encS ps), some (.int (most : Nat)), none, none, none, none, none, none, none]) (S := S) (S1 := S1) (i := 0) (n := n) (fs := [(eC (.int 1)), (eC (.int 2)), (eC (.int 12)), (eC (.int 999983)), (eC (.int 999979)), (eC (.int 1000000)), (eBin oAdd (eC (.int 1)) (eCall F__law_entry [(eVar 0), (eC (.int 60))]))]) (ds := [D.int 1, .int 2, .int 12, .int 999983, .int 999979, .int 1000000, .int (1 + (v : Int))]) rfl
    (ar_1 ev_c (ar_1 ev_c (ar_1 ev_c (ar_1 ev_c (ar_1 ev_c (ar_1 ev_c (ar_1 (ev_b ev_c (ev_f (ar_1 (ev_v rfl) (ar_1 ev_c ar_0)) ev) rfl) ar_0))))))) u1.led (u1.flat hf) (fun d hd => by
      obtain ⟨x, q, _⟩ := hds d hd
      rw [q, D.pure]) (by simp) (by simp) u1.len
  obtain ⟨u, rfl, hu1, hu2⟩ := hds d3 hd3
  have hf2 := u2.flat (u1.flat hf)
  have hS2 : S2.length = S.length := by rw [u2.len, u1.len]
  obtain ⟨ks, S3, e4, u3, hk0, hk2, hk⟩ := kinds_ (Γ := [some (.loc n), some (encS ps), some (.int (most : Nat)), some (.int u), none, none, none, none, none, none]) (S := S2) (n := n) rfl u2.led hf2
  rw [hS2] at e4
  have hS3 : S3.length = S.length := by rw [u3.len, hS2]
  have hf3 := u3.flat hf2
  have e5 : (qSet 5 (eLst [])) [some (.loc n), some (encS ps), some (.int (most : Nat)), some (.int u), some (.loc S.length), none, none, none, none, none] (S3 ++ [.lst (ks.map D.str)]) = some (.nx, [some (.loc n), some (encS ps), some (.int (most : Nat)), some (.int u), some (.loc S.length), some (.loc (S.length + 1)), none, none, none, none], S3 ++ [.lst (ks.map D.str), .lst (([] : List Rg).map encR)]) := by
    refine (st_s (ev_l ar_0)).trans ?_
    rw [List.length_append, hS3, List.append_assoc]
    rfl
  obtain ⟨c, S4, ec, lc, u4⟩ := draw_x [.lst (ks.map D.str), .lst (([] : List Rg).map encR)] (S := S3) (n := n) (m := (most : Int) + 1) u3.led (by omega) (by omega)
  have hS4 : S4.length = S.length := by rw [u4.len, hS3]
  have u04 := ((u1.trans u2).trans u3).trans u4
  have key : ∃ Γ' S', forL (gN 6) bookB [] (rgD 0 1 c) [some (.loc n), some (encS ps), some (.int (most : Nat)), some (.int u), some (.loc S.length), some (.loc (S.length + 1)), none, none, none, none] (S4 ++ [.lst (ks.map D.str), .lst (([] : List Rg).map encR)]) = some (.nx, Γ', S') ∧
      (∃ (S5 : Sto) (rs : List Rg), S' = S5 ++ [.lst (ks.map D.str), .lst (rs.map encR)] ∧ Up n S S5 ∧ rs.length = (rgD 0 1 c).length ∧ (∀ r ∈ rs, RgOk r ∧ r.n.natAbs < 2 ^ 30) ∧ ∃ o6 o7 o8 o9, Γ' = [some (.loc n), some (encS ps), some (.int (most : Nat)), some (.int u), some (.loc S.length), some (.loc (S.length + 1)), o6, o7, o8, o9]) := by
    refine forL_inv (S := S4 ++ [.lst (ks.map D.str), .lst (([] : List Rg).map encR)]) (rgD 0 1 c) (fun i Γ T => ∃ (S5 : Sto) (rs : List Rg), T = S5 ++ [.lst (ks.map D.str), .lst (rs.map encR)] ∧ Up n S S5 ∧ rs.length = i ∧ (∀ r ∈ rs, RgOk r ∧ r.n.natAbs < 2 ^ 30) ∧ ∃ o6 o7 o8 o9, Γ = [some (.loc n), some (encS ps), some (.int (most : Nat)), some (.int u), some (.loc S.length), some (.loc (S.length + 1)), o6, o7, o8, o9]) (fun i Γ T _ _ => lkd_nil T) (fun i d Γ T hd h' => ?_) ⟨S4, [], rfl, u04, rfl, fun r hr => by simp at hr, _, _, _, _, rfl⟩
    obtain ⟨S5, rs, rfl, u5, hlen, hall, o6, o7, o8, o9, rfl⟩ := h'
    have hil := (List.getElem?_eq_some_iff.mp hd).1
    rw [rgD_len] at hil
    obtain ⟨Γ', S6, r, eb, u6, hr, p7, p8, p9, rfl⟩ := book_turn (S := S5) (n := n) (L := S.length) (ps := ps) (ks := ks) (u := u) (rs := rs) (o2 := some (.int (most : Nat))) (o6 := some d) (o7 := o7) (o8 := o8) (o9 := o9) u5.led (u5.flat hf) u5.len hp2 hp9 hpo hk0 hk2 hk hu1 hu2 (by omega)
    refine ⟨_, rfl, _, _, eb, S6, rs ++ [r], rfl, u5.trans u6, by rw [List.length_append, List.length_singleton, hlen], fun x hx => ?_, _, _, _, _, rfl⟩
    rcases List.mem_append.mp hx with q | q
    · exact hall x q
    · rw [List.mem_singleton.mp q]
      exact hr
  obtain ⟨Γ', S', e, S5, rs, rfl, u5, hlen, hall, o6, o7, o8, o9, rfl⟩ := key
  rw [rgD_len] at hlen
  have hf5 := u5.flat hf
  have g1 : (S5 ++ [.lst (ks.map D.str), .lst (rs.map encR)])[S.length + 1]? = some (.lst (rs.map encR)) := by
    rw [List.getElem?_append_right (by rw [u5.len]; omega), u5.len, show S.length + 1 - S.length = 1 by omega]
    rfl
  have hpu : (encB u rs).pure = true := by
    have := encRs_flat rs
    have h1 : D.pures (rs.map encR) = true := this
    simp [encB, encRs, D.pure, D.pures, h1]
  refine ⟨u, rs, S5, run_t (S1 := S5 ++ [.lst (ks.map D.str), .lst (rs.map encR)]) rfl ?_ (fin2_pure _ hf5 u5.len hpu), u5, ⟨hu1, ?_, by omega, hall⟩⟩
  · show Rt m__law_book [some (.loc n), some (encS ps), some (.int (most : Nat)), none, none, none, none, none, none, none] S _ _
    exact rt_q (st_s e3) (rt_q (st_s e4) (rt_q e5 (rt_q (st_f (it_r (ar_1 (ev_f (ar_1 (ev_v rfl) (ar_1 (ev_b (ev_v rfl) ev_c rfl) ar_0)) ec) ar_0) (rg_1 (by omega) (by omega))) e) (rt_r (ev_t (ar_1 (ev_v rfl) (ar_1 (ev_f (ar_1 (ev_v rfl) ar_0) (b_tup g1)) ar_0)))))))
  · have : (1000000 : Nat) < 2 ^ 20 := by decide
    omega
end K84

namespace K84
open PySem L2 Dl
abbrev I4 := Int × Int × Int × Int
def invL : Nat → I4 → I4
  | 0, s => s
  | k + 1, (one, two, left, right) => if two = 0 then (one, two, left, right) else invL k (two, one - one / two * two, right, left - one / two * right)
def invF (a p : Int) : Int := (invL (2 * Builtin.Int.intBits p + 2) (a, p, 1, 0)).2.2.1 % p
def invB : FS := (qSeq (qIf (tst (eBin oEq (eVar 3) (eC (.int 0))))
    qBk
    qNx)
    (qSeq (qSet 7 (eBin oFdiv (eVar 2) (eVar 3)))
    (qAsg (gT [(gN 2), (gN 3), (gN 4), (gN 5)]) (eTup [(eVar 3), (eBin oSub (eVar 2) (eBin oMul (eVar 7) (eVar 3))), (eVar 5), (eBin oSub (eVar 4) (eBin oMul (eVar 7) (eVar 5)))]))))
theorem inverse {a p : Int} {S : Sto} (ha : 0 ≤ a) (ha2 : a < 2 ^ 64) (hp : 0 < p) (hp2 : p < 2 ^ 64) : F__law_inverse [.int a, .int p] S = some (.int (invF a p), S) := by
  have hN : Builtin.Int.intBits p ≤ 64 := by
    have : p = ((p.natAbs : Nat) : Int) := by omega
    rw [this]
    exact bits_le (k := 63) (by omega)
  generalize hNe : 2 * Builtin.Int.intBits p + 2 = N
  have key : ∃ Γ' S', forL (gN 6) invB [] (rgD 0 1 N) [some (.int a), some (.int p), some (.int a), some (.int p), some (.int 1), some (.int 0), none, none] S = some (.nx, Γ', S') ∧ (S' = S ∧ ∃ (x6 x7 : Option D), Γ' = [some (.int a), some (.int p), some (.int (invL N (a, p, 1, 0)).1), some (.int (invL N (a, p, 1, 0)).2.1), some (.int (invL N (a, p, 1, 0)).2.2.1), some (.int (invL N (a, p, 1, 0)).2.2.2), x6, x7]) := by
    refine forL_brk (rgD 0 1 N) (fun i Γ T => T = S ∧ ∃ (one two left right : Int) (x6 x7 : Option D), Γ = [some (.int a), some (.int p), some (.int one), some (.int two), some (.int left), some (.int right), x6, x7] ∧ 0 ≤ one ∧ one < 2 ^ 64 ∧ 0 ≤ two ∧ two < 2 ^ 64 ∧ invL (N - i) (one, two, left, right) = invL N (a, p, 1, 0))
      (fun Γ T => T = S ∧ ∃ (x6 x7 : Option D), Γ = [some (.int a), some (.int p), some (.int (invL N (a, p, 1, 0)).1), some (.int (invL N (a, p, 1, 0)).2.1), some (.int (invL N (a, p, 1, 0)).2.2.1), some (.int (invL N (a, p, 1, 0)).2.2.2), x6, x7]) (fun i Γ T _ _ => lkd_nil T) (fun i d Γ T hd h => ?_) (fun Γ T h => ?_) ⟨rfl, _, _, _, _, _, _, rfl, ha, ha2, by omega, hp2, rfl⟩
    · obtain ⟨rfl, one, two, left, right, x6, x7, rfl, h1, h2, h3, h4, h5⟩ := h
      have hil := (List.getElem?_eq_some_iff.mp hd).1
      rw [rgD_len] at hil
      obtain ⟨k, hk⟩ : ∃ k, N - i = k + 1 := ⟨N - i - 1, by omega⟩
      rw [hk] at h5
      refine ⟨_, rfl, ?_⟩
      by_cases hz : two = 0
      · subst hz
        have h6 : invL (k + 1) (one, 0, left, right) = (one, 0, left, right) := by rw [invL, if_pos rfl]
        rw [h6] at h5
        exact ⟨_, _, .inr ⟨st_qb (st_iT (te_s (ev_b (ev_v rfl) ev_c (Dl.eq_int _ _ _))) st_b), rfl, _, _, by rw [← h5]; rfl⟩⟩
      · have h6 : invL (k + 1) (one, two, left, right) = invL k (two, one - one / two * two, right, left - one / two * right) := by rw [invL, if_neg hz]
        rw [h6] at h5
        have hq0 : 0 ≤ one / two := Int.ediv_nonneg h1 h3
        have hq1 : one / two ≤ one := Int.ediv_le_self _ h1
        have hm : one - one / two * two = one % two := by rw [Int.emod_def, Int.mul_comm]
        have hm0 := Int.emod_nonneg one hz
        have hm1 := Int.emod_lt_of_pos one (show 0 < two by omega)
        have hb : (two == 0) = false := by simpa using hz
        refine ⟨_, _, .inl ⟨st_q (st_iF (te_s (ev_b (ev_v rfl) ev_c ((Dl.eq_int two 0 T).trans (by rw [hb])))) st_n) (st_q (st_s (ev_b (ev_v rfl) (ev_v rfl) (o_fdvs (by omega) (by omega)))) (st_a (ev_t (ar_1 (ev_v rfl) (ar_1 (ev_b (ev_v rfl) (ev_b (ev_v rfl) (ev_v rfl) (o_mull (i := one / two) (by omega))) rfl) (ar_1 (ev_v rfl) (ar_1 (ev_b (ev_v rfl) (ev_b (ev_v rfl) (ev_v rfl) (o_mull (i := one / two) (by omega))) rfl) ar_0))))) rfl)), rfl, _, _, _, _, _, _, rfl, h3, h4, by omega, by omega, ?_⟩⟩
        rw [show N - (i + 1) = k by omega]
        exact h5
    · obtain ⟨rfl, one, two, left, right, x6, x7, rfl, h1, h2, h3, h4, h5⟩ := h
      rw [rgD_len, Nat.sub_self] at h5
      exact ⟨rfl, _, _, by rw [← h5]; rfl⟩
  obtain ⟨Γ', S', e, rfl, x6, x7, rfl⟩ := key
  refine run_t rfl ?_ (fin2_same _ rfl)
  show Rt m__law_inverse [some (.int a), some (.int p), none, none, none, none, none, none] S' _ _
  have eN : (eBin oAdd (eBin oMul (eC (.int 2)) (eUn oBits (eVar 1))) (eC (.int 2))) [some (.int a), some (.int p), some (.int a), some (.int p), some (.int 1), some (.int 0), none, none] S' = some (.int (N : Nat), S') := by
    have h1 : (2 : Int) * (Builtin.Int.intBits p : Nat) + 2 = (N : Nat) := by omega
    rw [← h1]
    exact ev_b (ev_b ev_c (ev_u (ev_v rfl) rfl) (o_mull (by decide))) ev_c rfl
  refine rt_q (st_a (ev_t (ar_1 (ev_v rfl) (ar_1 (ev_v rfl) (ar_1 ev_c (ar_1 ev_c ar_0))))) rfl) (rt_q (st_f (it_r (ar_1 eN ar_0) (rg_1 (by omega) (by omega))) e) (rt_r ?_))
  refine (ev_b (ev_f (ar_1 (ev_v rfl) ar_0) rfl) (ev_v rfl) (o_mod hp)).trans ?_
  rw [invF, hNe]
/-! ### the fine test -/
def sA : Str := "a"
def sB : Str := "b"
def sC : Str := "c"
def abcP : List Str := [sA, sB, sC]
theorem abc_facts : SOk abcP ∧ sidesRaw abcP = [[sA], [sB], [sA, sB], [sC], [sA, sC], [sB, sC]] := by
  refine ⟨fun x hx => ?_, by decide +kernel⟩
  simp only [abcP, List.mem_cons, List.not_mem_nil, or_false] at hx
  rcases hx with q | q | q <;> (rw [q]; decide +kernel)
def rest (p q r : Int) : Nat → Int
  | 0 => q * r
  | 1 => r * p
  | _ => p * q
def am (p q r : Int) (k : Nat) : Int := match k with
  | 0 => invF (q * r % p) p
  | 1 => invF (r * p % q) q
  | _ => invF (p * q % r) r
def tot (p q r : Int) : Int := am p q r 0 * (q * r) + am p q r 1 * (r * p) + am p q r 2 * (p * q)
def und (p q r : Int) : Int := p * q * r
/-- what is asked of three units -/
def fineOk (p q r : Int) : Bool := decide (0 < p) && decide (p < 1000000) && decide (0 < q) && decide (q < 1000000) && decide (0 < r) && decide (r < 1000000) &&
  decide (0 ≤ am p q r 0) && decide (am p q r 0 < 1000000) && decide (0 ≤ am p q r 1) && decide (am p q r 1 < 1000000) && decide (0 ≤ am p q r 2) && decide (am p q r 2 < 1000000) &&
  decide (tot p q r % und p q r = 1) && decide (0 ≤ tot p q r / und p q r) && decide (tot p q r / und p q r < 1000000) &&
  decide (lcmI 1 p = p) && decide (lcmI p q = p * q) && decide (lcmI (p * q) r = p * q * r) && decide (lcmI (p * q * r) 1 = p * q * r)
theorem fine_all : fineOk 999983 999979 999961 = true ∧ fineOk 999979 999953 999983 = true ∧ fineOk 999961 999983 999931 = true := by decide +kernel
end K84

namespace K84
open PySem L2 Dl
def un (p q r : Int) : Nat → Int
  | 0 => p
  | 1 => q
  | _ => r
def r0 (x : Int) : Rg := ⟨("ann" : Str), must, sA, sB, x⟩
def cb (x : Int) : Rg := ⟨("bob" : Str), must, sC, sB, x⟩
def cy (x : Int) : Rg := ⟨("cy" : Str), must, sB, sC, x⟩
theorem s_ok : PyData.strOk sA = true ∧ PyData.strOk sB = true ∧ PyData.strOk sC = true := by decide +kernel
theorem r0_ok {x : Int} (h : x.natAbs < 2 ^ 20) : RgOk (r0 x) := ⟨ann_ok.1, must_ok, s_ok.1, s_ok.2.1, Nat.lt_of_lt_of_le h (Nat.pow_le_pow_right (by decide) (by decide))⟩
theorem cb_ok {x : Int} (h : x.natAbs < 2 ^ 20) : RgOk (cb x) := ⟨ann_ok.2.1, must_ok, s_ok.2.2, s_ok.2.1, Nat.lt_of_lt_of_le h (Nat.pow_le_pow_right (by decide) (by decide))⟩
theorem cy_ok {x : Int} (h : x.natAbs < 2 ^ 20) : RgOk (cy x) := ⟨ann_ok.2.2.1, must_ok, s_ok.2.1, s_ok.2.2, Nat.lt_of_lt_of_le h (Nat.pow_le_pow_right (by decide) (by decide))⟩
theorem one_bk {u : Int} {r : Rg} (h0 : 0 < u) (h1 : u < 2 ^ 20) (h : RgOk r) (h2 : r.n.natAbs < 2 ^ 20) : Bk 20 20 1 u [r] := ⟨h0, by omega, Nat.le_refl _, fun x hx => by
  rw [List.mem_singleton.mp hx]
  exact ⟨h, h2⟩⟩
def bku (p q r : Int) : Nat → Int
  | 0 => 1
  | k + 1 => lcmI (bku p q r k) (un p q r k)
def bkr (p q r x : Int) : Nat → List Rg
  | 0 => [r0 x]
  | k + 1 => bothR (bku p q r k) (un p q r k) (bkr p q r x k) [cb (am p q r k)]
def totl (p q r : Int) : Nat → Int
  | 0 => 0
  | k + 1 => totl p q r k + am p q r k * rest p q r k
structure Fine (p q r : Int) : Prop where
  u0 : ∀ k, 0 < un p q r k ∧ un p q r k < 1000000
  a0 : ∀ k, 0 ≤ am p q r k ∧ am p q r k < 1000000
  t1 : tot p q r % und p q r = 1
  q0 : 0 ≤ tot p q r / und p q r
  q1 : tot p q r / und p q r < 1000000
  l1 : lcmI 1 p = p
  l2 : lcmI p q = p * q
  l3 : lcmI (p * q) r = p * q * r
  l4 : lcmI (p * q * r) 1 = p * q * r
theorem fine_of {p q r : Int} (h : fineOk p q r = true) : Fine p q r := by
  simp only [fineOk, Bool.and_eq_true, decide_eq_true_eq] at h
  obtain ⟨⟨⟨⟨⟨⟨⟨⟨⟨⟨⟨⟨⟨⟨⟨⟨⟨⟨h1, h2⟩, h3⟩, h4⟩, h5⟩, h6⟩, h7⟩, h8⟩, h9⟩, h10⟩, h11⟩, h12⟩, h13⟩, h14⟩, h15⟩, h16⟩, h17⟩, h18⟩, h19⟩ := h
  refine ⟨fun k => ?_, fun k => ?_, h13, h14, h15, h16, h17, h18, h19⟩
  · match k with
    | 0 => exact ⟨h1, h2⟩
    | 1 => exact ⟨h3, h4⟩
    | _ + 2 => exact ⟨h5, h6⟩
  · match k with
    | 0 => exact ⟨h7, h8⟩
    | 1 => exact ⟨h9, h10⟩
    | _ + 2 => exact ⟨h11, h12⟩
theorem million : (1000000 : Int) < 2 ^ 20 := by decide
theorem bk_size {p q r x : Int} (F : Fine p q r) (hx : x.natAbs < 2 ^ 20) : ∀ k, k ≤ 3 → Bk (1 + 20 * k) (20 + 20 * k) (1 + k) (bku p q r k) (bkr p q r x k)
  | 0, _ => ⟨by show (0 : Int) < 1; decide, by show (1 : Int).natAbs < 2 ^ (1 + 20 * 0); decide, Nat.le_refl _, fun y hy => by rw [List.mem_singleton.mp hy]; exact ⟨r0_ok hx, hx⟩⟩
  | k + 1, hk => by
    have ih := bk_size F hx k (by omega)
    have hm := million
    have hu := F.u0 k
    have ha := F.a0 k
    have h2 : (cb (am p q r k)).n.natAbs < 2 ^ 20 := by show (am p q r k).natAbs < 2 ^ 20; omega
    have := both_bk ih (one_bk hu.1 (by omega) (cb_ok h2) h2) (by omega) (by omega)
    exact this.mono (by omega) (by omega) (by omega)
theorem cb_bk {p q r : Int} (F : Fine p q r) (k : Nat) : Bk 20 20 1 (un p q r k) [cb (am p q r k)] := by
  have hm := million
  have hu := F.u0 k
  have ha := F.a0 k
  have h2 : (cb (am p q r k)).n.natAbs < 2 ^ 20 := by show (am p q r k).natAbs < 2 ^ 20; omega
  exact one_bk hu.1 (by omega) (cb_ok h2) h2
noncomputable def fineB : FS := (qSeq (qSet 6 (eBin oMul (eBin oIx (eVar 1) (eBin oMod (eCall bInt [(eBin oAdd (eVar 5) (eC (.int 1)))]) (eC (.int 3)))) (eBin oIx (eVar 1) (eBin oMod (eCall bInt [(eBin oAdd (eVar 5) (eC (.int 2)))]) (eC (.int 3))))))
    (qSeq (qSet 7 (eCall F__law_inverse [(eBin oMod (eCall bInt [(eVar 6)]) (eBin oIx (eVar 1) (eVar 5))), (eBin oIx (eVar 1) (eVar 5))]))
    (qSeq (qSet 4 (eBin oAdd (eVar 4) (eBin oMul (eVar 7) (eVar 6))))
    (qSet 3 (eCall F_both_books [(eVar 3), (eTup [(eBin oIx (eVar 1) (eVar 5)), (eTup [(eTup [(eC (.str "bob")), (eC (.str "must")), (eC (.str "c")), (eC (.str "b")), (eVar 7)])])])])))))
theorem ix_un1 (p q r : Int) (S : Sto) {k : Nat} (hk : k < 3) : oIx (.tup [.int p, .int q, .int r]) (.int ((((k : Nat) : Int) + 1) % 3)) S = some (.int (un p q r ((k + 1) % 3)), S) := by
  match k, hk with
  | 0, _ => rw [show (((0 : Nat) : Int) + 1) % 3 = 1 by decide]; rfl
  | 1, _ => rw [show (((1 : Nat) : Int) + 1) % 3 = 2 by decide]; rfl
  | 2, _ => rw [show (((2 : Nat) : Int) + 1) % 3 = 0 by decide]; rfl
theorem ix_un2 (p q r : Int) (S : Sto) {k : Nat} (hk : k < 3) : oIx (.tup [.int p, .int q, .int r]) (.int ((((k : Nat) : Int) + 2) % 3)) S = some (.int (un p q r ((k + 2) % 3)), S) := by
  match k, hk with
  | 0, _ => rw [show (((0 : Nat) : Int) + 2) % 3 = 2 by decide]; rfl
  | 1, _ => rw [show (((1 : Nat) : Int) + 2) % 3 = 0 by decide]; rfl
  | 2, _ => rw [show (((2 : Nat) : Int) + 2) % 3 = 1 by decide]; rfl
theorem rest_un (p q r : Int) {k : Nat} (hk : k < 3) : un p q r ((k + 1) % 3) * un p q r ((k + 2) % 3) = rest p q r k := by
  match k, hk with
  | 0, _ => rfl
  | 1, _ => rfl
  | 2, _ => rfl
theorem ix_un (p q r : Int) (S : Sto) {k : Nat} (hk : k < 3) : oIx (.tup [.int p, .int q, .int r]) (.int (k : Nat)) S = some (.int (un p q r k), S) := by
  match k, hk with
  | 0, _ => rfl
  | 1, _ => rfl
  | 2, _ => rfl
theorem am_un (p q r : Int) {k : Nat} (hk : k < 3) : invF (rest p q r k % un p q r k) (un p q r k) = am p q r k := by
  match k, hk with
  | 0, _ => rw [am]; rfl
  | 1, _ => rw [am]; rfl
  | 2, _ =>
    rw [am]
    rfl
    all_goals (intro h; cases h)
theorem fine_step {p q r x : Int} {S : Sto} {n k : Nat} (hf : Flat S) (F : Fine p q r) (hx : x.natAbs < 2 ^ 20) (hk : k < 3) (o2 o6 o7 o8 o9 : Option D) :
    ∃ p6 p7, fineB [some (.loc n), some (.tup [.int p, .int q, .int r]), o2, some (encB (bku p q r k) (bkr p q r x k)), some (.int (totl p q r k)), some (.int (k : Nat)), o6, o7, o8, o9] S = some (.nx, [some (.loc n), some (.tup [.int p, .int q, .int r]), o2, some (encB (bku p q r (k + 1)) (bkr p q r x (k + 1))), some (.int (totl p q r (k + 1))), some (.int (k : Nat)), p6, p7, o8, o9], S) := by
  have hm := million
  have hbk := bk_size F hx k (by omega)
  have hcb := cb_bk F k
  obtain ⟨m1, m2⟩ := both_mul hbk hcb (by omega) (by omega)
  have eb := both hf (hbk.ok (by omega) (by omega)) (hcb.ok (by omega) (by omega)) m1 m2
  have hu0 := F.u0 0
  have hu1 := F.u0 1
  have hu2 := F.u0 2
  have huk := F.u0 k
  have hak := F.a0 k
  have un_lt : ∀ j, (un p q r j).natAbs < 2 ^ 64 := fun j => by have := F.u0 j; omega
  have i1 := ix_un1 p q r S hk
  have i2 := ix_un2 p q r S hk
  have hrest := rest_un p q r hk
  have e6 : ∀ o6 o7, (eBin oMul (eBin oIx (eVar 1) (eBin oMod (eCall bInt [(eBin oAdd (eVar 5) (eC (.int 1)))]) (eC (.int 3)))) (eBin oIx (eVar 1) (eBin oMod (eCall bInt [(eBin oAdd (eVar 5) (eC (.int 2)))]) (eC (.int 3))))) [some (.loc n), some (.tup [.int p, .int q, .int r]), o2, some (encB (bku p q r k) (bkr p q r x k)), some (.int (totl p q r k)), some (.int (k : Nat)), o6, o7, o8, o9] S = some (.int (rest p q r k), S) := fun o6 o7 => by
    rw [← hrest]
    exact ev_b (ev_b (ev_v rfl) (ev_b (ev_f (ar_1 (ev_b (ev_v rfl) ev_c rfl) ar_0) rfl) ev_c (o_mod (by decide))) i1) (ev_b (ev_v rfl) (ev_b (ev_f (ar_1 (ev_b (ev_v rfl) ev_c rfl) ar_0) rfl) ev_c (o_mod (by decide))) i2) (o_mull (un_lt _))
  have eu := ix_un p q r S hk
  have ham := am_un p q r hk
  have hr0 : 0 ≤ rest p q r k % un p q r k := Int.emod_nonneg _ (by omega)
  have hr1 : rest p q r k % un p q r k < un p q r k := Int.emod_lt_of_pos _ huk.1
  have ei := inverse (S := S) hr0 (by omega) huk.1 (by omega)
  rw [ham] at ei
  exact ⟨_, _, st_q (st_s (e6 o6 o7)) (st_q (st_s (ev_f (ar_1 (ev_b (ev_f (ar_1 (ev_v rfl) ar_0) rfl) (ev_b (ev_v rfl) (ev_v rfl) eu) (o_mod huk.1)) (ar_1 (ev_b (ev_v rfl) (ev_v rfl) eu) ar_0)) ei)) (st_q (st_s (ev_b (ev_v rfl) (ev_b (ev_v rfl) (ev_v rfl) (o_mull (by omega))) rfl)) (st_s (ev_f (ar_1 (ev_v rfl) (ar_1 (ev_t (ar_1 (ev_b (ev_v rfl) (ev_v rfl) eu) (ar_1 (ev_t (ar_1 (ev_t (ar_1 ev_c (ar_1 ev_c (ar_1 ev_c (ar_1 ev_c (ar_1 (ev_v rfl) ar_0)))))) ar_0)) ar_0))) ar_0)) eb))))⟩
/-! what the fine book sells -/
def phi (s : List Str) : Int := soldR s (r0 1)
def sig (s : List Str) : Int := soldR s (cb 1)
theorem sold_r0 (s : List Str) (x : Int) : soldR s (r0 x) = phi s * x := by
  unfold phi soldR r0
  simp only
  split
  · omega
  · split <;> omega
theorem sold_cb (s : List Str) (x : Int) : soldR s (cb x) = sig s * x := by
  unfold sig soldR cb
  simp only
  split
  · omega
  · split <;> omega
theorem sold_cy (s : List Str) (x : Int) : soldR s (cy x) = - (sig s * x) := by
  unfold sig soldR cb cy
  simp only
  by_cases hb : sB ∈ s <;> by_cases hc : sC ∈ s <;> simp [hb, hc]
theorem sold_1 (s : List Str) (r : Rg) : soldS [r] s = soldR s r := by simp [soldS, sm]
theorem fine_sold {p q r x : Int} (F : Fine p q r) (s : List Str) : bku p q r 3 = und p q r ∧ soldS (bkr p q r x 3) s = phi s * x * und p q r + sig s * tot p q r := by
  have hp : 0 < p := (F.u0 0).1
  have hq : 0 < q := (F.u0 1).1
  have hr : 0 < r := (F.u0 2).1
  have e1 : bku p q r 1 = p := F.l1
  have e2 : bku p q r 2 = p * q := by show lcmI (bku p q r 1) q = _; rw [e1]; exact F.l2
  have e3 : bku p q r 3 = p * q * r := by show lcmI (bku p q r 2) r = _; rw [e2]; exact F.l3
  refine ⟨e3, ?_⟩
  have s1 : soldS (bkr p q r x 1) s = phi s * x * p + sig s * am p q r 0 := by
    show soldS (bothR 1 p [r0 x] [cb (am p q r 0)]) s = _
    rw [sold_both, F.l1, sold_1, sold_1, sold_r0, sold_cb, Int.ediv_one, Int.ediv_self (by omega), Int.mul_one]
  have s2 : soldS (bkr p q r x 2) s = (phi s * x * p + sig s * am p q r 0) * q + sig s * am p q r 1 * p := by
    show soldS (bothR (bku p q r 1) q (bkr p q r x 1) [cb (am p q r 1)]) s = _
    rw [sold_both, e1, F.l2, s1, sold_1, sold_cb, Int.mul_ediv_cancel_left _ (by omega), Int.mul_ediv_cancel _ (by omega)]
  show soldS (bothR (bku p q r 2) r (bkr p q r x 2) [cb (am p q r 2)]) s = _
  rw [sold_both, e2, F.l3, s2, sold_1, sold_cb, Int.mul_ediv_cancel_left _ (by have := Int.mul_pos hp hq; omega), Int.mul_ediv_cancel _ (by omega)]
  unfold tot und
  grind
theorem fine_gap {f : List Str → Int} {X : Int} (hX : 1 ≤ X) (h : ∀ s, f s = phi s * X + sig s) : gapS f (sides abcP) = (X + 1, [sA, sC]) := by
  have hne : abcP ≠ [] := by simp [abcP]
  have mem : ∀ s, s ∈ sides abcP ↔ s ∈ [[sA], [sB], [sA, sB], [sC], [sA, sC], [sB, sC]] := fun s => by rw [mem_sides hne, abc_facts.2]
  have v1 : phi [sA] = 1 ∧ sig [sA] = 0 ∧ phi [sB] = -1 ∧ sig [sB] = -1 ∧ phi [sA, sB] = 0 ∧ sig [sA, sB] = -1 ∧ phi [sC] = 0 ∧ sig [sC] = 1 ∧ phi [sA, sC] = 1 ∧ sig [sA, sC] = 1 ∧ phi [sB, sC] = -1 ∧ sig [sB, sC] = 0 := by decide +kernel
  obtain ⟨a1, a2, b1, b2, c1, c2, d1, d2, e1, e2, g1, g2⟩ := v1
  obtain ⟨m, o⟩ := gapS_ok f (sides abcP)
  have hac := m [sA, sC] ((mem _).mpr (by simp))
  rw [h, e1, e2] at hac
  rcases o with q | ⟨q1, q2, q3⟩
  · rw [q] at hac
    have : 1 * X + 1 ≤ 0 := hac
    omega
  · have q4 := (mem _).mp q2
    simp only [List.mem_cons, List.not_mem_nil, or_false] at q4
    rw [h] at q3
    rcases q4 with z | z | z | z | z | z <;> rw [z] at q3
    · rw [a1, a2] at q3; omega
    · rw [b1, b2] at q3; omega
    · rw [c1, c2] at q3; omega
    · rw [d1, d2] at q3; omega
    · rw [e1, e2] at q3
      exact Prod.ext (by show _ = X + 1; omega) z
    · rw [g1, g2] at q3; omega
end K84

namespace K84
open PySem L2 Dl
theorem totl_3 (p q r : Int) : totl p q r 3 = tot p q r := by
  show ((0 + am p q r 0 * rest p q r 0) + am p q r 1 * rest p q r 1) + am p q r 2 * rest p q r 2 = _
  rw [Int.zero_add]
  rfl
theorem nil_ok : BkOk 1 [] := ⟨by decide, by decide, Nat.zero_le _, fun r hr => by simp at hr⟩
theorem diff_nil (u : Int) (rs : List Rg) (s : List Str) : diff u 1 rs [] s = soldS rs s := by
  have : soldS [] s = 0 := rfl
  rw [diff, this, Int.mul_one, Int.zero_mul, Int.sub_zero]
/-- the end of the fine book -/
theorem fine_end {p q r x : Int} {S : Sto} (hf : Flat S) (F : Fine p q r) (hx : x.natAbs < 2 ^ 20) (o0 o1 o2 o5 o6 o7 o9 : Option D) : ∃ U R,
    (qIf (tst (eBin oGt (eBin oFdiv (eVar 4) (eVar 8)) (eC (.int 0))))
    (qSet 3 (eCall F_both_books [(eVar 3), (eTup [(eC (.int 1)), (eTup [(eTup [(eC (.str "cy")), (eC (.str "must")), (eC (.str "b")), (eC (.str "c")), (eBin oFdiv (eVar 4) (eVar 8))])])])]))
    qNx) [o0, o1, o2, some (encB (bku p q r 3) (bkr p q r x 3)), some (.int (tot p q r)), o5, o6, o7, some (.int (und p q r)), o9] S = some (.nx, [o0, o1, o2, some (encB U R), some (.int (tot p q r)), o5, o6, o7, some (.int (und p q r)), o9], S) ∧
    BkOk U R ∧ U = und p q r ∧ ∀ s, soldS R s = phi s * (x * und p q r) + sig s := by
  have hm := million
  obtain ⟨eU, _⟩ := fine_sold (x := x) F []
  have hsold := fun s => (fine_sold (x := x) F s).2
  have hbk := bk_size F hx 3 (Nat.le_refl _)
  have hU0 : 0 < und p q r := by rw [← eU]; exact hbk.pos
  have hUl : und p q r < 2 ^ 64 := by
    have := hbk.lt
    rw [eU] at this
    have h2 : 2 ^ (1 + 20 * 3) ≤ 2 ^ 64 := by decide
    omega
  have hdm := Int.emod_def (tot p q r) (und p q r)
  rw [F.t1] at hdm
  have ediv : ∀ o3 o9, (eBin oFdiv (eVar 4) (eVar 8)) [o0, o1, o2, o3, some (.int (tot p q r)), o5, o6, o7, some (.int (und p q r)), o9] S = some (.int (tot p q r / und p q r), S) := fun o3 o9 => ev_b (ev_v rfl) (ev_v rfl) (o_fdvs hU0 (by omega))
  have hq0 := F.q0
  have hq1 := F.q1
  by_cases hQ : 0 < tot p q r / und p q r
  · have h2 : (cy (tot p q r / und p q r)).n.natAbs < 2 ^ 20 := by show (tot p q r / und p q r).natAbs < 2 ^ 20; omega
    have hcy : Bk 20 20 1 1 [cy (tot p q r / und p q r)] := one_bk (by decide) (by decide) (cy_ok h2) h2
    have hcy1 : Bk 1 20 1 1 [cy (tot p q r / und p q r)] := ⟨by decide, by decide, hcy.few, hcy.all⟩
    obtain ⟨m1, m2⟩ := both_mul hbk hcy1 (by decide) (by decide)
    have eb := both hf (hbk.ok (by decide) (by decide)) (hcy1.ok (by decide) (by decide)) m1 m2
    refine ⟨_, _, st_iT (te_s (ev_b (ediv _ _) ev_c (by rw [oGt, decide_eq_true hQ]))) (st_s (ev_f (ar_1 (ev_v rfl) (ar_1 (ev_t (ar_1 ev_c (ar_1 (ev_t (ar_1 (ev_t (ar_1 ev_c (ar_1 ev_c (ar_1 ev_c (ar_1 ev_c (ar_1 (ediv _ _) ar_0)))))) ar_0)) ar_0))) ar_0)) eb)), (both_bk hbk hcy1 (by decide) (by decide)).ok (by decide) (by decide), ?_, fun s => ?_⟩
    · rw [eU]; exact F.l4
    · rw [sold_both, hsold, sold_1, sold_cy, eU]
      have e4 : lcmI (und p q r) 1 = und p q r := F.l4
      rw [e4, Int.ediv_self (by omega), Int.ediv_one]
      grind
  · refine ⟨_, _, st_iF (te_s (ev_b (ediv _ _) ev_c (by rw [oGt, decide_eq_false hQ]))) st_n, hbk.ok (by decide) (by decide), eU, fun s => ?_⟩
    have : tot p q r / und p q r = 0 := by omega
    rw [this, Int.mul_zero, Int.sub_zero] at hdm
    rw [hsold, ← hdm]
    grind
theorem fine_ {S : Sto} {n : Nat} (h : Led S n) (hf : Flat S) : ∃ S', F__law_fine [.loc n] S = some (.bl true, S') ∧ Up n S S' := by
  have hm := million
  obtain ⟨d1, S1, hd1, e1, u1⟩ := of_lit (Γ := [some (.loc n), none, none, none, none, none, none, none, none, none]) (S := S) (S1 := S) (i := 0) (n := n) (fs := [(eTup [(eC (.int 999983)), (eC (.int 999979)), (eC (.int 999961))]), (eTup [(eC (.int 999979)), (eC (.int 999953)), (eC (.int 999983))]), (eTup [(eC (.int 999961)), (eC (.int 999983)), (eC (.int 999931))])]) (ds := [.tup [.int 999983, .int 999979, .int 999961], .tup [.int 999979, .int 999953, .int 999983], .tup [.int 999961, .int 999983, .int 999931]]) rfl
    (ar_1 (ev_t (ar_1 ev_c (ar_1 ev_c (ar_1 ev_c ar_0)))) (ar_1 (ev_t (ar_1 ev_c (ar_1 ev_c (ar_1 ev_c ar_0)))) (ar_1 (ev_t (ar_1 ev_c (ar_1 ev_c (ar_1 ev_c ar_0)))) ar_0))) h hf (fun d hd => by
      simp only [List.mem_cons, List.not_mem_nil, or_false] at hd
      rcases hd with q | q | q <;> rw [q] <;> rfl) (by simp) (by simp) rfl
  obtain ⟨p, q, r, rfl, F⟩ : ∃ p q r, d1 = .tup [.int p, .int q, .int r] ∧ Fine p q r := by
    simp only [List.mem_cons, List.not_mem_nil, or_false] at hd1
    rcases hd1 with z | z | z
    · exact ⟨_, _, _, z, fine_of fine_all.1⟩
    · exact ⟨_, _, _, z, fine_of fine_all.2.1⟩
    · exact ⟨_, _, _, z, fine_of fine_all.2.2⟩
  obtain ⟨v, S2, e2, lv, u2⟩ := draw (m := 1000000) u1.led (by decide) (by decide)
  have hf2 := u2.flat (u1.flat hf)
  have hx : ((1 : Int) + v).natAbs < 2 ^ 20 := by
    have : (1000001 : Nat) < 2 ^ 20 := by decide
    omega
  generalize hxe : (1 : Int) + v = x at hx
  have hx1 : 1 ≤ x := by omega
  have s2 : (qSet 2 (eBin oAdd (eC (.int 1)) (eCall F__law_entry [(eVar 0), (eBin oPow (eC (.int 10)) (eC (.int 6)))]))) [some (.loc n), some (.tup [.int p, .int q, .int r]), none, none, none, none, none, none, none, none] S1 = some (.nx, [some (.loc n), some (.tup [.int p, .int q, .int r]), some (.int x), none, none, none, none, none, none, none], S2) := by
    rw [← hxe]
    exact st_s (ev_b ev_c (ev_f (ar_1 (ev_v rfl) (ar_1 (ev_b ev_c ev_c (z := .int 1000000) (S3 := S1) (by rw [oPow, if_pos (by decide)]; rfl)) ar_0)) e2) rfl)
  have s3 : (qSet 3 (eTup [(eC (.int 1)), (eTup [(eTup [(eC (.str "ann")), (eC (.str "must")), (eC (.str "a")), (eC (.str "b")), (eVar 2)])])])) [some (.loc n), some (.tup [.int p, .int q, .int r]), some (.int x), none, none, none, none, none, none, none] S2 = some (.nx, [some (.loc n), some (.tup [.int p, .int q, .int r]), some (.int x), some (encB (bku p q r 0) (bkr p q r x 0)), none, none, none, none, none, none], S2) :=
    st_s (ev_t (ar_1 ev_c (ar_1 (ev_t (ar_1 (ev_t (ar_1 ev_c (ar_1 ev_c (ar_1 ev_c (ar_1 ev_c (ar_1 (ev_v rfl) ar_0)))))) ar_0)) ar_0)))
  have loop : ∃ Γ' S', forL (gN 5) fineB [] (rgD 0 1 3) [some (.loc n), some (.tup [.int p, .int q, .int r]), some (.int x), some (encB (bku p q r 0) (bkr p q r x 0)), some (.int (totl p q r 0)), none, none, none, none, none] S2 = some (.nx, Γ', S') ∧
      (S' = S2 ∧ ∃ o5 o6 o7, Γ' = [some (.loc n), some (.tup [.int p, .int q, .int r]), some (.int x), some (encB (bku p q r (rgD 0 1 3).length) (bkr p q r x (rgD 0 1 3).length)), some (.int (totl p q r (rgD 0 1 3).length)), o5, o6, o7, none, none]) := by
    refine forL_inv (S := S2) (rgD 0 1 3) (fun i Γ T => T = S2 ∧ ∃ o5 o6 o7, Γ = [some (.loc n), some (.tup [.int p, .int q, .int r]), some (.int x), some (encB (bku p q r i) (bkr p q r x i)), some (.int (totl p q r i)), o5, o6, o7, none, none]) (fun i Γ T _ _ => lkd_nil T) (fun i d Γ T hd h' => ?_) ⟨rfl, _, _, _, rfl⟩
    obtain ⟨rfl, o5, o6, o7, rfl⟩ := h'
    have hil := (List.getElem?_eq_some_iff.mp hd).1
    rw [rgD_len] at hil
    have ed : d = .int (i : Nat) := by
      rw [rgD_get _ _ _ _ hil] at hd
      cases hd
      congr 1
      omega
    subst ed
    obtain ⟨p6, p7, es⟩ := fine_step (n := n) hf2 F hx hil (some (.int x)) o6 o7 none none
    exact ⟨_, rfl, _, _, es, rfl, _, _, _, rfl⟩
  obtain ⟨Γ', S', e5, rfl, o5, o6, o7, rfl⟩ := loop
  rw [rgD_len, totl_3] at e5
  have hbk := bk_size F hx 3 (Nat.le_refl _)
  obtain ⟨eU, _⟩ := fine_sold (x := x) F []
  have hU0 : 0 < und p q r := by rw [← eU]; exact hbk.pos
  have hUl : und p q r < 2 ^ 64 := by
    have := hbk.lt
    rw [eU] at this
    have h2 : 2 ^ (1 + 20 * 3) ≤ 2 ^ 64 := by decide
    omega
  have hp : p.natAbs < 2 ^ 64 := by have : 0 < p ∧ p < 1000000 := F.u0 0; omega
  have hpq : (p * q).natAbs < 2 ^ 64 := by
    have h1 : 0 < p ∧ p < 1000000 := F.u0 0
    have h2 : 0 < q ∧ q < 1000000 := F.u0 1
    have := natAbs_mul_lt (a := p) (b := q) (i := 20) (j := 20) (by omega) (by omega)
    have h3 : 2 ^ (20 + 20) ≤ 2 ^ 64 := by decide
    omega
  obtain ⟨U, R, e8, ok, hU, hsold⟩ := fine_end hf2 F hx (some (.loc n)) (some (.tup [.int p, .int q, .int r])) (some (.int x)) o5 o6 o7 none
  have hne : abcP ≠ [] := by simp [abcP]
  have hX1 : 1 ≤ x * und p q r := Int.mul_pos (by omega) hU0
  have hgap : gapS (diff U 1 R []) (sides abcP) = (x * und p q r + 1, [sA, sC]) := fine_gap hX1 fun s => by rw [diff_nil, hsold]
  have eg := gap_of (S := S') (ps := abcP) hf2 hne (by decide) ok nil_ok
  have en := never_less (S := S') (ps := abcP) hf2 hne (by decide) nil_ok ok
  rw [hgap] at eg en
  have hg : good (encG U 1 (x * und p q r + 1, [sA, sC])) = true := good_G _ _ (fun y hy => by
    rcases List.mem_cons.mp hy with z | z
    · rw [z]; exact s_ok.1
    · rw [List.mem_singleton.mp z]; exact s_ok.2.2)
  have hbig1 : Big (x * und p q r + tot p q r % und p q r) := by
    have := natAbs_mul_lt (a := x) (b := und p q r) (i := 20) (j := 64) hx (by omega)
    have h3 : 2 ^ (20 + 64) + 1 ≤ 2 ^ 85 := by decide
    rw [F.t1]
    exact big_of (k := 85) (by omega) (by decide)
  have el := low (S := S') hbig1 (small_of (by omega) (by omega) : Big (und p q r)) hU0
  have e9 : (eTup [(eCall F__law_low [(eBin oAdd (eBin oMul (eVar 2) (eVar 8)) (eBin oMod (eCall bInt [(eVar 4)]) (eVar 8))), (eVar 8)]), (eTup [(eC (.str "a")), (eC (.str "c"))])]) [some (.loc n), some (.tup [.int p, .int q, .int r]), some (.int x), some (encB U R), some (.int (tot p q r)), o5, o6, o7, some (.int (und p q r)), none] S' = some (encG U 1 (x * und p q r + 1, [sA, sC]), S') := by
    refine (ev_t (ar_1 (ev_f (ar_1 (ev_b (ev_b (ev_v rfl) (ev_v rfl) (o_mull (by omega))) (ev_b (ev_f (ar_1 (ev_v rfl) ar_0) rfl) (ev_v rfl) (o_mod hU0)) rfl) (ar_1 (ev_v rfl) ar_0)) el) (ar_1 (ev_t (ar_1 ev_c (ar_1 ev_c ar_0))) ar_0))).trans ?_
    rw [F.t1, encG, hU, Int.mul_one]
    rfl
  refine ⟨S', run_t (S1 := S') rfl ?_ (fin2_same _ (by rw [u2.len, u1.len])), u1.trans u2⟩
  show Rt m__law_fine [some (.loc n), none, none, none, none, none, none, none, none, none] S _ _
  refine rt_q (st_s e1) (rt_q s2 (rt_q s3 (rt_q (st_s ev_c) (rt_q (st_f (it_r (ar_1 ev_c ar_0) (rg_1 (by decide) (by decide))) e5) (rt_q (st_s (ev_b (ev_b (ev_b (ev_v rfl) ev_c rfl) (ev_b (ev_v rfl) ev_c rfl) (o_mull hp)) (ev_b (ev_v rfl) ev_c rfl) (o_mull hpq))) (rt_q e8 (rt_q (st_s e9) (rt_r ?_))))))))
  refine ev_andT (S1 := S') (ev_b (ev_b (ev_f (ar_1 (ev_v rfl) ar_0) rfl) (ev_v rfl) (o_mod hU0)) ev_c ?_) (ev_andT (S1 := S') (ev_f (ar_1 (ev_f (ar_1 (ev_t (ar_1 ev_c (ar_1 ev_c (ar_1 ev_c ar_0)))) (ar_1 (ev_v rfl) (ar_1 (ev_t (ar_1 ev_c (ar_1 (ev_t ar_0) ar_0))) ar_0))) eg) (ar_1 (ev_v rfl) ar_0)) (same hf2 hg (sz_G _ _ (by show [sA, sC].length ≤ 9; decide)))) (ev_f (ar_1 (ev_f (ar_1 (ev_t (ar_1 ev_c (ar_1 ev_c (ar_1 ev_c ar_0)))) (ar_1 (ev_t (ar_1 ev_c (ar_1 (ev_t ar_0) ar_0))) (ar_1 (ev_v rfl) ar_0))) en) (ar_1 ev_c ar_0)) ?_))
  · rw [F.t1]
    exact (Dl.eq_int 1 1 S').trans rfl
  · exact same (d := .bl false) hf2 (by rw [good]) (by rw [sz]; decide)
end K84

namespace K84
open PySem L2 Dl
theorem sl_Rs (rs : List Rg) (k : Nat) (S : Sto) : oSl (encRs rs) none (some (k : Int)) S = some (encRs (rs.take k), S) := by
  show some (D.tup (Dl.cut (rs.map encR) none (some (k : Int))), S) = _
  unfold Dl.cut
  rw [HT.sIx_none, HT.sIx_nat, Nat.sub_zero, List.drop_zero, List.length_map, encRs, List.map_take]
  congr 3
  rw [← List.map_take, ← List.map_take]
  congr 1
  rw [List.take_eq_take_iff]
  omega
theorem ne_G (u v : Int) {g : Int × List Str} (h : SOk g.2) (S : Sto) : oNe (encG u v g) (encG u v g) S = some (.bl false, S) := by
  have hp : (encG u v g).pure = true := good_pure _ (good_G u v h)
  have e1 : py1 S (encG u v g) = some (encG u v g).py := by
    simp only [encG] at hp ⊢
    simp only [py1, hp]
    rfl
  have hs : SeqAt.shaped (encG u v g).py = true := by
    simp [encG, lowI, encS, D.py, D.pys, SeqAt.shaped, PyData.canLay0, PyData.canLayAll0, lay_strs h, PyData.depth, PyData.depthAll, depth_strs]
  have he : PyData.eqv (encG u v g).py (encG u v g).py = true := by
    simp [encG, lowI, encS, D.py, D.pys, PyData.eqv, PyData.eqvAll, eqv_strs]
  rw [oNe, eqB, e1]
  simp only
  rw [if_pos ⟨hs, hs⟩, he]
  rfl
theorem encB_pure (u : Int) (rs : List Rg) : (encB u rs).pure = true := by
  have h1 : D.pures (rs.map encR) = true := encRs_flat rs
  simp [encB, encRs, D.pure, D.pures, h1]
theorem take_bk {a b c c' : Nat} {u v : Int} {rs qs : List Rg} (h : Bk a b c u rs) (h' : Bk a b c' v qs) (i j : Nat) : Bk a b (c + c') u (rs.take i ++ qs.take j) := ⟨h.pos, h.lt, by
  have := h.few
  have := h'.few
  rw [List.length_append, List.length_take, List.length_take]
  omega, fun r hr => by
  rcases List.mem_append.mp hr with q | q
  · exact h.all r (List.mem_of_mem_take q)
  · exact h'.all r (List.mem_of_mem_take q)⟩
theorem goods_sides {l : List (List Str)} (h : ∀ s ∈ l, SOk s) : good (.tup (l.map encS)) = true := by
  rw [good, goods_all]
  exact List.all_eq_true.mpr fun d hd => by
    obtain ⟨s, hs, e⟩ := List.mem_map.mp hd
    rw [← e]
    exact good_S (h s hs)
theorem sz_sides {l : List (List Str)} (h : ∀ s ∈ l, s.length ≤ 9) : szs (l.map encS) ≤ 10 * l.length := by
  induction l with
  | nil => exact Nat.zero_le _
  | cons s l ih =>
    have := ih fun t ht => h t (by simp [ht])
    have := h s (by simp)
    simp only [List.map_cons, szs, encS, sz, szs_S, List.length_cons] at *
    omega
theorem sub_ok {ps : List Str} (h : SOk ps) (m : Nat) : SOk (sideM ps m) := fun x hx => by
  unfold sideM at hx
  obtain ⟨q, hq, e⟩ := List.mem_filterMap.mp hx
  split at e
  · cases e
    exact h _ (List.fst_mem_of_mem_zipIdx hq)
  · cases e
theorem sides_ok {ps : List Str} (h : SOk ps) (h0 : ps ≠ []) : ∀ s ∈ sides ps, SOk s := fun s hs => by
  obtain ⟨m, _, rfl⟩ := List.mem_map.mp ((mem_sides h0).mp hs)
  exact sub_ok h m
/-- the side of the first place alone -/
theorem first_side {ps : List Str} (h2 : 2 ≤ ps.length) : [ps[0]] ∈ sides ps := by
  have h0 : ps ≠ [] := fun e => by rw [e] at h2; exact absurd h2 (by decide)
  rw [mem_sides h0]
  refine List.mem_map.mpr ⟨1, ?_, ?_⟩
  · rw [List.mem_range'_1]
    have : 2 ^ 2 ≤ 2 ^ ps.length := Nat.pow_le_pow_right (by decide) h2
    omega
  · cases ps with
    | nil => exact absurd rfl h0
    | cons x l =>
      unfold sideM
      rw [List.zipIdx_cons, List.filterMap_cons]
      have hz : (l.zipIdx (0 + 1)).filterMap (fun q => if Nat.testBit 1 q.2 = true then some q.1 else none) = [] := by
        rw [List.filterMap_eq_nil_iff]
        intro q hq
        have h4 : q.2 ≠ 0 := by
          obtain ⟨h3, _, _⟩ := List.mem_zipIdx hq
          omega
        rw [if_neg (by rw [Nat.testBit_lt_two_pow (Nat.one_lt_two_pow h4)]; exact Bool.false_ne_true)]
      rw [hz]
      have h5 : Nat.testBit 1 0 = true := by decide
      simp [h5]
end K84

namespace K84
open PySem L2 Dl
theorem forL_nx {t : FG} {body : FS} {lk : Lk} {d : D} {r : List D} {Γ Γ1 Γ2 : Dl.Ctx} {S S2 : Sto} (hk : Lkd lk S) (h1 : t d Γ S = some Γ1) (h2 : body Γ1 S = some (.nx, Γ2, S2)) : forL t body lk (d :: r) Γ S = forL t body lk r Γ2 S2 := by
  rw [forL, if_pos hk, h1, Option.bind_some, h2, Option.bind_some]
theorem forL_0 {t : FG} {body : FS} {lk : Lk} {Γ : Dl.Ctx} {S : Sto} (hk : Lkd lk S) : forL t body lk [] Γ S = some (.nx, Γ, S) := by rw [forL, if_pos hk]
/-- three books drawn -/
theorem books3 {S : Sto} {n most : Nat} {ps : List Str} (h : Led S n) (hf : Flat S) (hp2 : 2 ≤ ps.length) (hp9 : ps.length ≤ 9) (hpo : SOk ps) (hm : most ≤ 20) (o0 o2 o4 o6 o7 o8 o9 oa ob oc od oe of og oh oi : Option D) :
    ∃ u1 r1 u2 r2 u3 r3 S', eLc (iRng [(eC (.int 3))]) (gN 18) tYs (eCall F__law_book [(eVar 1), (eVar 3), (eVar 5)]) [18] [o0, some (.loc n), o2, some (encS ps), o4, some (.int (most : Nat)), o6, o7, o8, o9, oa, ob, oc, od, oe, of, og, oh, oi] S = some (.loc S.length, S' ++ [.lst [encB u1 r1, encB u2 r2, encB u3 r3]]) ∧
      Up n S S' ∧ Bk 20 30 most u1 r1 ∧ Bk 20 30 most u2 r2 ∧ Bk 20 30 most u3 r3 := by
  have turn : ∀ (S1 : Sto) (acc : List D) (d : D) (r : List D), Up n S S1 → (∀ x ∈ acc, x.pure = true) → acc.length ≤ 3 → ∃ u rs S2, Up n S1 S2 ∧ Bk 20 30 most u rs ∧
      lcL (gN 18) tYs (eCall F__law_book [(eVar 1), (eVar 3), (eVar 5)]) [18] S.length [] (d :: r) [o0, some (.loc n), o2, some (encS ps), o4, some (.int (most : Nat)), o6, o7, o8, o9, oa, ob, oc, od, oe, of, og, oh, oi] (S1 ++ [.lst acc]) =
      lcL (gN 18) tYs (eCall F__law_book [(eVar 1), (eVar 3), (eVar 5)]) [18] S.length [] r [o0, some (.loc n), o2, some (encS ps), o4, some (.int (most : Nat)), o6, o7, o8, o9, oa, ob, oc, od, oe, of, og, oh, oi] (S2 ++ [.lst (acc ++ [encB u rs])]) := fun S1 acc d r u1 ha hl => by
    have hfl : Flat (S1 ++ [.lst acc]) := (u1.flat hf).app (pures_of ha)
    obtain ⟨u, rs, T, e, ut, bk⟩ := book_ (S := S1 ++ [.lst acc]) (n := n) (most := most) (ps := ps) (u1.led.app _) hfl hp2 hp9 hpo hm
    obtain ⟨S2, rfl, u2⟩ := ut.app (by rw [u1.len]; exact h.lt)
    refine ⟨u, rs, S2, u2, bk, ?_⟩
    have hl2 : S2.length = S.length := by rw [u2.len, u1.len]
    have ee : (eCall F__law_book [(eVar 1), (eVar 3), (eVar 5)]) [o0, some (.loc n), o2, some (encS ps), o4, some (.int (most : Nat)), o6, o7, o8, o9, oa, ob, oc, od, oe, of, og, oh, some d] (S1 ++ [.lst acc]) = some (encB u rs, S2 ++ [.lst acc]) := ev_f (ar_1 (ev_v rfl) (ar_1 (ev_v rfl) (ar_1 (ev_v rfl) ar_0))) e
    rw [lcL, if_pos (lkd_nil _), show gN 18 d (wipeD [o0, some (.loc n), o2, some (encS ps), o4, some (.int (most : Nat)), o6, o7, o8, o9, oa, ob, oc, od, oe, of, og, oh, oi] [18]) (S1 ++ [.lst acc]) = some [o0, some (.loc n), o2, some (encS ps), o4, some (.int (most : Nat)), o6, o7, o8, o9, oa, ob, oc, od, oe, of, og, oh, some d] from rfl, Option.bind_some,
      show tYs [o0, some (.loc n), o2, some (encS ps), o4, some (.int (most : Nat)), o6, o7, o8, o9, oa, ob, oc, od, oe, of, og, oh, some d] (S1 ++ [.lst acc]) = some (true, S1 ++ [.lst acc]) from rfl, Option.bind_some, if_pos (show ((true, S1 ++ [Cell.lst acc]) : Bool × Sto).1 = true from rfl), ee, Option.bind_some]
    rw [← hl2]
    simp only [get_end, set_end]
    rw [if_pos (by rw [line]; omega)]
  have u0 : Up n S S := Up.refl h hf
  obtain ⟨u1, r1, S1, t1, b1, e1⟩ := turn S [] (.int 0) [.int 1, .int 2] u0 (fun x hx => by simp at hx) (by simp)
  obtain ⟨u2, r2, S2, t2, b2, e2⟩ := turn S1 [encB u1 r1] (.int 1) [.int 2] (u0.trans t1) (fun x hx => by rw [List.mem_singleton.mp hx]; exact encB_pure _ _) (by simp)
  obtain ⟨u3, r3, S3, t3, b3, e3⟩ := turn S2 [encB u1 r1, encB u2 r2] (.int 2) [] ((u0.trans t1).trans t2) (fun x hx => by
    rcases List.mem_cons.mp hx with q | q
    · rw [q]; exact encB_pure _ _
    · rw [List.mem_singleton.mp q]; exact encB_pure _ _) (by simp)
  refine ⟨u1, r1, u2, r2, u3, r3, S3, ?_, ((t1.trans t2).trans t3), b1, b2, b3⟩
  have er : iRng [(eC (.int 3))] [o0, some (.loc n), o2, some (encS ps), o4, some (.int (most : Nat)), o6, o7, o8, o9, oa, ob, oc, od, oe, of, og, oh, oi] S = some (([.int 0, .int 1, .int 2], []), S) := it_r (ar_1 ev_c ar_0) rfl
  rw [eLc, er, Option.bind_some]
  simp only
  rw [e1]
  simp only [List.nil_append]
  rw [e2]
  simp only [List.cons_append, List.nil_append]
  rw [e3, lcL, if_pos (lkd_nil _)]
  rfl
/-- both books, twice the same way -/
theorem loop_both {S : Sto} {u1 u2 u3 : Int} {r1 r2 r3 : List Rg} {L : Nat} (hf : Flat S) (hL : S.length = L) (b1 : Bk 20 30 20 u1 r1) (b2 : Bk 20 30 20 u2 r2) (b3 : Bk 20 30 20 u3 r3) (o0 o1 o2 o3 o4 o5 o9 ob oc od oe of og oh oi : Option D) :
    ∃ p q, forL (gN 11) (qSeq (qSet 12 (eCall F_both_books [(eVar 11), (eVar 8)]))
    (qSeq (qIf (tNo (tru (eCall F__law_same [(eVar 12), (eCall F__law_both [(eVar 11), (eVar 8)])])))
    (qRet (eC (.bl false)))
    qNx)
    (qDrop (eMeth "list" mAppend (eVar 10) [(eVar 12)])))) [(L + 1, .lst [encB u1 r1, encB u2 r2])] [encB u1 r1, encB u2 r2] [o0, o1, o2, o3, o4, o5, some (encB u1 r1), some (encB u2 r2), some (encB u3 r3), o9, some (.loc L), ob, oc, od, oe, of, og, oh, oi] (S ++ [.lst [], .lst [encB u1 r1, encB u2 r2]]) =
      some (.nx, [o0, o1, o2, o3, o4, o5, some (encB u1 r1), some (encB u2 r2), some (encB u3 r3), o9, some (.loc L), p, q, od, oe, of, og, oh, oi], S ++ [.lst [encB (lcmI u1 u3) (bothR u1 u3 r1 r3), encB (lcmI u2 u3) (bothR u2 u3 r2 r3)], .lst [encB u1 r1, encB u2 r2]]) := by
  have step : ∀ (acc : List D) (u : Int) (rs : List Rg) (ob oc : Option D), Bk 20 30 20 u rs → (∀ x ∈ acc, x.pure = true) → acc.length ≤ 3 → (qSeq (qSet 12 (eCall F_both_books [(eVar 11), (eVar 8)]))
    (qSeq (qIf (tNo (tru (eCall F__law_same [(eVar 12), (eCall F__law_both [(eVar 11), (eVar 8)])])))
    (qRet (eC (.bl false)))
    qNx)
    (qDrop (eMeth "list" mAppend (eVar 10) [(eVar 12)])))) [o0, o1, o2, o3, o4, o5, some (encB u1 r1), some (encB u2 r2), some (encB u3 r3), o9, some (.loc L), some (encB u rs), oc, od, oe, of, og, oh, oi] (S ++ [.lst acc, .lst [encB u1 r1, encB u2 r2]]) =
      some (.nx, [o0, o1, o2, o3, o4, o5, some (encB u1 r1), some (encB u2 r2), some (encB u3 r3), o9, some (.loc L), some (encB u rs), some (encB (lcmI u u3) (bothR u u3 rs r3)), od, oe, of, og, oh, oi], S ++ [.lst (acc ++ [encB (lcmI u u3) (bothR u u3 rs r3)]), .lst [encB u1 r1, encB u2 r2]]) := fun acc u rs ob oc b ha hl => by
    have hfl : Flat (S ++ [.lst acc, .lst [encB u1 r1, encB u2 r2]]) := fun c hc => by
      rcases List.mem_append.mp hc with q | q
      · exact hf c q
      · rcases List.mem_cons.mp q with q | q
        · rw [q]; exact pures_of ha
        · rw [List.mem_singleton.mp q]
          exact pures_of fun x hx => by
            rcases List.mem_cons.mp hx with z | z
            · rw [z]; exact encB_pure _ _
            · rw [List.mem_singleton.mp z]; exact encB_pure _ _
    obtain ⟨m1, m2⟩ := both_mul b b3 (by decide) (by decide)
    have k := b.ok (by decide) (by decide)
    have k3 := b3.ok (by decide) (by decide)
    have kk := (both_bk b b3 (by decide) (by decide)).ok (by decide) (by decide)
    refine st_q (st_s (ev_f (ar_1 (ev_v rfl) (ar_1 (ev_v rfl) ar_0)) (both hfl k k3 m1 m2))) (st_q (st_iF (te_nT (te_t (ev_f (ar_1 (ev_v rfl) (ar_1 (ev_f (ar_1 (ev_v rfl) (ar_1 (ev_v rfl) ar_0)) (law_both hfl k k3 m1 m2)) ar_0)) (same hfl (good_B kk) (sz_B kk))) rfl)) st_n) (st_d (d := .non) (ev_m (ev_v rfl) (ty_l (l := acc) ?_) (ar_1 (ev_v rfl) ar_0) ?_)))
    · rw [← hL]; exact get_end S _ _
    · rw [← hL]; exact app_end (by rw [line]; omega) rfl
  have hk : ∀ acc, Lkd [(L + 1, .lst [encB u1 r1, encB u2 r2])] (S ++ [.lst acc, .lst [encB u1 r1, encB u2 r2]]) := fun acc => lkd_one (by
    rw [List.getElem?_append_right (by omega), hL, show L + 1 - L = 1 by omega]
    rfl)
  refine ⟨some (encB u2 r2), some (encB (lcmI u2 u3) (bothR u2 u3 r2 r3)), ?_⟩
  exact (forL_nx (hk _) rfl (step [] u1 r1 none oc b1 (fun x hx => by simp at hx) (by simp))).trans ((forL_nx (hk _) rfl (step _ u2 r2 none _ b2 (fun x hx => by
    have hx' : x = encB (lcmI u1 u3) (bothR u1 u3 r1 r3) := by simpa using hx
    rw [hx']
    exact encB_pure _ _) (by simp))).trans (forL_0 (hk _)))
end K84

namespace K84
open PySem L2 Dl
theorem encS_inj {s t : List Str} (h : encS s = encS t) : s = t := by
  simp only [encS, D.tup.injEq] at h
  have : ∀ a b : List Str, a.map D.str = b.map D.str → a = b := fun a => by
    induction a with
    | nil => intro b hb; cases b with | nil => rfl | cons x l => simp at hb
    | cons x l ih =>
      intro b hb
      cases b with
      | nil => simp at hb
      | cons y m =>
        simp only [List.map_cons, List.cons.injEq, D.str.injEq] at hb
        rw [hb.1, ih m hb.2]
  exact this s t h
theorem encG_side {a b c d : Int} {g g' : Int × List Str} (h : encG a b g = encG c d g') : g.2 = g'.2 := by
  simp only [encG, D.tup.injEq, List.cons.injEq, and_true] at h
  exact encS_inj h.2
theorem zeros (l : List (List Str)) : (List.replicate l.length [D.int 0]).flatten = (l.map (soldS [])).map D.int := by
  induction l with
  | nil => rfl
  | cons s l ih =>
    rw [List.length_cons, List.replicate_succ, List.flatten_cons, ih]
    rfl
noncomputable def aloneE : FE := tidy2 (eCall F__law_gap [(eVar 8), (eTup [(eC (.int 1)), (eTup [])]), (eVar 4), (eTup [(eCall F__law_sold [(eVar 8), (eVar 4)]), (eBin oMul (eLst [(eC (.int 0))]) (eCall bLen [(eVar 4)]))])])
theorem alone_ {S : Sto} {m : Nat} {l : List (List Str)} {u : Int} {rs : List Rg} {Γ : Dl.Ctx} (hf : Flat S) (hb : BkOk u rs) (hm : S[m]? = some (sidesC l)) (hl : l.length ≤ 512) (hok : SOk (gapS (diff u 1 rs []) l).2) (h8 : Γ[8]? = some (some (encB u rs))) (h4 : Γ[4]? = some (some (.loc m))) :
    aloneE Γ S = some (encG u 1 (gapS (diff u 1 rs []) l), S) := by
  have hS := law_sold (m := m) hf hb hm (by omega)
  obtain ⟨S1, e1⟩ : ∃ T : Sto, T = S ++ [intsC (l.map (soldS rs))] := ⟨_, rfl⟩
  obtain ⟨S2, e2⟩ : ∃ T : Sto, T = S1 ++ [.lst [.int 0]] := ⟨_, rfl⟩
  obtain ⟨S3, e3⟩ : ∃ T : Sto, T = S2 ++ [intsC (l.map (soldS []))] := ⟨_, rfl⟩
  rw [← e1] at hS
  have l1 : S1.length = S.length + 1 := by rw [e1, List.length_append]; rfl
  have l2 : S2.length = S.length + 2 := by rw [e2, List.length_append, l1]; rfl
  have hm2 : S2[m]? = some (sidesC l) := by rw [e2, e1]; exact get_app _ (get_app _ hm)
  have g1 : S2[S1.length]? = some (.lst [.int 0]) := by rw [e2]; exact get_end S1 [] _
  have hlen : (l.map encS).length = l.length := List.length_map ..
  have eZ : oMul (.loc S1.length) (.int ((l.map encS).length : Nat)) S2 = some (.loc (S.length + 2), S3) := by
    rw [oMul, g1]
    simp only
    rw [if_pos ⟨by omega, by omega, by rw [hlen, line]; simp; omega⟩, Int.toNat_natCast, hlen, zeros, l2, e3]
    rfl
  have eL : (eLst [(eC (.int 0))]) Γ S1 = some (.loc S1.length, S2) := by rw [e2]; exact ev_l (ar_1 ev_c ar_0)
  have eM : (eBin oMul (eLst [(eC (.int 0))]) (eCall bLen [(eVar 4)])) Γ S1 = some (.loc (S.length + 2), S3) := ev_b eL (ev_f (ar_1 (ev_v h4) ar_0) (b_lenl hm2)) eZ
  have p1 : S3[S.length]? = some (intsC (l.map (soldS rs))) := by rw [e3, e2, e1]; exact get_app _ (get_app _ (get_end S [] _))
  have p2 : S3[S.length + 2]? = some (intsC (l.map (soldS []))) := by rw [e3, ← l2]; exact get_end S2 [] _
  have hm3 : S3[m]? = some (sidesC l) := by rw [e3]; exact get_app _ hm2
  have el := law_gap hl hb nil_ok hm3 p1 p2
  have ea : args [(eVar 8), (eTup [(eC (.int 1)), (eTup [])]), (eVar 4), (eTup [(eCall F__law_sold [(eVar 8), (eVar 4)]), (eBin oMul (eLst [(eC (.int 0))]) (eCall bLen [(eVar 4)]))])] Γ S = some ([encB u rs, encB 1 [], .loc m, .tup [.loc S.length, .loc (S.length + 2)]], S3) :=
    ar_1 (ev_v h8) (ar_1 (ev_t (ar_1 ev_c (ar_1 (ev_t ar_0) ar_0))) (ar_1 (ev_v h4) (ar_1 (ev_t (ar_1 (ev_f (ar_1 (ev_v h8) (ar_1 (ev_v h4) ar_0)) hS) (ar_1 eM ar_0))) ar_0)))
  refine ev_tidy (ev_f ea el) ?_
  rw [e3, e2, e1, List.append_assoc, List.append_assoc]
  exact fin2_pure _ hf rfl (good_pure _ (good_G u 1 hok))
end K84

namespace K84
open PySem L2 Dl
noncomputable def tl3 : FS := (qSeq (qIf (tAnd2 (tst (eBin oLt (eVar 2) (eC (.int 9)))) (tst (eBin oIsN (eCall F__law_asked [(eVar 3), (eCall F__law_turned [(eVar 6)]), (eCall F__law_turned [(eVar 7)]), (eVar 4)]) (eC .non))))
    (qRet (eC (.bl false)))
    qNx)
    (qSeq (qSet 16 (eTup [(eC (.str "zed")), (tidy2 (eCall F__law_of [(eVar 1), (eLst [(eC (.str "may")), (eC (.str "must"))])])), (eBin oIx (eVar 3) (eC (.int 0))), (eBin oIx (eVar 3) (eUn oNeg (eC (.int 1)))), (eBin oAdd (eC (.int 1)) (eCall F__law_entry [(eVar 1), (eC (.int 9))]))]))
    (qSeq (qSet 17 (eCall F_both_books [(eBin oIx (eVar 10) (eC (.int 0))), (eTup [(eBin oAdd (eC (.int 1)) (eCall F__law_entry [(eVar 1), (eC (.int 9))])), (eTup [(eVar 16)])])]))
    (qSeq (qIf (tAnd2 (tst (eBin oEq (eBin oIx (eVar 16) (eC (.int 1))) (eC (.str "may")))) (tNo (tru (eCall F__law_same [(eCall F_never_less [(eVar 3), (eVar 17), (eBin oIx (eVar 10) (eC (.int 0)))]), (eC (.bl true))]))))
    (qRet (eC (.bl false)))
    qNx)
    (qRet (eCall F__law_same [(eCall F_never_less [(eVar 3), (eBin oIx (eVar 10) (eC (.int 0))), (eVar 17)]), (eC (.bl false))]))))))
theorem may_ne : ¬ may = must := by decide +kernel
theorem more_diff {u w : Int} {rs : List Rg} {r : Rg} (hu : 0 < u) (hw : 0 < w) (s : List Str) : diff (lcmI u w) u (bothR u w rs [r]) rs s = soldR s r * (lcmI u w / w * u) ∧ diff u (lcmI u w) rs (bothR u w rs [r]) s = - (soldR s r * (lcmI u w / w * u)) := by
  obtain ⟨a, _, _⟩ := lcm_l hu hw
  unfold diff
  rw [sold_both, sold_1]
  generalize lcmI u w / u = a1 at *
  generalize lcmI u w / w = b1 at *
  generalize lcmI u w = U at *
  constructor <;> grind
theorem tail3 {S : Sto} {many m L : Nat} {ps : List Str} {u1 u2 U1 U2 : Int} {r1 r2 R1 R2 : List Rg} (hf : Flat S) (hled : Led S 1) (hp2 : 2 ≤ ps.length) (hp9 : ps.length ≤ 9) (hpo : SOk ps) (hnd : ps.Nodup) (hm : S[m]? = some (sidesC (sides ps))) (hm1 : m ≠ 1) (hL1 : L ≠ 1)
    (k1 : BkOk u1 r1) (k2 : BkOk u2 r2) (K1 : Bk 40 50 40 U1 R1) (hL : S[L]? = some (.lst [encB U1 R1, encB U2 R2])) (o0 o5 o8 o9 ob oc od oe of og oh oi : Option D) :
    ∃ T, Rt tl3 [o0, some (.loc 1), some (.int (many : Nat)), some (encS ps), some (.loc m), o5, some (encB u1 r1), some (encB u2 r2), o8, o9, some (.loc L), ob, oc, od, oe, of, og, oh, oi] S (.bl true) T := by
  have h0 : ps ≠ [] := fun e => by rw [e] at hp2; exact absurd hp2 (by decide)
  have hok := sides_ok hpo h0
  have eT := asked (S := S) hf h0 hp9 hok (turn_ok k1) (turn_ok k2) hm
  have t1 : (tAnd2 (tst (eBin oLt (eVar 2) (eC (.int 9)))) (tst (eBin oIsN (eCall F__law_asked [(eVar 3), (eCall F__law_turned [(eVar 6)]), (eCall F__law_turned [(eVar 7)]), (eVar 4)]) (eC .non)))) [o0, some (.loc 1), some (.int (many : Nat)), some (encS ps), some (.loc m), o5, some (encB u1 r1), some (encB u2 r2), o8, o9, some (.loc L), ob, oc, od, oe, of, og, oh, oi] S = some (false, S) := by
    have t0 : (tst (eBin oLt (eVar 2) (eC (.int 9)))) [o0, some (.loc 1), some (.int (many : Nat)), some (encS ps), some (.loc m), o5, some (encB u1 r1), some (encB u2 r2), o8, o9, some (.loc L), ob, oc, od, oe, of, og, oh, oi] S = some (decide ((many : Int) < 9), S) := te_s (ev_b (ev_v rfl) ev_c rfl)
    by_cases hc : (many : Int) < 9
    · rw [decide_eq_true hc] at t0
      exact te_a t0 (te_s (ev_b (ev_f (ar_1 (ev_v rfl) (ar_1 (ev_f (ar_1 (ev_v rfl) ar_0) (turned hf k1)) (ar_1 (ev_f (ar_1 (ev_v rfl) ar_0) (turned hf k2)) (ar_1 (ev_v rfl) ar_0)))) eT) ev_c rfl))
    · rw [decide_eq_false hc] at t0
      exact te_aF t0
  obtain ⟨d, S1, hd, e1, ua⟩ := of_lit (Γ := [o0, some (.loc 1), some (.int (many : Nat)), some (encS ps), some (.loc m), o5, some (encB u1 r1), some (encB u2 r2), o8, o9, some (.loc L), ob, oc, od, oe, of, og, oh, oi]) (S := S) (S1 := S) (i := 1) (n := 1) (fs := [(eC (.str "may")), (eC (.str "must"))]) (ds := [.str may, .str must]) rfl (ar_1 ev_c (ar_1 ev_c ar_0)) hled hf (fun d hd => by
    rcases List.mem_cons.mp hd with q | q
    · rw [q, D.pure]
    · rw [List.mem_singleton.mp q, D.pure]) (by simp) (by simp) rfl
  obtain ⟨kd, rfl, hkd⟩ : ∃ kd : Str, d = .str kd ∧ (kd = may ∨ kd = must) := by
    rcases List.mem_cons.mp hd with q | q
    · exact ⟨_, q, .inl rfl⟩
    · exact ⟨_, List.mem_singleton.mp q, .inr rfl⟩
  obtain ⟨v, S2, e2, lv, ub⟩ := draw (m := 9) ua.led (by decide) (by decide)
  obtain ⟨w, S3, e3, lw, uc⟩ := draw (m := 9) ub.led (by decide) (by decide)
  have u3 := (ua.trans ub).trans uc
  have hf3 : Flat S3 := u3.flat hf
  have hL2 : S2[L]? = some (.lst [encB U1 R1, encB U2 R2]) := by rw [(ua.trans ub).get hL1]; exact hL
  have hL3 : S3[L]? = some (.lst [encB U1 R1, encB U2 R2]) := by rw [u3.get hL1]; exact hL
  have hkok : PyData.strOk kd = true := by
    rcases hkd with q | q
    · rw [q]; exact may_ok
    · rw [q]; exact must_ok
  have hl0 : 0 < ps.length := by omega
  have hla : ps.length - 1 < ps.length := by omega
  obtain ⟨X, hX⟩ : ∃ X : Rg, X = ⟨("zed" : Str), kd, ps[0], ps[ps.length - 1], 1 + (v : Int)⟩ := ⟨_, rfl⟩
  have hXn : X.n = 1 + (v : Int) := by rw [hX]
  have hXok : RgOk X := by
    rw [hX]
    exact ⟨ann_ok.2.2.2, hkok, hpo _ (List.getElem_mem hl0), hpo _ (List.getElem_mem hla), by
      show ((1 : Int) + v).natAbs < 2 ^ 100
      have : (10 : Nat) < 2 ^ 100 := by decide
      omega⟩
  have bw : Bk 4 4 1 (1 + (w : Int)) [X] := ⟨by omega, by omega, Nat.le_refl _, fun y hy => by
    rw [List.mem_singleton.mp hy]
    exact ⟨hXok, by rw [hXn]; omega⟩⟩
  obtain ⟨m1, m2⟩ := both_mul K1 bw (by decide) (by decide)
  have KM := both_bk K1 bw (by decide) (by decide)
  have kM := KM.ok (by decide) (by decide)
  have kK := K1.ok (by decide) (by decide)
  have eb := both hf3 kK (bw.ok (by decide) (by decide)) m1 m2
  have eX : (eTup [(eC (.str "zed")), (tidy2 (eCall F__law_of [(eVar 1), (eLst [(eC (.str "may")), (eC (.str "must"))])])), (eBin oIx (eVar 3) (eC (.int 0))), (eBin oIx (eVar 3) (eUn oNeg (eC (.int 1)))), (eBin oAdd (eC (.int 1)) (eCall F__law_entry [(eVar 1), (eC (.int 9))]))]) [o0, some (.loc 1), some (.int (many : Nat)), some (encS ps), some (.loc m), o5, some (encB u1 r1), some (encB u2 r2), o8, o9, some (.loc L), ob, oc, od, oe, of, og, oh, oi] S = some (encR X, S2) := by
    rw [hX]
    have i0 : oIx (encS ps) (.int 0) S1 = some (.str ps[0], S1) := o_ixt (at_get (k := 0) (by rw [List.getElem?_map, List.getElem?_eq_getElem hl0]; rfl))
    have i1 : oIx (encS ps) (.int (-1)) S1 = some (.str ps[ps.length - 1], S1) := o_ixt (at_last (by rw [List.length_map, List.getElem?_map, List.getElem?_eq_getElem hla]; rfl))
    exact ev_t (ar_1 ev_c (ar_1 e1 (ar_1 (ev_b (ev_v rfl) ev_c i0) (ar_1 (ev_b (ev_v rfl) (ev_u ev_c rfl) i1) (ar_1 (ev_b ev_c (ev_f (ar_1 (ev_v rfl) (ar_1 ev_c ar_0)) e2) rfl) ar_0)))))
  have hWp : 0 < 1 + (w : Int) := by omega
  obtain ⟨_, cp, _⟩ := lcm_r K1.pos hWp
  have hc0 : 0 < lcmI U1 (1 + (w : Int)) / (1 + (w : Int)) * U1 := Int.mul_pos cp K1.pos
  have hdiff := fun s => more_diff (rs := R1) (r := X) K1.pos hWp s
  have hne : ps[0] ≠ ps[ps.length - 1] := fun e => by
    have := (List.pairwise_iff_getElem.mp hnd) 0 (ps.length - 1) hl0 hla (by omega)
    exact this e
  -- the one side that sells
  have hs1 : soldR [ps[0]] X = 1 + (v : Int) := by
    rw [hX]
    unfold soldR
    simp only
    rw [if_pos ⟨by simp, by simpa using fun e => hne e.symm⟩]
  have nl2 := never_less (S := S3) hf3 h0 hp9 kK kM
  have hn2 : (gapS (diff (lcmI U1 (1 + (w : Int))) U1 (bothR U1 (1 + (w : Int)) R1 [X]) R1) (sides ps)).2 ≠ [] := by
    refine gapS_some (first_side hp2) ?_ fun s hs e => ?_
    · rw [(hdiff _).1, hs1]
      exact Int.mul_pos (by omega) hc0
    · have := (side_few h0 hp9 hs).1
      rw [e] at this
      exact absurd this (by decide)
  rw [decide_eq_false hn2] at nl2
  have nl1 := never_less (S := S3) hf3 h0 hp9 kM kK
  have ix3 : oIx (.loc L) (.int 0) S3 = some (encB U1 R1, S3) := o_ixl hL3 (at_0 _ _)
  have ix2 : oIx (.loc L) (.int 0) S2 = some (encB U1 R1, S2) := o_ixl hL2 (at_0 _ _)
  have gb : ∀ x : Bool, good (.bl x) = true := fun x => by rw [good]
  have zb : ∀ x : Bool, sz (.bl x) < 16777216 := fun x => by rw [sz]; decide
  refine ⟨S3, rt_q (st_iF t1 st_n) (rt_q (st_s eX) (rt_q (st_s (ev_f (ar_1 (ev_b (ev_v rfl) ev_c ix2) (ar_1 (ev_t (ar_1 (ev_b ev_c (ev_f (ar_1 (ev_v rfl) (ar_1 ev_c ar_0)) e3) rfl) (ar_1 (ev_t (ar_1 (ev_v rfl) ar_0)) ar_0))) ar_0)) eb)) (rt_q (st_iF (S1 := S3) ?_ st_n) (rt_r (ev_f (ar_1 (ev_f (ar_1 (ev_v rfl) (ar_1 (ev_b (ev_v rfl) ev_c ix3) (ar_1 (ev_v rfl) ar_0))) nl2) (ar_1 ev_c ar_0)) (same hf3 (gb _) (zb _)))))))⟩
  have ek : oIx (encR X) (.int 1) S3 = some (.str kd, S3) := by rw [hX]; rfl
  rcases hkd with q | q
  · have hz : gapS (diff U1 (lcmI U1 (1 + (w : Int))) R1 (bothR U1 (1 + (w : Int)) R1 [X])) (sides ps) = (0, []) := gapS_none fun s _ => by
      rw [(hdiff s).2]
      have : 0 ≤ soldR s X := by
        rw [hX, q]
        unfold soldR
        simp only
        split
        · omega
        · rw [if_neg (fun z => may_ne z.1)]
          omega
      have := Int.mul_nonneg this (Int.le_of_lt hc0)
      omega
    rw [hz] at nl1
    refine te_a (S1 := S3) (te_s (ev_b (ev_b (ev_v rfl) ev_c ek) ev_c ?_)) (te_nT (te_t (ev_f (ar_1 (ev_f (ar_1 (ev_v rfl) (ar_1 (ev_v rfl) (ar_1 (ev_b (ev_v rfl) ev_c ix3) ar_0))) nl1) (ar_1 ev_c ar_0)) (same hf3 (gb true) (zb true))) rfl))
    rw [q]
    show oEq (.str may) (.str may) S3 = _
    rw [eq_str may_ok may_ok]
    simp
  · refine te_aF (te_s (ev_b (ev_b (ev_v rfl) ev_c ek) ev_c ?_))
    rw [q]
    show oEq (.str must) (.str may) S3 = _
    rw [eq_str must_ok may_ok]
    congr 3
end K84

namespace K84
open PySem L2 Dl
noncomputable def tl2 : FS := (qSeq (qSet 14 (tidy2 (eCall F__law_of [(eVar 1), (eLst [(eC (.int 1)), (eC (.int 7)), (eC (.int 997)), (eC (.int 1000))])])))
    (qSeq (qSet 15 (eCall F_both_books [(eCall F_with_unit [(eBin oIx (eVar 10) (eC (.int 0))), (eVar 14)]), (eBin oIx (eVar 10) (eC (.int 0)))]))
    (qSeq (qIf (tNo (tru (eCall F__law_same [(eCall F_with_unit [(eBin oIx (eVar 10) (eC (.int 0))), (eVar 14)]), (eTup [(eBin oMul (eBin oIx (eBin oIx (eVar 10) (eC (.int 0))) (eC (.int 0))) (eVar 14)), (tidy2 (eCall bTup [(eLc (iVal (eBin oIx (eBin oIx (eVar 10) (eC (.int 0))) (eC (.int 1)))) (gN 16) tYs (eBin oAdd (eSl (eVar 16) oNo (oPart (eC (.int 4)))) (eTup [(eBin oMul (eBin oIx (eVar 16) (eC (.int 4))) (eVar 14))])) [16])]))])])))
    (qRet (eC (.bl false)))
    qNx)
    (qSeq (qIf (tNo (tru (eCall F__law_same [(eCall F_gap_of [(eVar 3), (eVar 15), (eCall F_both_books [(eBin oIx (eVar 10) (eC (.int 1))), (eBin oIx (eVar 10) (eC (.int 1)))])]), (eTup [(eCall F__law_low [(eBin oMul (eC (.int 2)) (eBin oIx (eBin oIx (eVar 9) (eC (.int 0))) (eC (.int 0)))), (eBin oIx (eBin oIx (eVar 9) (eC (.int 0))) (eC (.int 1)))]), (eBin oIx (eVar 9) (eC (.int 1)))])])))
    (qRet (eC (.bl false)))
    qNx)
    tl3))))
theorem tail2 {S : Sto} {many m L : Nat} {ps : List Str} {u1 u2 U1 U2 c : Int} {r1 r2 R1 R2 : List Rg} (hf : Flat S) (hled : Led S 1) (hp2 : 2 ≤ ps.length) (hp9 : ps.length ≤ 9) (hpo : SOk ps) (hnd : ps.Nodup) (hm : S[m]? = some (sidesC (sides ps))) (hm1 : m ≠ 1) (hL1 : L ≠ 1)
    (k1 : BkOk u1 r1) (k2 : BkOk u2 r2) (K1 : Bk 40 50 40 U1 R1) (K2 : Bk 40 50 40 U2 R2) (hL : S[L]? = some (.lst [encB U1 R1, encB U2 R2])) (hc : 0 < c) (hU : U1 * U2 = c * (u1 * u2)) (hG : gapS (diff U1 U2 R1 R2) (sides ps) = (c * (gapS (diff u1 u2 r1 r2) (sides ps)).1, (gapS (diff u1 u2 r1 r2) (sides ps)).2)) (o0 o5 o8 ob oc od oe of og oh oi : Option D) :
    ∃ T, Rt tl2 [o0, some (.loc 1), some (.int (many : Nat)), some (encS ps), some (.loc m), o5, some (encB u1 r1), some (encB u2 r2), o8, some (encG u1 u2 (gapS (diff u1 u2 r1 r2) (sides ps))), some (.loc L), ob, oc, od, oe, of, og, oh, oi] S (.bl true) T := by
  have h0 : ps ≠ [] := fun e => by rw [e] at hp2; exact absurd hp2 (by decide)
  have hok := sides_ok hpo h0
  obtain ⟨dt, S1, hdt, e1, ua⟩ := of_lit (Γ := [o0, some (.loc 1), some (.int (many : Nat)), some (encS ps), some (.loc m), o5, some (encB u1 r1), some (encB u2 r2), o8, some (encG u1 u2 (gapS (diff u1 u2 r1 r2) (sides ps))), some (.loc L), ob, oc, od, oe, of, og, oh, oi]) (S := S) (S1 := S) (i := 1) (n := 1) (fs := [(eC (.int 1)), (eC (.int 7)), (eC (.int 997)), (eC (.int 1000))]) (ds := [.int 1, .int 7, .int 997, .int 1000]) rfl (ar_1 ev_c (ar_1 ev_c (ar_1 ev_c (ar_1 ev_c ar_0)))) hled hf (fun d hd => by
    simp only [List.mem_cons, List.not_mem_nil, or_false] at hd
    rcases hd with q | q | q | q <;> rw [q, D.pure]) (by simp) (by simp) rfl
  obtain ⟨t, rfl, ht0, ht1⟩ : ∃ t : Int, dt = .int t ∧ 0 < t ∧ t ≤ 1000 := by
    simp only [List.mem_cons, List.not_mem_nil, or_false] at hdt
    rcases hdt with q | q | q | q <;> exact ⟨_, q, by omega, by omega⟩
  have hf1 := ua.flat hf
  have hLa : S1[L]? = some (.lst [encB U1 R1, encB U2 R2]) := by rw [ua.get hL1]; exact hL
  have hma : S1[m]? = some (sidesC (sides ps)) := by rw [ua.get hm1]; exact hm
  have ix0 : oIx (.loc L) (.int 0) S1 = some (encB U1 R1, S1) := o_ixl hLa (at_0 _ _)
  have ix1 : oIx (.loc L) (.int 1) S1 = some (encB U2 R2, S1) := o_ixl hLa (at_1 _ _ _)
  have kK := K1.ok (by decide) (by decide)
  have kK2 := K2.ok (by decide) (by decide)
  have htn : t.natAbs < 2 ^ 10 := by
    have : (1001 : Nat) < 2 ^ 10 := by decide
    omega
  have htb : Big t := big_of htn (by decide)
  have mU : mulOk U1 t = true := mul_big kK.big htb
  have mR : ∀ r ∈ R1, mulOk r.n t = true := fun r hr => mul_big (big_of (K1.all r hr).1.sm (by decide)) htb
  have eW := with_u hf1 kK mU mR
  have KW : Bk 50 60 40 (U1 * t) (R1.map (mulR t)) := ⟨Int.mul_pos K1.pos ht0, natAbs_mul_lt K1.lt htn, by rw [List.length_map]; exact K1.few, fun r hr => by
    obtain ⟨x, hx, rfl⟩ := List.mem_map.mp hr
    obtain ⟨x1, x2⟩ := K1.all x hx
    exact mulR_bk x1 x2 htn (by decide)⟩
  have kW := KW.ok (by decide) (by decide)
  obtain ⟨m1, m2⟩ := both_mul KW K1 (by decide) (by decide)
  have e2 := both hf1 kW kK m1 m2
  have elW : lcmI (U1 * t) U1 = U1 * t := by
    unfold lcmI
    rw [Nat.lcm_eq_left (by rw [Int.natAbs_mul]; exact Nat.dvd_mul_right _ _)]
    have := Int.mul_pos K1.pos ht0
    omega
  have el2 : lcmI U2 U2 = U2 := by
    unfold lcmI
    rw [Nat.lcm_self]
    have := K2.pos
    omega
  have KT := both_bk KW K1 (by decide) (by decide)
  have kT : BkOk (lcmI (U1 * t) U1) (bothR (U1 * t) U1 (R1.map (mulR t)) R1) := ⟨KT.pos, by rw [elW]; exact kW.lt, Nat.le_trans KT.few (by decide), fun r hr => (KT.all r hr).1⟩
  have KD := both_bk K2 K2 (by decide) (by decide)
  have kD : BkOk (lcmI U2 U2) (bothR U2 U2 R2 R2) := ⟨KD.pos, by rw [el2]; exact kK2.lt, Nat.le_trans KD.few (by decide), fun r hr => (KD.all r hr).1⟩
  obtain ⟨n1, n2⟩ := both_mul K2 K2 (by decide) (by decide)
  have eD := both hf1 kK2 kK2 n1 n2
  have eg := gap_of (S := S1) hf1 h0 hp9 kT kD
  rw [gap_twice K1.pos K2.pos ht0] at eg
  have hu12 : 0 < u1 * u2 := Int.mul_pos k1.pos k2.pos
  have elow : lowI (2 * (gapS (diff U1 U2 R1 R2) (sides ps)).1) (U1 * U2) = lowI (2 * ((gapS (diff u1 u2 r1 r2) (sides ps)).1 / (Nat.gcd (gapS (diff u1 u2 r1 r2) (sides ps)).1.natAbs (u1 * u2).natAbs : Nat))) (u1 * u2 / (Nat.gcd (gapS (diff u1 u2 r1 r2) (sides ps)).1.natAbs (u1 * u2).natAbs : Nat)) := by
    rw [low_twice hu12, hG, hU]
    simp only
    rw [show 2 * (c * (gapS (diff u1 u2 r1 r2) (sides ps)).1) = c * (2 * (gapS (diff u1 u2 r1 r2) (sides ps)).1) by grind, low_scale hc hu12]
  rw [elow, hG] at eg
  simp only at eg
  obtain ⟨okg, fewg, _⟩ := gap_side (diff u1 u2 r1 r2) h0 hp9 hok
  have hbd : (gapS (diff u1 u2 r1 r2) (sides ps)).1.natAbs < 2 ^ 172 := by
    rcases (gapS_ok (diff u1 u2 r1 r2) (sides ps)).2 with q | ⟨_, _, q⟩
    · rw [q]; decide
    · rw [← q]; exact diff_lt k1 k2 _
  have hg1 : 0 < Nat.gcd (gapS (diff u1 u2 r1 r2) (sides ps)).1.natAbs (u1 * u2).natAbs := Nat.gcd_pos_of_pos_right _ (by omega)
  have hgd : ((Nat.gcd (gapS (diff u1 u2 r1 r2) (sides ps)).1.natAbs (u1 * u2).natAbs : Nat) : Int) ∣ u1 * u2 := Int.ofNat_dvd_left.mpr (Nat.gcd_dvd_right _ _)
  have hg0 : 0 ≤ (gapS (diff u1 u2 r1 r2) (sides ps)).1 := by
    rcases (gapS_ok (diff u1 u2 r1 r2) (sides ps)).2 with q | ⟨q, _, _⟩
    · rw [q]; exact Int.le_refl _
    · omega
  generalize gapS (diff u1 u2 r1 r2) (sides ps) = g at *
  generalize hge : ((Nat.gcd g.1.natAbs (u1 * u2).natAbs : Nat) : Int) = gg at *
  have hgg0 : 0 < gg := by omega
  have hx0 : 0 ≤ g.1 / gg := Int.ediv_nonneg hg0 (by omega)
  have hx1 : g.1 / gg ≤ g.1 := Int.ediv_le_self _ hg0
  have hy0 : 0 < u1 * u2 / gg := Int.ediv_pos_of_pos_of_dvd hu12 (by omega) hgd
  have hy1 : u1 * u2 / gg ≤ u1 * u2 := Int.ediv_le_self _ (by omega)
  have hyb : Big (u1 * u2 / gg) := by
    have := natAbs_mul_lt k1.lt' k2.lt'
    exact big_of (k := 64 + 64) (by omega) (by decide)
  have hxb : Big (2 * (g.1 / gg)) := by
    have : 2 * 2 ^ 172 ≤ 2 ^ 173 := by decide
    exact big_of (k := 173) (by omega) (by decide)
  have eL := low (S := S1) hxb hyb hy0
  have hgood : good (.tup [lowI (2 * (g.1 / gg)) (u1 * u2 / gg), encS g.2]) = true := by simp [lowI, good, goods, good_S okg]
  have hsz : sz (.tup [lowI (2 * (g.1 / gg)) (u1 * u2 / gg), encS g.2]) < 16777216 := by
    simp only [lowI, encS, sz, szs, szs_S]
    omega
  obtain ⟨T, eT⟩ := tail3 (S := S1) (many := many) hf1 ua.led hp2 hp9 hpo hnd hma hm1 hL1 k1 k2 K1 hLa o0 o5 o8 (some (encG u1 u2 g)) ob oc od (some (.int t)) (some (encB (lcmI (U1 * t) U1) (bothR (U1 * t) U1 (R1.map (mulR t)) R1))) og oh oi
  have eC1 : (tidy2 (eCall bTup [(eLc (iVal (eBin oIx (eBin oIx (eVar 10) (eC (.int 0))) (eC (.int 1)))) (gN 16) tYs (eBin oAdd (eSl (eVar 16) oNo (oPart (eC (.int 4)))) (eTup [(eBin oMul (eBin oIx (eVar 16) (eC (.int 4))) (eVar 14))])) [16])])) [o0, some (.loc 1), some (.int (many : Nat)), some (encS ps), some (.loc m), o5, some (encB u1 r1), some (encB u2 r2), o8, some (encG u1 u2 g), some (.loc L), ob, oc, od, some (.int t), some (encB (lcmI (U1 * t) U1) (bothR (U1 * t) U1 (R1.map (mulR t)) R1)), og, oh, oi] S1 = some (encRs (R1.map (mulR t)), S1) := by
    have e := lc_rights (fe := eBin oIx (eBin oIx (eVar 10) (eC (.int 0))) (eC (.int 1))) (el := eBin oAdd (eSl (eVar 16) oNo (oPart (eC (.int 4)))) (eTup [(eBin oMul (eBin oIx (eVar 16) (eC (.int 4))) (eVar 14))])) (ts := tYs) (Γ := [o0, some (.loc 1), some (.int (many : Nat)), some (encS ps), some (.loc m), o5, some (encB u1 r1), some (encB u2 r2), o8, some (encG u1 u2 g), some (.loc L), ob, oc, od, some (.int t), some (encB (lcmI (U1 * t) U1) (bothR (U1 * t) U1 (R1.map (mulR t)) R1)), og, oh, oi]) (S := S1) (S1 := S1) (rs := R1) (v := 16) (fR := fun r => encR (mulR t r)) (ev_b (ev_b (ev_v rfl) ev_c ix0) ev_c rfl) (by have := K1.few; omega) (fun r hr acc =>
      (ev_b (ev_s (ev_v rfl) ev_n (ev_p ev_c) (sl_4 r _)) (ev_t (ar_1 (ev_b (ev_b (ev_v rfl) ev_c rfl) (ev_v rfl) (o_mul (mR r hr))) ar_0)) (o_cat (by simp))).trans (by rw [enc_mul]))
    have m1 : R1.map (fun r => encR (mulR t r)) = (R1.map (mulR t)).map encR := by rw [List.map_map]; rfl
    rw [m1] at e
    refine ev_tidy (ev_f (ar_1 e ar_0) (b_tup (get_end S1 [] _))) (fin2_pure _ hf1 rfl ?_)
    rw [D.pure]
    exact encRs_flat _
  refine ⟨T, rt_q (st_s e1) (rt_q (st_s (ev_f (ar_1 (ev_f (ar_1 (ev_b (ev_v rfl) ev_c ix0) (ar_1 (ev_v rfl) ar_0)) eW) (ar_1 (ev_b (ev_v rfl) ev_c ix0) ar_0)) e2)) (rt_q (st_iF (te_nT (te_t (ev_f (ar_1 (ev_f (ar_1 (ev_b (ev_v rfl) ev_c ix0) (ar_1 (ev_v rfl) ar_0)) eW) (ar_1 (ev_t (ar_1 (ev_b (ev_b (ev_b (ev_v rfl) ev_c ix0) ev_c rfl) (ev_v rfl) (o_mul mU)) (ar_1 eC1 ar_0))) ar_0)) (same hf1 (good_B kW) (sz_B kW))) rfl)) st_n) (rt_q (st_iF (te_nT (te_t (ev_f (ar_1 (ev_f (ar_1 (ev_v rfl) (ar_1 (ev_v rfl) (ar_1 (ev_f (ar_1 (ev_b (ev_v rfl) ev_c ix1) (ar_1 (ev_b (ev_v rfl) ev_c ix1) ar_0)) eD) ar_0))) eg) (ar_1 (ev_t (ar_1 (ev_f (ar_1 (ev_b ev_c (ev_b (ev_b (ev_v rfl) ev_c rfl) ev_c rfl) (o_mull (by decide))) (ar_1 (ev_b (ev_b (ev_v rfl) ev_c rfl) ev_c rfl) ar_0)) ?_) (ar_1 (ev_b (ev_v rfl) ev_c rfl) ar_0))) ar_0)) (same hf1 hgood hsz)) rfl)) st_n) eT)))⟩
  rw [hge]
  exact eL
end K84

namespace K84
open PySem L2 Dl
noncomputable def tl1 : FS := (qSeq (qIf (tOr2 (tNo (tru (eCall F__law_same [(eCall F_gap_of [(eVar 3), (eBin oIx (eVar 10) (eC (.int 0))), (eBin oIx (eVar 10) (eC (.int 1)))]), (eVar 9)]))) (tst (eBin oNe (eCall F__law_asked [(eVar 3), (eBin oIx (eVar 10) (eC (.int 0))), (eBin oIx (eVar 10) (eC (.int 1))), (eVar 4)]) (eVar 9))))
    (qRet (eC (.bl false)))
    qNx)
    (qSeq (qSet 13 aloneE)
    (qSeq (qIf (tOr2 (tNo (tru (eCall F__law_same [(eCall F_gap_of [(eVar 3), (eBin oIx (eVar 10) (eC (.int 0))), (eVar 6)]), (eVar 13)]))) (tNo (tru (eCall F__law_same [(eCall F_never_less [(eVar 3), (eVar 6), (eBin oIx (eVar 10) (eC (.int 0)))]), (eBin oEq (eBin oIx (eVar 13) (eC (.int 1))) (eTup []))]))))
    (qRet (eC (.bl false)))
    qNx)
    tl2)))
theorem tail1 {S : Sto} {many m L : Nat} {ps : List Str} {u1 u2 u3 : Int} {r1 r2 r3 : List Rg} (hf : Flat S) (hled : Led S 1) (hp2 : 2 ≤ ps.length) (hp9 : ps.length ≤ 9) (hpo : SOk ps) (hnd : ps.Nodup) (hm : S[m]? = some (sidesC (sides ps))) (hm1 : m ≠ 1) (hL1 : L ≠ 1)
    (b1 : Bk 20 30 20 u1 r1) (b2 : Bk 20 30 20 u2 r2) (b3 : Bk 20 30 20 u3 r3) (hL : S[L]? = some (.lst [encB (lcmI u1 u3) (bothR u1 u3 r1 r3), encB (lcmI u2 u3) (bothR u2 u3 r2 r3)])) (o0 o5 ob oc od oe of og oh oi : Option D) :
    ∃ T, Rt tl1 [o0, some (.loc 1), some (.int (many : Nat)), some (encS ps), some (.loc m), o5, some (encB u1 r1), some (encB u2 r2), some (encB u3 r3), some (encG u1 u2 (gapS (diff u1 u2 r1 r2) (sides ps))), some (.loc L), ob, oc, od, oe, of, og, oh, oi] S (.bl true) T := by
  have h0 : ps ≠ [] := fun e => by rw [e] at hp2; exact absurd hp2 (by decide)
  have hok := sides_ok hpo h0
  have k1 := b1.ok (by decide) (by decide)
  have k2 := b2.ok (by decide) (by decide)
  have k3 := b3.ok (by decide) (by decide)
  have K1 := both_bk b1 b3 (by decide) (by decide)
  have K2 := both_bk b2 b3 (by decide) (by decide)
  have kK1 := K1.ok (by decide) (by decide)
  have kK2 := K2.ok (by decide) (by decide)
  have K1' : Bk 40 50 40 (lcmI u1 u3) (bothR u1 u3 r1 r3) := K1.mono (by decide) (by decide) (by decide)
  have K2' : Bk 40 50 40 (lcmI u2 u3) (bothR u2 u3 r2 r3) := K2.mono (by decide) (by decide) (by decide)
  obtain ⟨la, la0, _⟩ := lcm_l b1.pos b3.pos
  obtain ⟨lc, lc0, _⟩ := lcm_l b2.pos b3.pos
  have hc : 0 < lcmI u1 u3 / u1 * (lcmI u2 u3 / u2) := Int.mul_pos la0 lc0
  have hU : lcmI u1 u3 * lcmI u2 u3 = (lcmI u1 u3 / u1 * (lcmI u2 u3 / u2)) * (u1 * u2) := by grind
  have hG := gapS_scale hc (diff_both (r1 := r1) (r2 := r2) (r3 := r3) b1.pos b2.pos b3.pos) (sides ps)
  have eg := gap_of (S := S) hf h0 hp9 kK1 kK2
  have ea := asked (S := S) hf h0 hp9 hok kK1 kK2 hm
  rw [gap_both b1.pos b2.pos b3.pos] at eg ea
  have eh := gap_of (S := S) hf h0 hp9 kK1 k1
  have en := never_less (S := S) hf h0 hp9 k1 kK1
  have hside := encG_side (gap_alone (r1 := r1) (r3 := r3) b1.pos b3.pos (sides ps))
  rw [gap_alone b1.pos b3.pos] at eh
  rw [hside] at en
  obtain ⟨okA, fewA, _⟩ := gap_side (diff u3 1 r3 []) h0 hp9 hok
  obtain ⟨okD, fewD, _⟩ := gap_side (diff u1 u2 r1 r2) h0 hp9 hok
  have hsl := sides_len hp9
  have eA := alone_ (S := S) (m := m) (l := sides ps) (u := u3) (rs := r3) (Γ := [o0, some (.loc 1), some (.int (many : Nat)), some (encS ps), some (.loc m), o5, some (encB u1 r1), some (encB u2 r2), some (encB u3 r3), some (encG u1 u2 (gapS (diff u1 u2 r1 r2) (sides ps))), some (.loc L), ob, oc, od, oe, of, og, oh, oi]) hf k3 hm hsl okA rfl rfl
  have ix0 : oIx (.loc L) (.int 0) S = some (encB (lcmI u1 u3) (bothR u1 u3 r1 r3), S) := o_ixl hL (at_0 _ _)
  have ix1 : oIx (.loc L) (.int 1) S = some (encB (lcmI u2 u3) (bothR u2 u3 r2 r3), S) := o_ixl hL (at_1 _ _ _)
  obtain ⟨T, eT⟩ := tail2 (S := S) (many := many) hf hled hp2 hp9 hpo hnd hm hm1 hL1 k1 k2 K1' K2' hL hc hU hG o0 o5 (some (encB u3 r3)) ob oc (some (encG u3 1 (gapS (diff u3 1 r3 []) (sides ps)))) oe of og oh oi
  have gb : ∀ x : Bool, good (.bl x) = true := fun x => by rw [good]
  have zb : ∀ x : Bool, sz (.bl x) < 16777216 := fun x => by rw [sz]; decide
  exact ⟨T, rt_q (st_iF (te_o (te_nT (te_t (ev_f (ar_1 (ev_f (ar_1 (ev_v rfl) (ar_1 (ev_b (ev_v rfl) ev_c ix0) (ar_1 (ev_b (ev_v rfl) ev_c ix1) ar_0))) eg) (ar_1 (ev_v rfl) ar_0)) (same hf (good_G _ _ okD) (sz_G _ _ fewD))) rfl)) (te_s (ev_b (ev_f (ar_1 (ev_v rfl) (ar_1 (ev_b (ev_v rfl) ev_c ix0) (ar_1 (ev_b (ev_v rfl) ev_c ix1) (ar_1 (ev_v rfl) ar_0)))) ea) (ev_v rfl) (ne_G _ _ okD S)))) st_n) (rt_q (st_s eA) (rt_q (st_iF (te_o (te_nT (te_t (ev_f (ar_1 (ev_f (ar_1 (ev_v rfl) (ar_1 (ev_b (ev_v rfl) ev_c ix0) (ar_1 (ev_v rfl) ar_0))) eh) (ar_1 (ev_v rfl) ar_0)) (same hf (good_G _ _ okA) (sz_G _ _ fewA))) rfl)) (te_nT (te_t (ev_f (ar_1 (ev_f (ar_1 (ev_v rfl) (ar_1 (ev_v rfl) (ar_1 (ev_b (ev_v rfl) ev_c ix0) ar_0))) en) (ar_1 (ev_b (ev_b (ev_v rfl) ev_c rfl) (ev_t ar_0) (eq_SS okA sok_nil S)) ar_0)) (same hf (gb _) (zb _))) rfl))) st_n) eT))⟩
end K84

namespace K84
open PySem L2 Dl
theorem ints_pure_flat {ns : List Int} : (Cell.ro (ns.map D.int)).flat = true := pures_of ints_pure
theorem fin2_fst {b : Nat} {T : Sto} : ∃ S', fin2 b (.bl true, T) = (.bl true, S') := by
  have e : (D.bl true).lo b = true := by rw [D.lo]
  unfold fin2
  split
  · first
      | exact ⟨_, rfl⟩
      | (rw [if_pos e]; exact ⟨_, rfl⟩)
  · exact ⟨_, rfl⟩
theorem b_sides {a b : Nat} (ha : a ≤ b) {u : Int} {rs : List Rg} (h : Bk 20 30 a u rs) : Bk 20 30 b u rs := h.mono (Nat.le_refl _) (Nat.le_refl _) ha
theorem law_holds : ∀ ns : List Int, ns.length ≤ 63 → ∃ S', F_law [.loc 0] [.ro (ns.map D.int)] = some (.bl true, S') := by
  intro ns _
  obtain ⟨a, b, r, eLd, okL⟩ := ledger_ (ns := ns)
  obtain ⟨S1, hS1⟩ : ∃ T : Sto, T = [.ro (ns.map D.int)] ++ [enL a b r] := ⟨_, rfl⟩
  rw [← hS1] at eLd
  have led1 : Led S1 1 := ⟨a, b, r, by rw [hS1]; rfl, okL⟩
  have f1 : Flat S1 := by
    rw [hS1]
    intro c hc
    rcases List.mem_append.mp hc with q | q
    · rw [List.mem_singleton.mp q]
      exact ints_pure_flat
    · rw [List.mem_singleton.mp q]
      exact enL_flat _ _ _
  have l1 : S1.length = 2 := by rw [hS1]; rfl
  obtain ⟨S2, eF, u12⟩ := fine_ led1 f1
  have led2 := u12.led
  have f2 := u12.flat f1
  -- how many places
  obtain ⟨many, S3, eM, hm2, hm9, u23⟩ : ∃ (many : Nat) (S3 : Sto), (∀ Γ : Dl.Ctx, Γ[1]? = some (some (.loc 1)) → (eIf (tst (eBin oEq (eCall F__law_entry [(eVar 1), (eC (.int 11))]) (eC (.int 5)))) (eC (.int 9)) (eBin oAdd (eC (.int 2)) (eCall F__law_entry [(eVar 1), (eC (.int 5))]))) Γ S2 = some (.int (many : Nat), S3)) ∧ 2 ≤ many ∧ many ≤ 9 ∧ Up 1 S2 S3 := by
    obtain ⟨v, T, e, lv, u⟩ := draw (m := 11) led2 (by decide) (by decide)
    by_cases hv : v = 5
    · refine ⟨9, T, fun Γ h => ?_, by decide, by decide, u⟩
      exact ev_iT (te_s (ev_b (ev_f (ar_1 (ev_v h) (ar_1 ev_c ar_0)) e) ev_c ((Dl.eq_int _ _ _).trans (by rw [hv]; rfl)))) ev_c
    · obtain ⟨w, T2, e', lw, u'⟩ := draw (m := 5) u.led (by decide) (by decide)
      refine ⟨2 + w, T2, fun Γ h => ?_, by omega, by omega, u.trans u'⟩
      have hb : (((v : Nat) : Int) == 5) = false := beq_false_of_ne (by omega)
      refine (ev_iF (te_s (ev_b (ev_f (ar_1 (ev_v h) (ar_1 ev_c ar_0)) e) ev_c ((Dl.eq_int _ _ _).trans (by rw [hb])))) (ev_b ev_c (ev_f (ar_1 (ev_v h) (ar_1 ev_c ar_0)) e') rfl)).trans ?_
      congr 3
  have led3 := u23.led
  have f3 := u23.flat f2
  obtain ⟨ps, S4, eP, u34, hpl, hpo, hnd⟩ := places_ led3 f3 hm9
  have hp2 : 2 ≤ ps.length := by omega
  have hp9 : ps.length ≤ 9 := by omega
  have h0 : ps ≠ [] := fun e => by rw [e] at hp2; exact absurd hp2 (by decide)
  have hok := sides_ok hpo h0
  have led4 := u34.led
  have f4 := u34.flat f3
  have l4 : S4.length = 2 := by rw [u34.len, u23.len, u12.len, l1]
  have eA := all_sides f4 h0 hp9
  obtain ⟨S5, hS5⟩ : ∃ T : Sto, T = S4 ++ [sidesC (sides ps)] := ⟨_, rfl⟩
  rw [← hS5, l4] at eA
  have led5 : Led S5 1 := by rw [hS5]; exact led4.app _
  have f5 : Flat S5 := by rw [hS5]; exact f4.app (sidesC_flat _)
  have hm5 : S5[2]? = some (sidesC (sides ps)) := by rw [hS5, ← l4]; exact get_end S4 [] _
  have l5 : S5.length = 3 := by rw [hS5, List.length_append, l4]; rfl
  have eS := sides_of f5 h0 hp9
  have hgS := goods_sides hok
  have hzS : sz (.tup ((sides ps).map encS)) < 16777216 := by
    have a1 := sz_sides (l := sides ps) fun s hs => (side_few h0 hp9 hs).2
    have a2 := sides_len hp9
    rw [sz]
    omega
  obtain ⟨mo, hmo, eMo⟩ : ∃ mo : Nat, mo ≤ 7 ∧ ∀ Γ : Dl.Ctx, Γ[2]? = some (some (.int (many : Nat))) → (eIf (tst (eBin oGt (eVar 2) (eC (.int 6)))) (eC (.int 4)) (eC (.int 7))) Γ S5 = some (.int (mo : Nat), S5) := by
    by_cases hq : (6 : Int) < many
    · exact ⟨4, by decide, fun Γ h => ev_iT (te_s (ev_b (ev_v h) ev_c (by rw [oGt, decide_eq_true hq]))) ev_c⟩
    · exact ⟨7, by decide, fun Γ h => ev_iF (te_s (ev_b (ev_v h) ev_c (by rw [oGt, decide_eq_false hq]))) ev_c⟩
  obtain ⟨u1, r1, u2, r2, u3, r3, S6, eB, u56, b1, b2, b3⟩ := books3 (most := mo) led5 f5 hp2 hp9 hpo (by omega) (some (.loc 0)) (some (.int (many : Nat))) (some (.loc 2)) none none none none none none none none none none none none none
  obtain ⟨S7, hS7⟩ : ∃ T : Sto, T = S6 ++ [.lst [encB u1 r1, encB u2 r2, encB u3 r3]] := ⟨_, rfl⟩
  have l6 : S6.length = 3 := by rw [u56.len, l5]
  rw [← hS7, l5] at eB
  have led7 : Led S7 1 := by rw [hS7]; exact u56.led.app _
  have f7 : Flat S7 := by
    rw [hS7]
    refine (u56.flat f5).app (pures_of fun d hd => ?_)
    simp only [List.mem_cons, List.not_mem_nil, or_false] at hd
    rcases hd with q | q | q <;> rw [q] <;> exact encB_pure _ _
  have hm7 : S7[2]? = some (sidesC (sides ps)) := by rw [hS7]; exact get_app _ (by rw [u56.get (by decide)]; exact hm5)
  have l7 : S7.length = 4 := by rw [hS7, List.length_append, l6]; rfl
  have g7 : S7[3]? = some (.lst [encB u1 r1, encB u2 r2, encB u3 r3]) := by rw [hS7, ← l6]; exact get_end S6 [] _
  have e678 : (qAsg (gT [(gN 6), (gN 7), (gN 8)]) (eLc (iRng [(eC (.int 3))]) (gN 18) tYs (eCall F__law_book [(eVar 1), (eVar 3), (eVar 5)]) [18])) [some (.loc 0), some (.loc 1), some (.int (many : Nat)), some (encS ps), some (.loc 2), some (.int (mo : Nat)), none, none, none, none, none, none, none, none, none, none, none, none, none] S5 = some (.nx, [some (.loc 0), some (.loc 1), some (.int (many : Nat)), some (encS ps), some (.loc 2), some (.int (mo : Nat)), some (encB u1 r1), some (encB u2 r2), some (encB u3 r3), none, none, none, none, none, none, none, none, none, none], S7) := by
    refine st_a eB ?_
    show ((seqD S7 (.loc 3)).bind _) = _
    rw [show seqD S7 (.loc 3) = some [encB u1 r1, encB u2 r2, encB u3 r3] by simp only [seqD, g7]]
    rfl
  -- the second book
  obtain ⟨v2, q2, S8, e8, c2, u78⟩ : ∃ (v2 : Int) (q2 : List Rg) (S8 : Sto), (qIf (tAnd2 (tru (eBin oIx (eVar 6) (eC (.int 1)))) (tst (eBin oEq (eCall F__law_entry [(eVar 1), (eC (.int 2))]) (eC (.int 0)))))
    (qSet 7 (eTup [(eBin oIx (eVar 6) (eC (.int 0))), (eBin oAdd (eSl (eBin oIx (eVar 6) (eC (.int 1))) oNo (oPart (eBin oAdd (eC (.int 1)) (eCall F__law_entry [(eVar 1), (eCall bLen [(eBin oIx (eVar 6) (eC (.int 1)))])])))) (eSl (eBin oIx (eVar 7) (eC (.int 1))) oNo (oPart (eC (.int 3)))))]))
    qNx) [some (.loc 0), some (.loc 1), some (.int (many : Nat)), some (encS ps), some (.loc 2), some (.int (mo : Nat)), some (encB u1 r1), some (encB u2 r2), some (encB u3 r3), none, none, none, none, none, none, none, none, none, none] S7 = some (.nx, [some (.loc 0), some (.loc 1), some (.int (many : Nat)), some (encS ps), some (.loc 2), some (.int (mo : Nat)), some (encB u1 r1), some (encB v2 q2), some (encB u3 r3), none, none, none, none, none, none, none, none, none, none], S8) ∧ Bk 20 30 20 v2 q2 ∧ Up 1 S7 S8 := by
    have tE : (tru (eBin oIx (eVar 6) (eC (.int 1)))) [some (.loc 0), some (.loc 1), some (.int (many : Nat)), some (encS ps), some (.loc 2), some (.int (mo : Nat)), some (encB u1 r1), some (encB u2 r2), some (encB u3 r3), none, none, none, none, none, none, none, none, none, none] S7 = some (!r1.isEmpty, S7) := by
      refine te_t (d := encRs r1) (ev_b (ev_v rfl) ev_c rfl) ?_
      rw [encRs, dTru]
      congr 2
      cases r1 <;> rfl
    cases hr1 : r1 with
    | nil =>
      rw [hr1] at tE
      refine ⟨u2, r2, S7, ?_, b_sides (by omega) b2, Up.refl led7 f7⟩
      exact st_iF (te_aF tE) st_n
    | cons x l =>
      rw [hr1] at tE
      obtain ⟨v, T, e, lv, u⟩ := draw (m := 2) led7 (by decide) (by decide)
      by_cases hv : v = 0
      · have hlr : (r1.map encR).length = r1.length := List.length_map ..
        have hbl : r1.length ≤ 7 := Nat.le_trans b1.few hmo
        obtain ⟨w, T2, e', lw, u'⟩ := draw (m := ((r1.map encR).length : Nat)) u.led (by rw [hlr, hr1, List.length_cons]; omega) (by rw [hlr]; omega)
        rw [hr1] at e'
        have c := take_bk b1 b2 (1 + w) 3
        rw [hr1] at c
        refine ⟨u1, (x :: l).take (1 + w) ++ r2.take 3, T2, ?_, b_sides (by omega) c, u.trans u'⟩
        refine st_iT (te_a tE (te_s (ev_b (ev_f (ar_1 (ev_v rfl) (ar_1 ev_c ar_0)) e) ev_c ((Dl.eq_int _ _ _).trans (by rw [hv]; rfl))))) (st_s (n := 7) (ev_t (ar_1 (ev_b (ev_v rfl) ev_c rfl) (ar_1 (d := encRs ((x :: l).take (1 + w) ++ r2.take 3)) ?_ ar_0))))
        have eK : (oPart (eBin oAdd (eC (.int 1)) (eCall F__law_entry [(eVar 1), (eCall bLen [(eBin oIx (eVar 6) (eC (.int 1)))])]))) [some (.loc 0), some (.loc 1), some (.int (many : Nat)), some (encS ps), some (.loc 2), some (.int (mo : Nat)), some (encB u1 (x :: l)), some (encB u2 r2), some (encB u3 r3), none, none, none, none, none, none, none, none, none, none] T = some (some (((1 + w : Nat) : Nat) : Int), T2) := by
          refine (ev_p (ev_b ev_c (ev_f (ar_1 (ev_v rfl) (ar_1 (ev_f (ar_1 (ev_b (ev_v rfl) ev_c rfl) ar_0) rfl) ar_0)) e') rfl)).trans ?_
          congr 2
        refine (ev_b (ev_s (ev_b (ev_v rfl) ev_c rfl) ev_n eK (sl_Rs (x :: l) (1 + w) T2)) (ev_s (ev_b (ev_v rfl) ev_c rfl) ev_n (ev_p ev_c) (sl_Rs r2 3 T2)) (o_cat ?_)).trans ?_
        · simp only [List.length_map, List.length_take]
          omega
        · rw [encRs, List.map_append]
      · have hb : (((v : Nat) : Int) == 0) = false := beq_false_of_ne (by omega)
        refine ⟨u2, r2, T, ?_, b_sides (by omega) b2, u⟩
        exact st_iF (te_a tE (te_s (ev_b (ev_f (ar_1 (ev_v rfl) (ar_1 ev_c ar_0)) e) ev_c ((Dl.eq_int _ _ _).trans (by rw [hb]))))) st_n
  have led8 := u78.led
  have f8 := u78.flat f7
  have hm8 : S8[2]? = some (sidesC (sides ps)) := by rw [u78.get (by decide)]; exact hm7
  have l8 : S8.length = 4 := by rw [u78.len, l7]
  have c1 : Bk 20 30 20 u1 r1 := b_sides (by omega) b1
  have c3 : Bk 20 30 20 u3 r3 := b_sides (by omega) b3
  have k1 := c1.ok (by decide) (by decide)
  have k2 := c2.ok (by decide) (by decide)
  have k3 := c3.ok (by decide) (by decide)
  have ea := asked (S := S8) f8 h0 hp9 hok k1 k2 hm8
  have ea2 := asked (S := S8) f8 h0 hp9 hok k2 k3 hm8
  obtain ⟨p11, p12, eLo⟩ := loop_both (S := S8) (L := 4) f8 l8 c1 c2 c3 (some (.loc 0)) (some (.loc 1)) (some (.int (many : Nat))) (some (encS ps)) (some (.loc 2)) (some (.int (mo : Nat))) (some (encG u1 v2 (gapS (diff u1 v2 r1 q2) (sides ps)))) none none none none none none none none
  obtain ⟨S9, hS9⟩ : ∃ T : Sto, T = S8 ++ [.lst [encB (lcmI u1 u3) (bothR u1 u3 r1 r3), encB (lcmI v2 u3) (bothR v2 u3 q2 r3)], .lst [encB u1 r1, encB v2 q2]] := ⟨_, rfl⟩
  rw [← hS9] at eLo
  have led9 : Led S9 1 := by rw [hS9]; exact led8.app _
  have f9 : Flat S9 := by
    rw [hS9]
    intro c hc
    have pr : ∀ (a b : D), a.pure = true → b.pure = true → (Cell.lst [a, b]).flat = true := fun a b ha hb => pures_of fun d hd => by
      rcases List.mem_cons.mp hd with q | q
      · rw [q]; exact ha
      · rw [List.mem_singleton.mp q]; exact hb
    rcases List.mem_append.mp hc with q | q
    · exact f8 c q
    · rcases List.mem_cons.mp q with q | q
      · rw [q]; exact pr _ _ (encB_pure _ _) (encB_pure _ _)
      · rw [List.mem_singleton.mp q]; exact pr _ _ (encB_pure _ _) (encB_pure _ _)
  have hm9' : S9[2]? = some (sidesC (sides ps)) := by rw [hS9]; exact get_app _ hm8
  have hL9 : S9[4]? = some (.lst [encB (lcmI u1 u3) (bothR u1 u3 r1 r3), encB (lcmI v2 u3) (bothR v2 u3 q2 r3)]) := by rw [hS9, ← l8]; exact get_end S8 _ _
  obtain ⟨T, eT⟩ := tail1 (S := S9) (many := many) (m := 2) (L := 4) f9 led9 hp2 hp9 hpo hnd hm9' (by decide) (by decide) c1 c2 c3 hL9 (some (.loc 0)) (some (.int (mo : Nat))) p11 p12 none none none none none none
  have e10 : (qSet 10 (eLst [])) [some (.loc 0), some (.loc 1), some (.int (many : Nat)), some (encS ps), some (.loc 2), some (.int (mo : Nat)), some (encB u1 r1), some (encB v2 q2), some (encB u3 r3), some (encG u1 v2 (gapS (diff u1 v2 r1 q2) (sides ps))), none, none, none, none, none, none, none, none, none] S8 = some (.nx, [some (.loc 0), some (.loc 1), some (.int (many : Nat)), some (encS ps), some (.loc 2), some (.int (mo : Nat)), some (encB u1 r1), some (encB v2 q2), some (encB u3 r3), some (encG u1 v2 (gapS (diff u1 v2 r1 q2) (sides ps))), some (.loc 4), none, none, none, none, none, none, none, none], S8 ++ [.lst []]) := by
    refine (st_s (ev_l ar_0)).trans ?_
    rw [l8]
    rfl
  have eI : (iVal (eLst [(eVar 6), (eVar 7)])) [some (.loc 0), some (.loc 1), some (.int (many : Nat)), some (encS ps), some (.loc 2), some (.int (mo : Nat)), some (encB u1 r1), some (encB v2 q2), some (encB u3 r3), some (encG u1 v2 (gapS (diff u1 v2 r1 q2) (sides ps))), some (.loc 4), none, none, none, none, none, none, none, none] (S8 ++ [.lst []]) = some (([encB u1 r1, encB v2 q2], [(4 + 1, .lst [encB u1 r1, encB v2 q2])]), S8 ++ [.lst [], .lst [encB u1 r1, encB v2 q2]]) := by
    have ear : args [(eVar 6), (eVar 7)] [some (.loc 0), some (.loc 1), some (.int (many : Nat)), some (encS ps), some (.loc 2), some (.int (mo : Nat)), some (encB u1 r1), some (encB v2 q2), some (encB u3 r3), some (encG u1 v2 (gapS (diff u1 v2 r1 q2) (sides ps))), some (.loc 4), none, none, none, none, none, none, none, none] (S8 ++ [.lst []]) = some ([encB u1 r1, encB v2 q2], S8 ++ [.lst []]) := ar_1 (ev_v rfl) (ar_1 (ev_v rfl) ar_0)
    refine (it_l (ev_l ear) (get_end (S8 ++ [.lst []]) [] _)).trans ?_
    rw [List.append_assoc, List.length_append, l8]
    rfl
  obtain ⟨S', eS'⟩ := fin2_fst (b := 1) (T := T)
  refine ⟨S', run_t rfl ?_ eS'⟩
  show Rt m_law [some (.loc 0), none, none, none, none, none, none, none, none, none, none, none, none, none, none, none, none, none, none] [.ro (ns.map D.int)] _ _
  exact rt_q (st_s (ev_f (ar_1 (ev_v rfl) ar_0) eLd)) (rt_q (st_iF (te_nT (te_t (ev_f (ar_1 (ev_v rfl) ar_0) eF) rfl)) st_n) (rt_q (st_s (eM _ rfl)) (rt_q (st_s (ev_f (ar_1 (ev_v rfl) (ar_1 (ev_v rfl) ar_0)) eP)) (rt_q (st_s (ev_f (ar_1 (ev_v rfl) ar_0) eA)) (rt_q (st_iF (te_nT (te_t (ev_f (ar_1 (ev_f (ar_1 (ev_v rfl) ar_0) eS) (ar_1 (ev_f (ar_1 (ev_v rfl) ar_0) (b_tup hm5)) ar_0)) (same f5 hgS hzS)) rfl)) st_n) (rt_q (st_s (eMo _ rfl)) (rt_q e678 (rt_q e8 (rt_q (st_s (ev_f (ar_1 (ev_v rfl) (ar_1 (ev_v rfl) (ar_1 (ev_v rfl) (ar_1 (ev_v rfl) ar_0)))) ea)) (rt_q (st_iF (te_o (te_s (ev_b (ev_v rfl) ev_c rfl)) (te_s (ev_b (ev_f (ar_1 (ev_v rfl) (ar_1 (ev_v rfl) (ar_1 (ev_v rfl) (ar_1 (ev_v rfl) ar_0)))) ea2) ev_c rfl))) st_n) (rt_q e10 (rt_q (st_f eI eLo) eT))))))))))))
end K84

namespace K84
open PySem PySem.Spec PyProof.Rows L2 Dl
def top (i : Nat) : Stmt := PySem.Challenge.pw_paidwhatever_k84_whole_gaps_cancel.main.body.getD i (.Pass ⟨0, 0, 0, 0⟩)
/-- what stands behind the names that are no defs of the text -/
structure Tx (mg : Str → Option Value) : Prop where
  m_int : mg "int" = none
  m_abs : mg "abs" = none
  m_len : mg "len" = none
  m_range : mg "range" = none
  m_tuple : mg "tuple" = none
  m_lcm : mg "lcm" = some (.builtin "math.lcm")
  m_max : mg "max" = none
  m_isinstance : mg "isinstance" = none
  m_str : mg "str" = none
  m_bool : mg "bool" = none
  m_enumerate : mg "enumerate" = none
  m_sorted : mg "sorted" = none
  m_sum : mg "sum" = none
  m_gcd : mg "gcd" = some (.builtin "math.gcd")
  m_zip : mg "zip" = none
abbrev s__law_ledger : Stmt := top 23
abbrev N__law_ledger : List Str := ["script", "ledger", "cell", "number"]
theorem sc__law_ledger : FnScope N__law_ledger ["script"] (defScope s__law_ledger) := ⟨rfl, rfl, rfl, by decide +kernel, rfl, by decide +kernel, by decide +kernel⟩
abbrev s__law_entry : Stmt := top 24
abbrev N__law_entry : List Str := ["ledger", "many", "number"]
theorem sc__law_entry : FnScope N__law_entry ["ledger", "many"] (defScope s__law_entry) := ⟨rfl, rfl, rfl, by decide +kernel, rfl, by decide +kernel, by decide +kernel⟩
abbrev s__law_of : Stmt := top 25
abbrev N__law_of : List Str := ["ledger", "rows"]
theorem sc__law_of : FnScope N__law_of ["ledger", "rows"] (defScope s__law_of) := ⟨rfl, rfl, rfl, by decide +kernel, rfl, by decide +kernel, by decide +kernel⟩
abbrev s__law_inverse : Stmt := top 37
abbrev N__law_inverse : List Str := ["number", "prime", "one", "two", "left", "right", "k", "times"]
theorem sc__law_inverse : FnScope N__law_inverse ["number", "prime"] (defScope s__law_inverse) := ⟨rfl, rfl, rfl, by decide +kernel, rfl, by decide +kernel, by decide +kernel⟩
abbrev s_multiplied_rights : Stmt := top 16
abbrev N_multiplied_rights : List Str := ["rights", "times", "found", "holder", "kind", "place", "other", "amount"]
theorem sc_multiplied_rights : FnScope N_multiplied_rights ["rights", "times"] (defScope s_multiplied_rights) := ⟨rfl, rfl, rfl, by decide +kernel, rfl, by decide +kernel, by decide +kernel⟩
abbrev s_both_books : Stmt := top 18
abbrev N_both_books : List Str := ["one", "other", "unit", "first", "second"]
theorem sc_both_books : FnScope N_both_books ["one", "other"] (defScope s_both_books) := ⟨rfl, rfl, rfl, by decide +kernel, rfl, by decide +kernel, by decide +kernel⟩
abbrev s__law_divisor : Stmt := top 26
abbrev N__law_divisor : List Str := ["one", "two", "k"]
theorem sc__law_divisor : FnScope N__law_divisor ["one", "two"] (defScope s__law_divisor) := ⟨rfl, rfl, rfl, by decide +kernel, rfl, by decide +kernel, by decide +kernel⟩
abbrev s__law_low : Stmt := top 27
abbrev N__law_low : List Str := ["over", "under", "one"]
theorem sc__law_low : FnScope N__law_low ["over", "under"] (defScope s__law_low) := ⟨rfl, rfl, rfl, by decide +kernel, rfl, by decide +kernel, by decide +kernel⟩
abbrev s__law_same : Stmt := top 28
abbrev N__law_same : List Str := ["told", "due", "left", "one", "two", "k"]
theorem sc__law_same : FnScope N__law_same ["told", "due"] (defScope s__law_same) := ⟨rfl, rfl, rfl, by decide +kernel, rfl, by decide +kernel, by decide +kernel⟩
abbrev s_side_of_mask : Stmt := top 8
abbrev N_side_of_mask : List Str := ["places", "mask", "at", "place"]
theorem sc_side_of_mask : FnScope N_side_of_mask ["places", "mask"] (defScope s_side_of_mask) := ⟨rfl, rfl, rfl, by decide +kernel, rfl, by decide +kernel, by decide +kernel⟩
abbrev s_sides_of : Stmt := top 9
abbrev N_sides_of : List Str := ["places", "mask"]
theorem sc_sides_of : FnScope N_sides_of ["places"] (defScope s_sides_of) := ⟨rfl, rfl, rfl, by decide +kernel, rfl, by decide +kernel, by decide +kernel⟩
abbrev s_sold_pairs : Stmt := top 11
abbrev N_sold_pairs : List Str := ["book", "table", "right", "forth", "back", "ends"]
theorem sc_sold_pairs : FnScope N_sold_pairs ["book"] (defScope s_sold_pairs) := ⟨rfl, rfl, rfl, by decide +kernel, rfl, by decide +kernel, by decide +kernel⟩
abbrev s_sums_over : Stmt := top 12
abbrev N_sums_over : List Str := ["sides", "book", "pairs", "found", "side", "inside", "place", "other", "amount"]
theorem sc_sums_over : FnScope N_sums_over ["sides", "book"] (defScope s_sums_over) := ⟨rfl, rfl, rfl, by decide +kernel, rfl, by decide +kernel, by decide +kernel⟩
abbrev s_quotient_of : Stmt := top 6
abbrev N_quotient_of : List Str := ["over", "under", "common"]
theorem sc_quotient_of : FnScope N_quotient_of ["over", "under"] (defScope s_quotient_of) := ⟨rfl, rfl, rfl, by decide +kernel, rfl, by decide +kernel, by decide +kernel⟩
abbrev s_gap_of : Stmt := top 13
abbrev N_gap_of : List Str := ["places", "one", "other", "sides", "greatest", "found", "side", "ahead", "behind", "more"]
theorem sc_gap_of : FnScope N_gap_of ["places", "one", "other"] (defScope s_gap_of) := ⟨rfl, rfl, rfl, by decide +kernel, rfl, by decide +kernel, by decide +kernel⟩
abbrev s_never_less : Stmt := top 14
abbrev N_never_less : List Str := ["places", "one", "other", "gap", "side"]
theorem sc_never_less : FnScope N_never_less ["places", "one", "other"] (defScope s_never_less) := ⟨rfl, rfl, rfl, by decide +kernel, rfl, by decide +kernel, by decide +kernel⟩
abbrev s__law_fine : Stmt := top 38
abbrev N__law_fine : List Str := ["ledger", "units", "first", "book", "total", "k", "rest", "amount", "under", "due"]
theorem sc__law_fine : FnScope N__law_fine ["ledger"] (defScope s__law_fine) := ⟨rfl, rfl, rfl, by decide +kernel, rfl, by decide +kernel, by decide +kernel⟩
abbrev s__law_places : Stmt := top 29
abbrev N__law_places : List Str := ["ledger", "many", "signs", "names", "shift", "k", "name"]
theorem sc__law_places : FnScope N__law_places ["ledger", "many"] (defScope s__law_places) := ⟨rfl, rfl, rfl, by decide +kernel, rfl, by decide +kernel, by decide +kernel⟩
abbrev s__law_all_sides : Stmt := top 31
abbrev N__law_all_sides : List Str := ["places", "rows", "place", "row"]
theorem sc__law_all_sides : FnScope N__law_all_sides ["places"] (defScope s__law_all_sides) := ⟨rfl, rfl, rfl, by decide +kernel, rfl, by decide +kernel, by decide +kernel⟩
abbrev s__law_book : Stmt := top 30
abbrev N__law_book : List Str := ["ledger", "places", "most", "unit", "kinds", "rights", "k", "one", "two", "amount"]
theorem sc__law_book : FnScope N__law_book ["ledger", "places", "most"] (defScope s__law_book) := ⟨rfl, rfl, rfl, by decide +kernel, rfl, by decide +kernel, by decide +kernel⟩
abbrev s__law_sold : Stmt := top 32
abbrev N__law_sold : List Str := ["book", "sides", "told", "side", "total", "holder", "kind", "one", "two", "amount"]
theorem sc__law_sold : FnScope N__law_sold ["book", "sides"] (defScope s__law_sold) := ⟨rfl, rfl, rfl, by decide +kernel, rfl, by decide +kernel, by decide +kernel⟩
abbrev s__law_gap : Stmt := top 33
abbrev N__law_gap : List Str := ["one", "other", "sides", "table", "best", "where", "mine", "yours", "k", "over"]
theorem sc__law_gap : FnScope N__law_gap ["one", "other", "sides", "table"] (defScope s__law_gap) := ⟨rfl, rfl, rfl, by decide +kernel, rfl, by decide +kernel, by decide +kernel⟩
abbrev s_sold_amount : Stmt := top 20
abbrev N_sold_amount : List Str := ["book", "side", "amount", "right", "leaves", "returns"]
theorem sc_sold_amount : FnScope N_sold_amount ["book", "side"] (defScope s_sold_amount) := ⟨rfl, rfl, rfl, by decide +kernel, rfl, by decide +kernel, by decide +kernel⟩
abbrev s_sold_over : Stmt := top 21
abbrev N_sold_over : List Str := ["book", "side"]
theorem sc_sold_over : FnScope N_sold_over ["book", "side"] (defScope s_sold_over) := ⟨rfl, rfl, rfl, by decide +kernel, rfl, by decide +kernel, by decide +kernel⟩
abbrev s__law_asked : Stmt := top 36
abbrev N__law_asked : List Str := ["places", "one", "other", "sides", "table", "due", "back", "gap", "side", "at"]
theorem sc__law_asked : FnScope N__law_asked ["places", "one", "other", "sides"] (defScope s__law_asked) := ⟨rfl, rfl, rfl, by decide +kernel, rfl, by decide +kernel, by decide +kernel⟩
abbrev s__law_both : Stmt := top 34
abbrev N__law_both : List Str := ["one", "other", "unit", "rights", "right"]
theorem sc__law_both : FnScope N__law_both ["one", "other"] (defScope s__law_both) := ⟨rfl, rfl, rfl, by decide +kernel, rfl, by decide +kernel, by decide +kernel⟩
abbrev s_with_unit : Stmt := top 17
abbrev N_with_unit : List Str := ["book", "times", "unit", "rights"]
theorem sc_with_unit : FnScope N_with_unit ["book", "times"] (defScope s_with_unit) := ⟨rfl, rfl, rfl, by decide +kernel, rfl, by decide +kernel, by decide +kernel⟩
abbrev s__law_turned : Stmt := top 35
abbrev N__law_turned : List Str := ["book", "right"]
theorem sc__law_turned : FnScope N__law_turned ["book"] (defScope s__law_turned) := ⟨rfl, rfl, rfl, by decide +kernel, rfl, by decide +kernel, by decide +kernel⟩
abbrev s_law : Stmt := top 39
abbrev N_law : List Str := ["script", "ledger", "many", "places", "sides", "most", "one", "two", "three", "due", "both", "book", "told", "alone", "times", "twice", "right", "more", "k"]
theorem sc_law : FnScope N_law ["script"] (defScope s_law) := ⟨rfl, rfl, rfl, by decide +kernel, rfl, by decide +kernel, by decide +kernel⟩
section
variable {P : Program} {w : World} {K : PySem.W.Frag} {mg : Str → Option Value} {base : Heap}
set_option maxHeartbeats 0 in
theorem ok__law_ledger {f : Addr} {fd : FuncData} (F : Fun K "_law_ledger" "_law_ledger" s__law_ledger f fd) (T : Tx mg)  : FnOk P w K mg base CX0 1 f fd ["script"] (spD K F__law_ledger) :=
  fn_e (N := N__law_ledger) (np := 1) (n := 4) (body := m__law_ledger) rfl rfl rfl F sc__law_ledger fun cdv A outer s H E hr =>
    (ss_cons (ss_set (n := 1) sc__law_ledger.nd (by rfl) (by first | exact Or.inl rfl | exact Or.inr rfl) (se_lst (sa_cons se_int (sa_cons se_int sa_nil))))
    (ss_cons (ss_for PassesOwn.never (by rfl) (si_val (se_sl (se_v 0) so_no (so_some se_int))) (sg_n 2 sc__law_ledger.nd)
    (ss_cons (ss_set (n := 3) sc__law_ledger.nd (by rfl) (by first | exact Or.inl rfl | exact Or.inr rfl) (se_callB call_abs bd_abs (by rfl) T.m_abs (by decide +kernel) (sa_cons (se_callTy call_int1 bd_int (by rfl) T.m_int (by decide +kernel) (sa_cons (se_v 2) sa_nil)) sa_nil)))
    (ss_cons (ss_put hr.u1 (se_op op_mod rd_mod (se_callTy call_int1 bd_int (by rfl) T.m_int (by decide +kernel) (sa_cons (se_op or_add rd_add (se_op or_add rd_add (se_op or_mul rd_mul (se_ix hr.u1 (se_v 1) se_int) se_int) (se_op op_mod rd_mod (se_callTy call_int1 bd_int (by rfl) T.m_int (by decide +kernel) (sa_cons (se_v 3) sa_nil)) se_int)) se_int) sa_nil)) se_int) (se_v 1) se_int)
    (ss_one (ss_if (st_cmp op_ge rd_ge (se_v 3) (se_op op_pow rd_pow se_int se_int) (by rfl))
    (ss_one (ss_expr (se_bm PySem.F.plainAttrs_list PySem.F.slot_list_insert PySem.F.type_list_insert mt_insert md_insert (se_v 1) (sa_cons se_int (sa_cons (se_v 3) sa_nil)))))
    ss_nil)))))
    (ss_one (ss_ret (se_v 1)))))
set_option maxHeartbeats 0 in
theorem ok__law_entry {f : Addr} {fd : FuncData} (F : Fun K "_law_entry" "_law_entry" s__law_entry f fd) (T : Tx mg)  : FnOk P w K mg base CX0 1 f fd ["ledger", "many"] (spD K F__law_entry) :=
  fn_e (N := N__law_entry) (np := 2) (n := 3) (body := m__law_entry) rfl rfl rfl F sc__law_entry fun cdv A outer s H E hr =>
    (ss_cons (ss_put hr.u1 (se_op or_add rd_add (se_ix hr.u1 (se_v 0) se_int) se_int) (se_v 0) se_int)
    (ss_cons (ss_if (st_cmp op_gt rd_gt (se_callB cr_len bd_len (by rfl) T.m_len (by decide +kernel) (sa_cons (se_v 0) sa_nil)) se_int (by rfl))
    (ss_cons (ss_set (n := 2) sc__law_entry.nd (by rfl) (by first | exact Or.inl rfl | exact Or.inr rfl) (se_callTy call_int1 bd_int (by rfl) T.m_int (by decide +kernel) (sa_cons (se_ix hr.u1 (se_v 0) (se_neg se_int)) sa_nil)))
    (ss_cons (ss_put hr.u1 (se_op op_fdivW rd_fdiv (se_v 2) (se_v 1)) (se_v 0) (se_neg se_int))
    (ss_cons (ss_if (st_cmp (op_eqD hr.u64) rd_eq (se_ix hr.u1 (se_v 0) (se_neg se_int)) se_int (by rfl))
    (ss_one (ss_expr (se_bm0 PySem.F.plainAttrs_list PySem.F.slot_list_pop PySem.F.type_list_pop mt_pop md_pop (se_v 0))))
    ss_nil)
    (ss_one (ss_ret (se_op op_mod rd_mod (se_callTy call_int1 bd_int (by rfl) T.m_int (by decide +kernel) (sa_cons (se_v 2) sa_nil)) (se_v 1)))))))
    ss_nil)
    (ss_cons (ss_put hr.u1 (se_op op_mod rd_mod (se_callTy call_int1 bd_int (by rfl) T.m_int (by decide +kernel) (sa_cons (se_op or_add rd_add (se_op or_add rd_add (se_op or_mul rd_mul (se_ix hr.u1 (se_v 0) se_int) se_int) (se_op or_mul rd_mul (se_ix hr.u1 (se_v 0) se_int) se_int)) se_int) sa_nil)) se_int) (se_v 0) se_int)
    (ss_one (ss_ret (se_op op_mod rd_mod (se_callTy call_int1 bd_int (by rfl) T.m_int (by decide +kernel) (sa_cons (se_op op_fdivW rd_fdiv (se_ix hr.u1 (se_v 0) se_int) se_int) sa_nil)) (se_v 1)))))))
set_option maxHeartbeats 0 in
theorem ok__law_of {f : Addr} {fd : FuncData} (F : Fun K "_law_of" "_law_of" s__law_of f fd) (T : Tx mg) (G__law_entry : Fn P w K mg base 1 "_law_entry" F__law_entry) : FnOk P w K mg base CX0 2 f fd ["ledger", "rows"] (spD K F__law_of) :=
  fn_e (N := N__law_of) (np := 2) (n := 2) (body := m__law_of) rfl rfl rfl F sc__law_of fun cdv A outer s H E hr =>
    (ss_one (ss_ret (se_ix hr.u1 (se_v 1) (se_call G__law_entry (hr.mono (by decide)) (by rfl) (sa_cons (se_v 0) (sa_cons (se_callB cr_len bd_len (by rfl) T.m_len (by decide +kernel) (sa_cons (se_v 1) sa_nil)) sa_nil))))))
set_option maxHeartbeats 0 in
theorem ok__law_inverse {f : Addr} {fd : FuncData} (F : Fun K "_law_inverse" "_law_inverse" s__law_inverse f fd) (T : Tx mg)  : FnOk P w K mg base CX0 1 f fd ["number", "prime"] (spD K F__law_inverse) :=
  fn_e (N := N__law_inverse) (np := 2) (n := 8) (body := m__law_inverse) rfl rfl rfl F sc__law_inverse fun cdv A outer s H E hr =>
    (ss_cons (ss_asg (se_tup (sa_cons (se_v 0) (sa_cons (se_v 1) (sa_cons se_int (sa_cons se_int sa_nil))))) (sg_t (by rfl) (sgs_cons (sg_n 2 sc__law_inverse.nd) (sgs_cons (sg_n 3 sc__law_inverse.nd) (sgs_cons (sg_n 4 sc__law_inverse.nd) (sgs_cons (sg_n 5 sc__law_inverse.nd) sgs_nil))))))
    (ss_cons (ss_for PassesOwn.never (by rfl) (si_rng1 (by rfl) T.m_range (sa_cons (se_op or_add rd_add (se_op or_mul rd_mul se_int (se_bits (se_v 1))) se_int) sa_nil)) (sg_n 6 sc__law_inverse.nd)
    (ss_cons (ss_if (st_cmp (op_eqD hr.u64) rd_eq (se_v 3) se_int (by rfl))
    (ss_one ss_break)
    ss_nil)
    (ss_cons (ss_set (n := 7) sc__law_inverse.nd (by rfl) (by first | exact Or.inl rfl | exact Or.inr rfl) (se_op op_fdivW rd_fdiv (se_v 2) (se_v 3)))
    (ss_one (ss_asg (se_tup (sa_cons (se_v 3) (sa_cons (se_op op_sub rd_sub (se_v 2) (se_op or_mul rd_mul (se_v 7) (se_v 3))) (sa_cons (se_v 5) (sa_cons (se_op op_sub rd_sub (se_v 4) (se_op or_mul rd_mul (se_v 7) (se_v 5))) sa_nil))))) (sg_t (by rfl) (sgs_cons (sg_n 2 sc__law_inverse.nd) (sgs_cons (sg_n 3 sc__law_inverse.nd) (sgs_cons (sg_n 4 sc__law_inverse.nd) (sgs_cons (sg_n 5 sc__law_inverse.nd) sgs_nil))))))))))
    (ss_one (ss_ret (se_op op_mod rd_mod (se_callTy call_int1 bd_int (by rfl) T.m_int (by decide +kernel) (sa_cons (se_v 4) sa_nil)) (se_v 1))))))
set_option maxHeartbeats 0 in
theorem ok_multiplied_rights {f : Addr} {fd : FuncData} (F : Fun K "multiplied_rights" "multiplied_rights" s_multiplied_rights f fd) (T : Tx mg)  : FnOk P w K mg base CX0 1 f fd ["rights", "times"] (spD K F_multiplied_rights) :=
  fn_e (N := N_multiplied_rights) (np := 2) (n := 8) (body := m_multiplied_rights) rfl rfl rfl F sc_multiplied_rights fun cdv A outer s H E hr =>
    (ss_cons (ss_set (n := 2) sc_multiplied_rights.nd (by rfl) (by first | exact Or.inl rfl | exact Or.inr rfl) (se_lst sa_nil))
    (ss_cons (ss_for PassesOwn.never (by rfl) (si_val (se_v 0)) (sg_t (by rfl) (sgs_cons (sg_n 3 sc_multiplied_rights.nd) (sgs_cons (sg_n 4 sc_multiplied_rights.nd) (sgs_cons (sg_n 5 sc_multiplied_rights.nd) (sgs_cons (sg_n 6 sc_multiplied_rights.nd) (sgs_cons (sg_n 7 sc_multiplied_rights.nd) sgs_nil))))))
    (ss_one (ss_expr (se_bm PySem.F.plainAttrs_list PySem.F.slot_list_append PySem.F.type_list_append mt_append md_append (se_v 2) (sa_cons (se_tup (sa_cons (se_v 3) (sa_cons (se_v 4) (sa_cons (se_v 5) (sa_cons (se_v 6) (sa_cons (se_op or_mul rd_mul (se_v 7) (se_v 1)) sa_nil)))))) sa_nil)))))
    (ss_one (ss_ret (se_callTy call_tuple_of bd_tup (by rfl) T.m_tuple (by decide +kernel) (sa_cons (se_v 2) sa_nil))))))
set_option maxHeartbeats 0 in
theorem ok_both_books {f : Addr} {fd : FuncData} (F : Fun K "both_books" "both_books" s_both_books f fd) (T : Tx mg) (G_multiplied_rights : Fn P w K mg base 1 "multiplied_rights" F_multiplied_rights) : FnOk P w K mg base CX0 2 f fd ["one", "other"] (spD K F_both_books) :=
  fn_e (N := N_both_books) (np := 2) (n := 5) (body := m_both_books) rfl rfl rfl F sc_both_books fun cdv A outer s H E hr =>
    (ss_cons (ss_set (n := 2) sc_both_books.nd (by rfl) (by first | exact Or.inl rfl | exact Or.inr rfl) (se_callBf cr_lcm bd_lcm (by rfl) T.m_lcm (sa_cons (se_ix hr.u1 (se_v 0) se_int) (sa_cons (se_ix hr.u1 (se_v 1) se_int) sa_nil))))
    (ss_cons (ss_set (n := 3) sc_both_books.nd (by rfl) (by first | exact Or.inl rfl | exact Or.inr rfl) (se_call G_multiplied_rights (hr.mono (by decide)) (by rfl) (sa_cons (se_ix hr.u1 (se_v 0) se_int) (sa_cons (se_op op_fdivW rd_fdiv (se_v 2) (se_ix hr.u1 (se_v 0) se_int)) sa_nil))))
    (ss_cons (ss_set (n := 4) sc_both_books.nd (by rfl) (by first | exact Or.inl rfl | exact Or.inr rfl) (se_call G_multiplied_rights (hr.mono (by decide)) (by rfl) (sa_cons (se_ix hr.u1 (se_v 1) se_int) (sa_cons (se_op op_fdivW rd_fdiv (se_v 2) (se_ix hr.u1 (se_v 1) se_int)) sa_nil))))
    (ss_one (ss_ret (se_tup (sa_cons (se_v 2) (sa_cons (se_op or_add rd_add (se_v 3) (se_v 4)) sa_nil))))))))
set_option maxHeartbeats 0 in
theorem ok__law_divisor {f : Addr} {fd : FuncData} (F : Fun K "_law_divisor" "_law_divisor" s__law_divisor f fd) (T : Tx mg)  : FnOk P w K mg base CX0 1 f fd ["one", "two"] (spD K F__law_divisor) :=
  fn_e (N := N__law_divisor) (np := 2) (n := 3) (body := m__law_divisor) rfl rfl rfl F sc__law_divisor fun cdv A outer s H E hr =>
    (ss_cons (ss_par2 (i := 0) (j := 1) (by rfl) sc__law_divisor.nd (by rfl) (by rfl) (by decide) (by rfl) (by rfl) (sa_cons (se_callB call_abs bd_abs (by rfl) T.m_abs (by decide +kernel) (sa_cons (se_v 0) sa_nil)) (sa_cons (se_callB call_abs bd_abs (by rfl) T.m_abs (by decide +kernel) (sa_cons (se_v 1) sa_nil)) sa_nil)))
    (ss_cons (ss_for PassesOwn.never (by rfl) (si_rng1 (by rfl) T.m_range (sa_cons (se_op or_add rd_add (se_op or_mul rd_mul se_int (se_bits (se_callB (call_max2 (by rfl)) bd_max2 (by rfl) T.m_max (by decide +kernel) (sa_cons (se_v 0) (sa_cons (se_v 1) sa_nil))))) se_int) sa_nil)) (sg_n 2 sc__law_divisor.nd)
    (ss_cons (ss_if (st_cmp (op_eqD hr.u64) rd_eq (se_v 1) se_int (by rfl))
    (ss_one ss_break)
    ss_nil)
    (ss_one (ss_par2 (i := 0) (j := 1) (by rfl) sc__law_divisor.nd (by rfl) (by rfl) (by decide) (by rfl) (by rfl) (sa_cons (se_v 1) (sa_cons (se_op op_mod rd_mod (se_callTy call_int1 bd_int (by rfl) T.m_int (by decide +kernel) (sa_cons (se_v 0) sa_nil)) (se_v 1)) sa_nil))))))
    (ss_one (ss_ret (se_v 0)))))
set_option maxHeartbeats 0 in
theorem ok__law_low {f : Addr} {fd : FuncData} (F : Fun K "_law_low" "_law_low" s__law_low f fd) (T : Tx mg) (G__law_divisor : Fn P w K mg base 1 "_law_divisor" F__law_divisor) : FnOk P w K mg base CX0 2 f fd ["over", "under"] (spD K F__law_low) :=
  fn_e (N := N__law_low) (np := 2) (n := 3) (body := m__law_low) rfl rfl rfl F sc__law_low fun cdv A outer s H E hr =>
    (ss_cons (ss_set (n := 2) sc__law_low.nd (by rfl) (by first | exact Or.inl rfl | exact Or.inr rfl) (se_call G__law_divisor (hr.mono (by decide)) (by rfl) (sa_cons (se_v 0) (sa_cons (se_v 1) sa_nil))))
    (ss_one (ss_ret (se_tup (sa_cons (se_op op_fdivW rd_fdiv (se_v 0) (se_v 2)) (sa_cons (se_op op_fdivW rd_fdiv (se_v 1) (se_v 2)) sa_nil))))))
set_option maxHeartbeats 0 in
theorem ok__law_same {f : Addr} {fd : FuncData} (F : Fun K "_law_same" "_law_same" s__law_same f fd) (T : Tx mg)  : FnOk P w K mg base CX0 1 f fd ["told", "due"] (spD K F__law_same) :=
  fn_e (N := N__law_same) (np := 2) (n := 6) (body := m__law_same) rfl rfl rfl F sc__law_same fun cdv A outer s H E hr =>
    (ss_cons (ss_set (n := 2) sc__law_same.nd (by rfl) (by first | exact Or.inl rfl | exact Or.inr rfl) (se_lst (sa_cons (se_tup (sa_cons (se_v 0) (sa_cons (se_v 1) sa_nil))) sa_nil)))
    (ss_cons (ss_while PassesOwn.never (st_tru (se_v 2))
    (ss_cons (ss_asg (se_bm0 PySem.F.plainAttrs_list PySem.F.slot_list_pop PySem.F.type_list_pop mt_pop md_pop (se_v 2)) (sg_t (by rfl) (sgs_cons (sg_n 3 sc__law_same.nd) (sgs_cons (sg_n 4 sc__law_same.nd) sgs_nil))))
    (ss_one (ss_if (st_tru (se_isi (se_v 4) (by rfl) T.m_isinstance (by rfl) T.m_tuple (by decide +kernel)))
    (ss_cons (ss_if (SW.st (sw_or (st_not (st_tru (se_isi (se_v 3) (by rfl) T.m_isinstance (by rfl) T.m_tuple (by decide +kernel)))) (sw_or1 (st_cmp (op_neD hr.u64) rd_ne (se_callB cr_len bd_len (by rfl) T.m_len (by decide +kernel) (sa_cons (se_v 3) sa_nil)) (se_callB cr_len bd_len (by rfl) T.m_len (by decide +kernel) (sa_cons (se_v 4) sa_nil)) (by rfl)))))
    (ss_one (ss_ret se_bl))
    ss_nil)
    (ss_one (ss_for PassesOwn.never (by rfl) (si_rng1 (by rfl) T.m_range (sa_cons (se_callB cr_len bd_len (by rfl) T.m_len (by decide +kernel) (sa_cons (se_v 4) sa_nil)) sa_nil)) (sg_n 5 sc__law_same.nd)
    (ss_one (ss_expr (se_bm PySem.F.plainAttrs_list PySem.F.slot_list_append PySem.F.type_list_append mt_append md_append (se_v 2) (sa_cons (se_tup (sa_cons (se_ix hr.u1 (se_v 3) (se_v 5)) (sa_cons (se_ix hr.u1 (se_v 4) (se_v 5)) sa_nil))) sa_nil)))))))
    (ss_one (ss_if (st_tru (se_isi (se_v 4) (by rfl) T.m_isinstance (by rfl) T.m_str (by decide +kernel)))
    (ss_one (ss_if (SW.st (sw_or (st_not (st_tru (se_isi (se_v 3) (by rfl) T.m_isinstance (by rfl) T.m_str (by decide +kernel)))) (sw_or1 (st_cmp (op_neD hr.u64) rd_ne (se_v 3) (se_v 4) (by rfl)))))
    (ss_one (ss_ret se_bl))
    ss_nil))
    (ss_one (ss_if (SW.st (sw_or (st_tru (se_isi (se_v 4) (by rfl) T.m_isinstance (by rfl) T.m_bool (by decide +kernel))) (sw_or1 (st_tru (se_isi (se_v 3) (by rfl) T.m_isinstance (by rfl) T.m_bool (by decide +kernel))))))
    (ss_one (ss_if (SW.st (sw_or (st_not (st_tru (se_isi (se_v 4) (by rfl) T.m_isinstance (by rfl) T.m_bool (by decide +kernel)))) (sw_or (st_not (st_tru (se_isi (se_v 3) (by rfl) T.m_isinstance (by rfl) T.m_bool (by decide +kernel)))) (sw_or1 (st_cmp (op_neD hr.u64) rd_ne (se_v 3) (se_v 4) (by rfl))))))
    (ss_one (ss_ret se_bl))
    ss_nil))
    (ss_one (ss_if (SW.st (sw_or (st_not (st_tru (se_isi (se_v 3) (by rfl) T.m_isinstance (by rfl) T.m_int (by decide +kernel)))) (sw_or1 (st_cmp (op_neD hr.u64) rd_ne (se_v 3) (se_v 4) (by rfl)))))
    (ss_one (ss_ret se_bl))
    ss_nil))))))))))
    (ss_one (ss_ret se_bl))))
set_option maxHeartbeats 0 in
theorem ok_side_of_mask {f : Addr} {fd : FuncData} (F : Fun K "side_of_mask" "side_of_mask" s_side_of_mask f fd) (T : Tx mg)  : FnOk P w K mg base CX0 1 f fd ["places", "mask"] (spD K F_side_of_mask) :=
  fn_e (N := N_side_of_mask) (np := 2) (n := 4) (body := m_side_of_mask) rfl rfl rfl F sc_side_of_mask fun cdv A outer s H E hr =>
    (ss_one (ss_ret (se_tidy2 (se_callTy call_tuple_of bd_tup (by rfl) T.m_tuple (by decide +kernel) (sa_cons (se_lc (by rfl) sc_side_of_mask.nd (si_enum (by rfl) T.m_enumerate (sa_cons (se_v 0) sa_nil)) (blkOk_by (N := N_side_of_mask) (sc := defScope s_side_of_mask) (own := [("at", 2), ("place", 3)]) (by decide +kernel)) (fun _ _ _ _ _ => (sg_t (by rfl) (sgs_cons (sg_n 2 sc_side_of_mask.nd) (sgs_cons (sg_n 3 sc_side_of_mask.nd) sgs_nil)))) (fun _ _ _ _ _ => (sts_one (st_tru (se_op op_and rd_andB (se_op op_shr rd_shr (se_v 1) (se_v 2)) se_int)))) (fun _ _ _ _ _ => (se_v 3)) (by decide)) sa_nil)))))
set_option maxHeartbeats 0 in
theorem ok_sides_of {f : Addr} {fd : FuncData} (F : Fun K "sides_of" "sides_of" s_sides_of f fd) (T : Tx mg) (G_side_of_mask : Fn P w K mg base 1 "side_of_mask" F_side_of_mask) : FnOk P w K mg base CX0 2 f fd ["places"] (spD K F_sides_of) :=
  fn_e (N := N_sides_of) (np := 1) (n := 2) (body := m_sides_of) rfl rfl rfl F sc_sides_of fun cdv A outer s H E hr =>
    (ss_one (ss_ret (se_tidy2 (se_callTy call_tuple_of bd_tup (by rfl) T.m_tuple (by decide +kernel) (sa_cons (se_tidy2 (se_callB (Dl.cr_sorted (by rfl) hr.u64) bd_sorted (by rfl) T.m_sorted (by decide +kernel) (sa_cons (se_lc (by rfl) sc_sides_of.nd (si_rng2 (by rfl) T.m_range (sa_cons se_int (sa_cons (se_op op_sub rd_sub (se_op op_shl rd_shl se_int (se_callB cr_len bd_len (by rfl) T.m_len (by decide +kernel) (sa_cons (se_v 0) sa_nil))) se_int) sa_nil))) (blkOk_by (N := N_sides_of) (sc := defScope s_sides_of) (own := [("mask", 1)]) (by decide +kernel)) (fun _ _ _ _ _ => (sg_n 1 sc_sides_of.nd)) (fun _ _ _ _ _ => sts_nil) (fun _ _ _ _ _ => (se_call G_side_of_mask (hr.mono (by decide)) (by rfl) (sa_cons (se_v 0) (sa_cons (se_v 1) sa_nil)))) (by decide)) sa_nil))) sa_nil)))))
set_option maxHeartbeats 0 in
theorem ok_sold_pairs {f : Addr} {fd : FuncData} (F : Fun K "sold_pairs" "sold_pairs" s_sold_pairs f fd) (T : Tx mg)  : FnOk P w K mg base CX0 1 f fd ["book"] (spD K F_sold_pairs) :=
  fn_e (N := N_sold_pairs) (np := 1) (n := 6) (body := m_sold_pairs) rfl rfl rfl F sc_sold_pairs fun cdv A outer s H E hr =>
    (ss_cons (ss_set (n := 1) sc_sold_pairs.nd (by rfl) (by first | exact Or.inl rfl | exact Or.inr rfl) se_dt)
    (ss_cons (ss_for PassesOwn.never (by rfl) (si_val (se_ix hr.u1 (se_v 0) se_int)) (sg_n 2 sc_sold_pairs.nd)
    (ss_cons (ss_set (n := 3) sc_sold_pairs.nd (by rfl) (by first | exact Or.inl rfl | exact Or.inr rfl) (se_tup (sa_cons (se_ix hr.u1 (se_v 2) se_int) (sa_cons (se_ix hr.u1 (se_v 2) se_int) sa_nil))))
    (ss_cons (ss_put hr.u1 (se_op or_add rd_add (se_get2 hr.u1 (se_v 1) (se_v 3) se_int) (se_ix hr.u1 (se_v 2) se_int)) (se_v 1) (se_v 3))
    (ss_one (ss_if (st_cmp (op_eqD hr.u64) rd_eq (se_ix hr.u1 (se_v 2) se_int) se_str (by rfl))
    (ss_cons (ss_set (n := 4) sc_sold_pairs.nd (by rfl) (by first | exact Or.inl rfl | exact Or.inr rfl) (se_tup (sa_cons (se_ix hr.u1 (se_v 2) se_int) (sa_cons (se_ix hr.u1 (se_v 2) se_int) sa_nil))))
    (ss_one (ss_put hr.u1 (se_op op_sub rd_sub (se_get2 hr.u1 (se_v 1) (se_v 4) se_int) (se_ix hr.u1 (se_v 2) se_int)) (se_v 1) (se_v 4))))
    ss_nil)))))
    (ss_one (ss_ret (se_lc (by rfl) sc_sold_pairs.nd (si_val (se_callB (Dl.cr_sorted (by rfl) hr.u64) bd_sorted (by rfl) T.m_sorted (by decide +kernel) (sa_cons (se_v 1) sa_nil))) (blkOk_by (N := N_sold_pairs) (sc := defScope s_sold_pairs) (own := [("ends", 5)]) (by decide +kernel)) (fun _ _ _ _ _ => (sg_n 5 sc_sold_pairs.nd)) (fun _ _ _ _ _ => (sts_one (st_cmp (op_neD hr.u64) rd_ne (se_ix hr.u1 (se_v 1) (se_v 5)) se_int (by rfl)))) (fun _ _ _ _ _ => (se_tup (sa_cons (se_ix hr.u1 (se_v 5) se_int) (sa_cons (se_ix hr.u1 (se_v 5) se_int) (sa_cons (se_ix hr.u1 (se_v 1) (se_v 5)) sa_nil))))) (by decide))))))
set_option maxHeartbeats 0 in
theorem ok_sums_over {f : Addr} {fd : FuncData} (F : Fun K "sums_over" "sums_over" s_sums_over f fd) (T : Tx mg) (G_sold_pairs : Fn P w K mg base 1 "sold_pairs" F_sold_pairs) : FnOk P w K mg base CX0 2 f fd ["sides", "book"] (spD K F_sums_over) :=
  fn_e (N := N_sums_over) (np := 2) (n := 9) (body := m_sums_over) rfl rfl rfl F sc_sums_over fun cdv A outer s H E hr =>
    (ss_cons (ss_set (n := 2) sc_sums_over.nd (by rfl) (by first | exact Or.inl rfl | exact Or.inr rfl) (se_call G_sold_pairs (hr.mono (by decide)) (by rfl) (sa_cons (se_v 1) sa_nil)))
    (ss_cons (ss_set (n := 3) sc_sums_over.nd (by rfl) (by first | exact Or.inl rfl | exact Or.inr rfl) (se_lst sa_nil))
    (ss_cons (ss_for PassesOwn.never (by rfl) (si_val (se_v 0)) (sg_n 4 sc_sums_over.nd)
    (ss_cons (ss_set (n := 5) sc_sums_over.nd (by rfl) (by first | exact Or.inl rfl | exact Or.inr rfl) (se_dc (by rfl) sc_sums_over.nd (si_val (se_v 4)) (blkOk_by (N := N_sums_over) (sc := defScope s_sums_over) (own := [("place", 6)]) (by decide +kernel)) (fun _ _ _ _ _ => (sg_n 6 sc_sums_over.nd)) (fun _ _ _ _ _ => sts_nil) (fun _ _ _ _ _ => (se_v 6)) (fun _ _ _ _ _ => se_bl) (by decide)))
    (ss_one (ss_expr (se_bm PySem.F.plainAttrs_list PySem.F.slot_list_append PySem.F.type_list_append mt_append md_append (se_v 3) (sa_cons (se_tidy2 (se_callB (L2.cr_sum (by rfl)) bd_sum (by rfl) T.m_sum (by decide +kernel) (sa_cons (se_lc (by rfl) sc_sums_over.nd (si_val (se_v 2)) (blkOk_by (N := N_sums_over) (sc := defScope s_sums_over) (own := [("place", 6), ("other", 7), ("amount", 8)]) (by decide +kernel)) (fun _ _ _ _ _ => (sg_t (by rfl) (sgs_cons (sg_n 6 sc_sums_over.nd) (sgs_cons (sg_n 7 sc_sums_over.nd) (sgs_cons (sg_n 8 sc_sums_over.nd) sgs_nil))))) (fun _ _ _ _ _ => (sts_cons (st_cmp (or_in hr.u65) rd_in (se_v 6) (se_v 5) (by rfl)) (sts_one (st_cmp (or_notIn hr.u65) rd_notIn (se_v 7) (se_v 5) (by rfl))))) (fun _ _ _ _ _ => (se_v 8)) (by decide)) sa_nil))) sa_nil))))))
    (ss_one (ss_ret (se_callTy call_tuple_of bd_tup (by rfl) T.m_tuple (by decide +kernel) (sa_cons (se_v 3) sa_nil)))))))
set_option maxHeartbeats 0 in
theorem ok_quotient_of {f : Addr} {fd : FuncData} (F : Fun K "quotient_of" "quotient_of" s_quotient_of f fd) (T : Tx mg)  : FnOk P w K mg base CX0 1 f fd ["over", "under"] (spD K F_quotient_of) :=
  fn_e (N := N_quotient_of) (np := 2) (n := 3) (body := m_quotient_of) rfl rfl rfl F sc_quotient_of fun cdv A outer s H E hr =>
    (ss_cons (ss_if (st_cmp (op_eqD hr.u64) rd_eq (se_v 1) se_int (by rfl))
    (ss_one ss_raise)
    ss_nil)
    (ss_cons (ss_set (n := 2) sc_quotient_of.nd (by rfl) (by first | exact Or.inl rfl | exact Or.inr rfl) (se_callBf cr_gcd bd_gcd (by rfl) T.m_gcd (sa_cons (se_v 0) (sa_cons (se_v 1) sa_nil))))
    (ss_cons (ss_if (st_cmp op_lt rd_lt (se_v 1) se_int (by rfl))
    (ss_one (ss_set (n := 2) sc_quotient_of.nd (by rfl) (by first | exact Or.inl rfl | exact Or.inr rfl) (se_neg (se_v 2))))
    ss_nil)
    (ss_one (ss_ret (se_tup (sa_cons (se_op op_fdivW rd_fdiv (se_v 0) (se_v 2)) (sa_cons (se_op op_fdivW rd_fdiv (se_v 1) (se_v 2)) sa_nil))))))))
set_option maxHeartbeats 0 in
theorem ok_gap_of {f : Addr} {fd : FuncData} (F : Fun K "gap_of" "gap_of" s_gap_of f fd) (T : Tx mg) (G_sides_of : Fn P w K mg base 2 "sides_of" F_sides_of) (G_sums_over : Fn P w K mg base 2 "sums_over" F_sums_over) (G_quotient_of : Fn P w K mg base 1 "quotient_of" F_quotient_of) : FnOk P w K mg base CX0 3 f fd ["places", "one", "other"] (spD K F_gap_of) :=
  fn_e (N := N_gap_of) (np := 3) (n := 10) (body := m_gap_of) rfl rfl rfl F sc_gap_of fun cdv A outer s H E hr =>
    (ss_cons (ss_set (n := 3) sc_gap_of.nd (by rfl) (by first | exact Or.inl rfl | exact Or.inr rfl) (se_call G_sides_of (hr.mono (by decide)) (by rfl) (sa_cons (se_v 0) sa_nil)))
    (ss_cons (ss_set (n := 4) sc_gap_of.nd (by rfl) (by first | exact Or.inl rfl | exact Or.inr rfl) se_int)
    (ss_cons (ss_set (n := 5) sc_gap_of.nd (by rfl) (by first | exact Or.inl rfl | exact Or.inr rfl) (se_tup sa_nil))
    (ss_cons (ss_for PassesOwn.never (by rfl) (si_zip3 (by rfl) T.m_zip (sa_cons (se_v 3) (sa_cons (se_call G_sums_over (hr.mono (by decide)) (by rfl) (sa_cons (se_v 3) (sa_cons (se_v 1) sa_nil))) (sa_cons (se_call G_sums_over (hr.mono (by decide)) (by rfl) (sa_cons (se_v 3) (sa_cons (se_v 2) sa_nil))) sa_nil)))) (sg_t (by rfl) (sgs_cons (sg_n 6 sc_gap_of.nd) (sgs_cons (sg_n 7 sc_gap_of.nd) (sgs_cons (sg_n 8 sc_gap_of.nd) sgs_nil))))
    (ss_cons (ss_set (n := 9) sc_gap_of.nd (by rfl) (by first | exact Or.inl rfl | exact Or.inr rfl) (se_op op_sub rd_sub (se_op or_mul rd_mul (se_v 7) (se_ix hr.u1 (se_v 2) se_int)) (se_op or_mul rd_mul (se_v 8) (se_ix hr.u1 (se_v 1) se_int))))
    (ss_one (ss_if (st_cmp op_gt rd_gt (se_v 9) (se_v 4) (by rfl))
    (ss_cons (ss_set (n := 4) sc_gap_of.nd (by rfl) (by first | exact Or.inl rfl | exact Or.inr rfl) (se_v 9))
    (ss_one (ss_set (n := 5) sc_gap_of.nd (by rfl) (by first | exact Or.inl rfl | exact Or.inr rfl) (se_v 6))))
    ss_nil))))
    (ss_one (ss_ret (se_tup (sa_cons (se_call G_quotient_of (hr.mono (by decide)) (by rfl) (sa_cons (se_v 4) (sa_cons (se_op or_mul rd_mul (se_ix hr.u1 (se_v 1) se_int) (se_ix hr.u1 (se_v 2) se_int)) sa_nil))) (sa_cons (se_v 5) sa_nil)))))))))
set_option maxHeartbeats 0 in
theorem ok_never_less {f : Addr} {fd : FuncData} (F : Fun K "never_less" "never_less" s_never_less f fd) (T : Tx mg) (G_gap_of : Fn P w K mg base 3 "gap_of" F_gap_of) : FnOk P w K mg base CX0 4 f fd ["places", "one", "other"] (spD K F_never_less) :=
  fn_e (N := N_never_less) (np := 3) (n := 5) (body := m_never_less) rfl rfl rfl F sc_never_less fun cdv A outer s H E hr =>
    (ss_cons (ss_asg (se_call G_gap_of (hr.mono (by decide)) (by rfl) (sa_cons (se_v 0) (sa_cons (se_v 2) (sa_cons (se_v 1) sa_nil)))) (sg_t (by rfl) (sgs_cons (sg_n 3 sc_never_less.nd) (sgs_cons (sg_n 4 sc_never_less.nd) sgs_nil))))
    (ss_one (ss_ret (se_and (se_cmp (op_eqD hr.u64) rd_eq (se_ix hr.u1 (se_v 3) se_int) se_int (by rfl)) (se_one (se_cmp (op_eqD hr.u64) rd_eq (se_v 4) (se_tup sa_nil) (by rfl)))))))
set_option maxHeartbeats 0 in
theorem ok__law_fine {f : Addr} {fd : FuncData} (F : Fun K "_law_fine" "_law_fine" s__law_fine f fd) (T : Tx mg) (G__law_of : Fn P w K mg base 2 "_law_of" F__law_of) (G__law_entry : Fn P w K mg base 1 "_law_entry" F__law_entry) (G__law_inverse : Fn P w K mg base 1 "_law_inverse" F__law_inverse) (G_both_books : Fn P w K mg base 2 "both_books" F_both_books) (G__law_low : Fn P w K mg base 2 "_law_low" F__law_low) (G__law_same : Fn P w K mg base 1 "_law_same" F__law_same) (G_gap_of : Fn P w K mg base 3 "gap_of" F_gap_of) (G_never_less : Fn P w K mg base 4 "never_less" F_never_less) : FnOk P w K mg base CX0 5 f fd ["ledger"] (spD K F__law_fine) :=
  fn_e (N := N__law_fine) (np := 1) (n := 10) (body := m__law_fine) rfl rfl rfl F sc__law_fine fun cdv A outer s H E hr =>
    (ss_cons (ss_set (n := 1) sc__law_fine.nd (by rfl) (by first | exact Or.inl rfl | exact Or.inr rfl) (se_tidy2 (se_call G__law_of (hr.mono (by decide)) (by rfl) (sa_cons (se_v 0) (sa_cons (se_lst (sa_cons (se_tup (sa_cons se_int (sa_cons se_int (sa_cons se_int sa_nil)))) (sa_cons (se_tup (sa_cons se_int (sa_cons se_int (sa_cons se_int sa_nil)))) (sa_cons (se_tup (sa_cons se_int (sa_cons se_int (sa_cons se_int sa_nil)))) sa_nil)))) sa_nil)))))
    (ss_cons (ss_set (n := 2) sc__law_fine.nd (by rfl) (by first | exact Or.inl rfl | exact Or.inr rfl) (se_op or_add rd_add se_int (se_call G__law_entry (hr.mono (by decide)) (by rfl) (sa_cons (se_v 0) (sa_cons (se_op op_pow rd_pow se_int se_int) sa_nil)))))
    (ss_cons (ss_set (n := 3) sc__law_fine.nd (by rfl) (by first | exact Or.inl rfl | exact Or.inr rfl) (se_tup (sa_cons se_int (sa_cons (se_tup (sa_cons (se_tup (sa_cons se_str (sa_cons se_str (sa_cons se_str (sa_cons se_str (sa_cons (se_v 2) sa_nil)))))) sa_nil)) sa_nil))))
    (ss_cons (ss_set (n := 4) sc__law_fine.nd (by rfl) (by first | exact Or.inl rfl | exact Or.inr rfl) se_int)
    (ss_cons (ss_for PassesOwn.never (by rfl) (si_rng1 (by rfl) T.m_range (sa_cons se_int sa_nil)) (sg_n 5 sc__law_fine.nd)
    (ss_cons (ss_set (n := 6) sc__law_fine.nd (by rfl) (by first | exact Or.inl rfl | exact Or.inr rfl) (se_op or_mul rd_mul (se_ix hr.u1 (se_v 1) (se_op op_mod rd_mod (se_callTy call_int1 bd_int (by rfl) T.m_int (by decide +kernel) (sa_cons (se_op or_add rd_add (se_v 5) se_int) sa_nil)) se_int)) (se_ix hr.u1 (se_v 1) (se_op op_mod rd_mod (se_callTy call_int1 bd_int (by rfl) T.m_int (by decide +kernel) (sa_cons (se_op or_add rd_add (se_v 5) se_int) sa_nil)) se_int))))
    (ss_cons (ss_set (n := 7) sc__law_fine.nd (by rfl) (by first | exact Or.inl rfl | exact Or.inr rfl) (se_call G__law_inverse (hr.mono (by decide)) (by rfl) (sa_cons (se_op op_mod rd_mod (se_callTy call_int1 bd_int (by rfl) T.m_int (by decide +kernel) (sa_cons (se_v 6) sa_nil)) (se_ix hr.u1 (se_v 1) (se_v 5))) (sa_cons (se_ix hr.u1 (se_v 1) (se_v 5)) sa_nil))))
    (ss_cons (ss_set (n := 4) sc__law_fine.nd (by rfl) (by first | exact Or.inl rfl | exact Or.inr rfl) (se_op or_add rd_add (se_v 4) (se_op or_mul rd_mul (se_v 7) (se_v 6))))
    (ss_one (ss_set (n := 3) sc__law_fine.nd (by rfl) (by first | exact Or.inl rfl | exact Or.inr rfl) (se_call G_both_books (hr.mono (by decide)) (by rfl) (sa_cons (se_v 3) (sa_cons (se_tup (sa_cons (se_ix hr.u1 (se_v 1) (se_v 5)) (sa_cons (se_tup (sa_cons (se_tup (sa_cons se_str (sa_cons se_str (sa_cons se_str (sa_cons se_str (sa_cons (se_v 7) sa_nil)))))) sa_nil)) sa_nil))) sa_nil)))))))))
    (ss_cons (ss_set (n := 8) sc__law_fine.nd (by rfl) (by first | exact Or.inl rfl | exact Or.inr rfl) (se_op or_mul rd_mul (se_op or_mul rd_mul (se_ix hr.u1 (se_v 1) se_int) (se_ix hr.u1 (se_v 1) se_int)) (se_ix hr.u1 (se_v 1) se_int)))
    (ss_cons (ss_if (st_cmp op_gt rd_gt (se_op op_fdivW rd_fdiv (se_v 4) (se_v 8)) se_int (by rfl))
    (ss_one (ss_set (n := 3) sc__law_fine.nd (by rfl) (by first | exact Or.inl rfl | exact Or.inr rfl) (se_call G_both_books (hr.mono (by decide)) (by rfl) (sa_cons (se_v 3) (sa_cons (se_tup (sa_cons se_int (sa_cons (se_tup (sa_cons (se_tup (sa_cons se_str (sa_cons se_str (sa_cons se_str (sa_cons se_str (sa_cons (se_op op_fdivW rd_fdiv (se_v 4) (se_v 8)) sa_nil)))))) sa_nil)) sa_nil))) sa_nil)))))
    ss_nil)
    (ss_cons (ss_set (n := 9) sc__law_fine.nd (by rfl) (by first | exact Or.inl rfl | exact Or.inr rfl) (se_tup (sa_cons (se_call G__law_low (hr.mono (by decide)) (by rfl) (sa_cons (se_op or_add rd_add (se_op or_mul rd_mul (se_v 2) (se_v 8)) (se_op op_mod rd_mod (se_callTy call_int1 bd_int (by rfl) T.m_int (by decide +kernel) (sa_cons (se_v 4) sa_nil)) (se_v 8))) (sa_cons (se_v 8) sa_nil))) (sa_cons (se_tup (sa_cons se_str (sa_cons se_str sa_nil))) sa_nil))))
    (ss_one (ss_ret (se_and (se_cmp (op_eqD hr.u64) rd_eq (se_op op_mod rd_mod (se_callTy call_int1 bd_int (by rfl) T.m_int (by decide +kernel) (sa_cons (se_v 4) sa_nil)) (se_v 8)) se_int (by rfl)) (se_and (se_call G__law_same (hr.mono (by decide)) (by rfl) (sa_cons (se_call G_gap_of (hr.mono (by decide)) (by rfl) (sa_cons (se_tup (sa_cons se_str (sa_cons se_str (sa_cons se_str sa_nil)))) (sa_cons (se_v 3) (sa_cons (se_tup (sa_cons se_int (sa_cons (se_tup sa_nil) sa_nil))) sa_nil)))) (sa_cons (se_v 9) sa_nil))) (se_one (se_call G__law_same (hr.mono (by decide)) (by rfl) (sa_cons (se_call G_never_less (hr.mono (by decide)) (by rfl) (sa_cons (se_tup (sa_cons se_str (sa_cons se_str (sa_cons se_str sa_nil)))) (sa_cons (se_tup (sa_cons se_int (sa_cons (se_tup sa_nil) sa_nil))) (sa_cons (se_v 3) sa_nil)))) (sa_cons se_bl sa_nil))))))))))))))))
set_option maxHeartbeats 0 in
theorem ok__law_places {f : Addr} {fd : FuncData} (F : Fun K "_law_places" "_law_places" s__law_places f fd) (T : Tx mg) (G__law_entry : Fn P w K mg base 1 "_law_entry" F__law_entry) (G__law_of : Fn P w K mg base 2 "_law_of" F__law_of) : FnOk P w K mg base CX0 3 f fd ["ledger", "many"] (spD K F__law_places) :=
  fn_e (N := N__law_places) (np := 2) (n := 7) (body := m__law_places) rfl rfl rfl F sc__law_places fun cdv A outer s H E hr =>
    (ss_cons (ss_set (n := 2) sc__law_places.nd (by rfl) (by first | exact Or.inl rfl | exact Or.inr rfl) se_str)
    (ss_cons (ss_set (n := 3) sc__law_places.nd (by rfl) (by first | exact Or.inl rfl | exact Or.inr rfl) (se_lst sa_nil))
    (ss_cons (ss_set (n := 4) sc__law_places.nd (by rfl) (by first | exact Or.inl rfl | exact Or.inr rfl) (se_call G__law_entry (hr.mono (by decide)) (by rfl) (sa_cons (se_v 0) (sa_cons se_int sa_nil))))
    (ss_cons (ss_for PassesOwn.never (by rfl) (si_rng1 (by rfl) T.m_range (sa_cons (se_v 1) sa_nil)) (sg_n 5 sc__law_places.nd)
    (ss_cons (ss_set (n := 6) sc__law_places.nd (by rfl) (by first | exact Or.inl rfl | exact Or.inr rfl) (se_op or_add rd_add (se_ix hr.u1 (se_v 2) (se_op op_mod rd_mod (se_callTy call_int1 bd_int (by rfl) T.m_int (by decide +kernel) (sa_cons (se_op or_add rd_add (se_v 4) (se_op or_mul rd_mul (se_v 5) (se_tidy2 (se_call G__law_of (hr.mono (by decide)) (by rfl) (sa_cons (se_v 0) (sa_cons (se_lst (sa_cons se_int (sa_cons se_int sa_nil))) sa_nil)))))) sa_nil)) se_int)) (se_callTy call_str_int bd_str (by rfl) T.m_str (by decide +kernel) (sa_cons (se_v 5) sa_nil))))
    (ss_one (ss_expr (se_bm PySem.F.plainAttrs_list PySem.F.slot_list_append PySem.F.type_list_append mt_append md_append (se_v 3) (sa_cons (se_op or_add rd_add (se_v 6) (se_sl se_str so_no (so_some (se_call G__law_entry (hr.mono (by decide)) (by rfl) (sa_cons (se_v 0) (sa_cons se_int sa_nil)))))) sa_nil))))))
    (ss_one (ss_ret (se_tidy2 (se_callTy call_tuple_of bd_tup (by rfl) T.m_tuple (by decide +kernel) (sa_cons (se_callB (Dl.cr_sorted (by rfl) hr.u64) bd_sorted (by rfl) T.m_sorted (by decide +kernel) (sa_cons (se_v 3) sa_nil)) sa_nil)))))))))
set_option maxHeartbeats 0 in
theorem ok__law_all_sides {f : Addr} {fd : FuncData} (F : Fun K "_law_all_sides" "_law_all_sides" s__law_all_sides f fd) (T : Tx mg)  : FnOk P w K mg base CX0 1 f fd ["places"] (spD K F__law_all_sides) :=
  fn_e (N := N__law_all_sides) (np := 1) (n := 4) (body := m__law_all_sides) rfl rfl rfl F sc__law_all_sides fun cdv A outer s H E hr =>
    (ss_cons (ss_set (n := 1) sc__law_all_sides.nd (by rfl) (by first | exact Or.inl rfl | exact Or.inr rfl) (se_lst (sa_cons (se_tup sa_nil) sa_nil)))
    (ss_cons (ss_for PassesOwn.never (by rfl) (si_val (se_v 0)) (sg_n 2 sc__law_all_sides.nd)
    (ss_one (ss_set (n := 1) sc__law_all_sides.nd (by rfl) (by first | exact Or.inl rfl | exact Or.inr rfl) (se_tidy2 (se_op or_add rd_add (se_v 1) (se_lc (by rfl) sc__law_all_sides.nd (si_val (se_v 1)) (blkOk_by (N := N__law_all_sides) (sc := defScope s__law_all_sides) (own := [("row", 3)]) (by decide +kernel)) (fun _ _ _ _ _ => (sg_n 3 sc__law_all_sides.nd)) (fun _ _ _ _ _ => sts_nil) (fun _ _ _ _ _ => (se_op or_add rd_add (se_v 3) (se_tup (sa_cons (se_v 2) sa_nil)))) (by decide)))))))
    (ss_one (ss_ret (se_tidy2 (se_callB (Dl.cr_sorted (by rfl) hr.u64) bd_sorted (by rfl) T.m_sorted (by decide +kernel) (sa_cons (se_lc (by rfl) sc__law_all_sides.nd (si_val (se_v 1)) (blkOk_by (N := N__law_all_sides) (sc := defScope s__law_all_sides) (own := [("row", 3)]) (by decide +kernel)) (fun _ _ _ _ _ => (sg_n 3 sc__law_all_sides.nd)) (fun _ _ _ _ _ => (sts_one (st_chain op_lt rd_lt op_lt rd_lt se_int (se_callB cr_len bd_len (by rfl) T.m_len (by decide +kernel) (sa_cons (se_v 3) sa_nil)) (se_callB cr_len bd_len (by rfl) T.m_len (by decide +kernel) (sa_cons (se_v 0) sa_nil))))) (fun _ _ _ _ _ => (se_v 3)) (by decide)) sa_nil)))))))
set_option maxHeartbeats 0 in
theorem ok__law_book {f : Addr} {fd : FuncData} (F : Fun K "_law_book" "_law_book" s__law_book f fd) (T : Tx mg) (G__law_of : Fn P w K mg base 2 "_law_of" F__law_of) (G__law_entry : Fn P w K mg base 1 "_law_entry" F__law_entry) : FnOk P w K mg base CX0 3 f fd ["ledger", "places", "most"] (spD K F__law_book) :=
  fn_e (N := N__law_book) (np := 3) (n := 10) (body := m__law_book) rfl rfl rfl F sc__law_book fun cdv A outer s H E hr =>
    (ss_cons (ss_set (n := 3) sc__law_book.nd (by rfl) (by first | exact Or.inl rfl | exact Or.inr rfl) (se_tidy2 (se_call G__law_of (hr.mono (by decide)) (by rfl) (sa_cons (se_v 0) (sa_cons (se_lst (sa_cons se_int (sa_cons se_int (sa_cons se_int (sa_cons se_int (sa_cons se_int (sa_cons se_int (sa_cons (se_op or_add rd_add se_int (se_call G__law_entry (hr.mono (by decide)) (by rfl) (sa_cons (se_v 0) (sa_cons se_int sa_nil)))) sa_nil)))))))) sa_nil)))))
    (ss_cons (ss_set (n := 4) sc__law_book.nd (by rfl) (by first | exact Or.inl rfl | exact Or.inr rfl) (se_tidy2 (se_call G__law_of (hr.mono (by decide)) (by rfl) (sa_cons (se_v 0) (sa_cons (se_lst (sa_cons (se_lst (sa_cons se_str sa_nil)) (sa_cons (se_lst (sa_cons se_str sa_nil)) (sa_cons (se_lst (sa_cons se_str (sa_cons se_str sa_nil))) (sa_cons (se_lst (sa_cons se_str (sa_cons se_str sa_nil))) sa_nil))))) sa_nil)))))
    (ss_cons (ss_set (n := 5) sc__law_book.nd (by rfl) (by first | exact Or.inl rfl | exact Or.inr rfl) (se_lst sa_nil))
    (ss_cons (ss_for PassesOwn.never (by rfl) (si_rng1 (by rfl) T.m_range (sa_cons (se_call G__law_entry (hr.mono (by decide)) (by rfl) (sa_cons (se_v 0) (sa_cons (se_op or_add rd_add (se_v 2) se_int) sa_nil))) sa_nil)) (sg_n 6 sc__law_book.nd)
    (ss_cons (ss_set (n := 7) sc__law_book.nd (by rfl) (by first | exact Or.inl rfl | exact Or.inr rfl) (se_call G__law_entry (hr.mono (by decide)) (by rfl) (sa_cons (se_v 0) (sa_cons (se_callB cr_len bd_len (by rfl) T.m_len (by decide +kernel) (sa_cons (se_v 1) sa_nil)) sa_nil))))
    (ss_cons (ss_set (n := 8) sc__law_book.nd (by rfl) (by first | exact Or.inl rfl | exact Or.inr rfl) (se_op op_mod rd_mod (se_callTy call_int1 bd_int (by rfl) T.m_int (by decide +kernel) (sa_cons (se_op or_add rd_add (se_op or_add rd_add (se_v 7) se_int) (se_call G__law_entry (hr.mono (by decide)) (by rfl) (sa_cons (se_v 0) (sa_cons (se_op op_sub rd_sub (se_callB cr_len bd_len (by rfl) T.m_len (by decide +kernel) (sa_cons (se_v 1) sa_nil)) se_int) sa_nil)))) sa_nil)) (se_callB cr_len bd_len (by rfl) T.m_len (by decide +kernel) (sa_cons (se_v 1) sa_nil))))
    (ss_cons (ss_set (n := 9) sc__law_book.nd (by rfl) (by first | exact Or.inl rfl | exact Or.inr rfl) (se_tidy2 (se_call G__law_of (hr.mono (by decide)) (by rfl) (sa_cons (se_v 0) (sa_cons (se_lst (sa_cons se_int (sa_cons se_int (sa_cons se_int (sa_cons (se_v 3) (sa_cons (se_op or_add rd_add se_int (se_call G__law_entry (hr.mono (by decide)) (by rfl) (sa_cons (se_v 0) (sa_cons se_int sa_nil)))) (sa_cons (se_op op_sub rd_sub (se_op op_pow rd_pow se_int se_int) (se_call G__law_entry (hr.mono (by decide)) (by rfl) (sa_cons (se_v 0) (sa_cons se_int sa_nil)))) sa_nil))))))) sa_nil)))))
    (ss_one (ss_expr (se_bm PySem.F.plainAttrs_list PySem.F.slot_list_append PySem.F.type_list_append mt_append md_append (se_v 5) (sa_cons (se_tup (sa_cons (se_tidy2 (se_call G__law_of (hr.mono (by decide)) (by rfl) (sa_cons (se_v 0) (sa_cons (se_lst (sa_cons se_str (sa_cons se_str sa_nil))) sa_nil)))) (sa_cons (se_call G__law_of (hr.mono (by decide)) (by rfl) (sa_cons (se_v 0) (sa_cons (se_v 4) sa_nil))) (sa_cons (se_ix hr.u1 (se_v 1) (se_v 7)) (sa_cons (se_ix hr.u1 (se_v 1) (se_v 8)) (sa_cons (se_v 9) sa_nil)))))) sa_nil))))))))
    (ss_one (ss_ret (se_tup (sa_cons (se_v 3) (sa_cons (se_callTy call_tuple_of bd_tup (by rfl) T.m_tuple (by decide +kernel) (sa_cons (se_v 5) sa_nil)) sa_nil)))))))))
set_option maxHeartbeats 0 in
theorem ok__law_sold {f : Addr} {fd : FuncData} (F : Fun K "_law_sold" "_law_sold" s__law_sold f fd) (T : Tx mg)  : FnOk P w K mg base CX0 1 f fd ["book", "sides"] (spD K F__law_sold) :=
  fn_e (N := N__law_sold) (np := 2) (n := 10) (body := m__law_sold) rfl rfl rfl F sc__law_sold fun cdv A outer s H E hr =>
    (ss_cons (ss_set (n := 2) sc__law_sold.nd (by rfl) (by first | exact Or.inl rfl | exact Or.inr rfl) (se_lst sa_nil))
    (ss_cons (ss_for PassesOwn.never (by rfl) (si_val (se_v 1)) (sg_n 3 sc__law_sold.nd)
    (ss_cons (ss_set (n := 4) sc__law_sold.nd (by rfl) (by first | exact Or.inl rfl | exact Or.inr rfl) se_int)
    (ss_cons (ss_for PassesOwn.never (by rfl) (si_val (se_ix hr.u1 (se_v 0) se_int)) (sg_t (by rfl) (sgs_cons (sg_n 5 sc__law_sold.nd) (sgs_cons (sg_n 6 sc__law_sold.nd) (sgs_cons (sg_n 7 sc__law_sold.nd) (sgs_cons (sg_n 8 sc__law_sold.nd) (sgs_cons (sg_n 9 sc__law_sold.nd) sgs_nil))))))
    (ss_one (ss_if (SW.st (sw_and (st_cmp (or_in hr.u65) rd_in (se_v 7) (se_v 3) (by rfl)) (sw_and1 (st_cmp (or_notIn hr.u65) rd_notIn (se_v 8) (se_v 3) (by rfl)))))
    (ss_one (ss_set (n := 4) sc__law_sold.nd (by rfl) (by first | exact Or.inl rfl | exact Or.inr rfl) (se_op or_add rd_add (se_v 4) (se_v 9))))
    (ss_one (ss_if (SW.st (sw_and (st_cmp (op_eqD hr.u64) rd_eq (se_v 6) se_str (by rfl)) (sw_and (st_cmp (or_in hr.u65) rd_in (se_v 8) (se_v 3) (by rfl)) (sw_and1 (st_cmp (or_notIn hr.u65) rd_notIn (se_v 7) (se_v 3) (by rfl))))))
    (ss_one (ss_set (n := 4) sc__law_sold.nd (by rfl) (by first | exact Or.inl rfl | exact Or.inr rfl) (se_op op_sub rd_sub (se_v 4) (se_v 9))))
    ss_nil)))))
    (ss_one (ss_expr (se_bm PySem.F.plainAttrs_list PySem.F.slot_list_append PySem.F.type_list_append mt_append md_append (se_v 2) (sa_cons (se_v 4) sa_nil)))))))
    (ss_one (ss_ret (se_v 2)))))
set_option maxHeartbeats 0 in
theorem ok__law_gap {f : Addr} {fd : FuncData} (F : Fun K "_law_gap" "_law_gap" s__law_gap f fd) (T : Tx mg) (G__law_low : Fn P w K mg base 2 "_law_low" F__law_low) : FnOk P w K mg base CX0 3 f fd ["one", "other", "sides", "table"] (spD K F__law_gap) :=
  fn_e (N := N__law_gap) (np := 4) (n := 10) (body := m__law_gap) rfl rfl rfl F sc__law_gap fun cdv A outer s H E hr =>
    (ss_cons (ss_set (n := 4) sc__law_gap.nd (by rfl) (by first | exact Or.inl rfl | exact Or.inr rfl) se_int)
    (ss_cons (ss_set (n := 5) sc__law_gap.nd (by rfl) (by first | exact Or.inl rfl | exact Or.inr rfl) (se_tup sa_nil))
    (ss_cons (ss_par2 (i := 6) (j := 7) (by rfl) sc__law_gap.nd (by rfl) (by rfl) (by decide) (by rfl) (by rfl) (sa_cons (se_ix hr.u1 (se_v 3) se_int) (sa_cons (se_ix hr.u1 (se_v 3) se_int) sa_nil)))
    (ss_cons (ss_for PassesOwn.never (by rfl) (si_rng1 (by rfl) T.m_range (sa_cons (se_callB cr_len bd_len (by rfl) T.m_len (by decide +kernel) (sa_cons (se_v 2) sa_nil)) sa_nil)) (sg_n 8 sc__law_gap.nd)
    (ss_cons (ss_set (n := 9) sc__law_gap.nd (by rfl) (by first | exact Or.inl rfl | exact Or.inr rfl) (se_op op_sub rd_sub (se_op or_mul rd_mul (se_ix hr.u1 (se_v 6) (se_v 8)) (se_ix hr.u1 (se_v 1) se_int)) (se_op or_mul rd_mul (se_ix hr.u1 (se_v 7) (se_v 8)) (se_ix hr.u1 (se_v 0) se_int))))
    (ss_one (ss_if (st_cmp op_gt rd_gt (se_v 9) (se_v 4) (by rfl))
    (ss_cons (ss_set (n := 4) sc__law_gap.nd (by rfl) (by first | exact Or.inl rfl | exact Or.inr rfl) (se_v 9))
    (ss_one (ss_set (n := 5) sc__law_gap.nd (by rfl) (by first | exact Or.inl rfl | exact Or.inr rfl) (se_ix hr.u1 (se_v 2) (se_v 8)))))
    ss_nil))))
    (ss_one (ss_ret (se_tup (sa_cons (se_if (st_tru (se_v 4)) (se_call G__law_low (hr.mono (by decide)) (by rfl) (sa_cons (se_v 4) (sa_cons (se_op or_mul rd_mul (se_ix hr.u1 (se_v 0) se_int) (se_ix hr.u1 (se_v 1) se_int)) sa_nil))) (se_tup (sa_cons se_int (sa_cons se_int sa_nil)))) (sa_cons (se_v 5) sa_nil)))))))))
set_option maxHeartbeats 0 in
theorem ok_sold_amount {f : Addr} {fd : FuncData} (F : Fun K "sold_amount" "sold_amount" s_sold_amount f fd) (T : Tx mg)  : FnOk P w K mg base CX0 1 f fd ["book", "side"] (spD K F_sold_amount) :=
  fn_e (N := N_sold_amount) (np := 2) (n := 6) (body := m_sold_amount) rfl rfl rfl F sc_sold_amount fun cdv A outer s H E hr =>
    (ss_cons (ss_set (n := 2) sc_sold_amount.nd (by rfl) (by first | exact Or.inl rfl | exact Or.inr rfl) se_int)
    (ss_cons (ss_for PassesOwn.never (by rfl) (si_val (se_ix hr.u1 (se_v 0) se_int)) (sg_n 3 sc_sold_amount.nd)
    (ss_cons (ss_set (n := 4) sc_sold_amount.nd (by rfl) (by first | exact Or.inl rfl | exact Or.inr rfl) (se_cmp (or_in hr.u65) rd_in (se_ix hr.u1 (se_v 3) se_int) (se_v 1) (by rfl)))
    (ss_cons (ss_set (n := 5) sc_sold_amount.nd (by rfl) (by first | exact Or.inl rfl | exact Or.inr rfl) (se_cmp (or_in hr.u65) rd_in (se_ix hr.u1 (se_v 3) se_int) (se_v 1) (by rfl)))
    (ss_cons (ss_if (SW.st (sw_and (st_tru (se_v 4)) (sw_and1 (st_not (st_tru (se_v 5))))))
    (ss_one (ss_aug (n := 2) sc_sold_amount.nd (by rfl) (by first | exact Or.inl rfl | exact Or.inr rfl) (se_ix hr.u1 (se_v 3) se_int) ip_add (rd_i _)))
    ss_nil)
    (ss_one (ss_if (SW.st (sw_and (st_tru (se_v 5)) (sw_and (st_not (st_tru (se_v 4))) (sw_and1 (st_cmp (op_eqD hr.u64) rd_eq (se_ix hr.u1 (se_v 3) se_int) se_str (by rfl))))))
    (ss_one (ss_aug (n := 2) sc_sold_amount.nd (by rfl) (by first | exact Or.inl rfl | exact Or.inr rfl) (se_ix hr.u1 (se_v 3) se_int) ip_sub (rd_i _)))
    ss_nil))))))
    (ss_one (ss_ret (se_v 2)))))
set_option maxHeartbeats 0 in
theorem ok_sold_over {f : Addr} {fd : FuncData} (F : Fun K "sold_over" "sold_over" s_sold_over f fd) (T : Tx mg) (G_quotient_of : Fn P w K mg base 1 "quotient_of" F_quotient_of) (G_sold_amount : Fn P w K mg base 1 "sold_amount" F_sold_amount) : FnOk P w K mg base CX0 2 f fd ["book", "side"] (spD K F_sold_over) :=
  fn_e (N := N_sold_over) (np := 2) (n := 2) (body := m_sold_over) rfl rfl rfl F sc_sold_over fun cdv A outer s H E hr =>
    (ss_one (ss_ret (se_call G_quotient_of (hr.mono (by decide)) (by rfl) (sa_cons (se_call G_sold_amount (hr.mono (by decide)) (by rfl) (sa_cons (se_v 0) (sa_cons (se_v 1) sa_nil))) (sa_cons (se_ix hr.u1 (se_v 0) se_int) sa_nil)))))
set_option maxHeartbeats 0 in
theorem ok__law_asked {f : Addr} {fd : FuncData} (F : Fun K "_law_asked" "_law_asked" s__law_asked f fd) (T : Tx mg) (G__law_sold : Fn P w K mg base 1 "_law_sold" F__law_sold) (G__law_gap : Fn P w K mg base 3 "_law_gap" F__law_gap) (G__law_same : Fn P w K mg base 1 "_law_same" F__law_same) (G_gap_of : Fn P w K mg base 3 "gap_of" F_gap_of) (G_never_less : Fn P w K mg base 4 "never_less" F_never_less) (G_sold_over : Fn P w K mg base 2 "sold_over" F_sold_over) (G__law_low : Fn P w K mg base 2 "_law_low" F__law_low) : FnOk P w K mg base CX0 5 f fd ["places", "one", "other", "sides"] (spD K F__law_asked) :=
  fn_e (N := N__law_asked) (np := 4) (n := 10) (body := m__law_asked) rfl rfl rfl F sc__law_asked fun cdv A outer s H E hr =>
    (ss_cons (ss_set (n := 4) sc__law_asked.nd (by rfl) (by first | exact Or.inl rfl | exact Or.inr rfl) (se_tidy2 (se_tup (sa_cons (se_call G__law_sold (hr.mono (by decide)) (by rfl) (sa_cons (se_v 1) (sa_cons (se_v 3) sa_nil))) (sa_cons (se_call G__law_sold (hr.mono (by decide)) (by rfl) (sa_cons (se_v 2) (sa_cons (se_v 3) sa_nil))) sa_nil)))))
    (ss_cons (ss_set (n := 5) sc__law_asked.nd (by rfl) (by first | exact Or.inl rfl | exact Or.inr rfl) (se_call G__law_gap (hr.mono (by decide)) (by rfl) (sa_cons (se_v 1) (sa_cons (se_v 2) (sa_cons (se_v 3) (sa_cons (se_v 4) sa_nil))))))
    (ss_cons (ss_set (n := 6) sc__law_asked.nd (by rfl) (by first | exact Or.inl rfl | exact Or.inr rfl) (se_call G__law_gap (hr.mono (by decide)) (by rfl) (sa_cons (se_v 2) (sa_cons (se_v 1) (sa_cons (se_v 3) (sa_cons (se_rev (se_v 4)) sa_nil))))))
    (ss_cons (ss_if (SW.st (sw_or (st_not (st_tru (se_call G__law_same (hr.mono (by decide)) (by rfl) (sa_cons (se_call G_gap_of (hr.mono (by decide)) (by rfl) (sa_cons (se_v 0) (sa_cons (se_v 1) (sa_cons (se_v 2) sa_nil)))) (sa_cons (se_v 5) sa_nil))))) (sw_or1 (st_not (st_tru (se_call G__law_same (hr.mono (by decide)) (by rfl) (sa_cons (se_call G_gap_of (hr.mono (by decide)) (by rfl) (sa_cons (se_v 0) (sa_cons (se_v 2) (sa_cons (se_v 1) sa_nil)))) (sa_cons (se_v 6) sa_nil))))))))
    (ss_one (ss_ret se_non))
    ss_nil)
    (ss_cons (ss_if (SW.st (sw_or (st_not (st_tru (se_call G__law_same (hr.mono (by decide)) (by rfl) (sa_cons (se_call G_never_less (hr.mono (by decide)) (by rfl) (sa_cons (se_v 0) (sa_cons (se_v 1) (sa_cons (se_v 2) sa_nil)))) (sa_cons (se_cmp (op_eqD hr.u64) rd_eq (se_ix hr.u1 (se_v 6) se_int) (se_tup sa_nil) (by rfl)) sa_nil))))) (sw_or1 (st_not (st_tru (se_call G__law_same (hr.mono (by decide)) (by rfl) (sa_cons (se_call G_never_less (hr.mono (by decide)) (by rfl) (sa_cons (se_v 0) (sa_cons (se_v 2) (sa_cons (se_v 1) sa_nil)))) (sa_cons (se_cmp (op_eqD hr.u64) rd_eq (se_ix hr.u1 (se_v 5) se_int) (se_tup sa_nil) (by rfl)) sa_nil))))))))
    (ss_one (ss_ret se_non))
    ss_nil)
    (ss_cons (ss_for PassesOwn.never (by rfl) (si_val (se_lst (sa_cons (se_v 5) (sa_cons (se_v 6) sa_nil)))) (sg_t (by rfl) (sgs_cons (sg_n 7 sc__law_asked.nd) (sgs_cons (sg_n 8 sc__law_asked.nd) sgs_nil)))
    (ss_one (ss_if (st_cmp (op_neD hr.u64) rd_ne (se_v 8) (se_tup sa_nil) (by rfl))
    (ss_cons (ss_set (n := 9) sc__law_asked.nd (by rfl) (by first | exact Or.inl rfl | exact Or.inr rfl) (se_bm PySem.F.plainAttrs_list PySem.F.slot_list_index PySem.F.type_list_index (mt_indexD hr.u65) md_index (se_v 3) (sa_cons (se_v 8) sa_nil)))
    (ss_one (ss_if (SW.st (sw_or (st_not (st_tru (se_call G__law_same (hr.mono (by decide)) (by rfl) (sa_cons (se_call G_sold_over (hr.mono (by decide)) (by rfl) (sa_cons (se_v 1) (sa_cons (se_v 8) sa_nil))) (sa_cons (se_call G__law_low (hr.mono (by decide)) (by rfl) (sa_cons (se_ix hr.u1 (se_ix hr.u1 (se_v 4) se_int) (se_v 9)) (sa_cons (se_ix hr.u1 (se_v 1) se_int) sa_nil))) sa_nil))))) (sw_or1 (st_not (st_tru (se_call G__law_same (hr.mono (by decide)) (by rfl) (sa_cons (se_call G_sold_over (hr.mono (by decide)) (by rfl) (sa_cons (se_v 2) (sa_cons (se_v 8) sa_nil))) (sa_cons (se_call G__law_low (hr.mono (by decide)) (by rfl) (sa_cons (se_ix hr.u1 (se_ix hr.u1 (se_v 4) se_int) (se_v 9)) (sa_cons (se_ix hr.u1 (se_v 2) se_int) sa_nil))) sa_nil))))))))
    (ss_one (ss_ret se_non))
    ss_nil)))
    ss_nil)))
    (ss_one (ss_ret (se_v 5)))))))))
set_option maxHeartbeats 0 in
theorem ok__law_both {f : Addr} {fd : FuncData} (F : Fun K "_law_both" "_law_both" s__law_both f fd) (T : Tx mg) (G__law_divisor : Fn P w K mg base 1 "_law_divisor" F__law_divisor) : FnOk P w K mg base CX0 2 f fd ["one", "other"] (spD K F__law_both) :=
  fn_e (N := N__law_both) (np := 2) (n := 5) (body := m__law_both) rfl rfl rfl F sc__law_both fun cdv A outer s H E hr =>
    (ss_cons (ss_set (n := 2) sc__law_both.nd (by rfl) (by first | exact Or.inl rfl | exact Or.inr rfl) (se_op or_mul rd_mul (se_op op_fdivW rd_fdiv (se_ix hr.u1 (se_v 0) se_int) (se_call G__law_divisor (hr.mono (by decide)) (by rfl) (sa_cons (se_ix hr.u1 (se_v 0) se_int) (sa_cons (se_ix hr.u1 (se_v 1) se_int) sa_nil)))) (se_ix hr.u1 (se_v 1) se_int)))
    (ss_cons (ss_setLc (i := 3) (by rfl) sc__law_both.nd (by rfl) (by rfl) (sw_true (by rfl) (by rfl) (by rfl) (by rfl)) (si_val (se_ix hr.u1 (se_v 0) se_int)) (blkOk_by (N := N__law_both) (sc := defScope s__law_both) (own := [("right", 4)]) (by decide +kernel)) (fun _ _ _ _ _ => (sg_n 4 sc__law_both.nd)) (fun _ _ _ _ _ => sts_nil) (fun _ _ _ _ _ => (se_op or_add rd_add (se_sl (se_v 4) so_no (so_some se_int)) (se_tup (sa_cons (se_op or_mul rd_mul (se_ix hr.u1 (se_v 4) se_int) (se_op op_fdivW rd_fdiv (se_v 2) (se_ix hr.u1 (se_v 0) se_int))) sa_nil)))) (by decide))
    (ss_one (ss_ret (se_tup (sa_cons (se_v 2) (sa_cons (se_tidy2 (se_callTy call_tuple_of bd_tup (by rfl) T.m_tuple (by decide +kernel) (sa_cons (se_op or_add rd_add (se_v 3) (se_lc (by rfl) sc__law_both.nd (si_val (se_ix hr.u1 (se_v 1) se_int)) (blkOk_by (N := N__law_both) (sc := defScope s__law_both) (own := [("right", 4)]) (by decide +kernel)) (fun _ _ _ _ _ => (sg_n 4 sc__law_both.nd)) (fun _ _ _ _ _ => sts_nil) (fun _ _ _ _ _ => (se_op or_add rd_add (se_sl (se_v 4) so_no (so_some se_int)) (se_tup (sa_cons (se_op or_mul rd_mul (se_ix hr.u1 (se_v 4) se_int) (se_op op_fdivW rd_fdiv (se_v 2) (se_ix hr.u1 (se_v 1) se_int))) sa_nil)))) (by decide))) sa_nil))) sa_nil)))))))
set_option maxHeartbeats 0 in
theorem ok_with_unit {f : Addr} {fd : FuncData} (F : Fun K "with_unit" "with_unit" s_with_unit f fd) (T : Tx mg) (G_multiplied_rights : Fn P w K mg base 1 "multiplied_rights" F_multiplied_rights) : FnOk P w K mg base CX0 2 f fd ["book", "times"] (spD K F_with_unit) :=
  fn_e (N := N_with_unit) (np := 2) (n := 4) (body := m_with_unit) rfl rfl rfl F sc_with_unit fun cdv A outer s H E hr =>
    (ss_cons (ss_asg (se_v 0) (sg_t (by rfl) (sgs_cons (sg_n 2 sc_with_unit.nd) (sgs_cons (sg_n 3 sc_with_unit.nd) sgs_nil))))
    (ss_one (ss_ret (se_tup (sa_cons (se_op or_mul rd_mul (se_v 2) (se_v 1)) (sa_cons (se_call G_multiplied_rights (hr.mono (by decide)) (by rfl) (sa_cons (se_v 3) (sa_cons (se_v 1) sa_nil))) sa_nil))))))
set_option maxHeartbeats 0 in
theorem ok__law_turned {f : Addr} {fd : FuncData} (F : Fun K "_law_turned" "_law_turned" s__law_turned f fd) (T : Tx mg)  : FnOk P w K mg base CX0 1 f fd ["book"] (spD K F__law_turned) :=
  fn_e (N := N__law_turned) (np := 1) (n := 2) (body := m__law_turned) rfl rfl rfl F sc__law_turned fun cdv A outer s H E hr =>
    (ss_one (ss_ret (se_tup (sa_cons (se_ix hr.u1 (se_v 0) se_int) (sa_cons (se_tidy2 (se_callTy call_tuple_of bd_tup (by rfl) T.m_tuple (by decide +kernel) (sa_cons (se_lc (by rfl) sc__law_turned.nd (si_val (se_ix hr.u1 (se_v 0) se_int)) (blkOk_by (N := N__law_turned) (sc := defScope s__law_turned) (own := [("right", 1)]) (by decide +kernel)) (fun _ _ _ _ _ => (sg_n 1 sc__law_turned.nd)) (fun _ _ _ _ _ => sts_nil) (fun _ _ _ _ _ => (se_op or_add rd_add (se_sl (se_v 1) so_no (so_some se_int)) (se_tup (sa_cons (se_ix hr.u1 (se_v 1) se_int) (sa_cons (se_ix hr.u1 (se_v 1) se_int) (sa_cons (se_ix hr.u1 (se_v 1) se_int) sa_nil)))))) (by decide)) sa_nil))) sa_nil)))))
set_option maxHeartbeats 0 in
theorem ok_law {f : Addr} {fd : FuncData} (F : Fun K "law" "law" s_law f fd) (T : Tx mg) (G__law_ledger : Fn P w K mg base 1 "_law_ledger" F__law_ledger) (G__law_fine : Fn P w K mg base 5 "_law_fine" F__law_fine) (G__law_entry : Fn P w K mg base 1 "_law_entry" F__law_entry) (G__law_places : Fn P w K mg base 3 "_law_places" F__law_places) (G__law_all_sides : Fn P w K mg base 1 "_law_all_sides" F__law_all_sides) (G__law_same : Fn P w K mg base 1 "_law_same" F__law_same) (G_sides_of : Fn P w K mg base 2 "sides_of" F_sides_of) (G__law_book : Fn P w K mg base 3 "_law_book" F__law_book) (G__law_asked : Fn P w K mg base 5 "_law_asked" F__law_asked) (G_both_books : Fn P w K mg base 2 "both_books" F_both_books) (G__law_both : Fn P w K mg base 2 "_law_both" F__law_both) (G_gap_of : Fn P w K mg base 3 "gap_of" F_gap_of) (G__law_gap : Fn P w K mg base 3 "_law_gap" F__law_gap) (G__law_sold : Fn P w K mg base 1 "_law_sold" F__law_sold) (G_never_less : Fn P w K mg base 4 "never_less" F_never_less) (G__law_of : Fn P w K mg base 2 "_law_of" F__law_of) (G_with_unit : Fn P w K mg base 2 "with_unit" F_with_unit) (G__law_low : Fn P w K mg base 2 "_law_low" F__law_low) (G__law_turned : Fn P w K mg base 1 "_law_turned" F__law_turned) : FnOk P w K mg base CX0 6 f fd ["script"] (spD K F_law) :=
  fn_e (N := N_law) (np := 1) (n := 19) (body := m_law) rfl rfl rfl F sc_law fun cdv A outer s H E hr =>
    (ss_cons (ss_set (n := 1) sc_law.nd (by rfl) (by first | exact Or.inl rfl | exact Or.inr rfl) (se_call G__law_ledger (hr.mono (by decide)) (by rfl) (sa_cons (se_v 0) sa_nil)))
    (ss_cons (ss_if (st_not (st_tru (se_call G__law_fine (hr.mono (by decide)) (by rfl) (sa_cons (se_v 1) sa_nil))))
    (ss_one (ss_ret se_bl))
    ss_nil)
    (ss_cons (ss_set (n := 2) sc_law.nd (by rfl) (by first | exact Or.inl rfl | exact Or.inr rfl) (se_if (st_cmp (op_eqD hr.u64) rd_eq (se_call G__law_entry (hr.mono (by decide)) (by rfl) (sa_cons (se_v 1) (sa_cons se_int sa_nil))) se_int (by rfl)) se_int (se_op or_add rd_add se_int (se_call G__law_entry (hr.mono (by decide)) (by rfl) (sa_cons (se_v 1) (sa_cons se_int sa_nil))))))
    (ss_cons (ss_set (n := 3) sc_law.nd (by rfl) (by first | exact Or.inl rfl | exact Or.inr rfl) (se_call G__law_places (hr.mono (by decide)) (by rfl) (sa_cons (se_v 1) (sa_cons (se_v 2) sa_nil))))
    (ss_cons (ss_set (n := 4) sc_law.nd (by rfl) (by first | exact Or.inl rfl | exact Or.inr rfl) (se_call G__law_all_sides (hr.mono (by decide)) (by rfl) (sa_cons (se_v 3) sa_nil)))
    (ss_cons (ss_if (st_not (st_tru (se_call G__law_same (hr.mono (by decide)) (by rfl) (sa_cons (se_call G_sides_of (hr.mono (by decide)) (by rfl) (sa_cons (se_v 3) sa_nil)) (sa_cons (se_callTy call_tuple_of bd_tup (by rfl) T.m_tuple (by decide +kernel) (sa_cons (se_v 4) sa_nil)) sa_nil)))))
    (ss_one (ss_ret se_bl))
    ss_nil)
    (ss_cons (ss_set (n := 5) sc_law.nd (by rfl) (by first | exact Or.inl rfl | exact Or.inr rfl) (se_if (st_cmp op_gt rd_gt (se_v 2) se_int (by rfl)) se_int se_int))
    (ss_cons (ss_asg (se_lc (by rfl) sc_law.nd (si_rng1 (by rfl) T.m_range (sa_cons se_int sa_nil)) (blkOk_by (N := N_law) (sc := defScope s_law) (own := [("k", 18)]) (by decide +kernel)) (fun _ _ _ _ _ => (sg_n 18 sc_law.nd)) (fun _ _ _ _ _ => sts_nil) (fun _ _ _ _ _ => (se_call G__law_book (hr.mono (by decide)) (by rfl) (sa_cons (se_v 1) (sa_cons (se_v 3) (sa_cons (se_v 5) sa_nil))))) (by decide)) (sg_t (by rfl) (sgs_cons (sg_n 6 sc_law.nd) (sgs_cons (sg_n 7 sc_law.nd) (sgs_cons (sg_n 8 sc_law.nd) sgs_nil)))))
    (ss_cons (ss_if (SW.st (sw_and (st_tru (se_ix hr.u1 (se_v 6) se_int)) (sw_and1 (st_cmp (op_eqD hr.u64) rd_eq (se_call G__law_entry (hr.mono (by decide)) (by rfl) (sa_cons (se_v 1) (sa_cons se_int sa_nil))) se_int (by rfl)))))
    (ss_one (ss_set (n := 7) sc_law.nd (by rfl) (by first | exact Or.inl rfl | exact Or.inr rfl) (se_tup (sa_cons (se_ix hr.u1 (se_v 6) se_int) (sa_cons (se_op or_add rd_add (se_sl (se_ix hr.u1 (se_v 6) se_int) so_no (so_some (se_op or_add rd_add se_int (se_call G__law_entry (hr.mono (by decide)) (by rfl) (sa_cons (se_v 1) (sa_cons (se_callB cr_len bd_len (by rfl) T.m_len (by decide +kernel) (sa_cons (se_ix hr.u1 (se_v 6) se_int) sa_nil)) sa_nil)))))) (se_sl (se_ix hr.u1 (se_v 7) se_int) so_no (so_some se_int))) sa_nil)))))
    ss_nil)
    (ss_cons (ss_set (n := 9) sc_law.nd (by rfl) (by first | exact Or.inl rfl | exact Or.inr rfl) (se_call G__law_asked (hr.mono (by decide)) (by rfl) (sa_cons (se_v 3) (sa_cons (se_v 6) (sa_cons (se_v 7) (sa_cons (se_v 4) sa_nil))))))
    (ss_cons (ss_if (SW.st (sw_or (st_cmp op_isN rd_isN (se_v 9) se_non (by rfl)) (sw_or1 (st_cmp op_isN rd_isN (se_call G__law_asked (hr.mono (by decide)) (by rfl) (sa_cons (se_v 3) (sa_cons (se_v 7) (sa_cons (se_v 8) (sa_cons (se_v 4) sa_nil))))) se_non (by rfl)))))
    (ss_one (ss_ret se_bl))
    ss_nil)
    (ss_cons (ss_set (n := 10) sc_law.nd (by rfl) (by first | exact Or.inl rfl | exact Or.inr rfl) (se_lst sa_nil))
    (ss_cons (ss_for PassesOwn.never (by rfl) (si_val (se_lst (sa_cons (se_v 6) (sa_cons (se_v 7) sa_nil)))) (sg_n 11 sc_law.nd)
    (ss_cons (ss_set (n := 12) sc_law.nd (by rfl) (by first | exact Or.inl rfl | exact Or.inr rfl) (se_call G_both_books (hr.mono (by decide)) (by rfl) (sa_cons (se_v 11) (sa_cons (se_v 8) sa_nil))))
    (ss_cons (ss_if (st_not (st_tru (se_call G__law_same (hr.mono (by decide)) (by rfl) (sa_cons (se_v 12) (sa_cons (se_call G__law_both (hr.mono (by decide)) (by rfl) (sa_cons (se_v 11) (sa_cons (se_v 8) sa_nil))) sa_nil)))))
    (ss_one (ss_ret se_bl))
    ss_nil)
    (ss_one (ss_expr (se_bm PySem.F.plainAttrs_list PySem.F.slot_list_append PySem.F.type_list_append mt_append md_append (se_v 10) (sa_cons (se_v 12) sa_nil)))))))
    (ss_cons (ss_if (SW.st (sw_or (st_not (st_tru (se_call G__law_same (hr.mono (by decide)) (by rfl) (sa_cons (se_call G_gap_of (hr.mono (by decide)) (by rfl) (sa_cons (se_v 3) (sa_cons (se_ix hr.u1 (se_v 10) se_int) (sa_cons (se_ix hr.u1 (se_v 10) se_int) sa_nil)))) (sa_cons (se_v 9) sa_nil))))) (sw_or1 (st_cmp (op_neD hr.u64) rd_ne (se_call G__law_asked (hr.mono (by decide)) (by rfl) (sa_cons (se_v 3) (sa_cons (se_ix hr.u1 (se_v 10) se_int) (sa_cons (se_ix hr.u1 (se_v 10) se_int) (sa_cons (se_v 4) sa_nil))))) (se_v 9) (by rfl)))))
    (ss_one (ss_ret se_bl))
    ss_nil)
    (ss_cons (ss_set (n := 13) sc_law.nd (by rfl) (by first | exact Or.inl rfl | exact Or.inr rfl) (se_tidy2 (se_call G__law_gap (hr.mono (by decide)) (by rfl) (sa_cons (se_v 8) (sa_cons (se_tup (sa_cons se_int (sa_cons (se_tup sa_nil) sa_nil))) (sa_cons (se_v 4) (sa_cons (se_tup (sa_cons (se_call G__law_sold (hr.mono (by decide)) (by rfl) (sa_cons (se_v 8) (sa_cons (se_v 4) sa_nil))) (sa_cons (se_op or_mul rd_mul (se_lst (sa_cons se_int sa_nil)) (se_callB cr_len bd_len (by rfl) T.m_len (by decide +kernel) (sa_cons (se_v 4) sa_nil))) sa_nil))) sa_nil)))))))
    (ss_cons (ss_if (SW.st (sw_or (st_not (st_tru (se_call G__law_same (hr.mono (by decide)) (by rfl) (sa_cons (se_call G_gap_of (hr.mono (by decide)) (by rfl) (sa_cons (se_v 3) (sa_cons (se_ix hr.u1 (se_v 10) se_int) (sa_cons (se_v 6) sa_nil)))) (sa_cons (se_v 13) sa_nil))))) (sw_or1 (st_not (st_tru (se_call G__law_same (hr.mono (by decide)) (by rfl) (sa_cons (se_call G_never_less (hr.mono (by decide)) (by rfl) (sa_cons (se_v 3) (sa_cons (se_v 6) (sa_cons (se_ix hr.u1 (se_v 10) se_int) sa_nil)))) (sa_cons (se_cmp (op_eqD hr.u64) rd_eq (se_ix hr.u1 (se_v 13) se_int) (se_tup sa_nil) (by rfl)) sa_nil))))))))
    (ss_one (ss_ret se_bl))
    ss_nil)
    (ss_cons (ss_set (n := 14) sc_law.nd (by rfl) (by first | exact Or.inl rfl | exact Or.inr rfl) (se_tidy2 (se_call G__law_of (hr.mono (by decide)) (by rfl) (sa_cons (se_v 1) (sa_cons (se_lst (sa_cons se_int (sa_cons se_int (sa_cons se_int (sa_cons se_int sa_nil))))) sa_nil)))))
    (ss_cons (ss_set (n := 15) sc_law.nd (by rfl) (by first | exact Or.inl rfl | exact Or.inr rfl) (se_call G_both_books (hr.mono (by decide)) (by rfl) (sa_cons (se_call G_with_unit (hr.mono (by decide)) (by rfl) (sa_cons (se_ix hr.u1 (se_v 10) se_int) (sa_cons (se_v 14) sa_nil))) (sa_cons (se_ix hr.u1 (se_v 10) se_int) sa_nil))))
    (ss_cons (ss_if (st_not (st_tru (se_call G__law_same (hr.mono (by decide)) (by rfl) (sa_cons (se_call G_with_unit (hr.mono (by decide)) (by rfl) (sa_cons (se_ix hr.u1 (se_v 10) se_int) (sa_cons (se_v 14) sa_nil))) (sa_cons (se_tup (sa_cons (se_op or_mul rd_mul (se_ix hr.u1 (se_ix hr.u1 (se_v 10) se_int) se_int) (se_v 14)) (sa_cons (se_tidy2 (se_callTy call_tuple_of bd_tup (by rfl) T.m_tuple (by decide +kernel) (sa_cons (se_lc (by rfl) sc_law.nd (si_val (se_ix hr.u1 (se_ix hr.u1 (se_v 10) se_int) se_int)) (blkOk_by (N := N_law) (sc := defScope s_law) (own := [("right", 16)]) (by decide +kernel)) (fun _ _ _ _ _ => (sg_n 16 sc_law.nd)) (fun _ _ _ _ _ => sts_nil) (fun _ _ _ _ _ => (se_op or_add rd_add (se_sl (se_v 16) so_no (so_some se_int)) (se_tup (sa_cons (se_op or_mul rd_mul (se_ix hr.u1 (se_v 16) se_int) (se_v 14)) sa_nil)))) (by decide)) sa_nil))) sa_nil))) sa_nil)))))
    (ss_one (ss_ret se_bl))
    ss_nil)
    (ss_cons (ss_if (st_not (st_tru (se_call G__law_same (hr.mono (by decide)) (by rfl) (sa_cons (se_call G_gap_of (hr.mono (by decide)) (by rfl) (sa_cons (se_v 3) (sa_cons (se_v 15) (sa_cons (se_call G_both_books (hr.mono (by decide)) (by rfl) (sa_cons (se_ix hr.u1 (se_v 10) se_int) (sa_cons (se_ix hr.u1 (se_v 10) se_int) sa_nil))) sa_nil)))) (sa_cons (se_tup (sa_cons (se_call G__law_low (hr.mono (by decide)) (by rfl) (sa_cons (se_op or_mul rd_mul se_int (se_ix hr.u1 (se_ix hr.u1 (se_v 9) se_int) se_int)) (sa_cons (se_ix hr.u1 (se_ix hr.u1 (se_v 9) se_int) se_int) sa_nil))) (sa_cons (se_ix hr.u1 (se_v 9) se_int) sa_nil))) sa_nil)))))
    (ss_one (ss_ret se_bl))
    ss_nil)
    (ss_cons (ss_if (SW.st (sw_and (st_cmp op_lt rd_lt (se_v 2) se_int (by rfl)) (sw_and1 (st_cmp op_isN rd_isN (se_call G__law_asked (hr.mono (by decide)) (by rfl) (sa_cons (se_v 3) (sa_cons (se_call G__law_turned (hr.mono (by decide)) (by rfl) (sa_cons (se_v 6) sa_nil)) (sa_cons (se_call G__law_turned (hr.mono (by decide)) (by rfl) (sa_cons (se_v 7) sa_nil)) (sa_cons (se_v 4) sa_nil))))) se_non (by rfl)))))
    (ss_one (ss_ret se_bl))
    ss_nil)
    (ss_cons (ss_set (n := 16) sc_law.nd (by rfl) (by first | exact Or.inl rfl | exact Or.inr rfl) (se_tup (sa_cons se_str (sa_cons (se_tidy2 (se_call G__law_of (hr.mono (by decide)) (by rfl) (sa_cons (se_v 1) (sa_cons (se_lst (sa_cons se_str (sa_cons se_str sa_nil))) sa_nil)))) (sa_cons (se_ix hr.u1 (se_v 3) se_int) (sa_cons (se_ix hr.u1 (se_v 3) (se_neg se_int)) (sa_cons (se_op or_add rd_add se_int (se_call G__law_entry (hr.mono (by decide)) (by rfl) (sa_cons (se_v 1) (sa_cons se_int sa_nil)))) sa_nil)))))))
    (ss_cons (ss_set (n := 17) sc_law.nd (by rfl) (by first | exact Or.inl rfl | exact Or.inr rfl) (se_call G_both_books (hr.mono (by decide)) (by rfl) (sa_cons (se_ix hr.u1 (se_v 10) se_int) (sa_cons (se_tup (sa_cons (se_op or_add rd_add se_int (se_call G__law_entry (hr.mono (by decide)) (by rfl) (sa_cons (se_v 1) (sa_cons se_int sa_nil)))) (sa_cons (se_tup (sa_cons (se_v 16) sa_nil)) sa_nil))) sa_nil))))
    (ss_cons (ss_if (SW.st (sw_and (st_cmp (op_eqD hr.u64) rd_eq (se_ix hr.u1 (se_v 16) se_int) se_str (by rfl)) (sw_and1 (st_not (st_tru (se_call G__law_same (hr.mono (by decide)) (by rfl) (sa_cons (se_call G_never_less (hr.mono (by decide)) (by rfl) (sa_cons (se_v 3) (sa_cons (se_v 17) (sa_cons (se_ix hr.u1 (se_v 10) se_int) sa_nil)))) (sa_cons se_bl sa_nil))))))))
    (ss_one (ss_ret se_bl))
    ss_nil)
    (ss_one (ss_ret (se_call G__law_same (hr.mono (by decide)) (by rfl) (sa_cons (se_call G_never_less (hr.mono (by decide)) (by rfl) (sa_cons (se_v 3) (sa_cons (se_ix hr.u1 (se_v 10) se_int) (sa_cons (se_v 17) sa_nil)))) (sa_cons se_bl sa_nil)))))))))))))))))))))))))))))
end
set_option maxHeartbeats 0 in
theorem all_mk {l : PySem.W.OpenLaw} {w : World} {K : PySem.W.Frag} {h : Heap} {mg : Str → Option Value} {fa : Addr} (X : K.In h) (G : h.Ns mainGlobals mg) (hfa : mg "law" = some (.ref fa))
    {f__law_ledger : Addr} {oc__law_ledger kV__law_ledger dc__law_ledger pm__law_ledger cd__law_ledger ct__law_ledger : Value} {od__law_ledger an__law_ledger : Option Addr} {sl__law_ledger : Array (Option Value)}
    (a__law_ledger : PySem.W.nsIn K mainGlobals "_law_ledger" = some (some (.ref f__law_ledger))) (l__law_ledger : K.lookup f__law_ledger = some ⟨oc__law_ledger, od__law_ledger, .func (PySem.W.fnOf "_law_ledger" "_law_ledger" (defArgs s__law_ledger) (defBody s__law_ledger) (defScope s__law_ledger) .none kV__law_ledger dc__law_ledger pm__law_ledger an__law_ledger cd__law_ledger ct__law_ledger), sl__law_ledger⟩) (c__law_ledger : PySem.W.codeIn K cd__law_ledger "_law_ledger" = true) (k__law_ledger : PySem.W.keepIn K (.ref f__law_ledger) = true)
    {f__law_entry : Addr} {oc__law_entry kV__law_entry dc__law_entry pm__law_entry cd__law_entry ct__law_entry : Value} {od__law_entry an__law_entry : Option Addr} {sl__law_entry : Array (Option Value)}
    (a__law_entry : PySem.W.nsIn K mainGlobals "_law_entry" = some (some (.ref f__law_entry))) (l__law_entry : K.lookup f__law_entry = some ⟨oc__law_entry, od__law_entry, .func (PySem.W.fnOf "_law_entry" "_law_entry" (defArgs s__law_entry) (defBody s__law_entry) (defScope s__law_entry) .none kV__law_entry dc__law_entry pm__law_entry an__law_entry cd__law_entry ct__law_entry), sl__law_entry⟩) (c__law_entry : PySem.W.codeIn K cd__law_entry "_law_entry" = true) (k__law_entry : PySem.W.keepIn K (.ref f__law_entry) = true)
    {f__law_of : Addr} {oc__law_of kV__law_of dc__law_of pm__law_of cd__law_of ct__law_of : Value} {od__law_of an__law_of : Option Addr} {sl__law_of : Array (Option Value)}
    (a__law_of : PySem.W.nsIn K mainGlobals "_law_of" = some (some (.ref f__law_of))) (l__law_of : K.lookup f__law_of = some ⟨oc__law_of, od__law_of, .func (PySem.W.fnOf "_law_of" "_law_of" (defArgs s__law_of) (defBody s__law_of) (defScope s__law_of) .none kV__law_of dc__law_of pm__law_of an__law_of cd__law_of ct__law_of), sl__law_of⟩) (c__law_of : PySem.W.codeIn K cd__law_of "_law_of" = true) (k__law_of : PySem.W.keepIn K (.ref f__law_of) = true)
    {f__law_inverse : Addr} {oc__law_inverse kV__law_inverse dc__law_inverse pm__law_inverse cd__law_inverse ct__law_inverse : Value} {od__law_inverse an__law_inverse : Option Addr} {sl__law_inverse : Array (Option Value)}
    (a__law_inverse : PySem.W.nsIn K mainGlobals "_law_inverse" = some (some (.ref f__law_inverse))) (l__law_inverse : K.lookup f__law_inverse = some ⟨oc__law_inverse, od__law_inverse, .func (PySem.W.fnOf "_law_inverse" "_law_inverse" (defArgs s__law_inverse) (defBody s__law_inverse) (defScope s__law_inverse) .none kV__law_inverse dc__law_inverse pm__law_inverse an__law_inverse cd__law_inverse ct__law_inverse), sl__law_inverse⟩) (c__law_inverse : PySem.W.codeIn K cd__law_inverse "_law_inverse" = true) (k__law_inverse : PySem.W.keepIn K (.ref f__law_inverse) = true)
    {f_multiplied_rights : Addr} {oc_multiplied_rights kV_multiplied_rights dc_multiplied_rights pm_multiplied_rights cd_multiplied_rights ct_multiplied_rights : Value} {od_multiplied_rights an_multiplied_rights : Option Addr} {sl_multiplied_rights : Array (Option Value)}
    (a_multiplied_rights : PySem.W.nsIn K mainGlobals "multiplied_rights" = some (some (.ref f_multiplied_rights))) (l_multiplied_rights : K.lookup f_multiplied_rights = some ⟨oc_multiplied_rights, od_multiplied_rights, .func (PySem.W.fnOf "multiplied_rights" "multiplied_rights" (defArgs s_multiplied_rights) (defBody s_multiplied_rights) (defScope s_multiplied_rights) .none kV_multiplied_rights dc_multiplied_rights pm_multiplied_rights an_multiplied_rights cd_multiplied_rights ct_multiplied_rights), sl_multiplied_rights⟩) (c_multiplied_rights : PySem.W.codeIn K cd_multiplied_rights "multiplied_rights" = true) (k_multiplied_rights : PySem.W.keepIn K (.ref f_multiplied_rights) = true)
    {f_both_books : Addr} {oc_both_books kV_both_books dc_both_books pm_both_books cd_both_books ct_both_books : Value} {od_both_books an_both_books : Option Addr} {sl_both_books : Array (Option Value)}
    (a_both_books : PySem.W.nsIn K mainGlobals "both_books" = some (some (.ref f_both_books))) (l_both_books : K.lookup f_both_books = some ⟨oc_both_books, od_both_books, .func (PySem.W.fnOf "both_books" "both_books" (defArgs s_both_books) (defBody s_both_books) (defScope s_both_books) .none kV_both_books dc_both_books pm_both_books an_both_books cd_both_books ct_both_books), sl_both_books⟩) (c_both_books : PySem.W.codeIn K cd_both_books "both_books" = true) (k_both_books : PySem.W.keepIn K (.ref f_both_books) = true)
    {f__law_divisor : Addr} {oc__law_divisor kV__law_divisor dc__law_divisor pm__law_divisor cd__law_divisor ct__law_divisor : Value} {od__law_divisor an__law_divisor : Option Addr} {sl__law_divisor : Array (Option Value)}
    (a__law_divisor : PySem.W.nsIn K mainGlobals "_law_divisor" = some (some (.ref f__law_divisor))) (l__law_divisor : K.lookup f__law_divisor = some ⟨oc__law_divisor, od__law_divisor, .func (PySem.W.fnOf "_law_divisor" "_law_divisor" (defArgs s__law_divisor) (defBody s__law_divisor) (defScope s__law_divisor) .none kV__law_divisor dc__law_divisor pm__law_divisor an__law_divisor cd__law_divisor ct__law_divisor), sl__law_divisor⟩) (c__law_divisor : PySem.W.codeIn K cd__law_divisor "_law_divisor" = true) (k__law_divisor : PySem.W.keepIn K (.ref f__law_divisor) = true)
    {f__law_low : Addr} {oc__law_low kV__law_low dc__law_low pm__law_low cd__law_low ct__law_low : Value} {od__law_low an__law_low : Option Addr} {sl__law_low : Array (Option Value)}
    (a__law_low : PySem.W.nsIn K mainGlobals "_law_low" = some (some (.ref f__law_low))) (l__law_low : K.lookup f__law_low = some ⟨oc__law_low, od__law_low, .func (PySem.W.fnOf "_law_low" "_law_low" (defArgs s__law_low) (defBody s__law_low) (defScope s__law_low) .none kV__law_low dc__law_low pm__law_low an__law_low cd__law_low ct__law_low), sl__law_low⟩) (c__law_low : PySem.W.codeIn K cd__law_low "_law_low" = true) (k__law_low : PySem.W.keepIn K (.ref f__law_low) = true)
    {f__law_same : Addr} {oc__law_same kV__law_same dc__law_same pm__law_same cd__law_same ct__law_same : Value} {od__law_same an__law_same : Option Addr} {sl__law_same : Array (Option Value)}
    (a__law_same : PySem.W.nsIn K mainGlobals "_law_same" = some (some (.ref f__law_same))) (l__law_same : K.lookup f__law_same = some ⟨oc__law_same, od__law_same, .func (PySem.W.fnOf "_law_same" "_law_same" (defArgs s__law_same) (defBody s__law_same) (defScope s__law_same) .none kV__law_same dc__law_same pm__law_same an__law_same cd__law_same ct__law_same), sl__law_same⟩) (c__law_same : PySem.W.codeIn K cd__law_same "_law_same" = true) (k__law_same : PySem.W.keepIn K (.ref f__law_same) = true)
    {f_side_of_mask : Addr} {oc_side_of_mask kV_side_of_mask dc_side_of_mask pm_side_of_mask cd_side_of_mask ct_side_of_mask : Value} {od_side_of_mask an_side_of_mask : Option Addr} {sl_side_of_mask : Array (Option Value)}
    (a_side_of_mask : PySem.W.nsIn K mainGlobals "side_of_mask" = some (some (.ref f_side_of_mask))) (l_side_of_mask : K.lookup f_side_of_mask = some ⟨oc_side_of_mask, od_side_of_mask, .func (PySem.W.fnOf "side_of_mask" "side_of_mask" (defArgs s_side_of_mask) (defBody s_side_of_mask) (defScope s_side_of_mask) .none kV_side_of_mask dc_side_of_mask pm_side_of_mask an_side_of_mask cd_side_of_mask ct_side_of_mask), sl_side_of_mask⟩) (c_side_of_mask : PySem.W.codeIn K cd_side_of_mask "side_of_mask" = true) (k_side_of_mask : PySem.W.keepIn K (.ref f_side_of_mask) = true)
    {f_sides_of : Addr} {oc_sides_of kV_sides_of dc_sides_of pm_sides_of cd_sides_of ct_sides_of : Value} {od_sides_of an_sides_of : Option Addr} {sl_sides_of : Array (Option Value)}
    (a_sides_of : PySem.W.nsIn K mainGlobals "sides_of" = some (some (.ref f_sides_of))) (l_sides_of : K.lookup f_sides_of = some ⟨oc_sides_of, od_sides_of, .func (PySem.W.fnOf "sides_of" "sides_of" (defArgs s_sides_of) (defBody s_sides_of) (defScope s_sides_of) .none kV_sides_of dc_sides_of pm_sides_of an_sides_of cd_sides_of ct_sides_of), sl_sides_of⟩) (c_sides_of : PySem.W.codeIn K cd_sides_of "sides_of" = true) (k_sides_of : PySem.W.keepIn K (.ref f_sides_of) = true)
    {f_sold_pairs : Addr} {oc_sold_pairs kV_sold_pairs dc_sold_pairs pm_sold_pairs cd_sold_pairs ct_sold_pairs : Value} {od_sold_pairs an_sold_pairs : Option Addr} {sl_sold_pairs : Array (Option Value)}
    (a_sold_pairs : PySem.W.nsIn K mainGlobals "sold_pairs" = some (some (.ref f_sold_pairs))) (l_sold_pairs : K.lookup f_sold_pairs = some ⟨oc_sold_pairs, od_sold_pairs, .func (PySem.W.fnOf "sold_pairs" "sold_pairs" (defArgs s_sold_pairs) (defBody s_sold_pairs) (defScope s_sold_pairs) .none kV_sold_pairs dc_sold_pairs pm_sold_pairs an_sold_pairs cd_sold_pairs ct_sold_pairs), sl_sold_pairs⟩) (c_sold_pairs : PySem.W.codeIn K cd_sold_pairs "sold_pairs" = true) (k_sold_pairs : PySem.W.keepIn K (.ref f_sold_pairs) = true)
    {f_sums_over : Addr} {oc_sums_over kV_sums_over dc_sums_over pm_sums_over cd_sums_over ct_sums_over : Value} {od_sums_over an_sums_over : Option Addr} {sl_sums_over : Array (Option Value)}
    (a_sums_over : PySem.W.nsIn K mainGlobals "sums_over" = some (some (.ref f_sums_over))) (l_sums_over : K.lookup f_sums_over = some ⟨oc_sums_over, od_sums_over, .func (PySem.W.fnOf "sums_over" "sums_over" (defArgs s_sums_over) (defBody s_sums_over) (defScope s_sums_over) .none kV_sums_over dc_sums_over pm_sums_over an_sums_over cd_sums_over ct_sums_over), sl_sums_over⟩) (c_sums_over : PySem.W.codeIn K cd_sums_over "sums_over" = true) (k_sums_over : PySem.W.keepIn K (.ref f_sums_over) = true)
    {f_quotient_of : Addr} {oc_quotient_of kV_quotient_of dc_quotient_of pm_quotient_of cd_quotient_of ct_quotient_of : Value} {od_quotient_of an_quotient_of : Option Addr} {sl_quotient_of : Array (Option Value)}
    (a_quotient_of : PySem.W.nsIn K mainGlobals "quotient_of" = some (some (.ref f_quotient_of))) (l_quotient_of : K.lookup f_quotient_of = some ⟨oc_quotient_of, od_quotient_of, .func (PySem.W.fnOf "quotient_of" "quotient_of" (defArgs s_quotient_of) (defBody s_quotient_of) (defScope s_quotient_of) .none kV_quotient_of dc_quotient_of pm_quotient_of an_quotient_of cd_quotient_of ct_quotient_of), sl_quotient_of⟩) (c_quotient_of : PySem.W.codeIn K cd_quotient_of "quotient_of" = true) (k_quotient_of : PySem.W.keepIn K (.ref f_quotient_of) = true)
    {f_gap_of : Addr} {oc_gap_of kV_gap_of dc_gap_of pm_gap_of cd_gap_of ct_gap_of : Value} {od_gap_of an_gap_of : Option Addr} {sl_gap_of : Array (Option Value)}
    (a_gap_of : PySem.W.nsIn K mainGlobals "gap_of" = some (some (.ref f_gap_of))) (l_gap_of : K.lookup f_gap_of = some ⟨oc_gap_of, od_gap_of, .func (PySem.W.fnOf "gap_of" "gap_of" (defArgs s_gap_of) (defBody s_gap_of) (defScope s_gap_of) .none kV_gap_of dc_gap_of pm_gap_of an_gap_of cd_gap_of ct_gap_of), sl_gap_of⟩) (c_gap_of : PySem.W.codeIn K cd_gap_of "gap_of" = true) (k_gap_of : PySem.W.keepIn K (.ref f_gap_of) = true)
    {f_never_less : Addr} {oc_never_less kV_never_less dc_never_less pm_never_less cd_never_less ct_never_less : Value} {od_never_less an_never_less : Option Addr} {sl_never_less : Array (Option Value)}
    (a_never_less : PySem.W.nsIn K mainGlobals "never_less" = some (some (.ref f_never_less))) (l_never_less : K.lookup f_never_less = some ⟨oc_never_less, od_never_less, .func (PySem.W.fnOf "never_less" "never_less" (defArgs s_never_less) (defBody s_never_less) (defScope s_never_less) .none kV_never_less dc_never_less pm_never_less an_never_less cd_never_less ct_never_less), sl_never_less⟩) (c_never_less : PySem.W.codeIn K cd_never_less "never_less" = true) (k_never_less : PySem.W.keepIn K (.ref f_never_less) = true)
    {f__law_fine : Addr} {oc__law_fine kV__law_fine dc__law_fine pm__law_fine cd__law_fine ct__law_fine : Value} {od__law_fine an__law_fine : Option Addr} {sl__law_fine : Array (Option Value)}
    (a__law_fine : PySem.W.nsIn K mainGlobals "_law_fine" = some (some (.ref f__law_fine))) (l__law_fine : K.lookup f__law_fine = some ⟨oc__law_fine, od__law_fine, .func (PySem.W.fnOf "_law_fine" "_law_fine" (defArgs s__law_fine) (defBody s__law_fine) (defScope s__law_fine) .none kV__law_fine dc__law_fine pm__law_fine an__law_fine cd__law_fine ct__law_fine), sl__law_fine⟩) (c__law_fine : PySem.W.codeIn K cd__law_fine "_law_fine" = true) (k__law_fine : PySem.W.keepIn K (.ref f__law_fine) = true)
    {f__law_places : Addr} {oc__law_places kV__law_places dc__law_places pm__law_places cd__law_places ct__law_places : Value} {od__law_places an__law_places : Option Addr} {sl__law_places : Array (Option Value)}
    (a__law_places : PySem.W.nsIn K mainGlobals "_law_places" = some (some (.ref f__law_places))) (l__law_places : K.lookup f__law_places = some ⟨oc__law_places, od__law_places, .func (PySem.W.fnOf "_law_places" "_law_places" (defArgs s__law_places) (defBody s__law_places) (defScope s__law_places) .none kV__law_places dc__law_places pm__law_places an__law_places cd__law_places ct__law_places), sl__law_places⟩) (c__law_places : PySem.W.codeIn K cd__law_places "_law_places" = true) (k__law_places : PySem.W.keepIn K (.ref f__law_places) = true)
    {f__law_all_sides : Addr} {oc__law_all_sides kV__law_all_sides dc__law_all_sides pm__law_all_sides cd__law_all_sides ct__law_all_sides : Value} {od__law_all_sides an__law_all_sides : Option Addr} {sl__law_all_sides : Array (Option Value)}
    (a__law_all_sides : PySem.W.nsIn K mainGlobals "_law_all_sides" = some (some (.ref f__law_all_sides))) (l__law_all_sides : K.lookup f__law_all_sides = some ⟨oc__law_all_sides, od__law_all_sides, .func (PySem.W.fnOf "_law_all_sides" "_law_all_sides" (defArgs s__law_all_sides) (defBody s__law_all_sides) (defScope s__law_all_sides) .none kV__law_all_sides dc__law_all_sides pm__law_all_sides an__law_all_sides cd__law_all_sides ct__law_all_sides), sl__law_all_sides⟩) (c__law_all_sides : PySem.W.codeIn K cd__law_all_sides "_law_all_sides" = true) (k__law_all_sides : PySem.W.keepIn K (.ref f__law_all_sides) = true)
    {f__law_book : Addr} {oc__law_book kV__law_book dc__law_book pm__law_book cd__law_book ct__law_book : Value} {od__law_book an__law_book : Option Addr} {sl__law_book : Array (Option Value)}
    (a__law_book : PySem.W.nsIn K mainGlobals "_law_book" = some (some (.ref f__law_book))) (l__law_book : K.lookup f__law_book = some ⟨oc__law_book, od__law_book, .func (PySem.W.fnOf "_law_book" "_law_book" (defArgs s__law_book) (defBody s__law_book) (defScope s__law_book) .none kV__law_book dc__law_book pm__law_book an__law_book cd__law_book ct__law_book), sl__law_book⟩) (c__law_book : PySem.W.codeIn K cd__law_book "_law_book" = true) (k__law_book : PySem.W.keepIn K (.ref f__law_book) = true)
    {f__law_sold : Addr} {oc__law_sold kV__law_sold dc__law_sold pm__law_sold cd__law_sold ct__law_sold : Value} {od__law_sold an__law_sold : Option Addr} {sl__law_sold : Array (Option Value)}
    (a__law_sold : PySem.W.nsIn K mainGlobals "_law_sold" = some (some (.ref f__law_sold))) (l__law_sold : K.lookup f__law_sold = some ⟨oc__law_sold, od__law_sold, .func (PySem.W.fnOf "_law_sold" "_law_sold" (defArgs s__law_sold) (defBody s__law_sold) (defScope s__law_sold) .none kV__law_sold dc__law_sold pm__law_sold an__law_sold cd__law_sold ct__law_sold), sl__law_sold⟩) (c__law_sold : PySem.W.codeIn K cd__law_sold "_law_sold" = true) (k__law_sold : PySem.W.keepIn K (.ref f__law_sold) = true)
    {f__law_gap : Addr} {oc__law_gap kV__law_gap dc__law_gap pm__law_gap cd__law_gap ct__law_gap : Value} {od__law_gap an__law_gap : Option Addr} {sl__law_gap : Array (Option Value)}
    (a__law_gap : PySem.W.nsIn K mainGlobals "_law_gap" = some (some (.ref f__law_gap))) (l__law_gap : K.lookup f__law_gap = some ⟨oc__law_gap, od__law_gap, .func (PySem.W.fnOf "_law_gap" "_law_gap" (defArgs s__law_gap) (defBody s__law_gap) (defScope s__law_gap) .none kV__law_gap dc__law_gap pm__law_gap an__law_gap cd__law_gap ct__law_gap), sl__law_gap⟩) (c__law_gap : PySem.W.codeIn K cd__law_gap "_law_gap" = true) (k__law_gap : PySem.W.keepIn K (.ref f__law_gap) = true)
    {f_sold_amount : Addr} {oc_sold_amount kV_sold_amount dc_sold_amount pm_sold_amount cd_sold_amount ct_sold_amount : Value} {od_sold_amount an_sold_amount : Option Addr} {sl_sold_amount : Array (Option Value)}
    (a_sold_amount : PySem.W.nsIn K mainGlobals "sold_amount" = some (some (.ref f_sold_amount))) (l_sold_amount : K.lookup f_sold_amount = some ⟨oc_sold_amount, od_sold_amount, .func (PySem.W.fnOf "sold_amount" "sold_amount" (defArgs s_sold_amount) (defBody s_sold_amount) (defScope s_sold_amount) .none kV_sold_amount dc_sold_amount pm_sold_amount an_sold_amount cd_sold_amount ct_sold_amount), sl_sold_amount⟩) (c_sold_amount : PySem.W.codeIn K cd_sold_amount "sold_amount" = true) (k_sold_amount : PySem.W.keepIn K (.ref f_sold_amount) = true)
    {f_sold_over : Addr} {oc_sold_over kV_sold_over dc_sold_over pm_sold_over cd_sold_over ct_sold_over : Value} {od_sold_over an_sold_over : Option Addr} {sl_sold_over : Array (Option Value)}
    (a_sold_over : PySem.W.nsIn K mainGlobals "sold_over" = some (some (.ref f_sold_over))) (l_sold_over : K.lookup f_sold_over = some ⟨oc_sold_over, od_sold_over, .func (PySem.W.fnOf "sold_over" "sold_over" (defArgs s_sold_over) (defBody s_sold_over) (defScope s_sold_over) .none kV_sold_over dc_sold_over pm_sold_over an_sold_over cd_sold_over ct_sold_over), sl_sold_over⟩) (c_sold_over : PySem.W.codeIn K cd_sold_over "sold_over" = true) (k_sold_over : PySem.W.keepIn K (.ref f_sold_over) = true)
    {f__law_asked : Addr} {oc__law_asked kV__law_asked dc__law_asked pm__law_asked cd__law_asked ct__law_asked : Value} {od__law_asked an__law_asked : Option Addr} {sl__law_asked : Array (Option Value)}
    (a__law_asked : PySem.W.nsIn K mainGlobals "_law_asked" = some (some (.ref f__law_asked))) (l__law_asked : K.lookup f__law_asked = some ⟨oc__law_asked, od__law_asked, .func (PySem.W.fnOf "_law_asked" "_law_asked" (defArgs s__law_asked) (defBody s__law_asked) (defScope s__law_asked) .none kV__law_asked dc__law_asked pm__law_asked an__law_asked cd__law_asked ct__law_asked), sl__law_asked⟩) (c__law_asked : PySem.W.codeIn K cd__law_asked "_law_asked" = true) (k__law_asked : PySem.W.keepIn K (.ref f__law_asked) = true)
    {f__law_both : Addr} {oc__law_both kV__law_both dc__law_both pm__law_both cd__law_both ct__law_both : Value} {od__law_both an__law_both : Option Addr} {sl__law_both : Array (Option Value)}
    (a__law_both : PySem.W.nsIn K mainGlobals "_law_both" = some (some (.ref f__law_both))) (l__law_both : K.lookup f__law_both = some ⟨oc__law_both, od__law_both, .func (PySem.W.fnOf "_law_both" "_law_both" (defArgs s__law_both) (defBody s__law_both) (defScope s__law_both) .none kV__law_both dc__law_both pm__law_both an__law_both cd__law_both ct__law_both), sl__law_both⟩) (c__law_both : PySem.W.codeIn K cd__law_both "_law_both" = true) (k__law_both : PySem.W.keepIn K (.ref f__law_both) = true)
    {f_with_unit : Addr} {oc_with_unit kV_with_unit dc_with_unit pm_with_unit cd_with_unit ct_with_unit : Value} {od_with_unit an_with_unit : Option Addr} {sl_with_unit : Array (Option Value)}
    (a_with_unit : PySem.W.nsIn K mainGlobals "with_unit" = some (some (.ref f_with_unit))) (l_with_unit : K.lookup f_with_unit = some ⟨oc_with_unit, od_with_unit, .func (PySem.W.fnOf "with_unit" "with_unit" (defArgs s_with_unit) (defBody s_with_unit) (defScope s_with_unit) .none kV_with_unit dc_with_unit pm_with_unit an_with_unit cd_with_unit ct_with_unit), sl_with_unit⟩) (c_with_unit : PySem.W.codeIn K cd_with_unit "with_unit" = true) (k_with_unit : PySem.W.keepIn K (.ref f_with_unit) = true)
    {f__law_turned : Addr} {oc__law_turned kV__law_turned dc__law_turned pm__law_turned cd__law_turned ct__law_turned : Value} {od__law_turned an__law_turned : Option Addr} {sl__law_turned : Array (Option Value)}
    (a__law_turned : PySem.W.nsIn K mainGlobals "_law_turned" = some (some (.ref f__law_turned))) (l__law_turned : K.lookup f__law_turned = some ⟨oc__law_turned, od__law_turned, .func (PySem.W.fnOf "_law_turned" "_law_turned" (defArgs s__law_turned) (defBody s__law_turned) (defScope s__law_turned) .none kV__law_turned dc__law_turned pm__law_turned an__law_turned cd__law_turned ct__law_turned), sl__law_turned⟩) (c__law_turned : PySem.W.codeIn K cd__law_turned "_law_turned" = true) (k__law_turned : PySem.W.keepIn K (.ref f__law_turned) = true)
    {f_law : Addr} {oc_law kV_law dc_law pm_law cd_law ct_law : Value} {od_law an_law : Option Addr} {sl_law : Array (Option Value)}
    (a_law : PySem.W.nsIn K mainGlobals "law" = some (some (.ref f_law))) (l_law : K.lookup f_law = some ⟨oc_law, od_law, .func (PySem.W.fnOf "law" "law" (defArgs s_law) (defBody s_law) (defScope s_law) .none kV_law dc_law pm_law an_law cd_law ct_law), sl_law⟩) (c_law : PySem.W.codeIn K cd_law "law" = true) (k_law : PySem.W.keepIn K (.ref f_law) = true)
    (z_int : PySem.W.nsIn K mainGlobals "int" = some none)
    (z_abs : PySem.W.nsIn K mainGlobals "abs" = some none)
    (z_len : PySem.W.nsIn K mainGlobals "len" = some none)
    (z_range : PySem.W.nsIn K mainGlobals "range" = some none)
    (z_tuple : PySem.W.nsIn K mainGlobals "tuple" = some none)
    (z_lcm : PySem.W.nsIn K mainGlobals "lcm" = some (some (.builtin "math.lcm")))
    (z_max : PySem.W.nsIn K mainGlobals "max" = some none)
    (z_isinstance : PySem.W.nsIn K mainGlobals "isinstance" = some none)
    (z_str : PySem.W.nsIn K mainGlobals "str" = some none)
    (z_bool : PySem.W.nsIn K mainGlobals "bool" = some none)
    (z_enumerate : PySem.W.nsIn K mainGlobals "enumerate" = some none)
    (z_sorted : PySem.W.nsIn K mainGlobals "sorted" = some none)
    (z_sum : PySem.W.nsIn K mainGlobals "sum" = some none)
    (z_gcd : PySem.W.nsIn K mainGlobals "gcd" = some (some (.builtin "math.gcd")))
    (z_zip : PySem.W.nsIn K mainGlobals "zip" = some none)
    : ∃ fd : FuncData, (∀ (s : Shared) (v : Value), BindsTo s fd ⟨[v], []⟩ [("script", v)]) ∧ ∀ base : Heap, K.In base → base.Ns mainGlobals mg → FnOk l.prog w K mg base CX0 6 fa fd ["script"] (spD K F_law) := by
  have e := hfa.symm.trans (PySem.W.mg_of X G a_law)
  cases e
  have T : Tx mg := ⟨PySem.W.mg_none_of X G z_int, PySem.W.mg_none_of X G z_abs, PySem.W.mg_none_of X G z_len, PySem.W.mg_none_of X G z_range, PySem.W.mg_none_of X G z_tuple, PySem.W.mg_of X G z_lcm, PySem.W.mg_none_of X G z_max, PySem.W.mg_none_of X G z_isinstance, PySem.W.mg_none_of X G z_str, PySem.W.mg_none_of X G z_bool, PySem.W.mg_none_of X G z_enumerate, PySem.W.mg_none_of X G z_sorted, PySem.W.mg_none_of X G z_sum, PySem.W.mg_of X G z_gcd, PySem.W.mg_none_of X G z_zip⟩
  have F__law_ledger := fun_mk (st := s__law_ledger) l__law_ledger c__law_ledger k__law_ledger
  have b__law_ledger := F__law_ledger.binds (ps := ["script"]) fun _ _ _ _ _ _ us hl => match us, hl with | [_], _ => rfl
  have F__law_entry := fun_mk (st := s__law_entry) l__law_entry c__law_entry k__law_entry
  have b__law_entry := F__law_entry.binds (ps := ["ledger", "many"]) fun _ _ _ _ _ _ us hl => match us, hl with | [_, _], _ => rfl
  have F__law_of := fun_mk (st := s__law_of) l__law_of c__law_of k__law_of
  have b__law_of := F__law_of.binds (ps := ["ledger", "rows"]) fun _ _ _ _ _ _ us hl => match us, hl with | [_, _], _ => rfl
  have F__law_inverse := fun_mk (st := s__law_inverse) l__law_inverse c__law_inverse k__law_inverse
  have b__law_inverse := F__law_inverse.binds (ps := ["number", "prime"]) fun _ _ _ _ _ _ us hl => match us, hl with | [_, _], _ => rfl
  have F_multiplied_rights := fun_mk (st := s_multiplied_rights) l_multiplied_rights c_multiplied_rights k_multiplied_rights
  have b_multiplied_rights := F_multiplied_rights.binds (ps := ["rights", "times"]) fun _ _ _ _ _ _ us hl => match us, hl with | [_, _], _ => rfl
  have F_both_books := fun_mk (st := s_both_books) l_both_books c_both_books k_both_books
  have b_both_books := F_both_books.binds (ps := ["one", "other"]) fun _ _ _ _ _ _ us hl => match us, hl with | [_, _], _ => rfl
  have F__law_divisor := fun_mk (st := s__law_divisor) l__law_divisor c__law_divisor k__law_divisor
  have b__law_divisor := F__law_divisor.binds (ps := ["one", "two"]) fun _ _ _ _ _ _ us hl => match us, hl with | [_, _], _ => rfl
  have F__law_low := fun_mk (st := s__law_low) l__law_low c__law_low k__law_low
  have b__law_low := F__law_low.binds (ps := ["over", "under"]) fun _ _ _ _ _ _ us hl => match us, hl with | [_, _], _ => rfl
  have F__law_same := fun_mk (st := s__law_same) l__law_same c__law_same k__law_same
  have b__law_same := F__law_same.binds (ps := ["told", "due"]) fun _ _ _ _ _ _ us hl => match us, hl with | [_, _], _ => rfl
  have F_side_of_mask := fun_mk (st := s_side_of_mask) l_side_of_mask c_side_of_mask k_side_of_mask
  have b_side_of_mask := F_side_of_mask.binds (ps := ["places", "mask"]) fun _ _ _ _ _ _ us hl => match us, hl with | [_, _], _ => rfl
  have F_sides_of := fun_mk (st := s_sides_of) l_sides_of c_sides_of k_sides_of
  have b_sides_of := F_sides_of.binds (ps := ["places"]) fun _ _ _ _ _ _ us hl => match us, hl with | [_], _ => rfl
  have F_sold_pairs := fun_mk (st := s_sold_pairs) l_sold_pairs c_sold_pairs k_sold_pairs
  have b_sold_pairs := F_sold_pairs.binds (ps := ["book"]) fun _ _ _ _ _ _ us hl => match us, hl with | [_], _ => rfl
  have F_sums_over := fun_mk (st := s_sums_over) l_sums_over c_sums_over k_sums_over
  have b_sums_over := F_sums_over.binds (ps := ["sides", "book"]) fun _ _ _ _ _ _ us hl => match us, hl with | [_, _], _ => rfl
  have F_quotient_of := fun_mk (st := s_quotient_of) l_quotient_of c_quotient_of k_quotient_of
  have b_quotient_of := F_quotient_of.binds (ps := ["over", "under"]) fun _ _ _ _ _ _ us hl => match us, hl with | [_, _], _ => rfl
  have F_gap_of := fun_mk (st := s_gap_of) l_gap_of c_gap_of k_gap_of
  have b_gap_of := F_gap_of.binds (ps := ["places", "one", "other"]) fun _ _ _ _ _ _ us hl => match us, hl with | [_, _, _], _ => rfl
  have F_never_less := fun_mk (st := s_never_less) l_never_less c_never_less k_never_less
  have b_never_less := F_never_less.binds (ps := ["places", "one", "other"]) fun _ _ _ _ _ _ us hl => match us, hl with | [_, _, _], _ => rfl
  have F__law_fine := fun_mk (st := s__law_fine) l__law_fine c__law_fine k__law_fine
  have b__law_fine := F__law_fine.binds (ps := ["ledger"]) fun _ _ _ _ _ _ us hl => match us, hl with | [_], _ => rfl
  have F__law_places := fun_mk (st := s__law_places) l__law_places c__law_places k__law_places
  have b__law_places := F__law_places.binds (ps := ["ledger", "many"]) fun _ _ _ _ _ _ us hl => match us, hl with | [_, _], _ => rfl
  have F__law_all_sides := fun_mk (st := s__law_all_sides) l__law_all_sides c__law_all_sides k__law_all_sides
  have b__law_all_sides := F__law_all_sides.binds (ps := ["places"]) fun _ _ _ _ _ _ us hl => match us, hl with | [_], _ => rfl
  have F__law_book := fun_mk (st := s__law_book) l__law_book c__law_book k__law_book
  have b__law_book := F__law_book.binds (ps := ["ledger", "places", "most"]) fun _ _ _ _ _ _ us hl => match us, hl with | [_, _, _], _ => rfl
  have F__law_sold := fun_mk (st := s__law_sold) l__law_sold c__law_sold k__law_sold
  have b__law_sold := F__law_sold.binds (ps := ["book", "sides"]) fun _ _ _ _ _ _ us hl => match us, hl with | [_, _], _ => rfl
  have F__law_gap := fun_mk (st := s__law_gap) l__law_gap c__law_gap k__law_gap
  have b__law_gap := F__law_gap.binds (ps := ["one", "other", "sides", "table"]) fun _ _ _ _ _ _ us hl => match us, hl with | [_, _, _, _], _ => rfl
  have F_sold_amount := fun_mk (st := s_sold_amount) l_sold_amount c_sold_amount k_sold_amount
  have b_sold_amount := F_sold_amount.binds (ps := ["book", "side"]) fun _ _ _ _ _ _ us hl => match us, hl with | [_, _], _ => rfl
  have F_sold_over := fun_mk (st := s_sold_over) l_sold_over c_sold_over k_sold_over
  have b_sold_over := F_sold_over.binds (ps := ["book", "side"]) fun _ _ _ _ _ _ us hl => match us, hl with | [_, _], _ => rfl
  have F__law_asked := fun_mk (st := s__law_asked) l__law_asked c__law_asked k__law_asked
  have b__law_asked := F__law_asked.binds (ps := ["places", "one", "other", "sides"]) fun _ _ _ _ _ _ us hl => match us, hl with | [_, _, _, _], _ => rfl
  have F__law_both := fun_mk (st := s__law_both) l__law_both c__law_both k__law_both
  have b__law_both := F__law_both.binds (ps := ["one", "other"]) fun _ _ _ _ _ _ us hl => match us, hl with | [_, _], _ => rfl
  have F_with_unit := fun_mk (st := s_with_unit) l_with_unit c_with_unit k_with_unit
  have b_with_unit := F_with_unit.binds (ps := ["book", "times"]) fun _ _ _ _ _ _ us hl => match us, hl with | [_, _], _ => rfl
  have F__law_turned := fun_mk (st := s__law_turned) l__law_turned c__law_turned k__law_turned
  have b__law_turned := F__law_turned.binds (ps := ["book"]) fun _ _ _ _ _ _ us hl => match us, hl with | [_], _ => rfl
  have F_law := fun_mk (st := s_law) l_law c_law k_law
  refine ⟨PySem.W.fnOf "law" "law" (defArgs s_law) (defBody s_law) (defScope s_law) .none kV_law dc_law pm_law an_law cd_law ct_law, fun s v => .of_eq rfl, fun base _ _ => ?_⟩
  have G__law_ledger : Fn l.prog w K mg base 1 "_law_ledger" K84.F__law_ledger := Fn.of (ok__law_ledger (P := l.prog) (w := w) (base := base) F__law_ledger T ) (PySem.W.mg_of X G a__law_ledger) k__law_ledger b__law_ledger
  have G__law_entry : Fn l.prog w K mg base 1 "_law_entry" K84.F__law_entry := Fn.of (ok__law_entry (P := l.prog) (w := w) (base := base) F__law_entry T ) (PySem.W.mg_of X G a__law_entry) k__law_entry b__law_entry
  have G__law_of : Fn l.prog w K mg base 2 "_law_of" K84.F__law_of := Fn.of (ok__law_of (P := l.prog) (w := w) (base := base) F__law_of T G__law_entry) (PySem.W.mg_of X G a__law_of) k__law_of b__law_of
  have G__law_inverse : Fn l.prog w K mg base 1 "_law_inverse" K84.F__law_inverse := Fn.of (ok__law_inverse (P := l.prog) (w := w) (base := base) F__law_inverse T ) (PySem.W.mg_of X G a__law_inverse) k__law_inverse b__law_inverse
  have G_multiplied_rights : Fn l.prog w K mg base 1 "multiplied_rights" K84.F_multiplied_rights := Fn.of (ok_multiplied_rights (P := l.prog) (w := w) (base := base) F_multiplied_rights T ) (PySem.W.mg_of X G a_multiplied_rights) k_multiplied_rights b_multiplied_rights
  have G_both_books : Fn l.prog w K mg base 2 "both_books" K84.F_both_books := Fn.of (ok_both_books (P := l.prog) (w := w) (base := base) F_both_books T G_multiplied_rights) (PySem.W.mg_of X G a_both_books) k_both_books b_both_books
  have G__law_divisor : Fn l.prog w K mg base 1 "_law_divisor" K84.F__law_divisor := Fn.of (ok__law_divisor (P := l.prog) (w := w) (base := base) F__law_divisor T ) (PySem.W.mg_of X G a__law_divisor) k__law_divisor b__law_divisor
  have G__law_low : Fn l.prog w K mg base 2 "_law_low" K84.F__law_low := Fn.of (ok__law_low (P := l.prog) (w := w) (base := base) F__law_low T G__law_divisor) (PySem.W.mg_of X G a__law_low) k__law_low b__law_low
  have G__law_same : Fn l.prog w K mg base 1 "_law_same" K84.F__law_same := Fn.of (ok__law_same (P := l.prog) (w := w) (base := base) F__law_same T ) (PySem.W.mg_of X G a__law_same) k__law_same b__law_same
  have G_side_of_mask : Fn l.prog w K mg base 1 "side_of_mask" K84.F_side_of_mask := Fn.of (ok_side_of_mask (P := l.prog) (w := w) (base := base) F_side_of_mask T ) (PySem.W.mg_of X G a_side_of_mask) k_side_of_mask b_side_of_mask
  have G_sides_of : Fn l.prog w K mg base 2 "sides_of" K84.F_sides_of := Fn.of (ok_sides_of (P := l.prog) (w := w) (base := base) F_sides_of T G_side_of_mask) (PySem.W.mg_of X G a_sides_of) k_sides_of b_sides_of
  have G_sold_pairs : Fn l.prog w K mg base 1 "sold_pairs" K84.F_sold_pairs := Fn.of (ok_sold_pairs (P := l.prog) (w := w) (base := base) F_sold_pairs T ) (PySem.W.mg_of X G a_sold_pairs) k_sold_pairs b_sold_pairs
  have G_sums_over : Fn l.prog w K mg base 2 "sums_over" K84.F_sums_over := Fn.of (ok_sums_over (P := l.prog) (w := w) (base := base) F_sums_over T G_sold_pairs) (PySem.W.mg_of X G a_sums_over) k_sums_over b_sums_over
  have G_quotient_of : Fn l.prog w K mg base 1 "quotient_of" K84.F_quotient_of := Fn.of (ok_quotient_of (P := l.prog) (w := w) (base := base) F_quotient_of T ) (PySem.W.mg_of X G a_quotient_of) k_quotient_of b_quotient_of
  have G_gap_of : Fn l.prog w K mg base 3 "gap_of" K84.F_gap_of := Fn.of (ok_gap_of (P := l.prog) (w := w) (base := base) F_gap_of T G_sides_of G_sums_over G_quotient_of) (PySem.W.mg_of X G a_gap_of) k_gap_of b_gap_of
  have G_never_less : Fn l.prog w K mg base 4 "never_less" K84.F_never_less := Fn.of (ok_never_less (P := l.prog) (w := w) (base := base) F_never_less T G_gap_of) (PySem.W.mg_of X G a_never_less) k_never_less b_never_less
  have G__law_fine : Fn l.prog w K mg base 5 "_law_fine" K84.F__law_fine := Fn.of (ok__law_fine (P := l.prog) (w := w) (base := base) F__law_fine T G__law_of G__law_entry G__law_inverse G_both_books G__law_low G__law_same G_gap_of G_never_less) (PySem.W.mg_of X G a__law_fine) k__law_fine b__law_fine
  have G__law_places : Fn l.prog w K mg base 3 "_law_places" K84.F__law_places := Fn.of (ok__law_places (P := l.prog) (w := w) (base := base) F__law_places T G__law_entry G__law_of) (PySem.W.mg_of X G a__law_places) k__law_places b__law_places
  have G__law_all_sides : Fn l.prog w K mg base 1 "_law_all_sides" K84.F__law_all_sides := Fn.of (ok__law_all_sides (P := l.prog) (w := w) (base := base) F__law_all_sides T ) (PySem.W.mg_of X G a__law_all_sides) k__law_all_sides b__law_all_sides
  have G__law_book : Fn l.prog w K mg base 3 "_law_book" K84.F__law_book := Fn.of (ok__law_book (P := l.prog) (w := w) (base := base) F__law_book T G__law_of G__law_entry) (PySem.W.mg_of X G a__law_book) k__law_book b__law_book
  have G__law_sold : Fn l.prog w K mg base 1 "_law_sold" K84.F__law_sold := Fn.of (ok__law_sold (P := l.prog) (w := w) (base := base) F__law_sold T ) (PySem.W.mg_of X G a__law_sold) k__law_sold b__law_sold
  have G__law_gap : Fn l.prog w K mg base 3 "_law_gap" K84.F__law_gap := Fn.of (ok__law_gap (P := l.prog) (w := w) (base := base) F__law_gap T G__law_low) (PySem.W.mg_of X G a__law_gap) k__law_gap b__law_gap
  have G_sold_amount : Fn l.prog w K mg base 1 "sold_amount" K84.F_sold_amount := Fn.of (ok_sold_amount (P := l.prog) (w := w) (base := base) F_sold_amount T ) (PySem.W.mg_of X G a_sold_amount) k_sold_amount b_sold_amount
  have G_sold_over : Fn l.prog w K mg base 2 "sold_over" K84.F_sold_over := Fn.of (ok_sold_over (P := l.prog) (w := w) (base := base) F_sold_over T G_quotient_of G_sold_amount) (PySem.W.mg_of X G a_sold_over) k_sold_over b_sold_over
  have G__law_asked : Fn l.prog w K mg base 5 "_law_asked" K84.F__law_asked := Fn.of (ok__law_asked (P := l.prog) (w := w) (base := base) F__law_asked T G__law_sold G__law_gap G__law_same G_gap_of G_never_less G_sold_over G__law_low) (PySem.W.mg_of X G a__law_asked) k__law_asked b__law_asked
  have G__law_both : Fn l.prog w K mg base 2 "_law_both" K84.F__law_both := Fn.of (ok__law_both (P := l.prog) (w := w) (base := base) F__law_both T G__law_divisor) (PySem.W.mg_of X G a__law_both) k__law_both b__law_both
  have G_with_unit : Fn l.prog w K mg base 2 "with_unit" K84.F_with_unit := Fn.of (ok_with_unit (P := l.prog) (w := w) (base := base) F_with_unit T G_multiplied_rights) (PySem.W.mg_of X G a_with_unit) k_with_unit b_with_unit
  have G__law_turned : Fn l.prog w K mg base 1 "_law_turned" K84.F__law_turned := Fn.of (ok__law_turned (P := l.prog) (w := w) (base := base) F__law_turned T ) (PySem.W.mg_of X G a__law_turned) k__law_turned b__law_turned
  exact ok_law (P := l.prog) (w := w) (base := base) F_law T G__law_ledger G__law_fine G__law_entry G__law_places G__law_all_sides G__law_same G_sides_of G__law_book G__law_asked G_both_books G__law_both G_gap_of G__law_gap G__law_sold G_never_less G__law_of G_with_unit G__law_low G__law_turned
theorem walk {l : PySem.W.OpenLaw} {q : Program} {loose : List Str} {XP : (Str → Option Value) → Heap → Prop} {YP : World → Heap → Prop} {d : DefRec} {K : Params → PySem.W.Frag} (hn : l.most = some 63) (hdf : d.params.defaults = []) (hY : ∀ (w : World) (h : Heap), YP w h → (K w.params).In h)
    (hF : ∀ (w : World) (mg : Str → Option Value) (fa : Addr) (h : Heap), (K w.params).In h → h.Ns mainGlobals mg → mg d.name = some (.ref fa) →
      ∃ fd : FuncData, (∀ (s : Shared) (u : Value), BindsTo s fd ⟨[u], []⟩ [("script", u)]) ∧ ∀ base : Heap, (K w.params).In base → base.Ns mainGlobals mg → FnOk l.prog w (K w.params) mg base CX0 6 fa fd ["script"] (spD (K w.params) F_law))
    (law : ∀ ns : List Int, ns.length ≤ 63 → ∃ S', F_law [.loc 0] [.ro (ns.map D.int)] = some (.bl true, S')) : PySem.W.WalkO q loose XP YP l.row.toRowW d [] (fun f vs => PySem.call f vs) :=
  walk_d F_law hn (by decide) hdf ⟨rfl, by decide, by decide⟩ hY hF law
end K84

open PySem PySem.W PyProof.Rows
set_option maxRecDepth 100000 in
set_option maxHeartbeats 0 in
theorem PySem.Challenge.cw_paidwhatever_k84_whole_gaps_cancel_holds : PySem.Challenge.rw_paidwhatever_k84_whole_gaps_cancel.Holds := by
  w_on; o_law; k_head; (case hw => w_witness2)
  k_fill
  refine K84.walk (l := PySem.Challenge.rw_paidwhatever_k84_whole_gaps_cancel) rfl rfl (fun w h Y => PySem.W.kIn_of Y) ?F K84.law_holds
  case F =>
    intro w mg fa h KX G hmg
    refine' K84.all_mk KX G hmg ?a__law_ledger ?l__law_ledger ?c__law_ledger ?k__law_ledger ?a__law_entry ?l__law_entry ?c__law_entry ?k__law_entry ?a__law_of ?l__law_of ?c__law_of ?k__law_of ?a__law_inverse ?l__law_inverse ?c__law_inverse ?k__law_inverse ?a_multiplied_rights ?l_multiplied_rights ?c_multiplied_rights ?k_multiplied_rights ?a_both_books ?l_both_books ?c_both_books ?k_both_books ?a__law_divisor ?l__law_divisor ?c__law_divisor ?k__law_divisor ?a__law_low ?l__law_low ?c__law_low ?k__law_low ?a__law_same ?l__law_same ?c__law_same ?k__law_same ?a_side_of_mask ?l_side_of_mask ?c_side_of_mask ?k_side_of_mask ?a_sides_of ?l_sides_of ?c_sides_of ?k_sides_of ?a_sold_pairs ?l_sold_pairs ?c_sold_pairs ?k_sold_pairs ?a_sums_over ?l_sums_over ?c_sums_over ?k_sums_over ?a_quotient_of ?l_quotient_of ?c_quotient_of ?k_quotient_of ?a_gap_of ?l_gap_of ?c_gap_of ?k_gap_of ?a_never_less ?l_never_less ?c_never_less ?k_never_less ?a__law_fine ?l__law_fine ?c__law_fine ?k__law_fine ?a__law_places ?l__law_places ?c__law_places ?k__law_places ?a__law_all_sides ?l__law_all_sides ?c__law_all_sides ?k__law_all_sides ?a__law_book ?l__law_book ?c__law_book ?k__law_book ?a__law_sold ?l__law_sold ?c__law_sold ?k__law_sold ?a__law_gap ?l__law_gap ?c__law_gap ?k__law_gap ?a_sold_amount ?l_sold_amount ?c_sold_amount ?k_sold_amount ?a_sold_over ?l_sold_over ?c_sold_over ?k_sold_over ?a__law_asked ?l__law_asked ?c__law_asked ?k__law_asked ?a__law_both ?l__law_both ?c__law_both ?k__law_both ?a_with_unit ?l_with_unit ?c_with_unit ?k_with_unit ?a__law_turned ?l__law_turned ?c__law_turned ?k__law_turned ?a_law ?l_law ?c_law ?k_law ?z_int ?z_abs ?z_len ?z_range ?z_tuple ?z_lcm ?z_max ?z_isinstance ?z_str ?z_bool ?z_enumerate ?z_sorted ?z_sum ?z_gcd ?z_zip
    (case a__law_ledger => k_is)
    (case l__law_ledger => k_is)
    (case c__law_ledger => k_is)
    (case k__law_ledger => k_is)
    (case a__law_entry => k_is)
    (case l__law_entry => k_is)
    (case c__law_entry => k_is)
    (case k__law_entry => k_is)
    (case a__law_of => k_is)
    (case l__law_of => k_is)
    (case c__law_of => k_is)
    (case k__law_of => k_is)
    (case a__law_inverse => k_is)
    (case l__law_inverse => k_is)
    (case c__law_inverse => k_is)
    (case k__law_inverse => k_is)
    (case a_multiplied_rights => k_is)
    (case l_multiplied_rights => k_is)
    (case c_multiplied_rights => k_is)
    (case k_multiplied_rights => k_is)
    (case a_both_books => k_is)
    (case l_both_books => k_is)
    (case c_both_books => k_is)
    (case k_both_books => k_is)
    (case a__law_divisor => k_is)
    (case l__law_divisor => k_is)
    (case c__law_divisor => k_is)
    (case k__law_divisor => k_is)
    (case a__law_low => k_is)
    (case l__law_low => k_is)
    (case c__law_low => k_is)
    (case k__law_low => k_is)
    (case a__law_same => k_is)
    (case l__law_same => k_is)
    (case c__law_same => k_is)
    (case k__law_same => k_is)
    (case a_side_of_mask => k_is)
    (case l_side_of_mask => k_is)
    (case c_side_of_mask => k_is)
    (case k_side_of_mask => k_is)
    (case a_sides_of => k_is)
    (case l_sides_of => k_is)
    (case c_sides_of => k_is)
    (case k_sides_of => k_is)
    (case a_sold_pairs => k_is)
    (case l_sold_pairs => k_is)
    (case c_sold_pairs => k_is)
    (case k_sold_pairs => k_is)
    (case a_sums_over => k_is)
    (case l_sums_over => k_is)
    (case c_sums_over => k_is)
    (case k_sums_over => k_is)
    (case a_quotient_of => k_is)
    (case l_quotient_of => k_is)
    (case c_quotient_of => k_is)
    (case k_quotient_of => k_is)
    (case a_gap_of => k_is)
    (case l_gap_of => k_is)
    (case c_gap_of => k_is)
    (case k_gap_of => k_is)
    (case a_never_less => k_is)
    (case l_never_less => k_is)
    (case c_never_less => k_is)
    (case k_never_less => k_is)
    (case a__law_fine => k_is)
    (case l__law_fine => k_is)
    (case c__law_fine => k_is)
    (case k__law_fine => k_is)
    (case a__law_places => k_is)
    (case l__law_places => k_is)
    (case c__law_places => k_is)
    (case k__law_places => k_is)
    (case a__law_all_sides => k_is)
    (case l__law_all_sides => k_is)
    (case c__law_all_sides => k_is)
    (case k__law_all_sides => k_is)
    (case a__law_book => k_is)
    (case l__law_book => k_is)
    (case c__law_book => k_is)
    (case k__law_book => k_is)
    (case a__law_sold => k_is)
    (case l__law_sold => k_is)
    (case c__law_sold => k_is)
    (case k__law_sold => k_is)
    (case a__law_gap => k_is)
    (case l__law_gap => k_is)
    (case c__law_gap => k_is)
    (case k__law_gap => k_is)
    (case a_sold_amount => k_is)
    (case l_sold_amount => k_is)
    (case c_sold_amount => k_is)
    (case k_sold_amount => k_is)
    (case a_sold_over => k_is)
    (case l_sold_over => k_is)
    (case c_sold_over => k_is)
    (case k_sold_over => k_is)
    (case a__law_asked => k_is)
    (case l__law_asked => k_is)
    (case c__law_asked => k_is)
    (case k__law_asked => k_is)
    (case a__law_both => k_is)
    (case l__law_both => k_is)
    (case c__law_both => k_is)
    (case k__law_both => k_is)
    (case a_with_unit => k_is)
    (case l_with_unit => k_is)
    (case c_with_unit => k_is)
    (case k_with_unit => k_is)
    (case a__law_turned => k_is)
    (case l__law_turned => k_is)
    (case c__law_turned => k_is)
    (case k__law_turned => k_is)
    (case a_law => k_is)
    (case l_law => k_is)
    (case c_law => k_is)
    (case k_law => k_is)
    (case z_int => k_is)
    (case z_abs => k_is)
    (case z_len => k_is)
    (case z_range => k_is)
    (case z_tuple => k_is)
    (case z_lcm => k_is)
    (case z_max => k_is)
    (case z_isinstance => k_is)
    (case z_str => k_is)
    (case z_bool => k_is)
    (case z_enumerate => k_is)
    (case z_sorted => k_is)
    (case z_sum => k_is)
    (case z_gcd => k_is)
    (case z_zip => k_is)
