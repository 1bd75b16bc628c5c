import PyProof.Rows.All
import Wide.All
import OpenK.AllK
import Wide.FinOn
import HandS.ForMost
import HandS.Wide
import HandS.WideBits
import HandS.Gcd
import HandS.TupAny
import HandS.Style
import HandS.Deep
import HandS.IsInst
import HandS.Codes
import HandS.NoneIn
import HandS.Zip
import HandS.Conv
import HandS.Flow
import KE.SortData
import HandS.Strs
import HandS.More
import KE.GoesEnum
import KE.GoesMore
import KE.GoesZip
import HandS.DictComp
import HandS.Small
import KE.KRevSl
import PySem.Challenge.RW_paidwhatever_k85_whole_forms_added
set_option Elab.async false
set_option linter.all false
set_option maxRecDepth 100000
set_option maxHeartbeats 4000000
/-! Dl: Python's values as plain data over the hand layer. D: a value; Cell: a thing that changes; Sto: all that changes, by number.
   SE X e f: the expression e does what the plain function f says; SS: a statement; one theorem a construct. -/
namespace Dl
open PySem PySem.Spec PyProof.Rows L2

/-- a value: plain, or the number of a cell; a list or a dict that nobody changes any more; a tuple whose whole object is known (tpu) -/
inductive D where
  | non | bl (b : Bool) | int (i : Int) | str (x : Str) | tup (l : List D) | loc (n : Nat)
  | lst (l : List D) | tpu (l : List D) | dkv (ks : List Key) (l : List D) | dtv (ks : List (List Key)) (l : List D) | rov (l : List D)

/-- what stands in a cell: a list, a list that is only read, a dict with keys of ints and texts, one with tuples of these -/
inductive Cell where
  | lst (l : List D) | ro (l : List D) | dk (l : List (Key × D)) | dt (l : List (List Key × D))
  | dkf (l : List (Key × D)) | dtf (l : List (List Key × D))
abbrev Sto := List Cell
abbrev Ctx := List (Option D)

mutual
def D.lo (n : Nat) : D → Bool
  | .tup l => D.los n l
  | .loc m => decide (m < n)
  | .non => true
  | .bl _ => true
  | .int _ => true
  | .str _ => true
  | .lst l => D.los n l
  | .tpu l => D.los n l
  | .dkv _ l => D.los n l
  | .dtv _ l => D.los n l
  | .rov l => D.los n l
def D.los (n : Nat) : List D → Bool
  | [] => true
  | d :: r => D.lo n d && D.los n r
end
def Cell.lo (n : Nat) : Cell → Bool
  | .lst l => D.los n l
  | .ro l => D.los n l
  | .dk l => D.los n (l.map (·.2))
  | .dt l => D.los n (l.map (·.2))
  | .dkf l => D.los n (l.map (·.2))
  | .dtf l => D.los n (l.map (·.2))

/-- a list that is never written -/
def RoL (K : PySem.W.Frag) (H : Hp) (a : Addr) (xs : List V) : Prop :=
  (∃ o, H a = some (.frz o (.lst xs))) ∨ ∃ (o : Obj) (its : Array Value) (n : Nat), K.lookup a = some o ∧ o.cls = .type "list" ∧ o.dict = none ∧ o.data = .seq its n ∧ its.size ≤ sizeLine ∧ Vals xs its.toList
mutual
/-- the value v stands for d -/
inductive RV (K : PySem.W.Frag) (H : Hp) (μ : List Addr) : D → V → Prop
  | non : RV K H μ .non .non
  | bl (b : Bool) : RV K H μ (.bl b) (.bl b)
  | int (i : Int) : RV K H μ (.int i) (.int i)
  | str (x : Str) : RV K H μ (.str x) (.str x)
  | tup {a : Addr} {vs : List V} {l : List D} : H a = some (.tup vs) → RVs K H μ l vs → RV K H μ (.tup l) (.ref a)
  | loc {a : Addr} {n : Nat} : μ[n]? = some a → RV K H μ (.loc n) (.ref a)
  | lst {a : Addr} {vs : List V} {l : List D} : H a = some (.lst vs) → a ∉ μ → RVs K H μ l vs → RV K H μ (.lst l) (.ref a)
  | tpu {a : Addr} {o : Obj} {vs : List V} {l : List D} : H a = some (.frz o (.tup vs)) → o.dict = none → RVs K H μ l vs → RV K H μ (.tpu l) (.ref a)
  | dkv {a : Addr} {ws : List (Key × V)} {ks : List Key} {l : List D} : Rd H a (.dK ws) → a ∉ μ → ks = ws.map (·.1) → RVs K H μ l (ws.map (·.2)) → RV K H μ (.dkv ks l) (.ref a)
  | dtv {a : Addr} {ws : List (List Key × V)} {ks : List (List Key)} {l : List D} : Rd H a (.dT ws) → a ∉ μ → ks = ws.map (·.1) → RVs K H μ l (ws.map (·.2)) → RV K H μ (.dtv ks l) (.ref a)
  | rov {a : Addr} {vs : List V} {l : List D} : RoL K H a vs → RVs K H μ l vs → RV K H μ (.rov l) (.ref a)
inductive RVs (K : PySem.W.Frag) (H : Hp) (μ : List Addr) : List D → List V → Prop
  | nil : RVs K H μ [] []
  | cons {d : D} {v : V} {l : List D} {vs : List V} : RV K H μ d v → RVs K H μ l vs → RVs K H μ (d :: l) (v :: vs)
end

/-- what is kept from one heap to a later one -/
structure Ext (K : PySem.W.Frag) (H : Hp) (μ : List Addr) (H' : Hp) (μ' : List Addr) : Prop where
  tup : ∀ a xs, H a = some (.tup xs) → H' a = some (.tup xs)
  pre : μ <+: μ'
  tpu : ∀ a o xs, H a = some (.frz o (.tup xs)) → H' a = some (.frz o (.tup xs))
  ro : ∀ a o xs, H a = some (.frz o (.lst xs)) → H' a = some (.frz o (.lst xs))
  lst : ∀ a xs, a ∉ μ → H a = some (.lst xs) → H' a = some (.lst xs)
  dk : ∀ a ws, a ∉ μ → Rd H a (.dK ws) → Rd H' a (.dK ws)
  dt : ∀ a ws, a ∉ μ → Rd H a (.dT ws) → Rd H' a (.dT ws)
  fr : ∀ a, a ∈ μ' → a ∈ μ ∨ H a = none
  dom : ∀ a, H' a = none → H a = none
  fz : ∀ a o u, a ∉ μ → H a = some (.frz o u) → H' a = some (.frz o u)
section
variable {K : PySem.W.Frag} {H H' H2 : Hp} {μ μ' μ2 : List Addr} {d : D} {v : V} {l : List D} {vs : List V}
theorem Ext.refl : Ext K H μ H μ := ⟨fun _ _ h => h, List.prefix_refl _, fun _ _ _ h => h, fun _ _ _ h => h, fun _ _ _ h => h, fun _ _ _ h => h, fun _ _ _ h => h, fun _ h => .inl h, fun _ h => h, fun _ _ _ _ h => h⟩
theorem rd_some {H : Hp} {a : Addr} {u : HO} (h : Rd H a u) : H a ≠ none := by
  rcases h with h | ⟨o, h⟩ <;> rw [h] <;> simp
theorem Ext.out (a : Ext K H μ H' μ') {p : Addr} (h : p ∉ μ) (hn : H p ≠ none) : p ∉ μ' := fun q => (a.fr p q).elim h hn
theorem Ext.trans (a : Ext K H μ H' μ') (b : Ext K H' μ' H2 μ2) : Ext K H μ H2 μ2 :=
  ⟨fun x xs h => b.tup x xs (a.tup x xs h), a.pre.trans b.pre, fun x o xs h => b.tpu x o xs (a.tpu x o xs h), fun x o xs h => b.ro x o xs (a.ro x o xs h),
   fun x xs n h => b.lst x xs (a.out n (by rw [h]; simp)) (a.lst x xs n h), fun x ws n h => b.dk x ws (a.out n (rd_some h)) (a.dk x ws n h), fun x ws n h => b.dt x ws (a.out n (rd_some h)) (a.dt x ws n h),
   fun x h => (b.fr x h).elim (fun q => a.fr x q) fun q => .inr (a.dom x q), fun x h => a.dom x (b.dom x h), fun x o u n h => b.fz x o u (a.out n (by rw [h]; simp)) (a.fz x o u n h)⟩
theorem Same.rd {a : Addr} {u : HO} (s : Same H H') (h : Rd H a u) : Rd H' a u := h.elim (fun q => .inl (s _ _ q)) fun ⟨o, q⟩ => .inr ⟨o, s _ _ q⟩
theorem Same.dom (s : Same H H') (a : Addr) (h : H' a = none) : H a = none := by
  cases e : H a with
  | none => rfl
  | some o => rw [s _ _ e] at h; cases h
theorem Ext.same (s : Same H H') : Ext K H μ H' μ := ⟨fun a xs h => s _ _ h, List.prefix_refl _, fun a o xs h => s _ _ h, fun a o xs h => s _ _ h, fun a xs _ h => s _ _ h, fun _ _ _ h => Same.rd s h, fun _ _ _ h => Same.rd s h, fun _ h => .inl h, Same.dom s, fun _ _ _ _ h => s _ _ h⟩
theorem Ext.grow (s : Same H H') (p : List Addr) (hp : ∀ a ∈ p, H a = none) : Ext K H μ H' (μ ++ p) := ⟨fun a xs h => s _ _ h, List.prefix_append _ _, fun a o xs h => s _ _ h, fun a o xs h => s _ _ h, fun a xs _ h => s _ _ h, fun _ _ _ h => Same.rd s h, fun _ _ _ h => Same.rd s h, fun a h => (List.mem_append.mp h).elim .inl fun q => .inr (hp a q), Same.dom s, fun _ _ _ _ h => s _ _ h⟩
theorem Ext.grow1 {p : Addr} (s : Same H H') (hp : H p = none) : Ext K H μ H' (μ ++ [p]) := .grow s [p] fun a h => by rw [List.mem_singleton.mp h]; exact hp
theorem Ext.cut (e : Ext K H μ H' μ') : Ext K H μ H' μ := { e with pre := List.prefix_refl _, fr := fun _ h => .inl h }
theorem Ext.cutp {p : Addr} (e : Ext K H μ H' μ') (hp : p ∈ μ') : Ext K H μ H' (μ ++ [p]) := { e with pre := List.prefix_append _ _, fr := fun a h => (List.mem_append.mp h).elim .inl fun q => by rw [List.mem_singleton.mp q]; exact e.fr p hp }
theorem RoL.ext {a : Addr} {xs : List V} (e : Ext K H μ H' μ') (h : RoL K H a xs) : RoL K H' a xs := h.elim (fun ⟨o, q⟩ => .inl ⟨o, e.ro _ _ _ q⟩) .inr
theorem get_pre {n : Nat} {a : Addr} (p : μ <+: μ') (h : μ[n]? = some a) : μ'[n]? = some a := by
  obtain ⟨t, rfl⟩ := p
  rw [List.getElem?_append_left (List.getElem?_eq_some_iff.mp h).1]
  exact h
mutual
theorem RV.ext (e : Ext K H μ H' μ') : ∀ {d : D} {v : V}, RV K H μ d v → RV K H' μ' d v
  | _, _, .non => .non
  | _, _, .bl b => .bl b
  | _, _, .int i => .int i
  | _, _, .str x => .str x
  | _, _, .tup h r => .tup (e.tup _ _ h) (RVs.ext e r)
  | _, _, .loc h => .loc (get_pre e.pre h)
  | _, _, .lst h n r => .lst (e.lst _ _ n h) (e.out n (by rw [h]; simp)) (RVs.ext e r)
  | _, _, .tpu h n r => .tpu (e.tpu _ _ _ h) n (RVs.ext e r)
  | _, _, .dkv h n q r => .dkv (e.dk _ _ n h) (e.out n (rd_some h)) q (RVs.ext e r)
  | _, _, .dtv h n q r => .dtv (e.dt _ _ n h) (e.out n (rd_some h)) q (RVs.ext e r)
  | _, _, .rov h r => .rov (h.ext e) (RVs.ext e r)
theorem RVs.ext (e : Ext K H μ H' μ') : ∀ {l : List D} {vs : List V}, RVs K H μ l vs → RVs K H' μ' l vs
  | _, _, .nil => .nil
  | _, _, .cons h r => .cons (RV.ext e h) (RVs.ext e r)
end
mutual
theorem RV.sub {n : Nat} {μ2 : List Addr} (hs : ∀ x, x ∈ μ2 → x ∈ μ) (hg : ∀ m, m < n → μ2[m]? = μ[m]?) : ∀ {d : D} {v : V}, RV K H μ d v → d.lo n = true → RV K H μ2 d v
  | _, _, .non, _ => .non
  | _, _, .bl b, _ => .bl b
  | _, _, .int i, _ => .int i
  | _, _, .str x, _ => .str x
  | _, _, .tup h r, b => .tup h (RVs.sub hs hg r (by simpa [D.lo] using b))
  | _, _, .loc (n := m) h, b => .loc (by
      have b' : m < n := by simpa [D.lo] using b
      rw [hg m b']
      exact h)
  | _, _, .lst h q r, b => .lst h (fun m => q (hs _ m)) (RVs.sub hs hg r (by simpa [D.lo] using b))
  | _, _, .tpu h q r, b => .tpu h q (RVs.sub hs hg r (by simpa [D.lo] using b))
  | _, _, .dkv h q e r, b => .dkv h (fun m => q (hs _ m)) e (RVs.sub hs hg r (by simpa [D.lo] using b))
  | _, _, .dtv h q e r, b => .dtv h (fun m => q (hs _ m)) e (RVs.sub hs hg r (by simpa [D.lo] using b))
  | _, _, .rov h r, b => .rov h (RVs.sub hs hg r (by simpa [D.lo] using b))
theorem RVs.sub {n : Nat} {μ2 : List Addr} (hs : ∀ x, x ∈ μ2 → x ∈ μ) (hg : ∀ m, m < n → μ2[m]? = μ[m]?) : ∀ {l : List D} {vs : List V}, RVs K H μ l vs → D.los n l = true → RVs K H μ2 l vs
  | _, _, .nil, _ => .nil
  | _, _, .cons h r, b => by
    have b' := by simpa [D.los] using b
    exact .cons (RV.sub hs hg h b'.1) (RVs.sub hs hg r b'.2)
end
theorem RV.trunc {n : Nat} (h : RV K H μ d v) (b : d.lo n = true) : RV K H (μ.take n) d v := h.sub (fun _ m => List.mem_of_mem_take m) (fun _ hm => List.getElem?_take_of_lt hm) b
theorem RVs.trunc {n : Nat} (h : RVs K H μ l vs) (b : D.los n l = true) : RVs K H (μ.take n) l vs := h.sub (fun _ m => List.mem_of_mem_take m) (fun _ hm => List.getElem?_take_of_lt hm) b
theorem RVs.length : ∀ {l : List D} {vs : List V}, RVs K H μ l vs → l.length = vs.length
  | _, _, .nil => rfl
  | _, _, .cons _ r => by simp [RVs.length r]
theorem RVs.get : ∀ {l : List D} {vs : List V} {i : Nat} {d : D}, RVs K H μ l vs → l[i]? = some d → ∃ v, vs[i]? = some v ∧ RV K H μ d v
  | _, _, _, _, .nil, e => by simp at e
  | _, _, 0, _, .cons h r, e => by simp at e; subst e; exact ⟨_, rfl, h⟩
  | _, _, i + 1, _, .cons h r, e => by
    obtain ⟨v, e1, e2⟩ := RVs.get (i := i) r (by simpa using e)
    exact ⟨v, by simpa using e1, e2⟩
theorem RVs.getV : ∀ {l : List D} {vs : List V} {i : Nat} {v : V}, RVs K H μ l vs → vs[i]? = some v → ∃ d, l[i]? = some d ∧ RV K H μ d v
  | _, _, _, _, .nil, e => by simp at e
  | _, _, 0, _, .cons h r, e => by simp at e; subst e; exact ⟨_, rfl, h⟩
  | _, _, i + 1, _, .cons h r, e => by
    obtain ⟨v, e1, e2⟩ := RVs.getV (i := i) r (by simpa using e)
    exact ⟨v, by simpa using e1, e2⟩
theorem RVs.append : ∀ {l m : List D} {vs ws : List V}, RVs K H μ l vs → RVs K H μ m ws → RVs K H μ (l ++ m) (vs ++ ws)
  | _, _, _, _, .nil, h => h
  | _, _, _, _, .cons a r, h => .cons a (RVs.append r h)
theorem RVs.take : ∀ (n : Nat) {l : List D} {vs : List V}, RVs K H μ l vs → RVs K H μ (l.take n) (vs.take n)
  | 0, _, _, _ => .nil
  | _ + 1, _, _, .nil => .nil
  | n + 1, _, _, .cons a r => .cons a (RVs.take n r)
theorem RVs.drop : ∀ (n : Nat) {l : List D} {vs : List V}, RVs K H μ l vs → RVs K H μ (l.drop n) (vs.drop n)
  | 0, _, _, h => h
  | _ + 1, _, _, .nil => .nil
  | n + 1, _, _, .cons a r => RVs.drop n r
theorem RVs.set {d : D} {v : V} (hd : RV K H μ d v) : ∀ {l : List D} {vs : List V} (i : Nat), RVs K H μ l vs → RVs K H μ (l.set i d) (vs.set i v)
  | _, _, _, .nil => .nil
  | _, _, 0, .cons _ r => .cons hd r
  | _, _, i + 1, .cons a r => .cons a (RVs.set hd i r)
theorem RVs.snoc {d : D} {v : V} (h : RVs K H μ l vs) (hd : RV K H μ d v) : RVs K H μ (l ++ [d]) (vs ++ [v]) := h.append (.cons hd .nil)
theorem RVs.reverse : ∀ {l : List D} {vs : List V}, RVs K H μ l vs → RVs K H μ l.reverse vs.reverse
  | _, _, .nil => .nil
  | _, _, .cons a r => by
    rw [List.reverse_cons, List.reverse_cons]
    exact (RVs.reverse r).snoc a
theorem RVs.rep (h : RVs K H μ l vs) : ∀ k : Nat, RVs K H μ (List.replicate k l).flatten (List.replicate k vs).flatten
  | 0 => .nil
  | k + 1 => by
    rw [List.replicate_succ, List.replicate_succ, List.flatten_cons, List.flatten_cons]
    exact h.append (RVs.rep h k)
theorem RVs.eraseIdx : ∀ {l : List D} {vs : List V} (i : Nat), RVs K H μ l vs → RVs K H μ (l.eraseIdx i) (vs.eraseIdx i)
  | _, _, _, .nil => .nil
  | _, _, 0, .cons _ r => r
  | _, _, i + 1, .cons a r => .cons a (RVs.eraseIdx i r)
theorem RVs.dropLast (h : RVs K H μ l vs) : RVs K H μ l.dropLast vs.dropLast := by
  rw [List.dropLast_eq_take, List.dropLast_eq_take, h.length]
  exact h.take _
end

/-! ### the store -/
abbrev RK (K : PySem.W.Frag) (H : Hp) (μ : List Addr) {κ : Type} : List (κ × D) → List (κ × V) → Prop := fun l ws => l.map (·.1) = ws.map (·.1) ∧ RVs K H μ (l.map (·.2)) (ws.map (·.2))
theorem RoL.seq {K : PySem.W.Frag} {H : Hp} {a : Addr} {xs : List V} (h : RoL K H a xs) : SqL K H a xs := by
  rcases h with ⟨o, h⟩ | h
  · exact .inl (.inr ⟨o, h⟩)
  · exact .inr h
theorem RoL.of {K : PySem.W.Frag} {H : Hp} {a : Addr} {xs : List V} (h : SqL K H a xs) (o : Only H) : RoL K H a xs := by
  rcases h with (h | h) | h
  · rcases o a with z | ⟨_, _, z⟩
    · rw [z] at h; cases h
    · rw [z] at h; cases h
  · exact .inl h
  · exact .inr h
def Cell.isRo : Cell → Bool
  | .ro _ => true
  | _ => false
def RC (K : PySem.W.Frag) (H : Hp) (μ : List Addr) (a : Addr) : Cell → Prop
  | .lst l => ∃ vs, H a = some (.lst vs) ∧ RVs K H μ l vs
  | .ro l => ∃ vs, RoL K H a vs ∧ RVs K H μ l vs
  | .dk l => ∃ ws, H a = some (.dK ws) ∧ RK K H μ l ws
  | .dt l => ∃ ws, H a = some (.dT ws) ∧ RK K H μ l ws
  | .dkf l => ∃ o ws, H a = some (.frz o (.dK ws)) ∧ RK K H μ l ws
  | .dtf l => ∃ o ws, H a = some (.frz o (.dT ws)) ∧ RK K H μ l ws
structure RS (K : PySem.W.Frag) (H : Hp) (μ : List Addr) (S : Sto) : Prop where
  len : μ.length = S.length
  inj : ∀ (n m : Nat) (a : Addr) (c c' : Cell), S[n]? = some c → S[m]? = some c' → c.isRo = false → c'.isRo = false → μ[n]? = some a → μ[m]? = some a → n = m
  cell : ∀ (n : Nat) (c : Cell), S[n]? = some c → ∃ a, μ[n]? = some a ∧ RC K H μ a c
structure RG (K : PySem.W.Frag) (H : Hp) (μ : List Addr) (Γ : Ctx) (σ : L2.St) : Prop where
  len : Γ.length = σ.length
  slot : ∀ (i : Nat) (d : D), Γ[i]? = some (some d) → ∃ v, σ[i]? = some (some v) ∧ RV K H μ d v
section
variable {K : PySem.W.Frag} {H H' : Hp} {μ μ' : List Addr} {Γ : Ctx} {σ : L2.St} {S : Sto} {a p : Addr} {c c' : Cell} {o o' : HO} {n : Nat}
theorem RG.ext (g : RG K H μ Γ σ) (e : Ext K H μ H' μ') : RG K H' μ' Γ σ := ⟨g.len, fun i d h => let ⟨v, h1, h2⟩ := g.slot i d h; ⟨v, h1, h2.ext e⟩⟩
theorem RoL.keep {xs : List V} (h : RoL K H a xs) (k : ∀ o, H a = some o → H' a = some o) : RoL K H' a xs := by
  rcases h with ⟨o, h⟩ | h
  · exact .inl ⟨o, k _ h⟩
  · exact .inr h
/-- the cell's content at a heap where its own object stands as it stood -/
theorem RC.keep (r : RC K H μ a c) (e : Ext K H μ H' μ') (h : ∀ o, H a = some o → H' a = some o) : RC K H' μ' a c := by
  cases c with
  | lst l => obtain ⟨vs, h1, h2⟩ := r; exact ⟨vs, h _ h1, h2.ext e⟩
  | ro l => obtain ⟨vs, h1, h2⟩ := r; exact ⟨vs, h1.keep h, h2.ext e⟩
  | dk l => obtain ⟨ws, h1, h2, h3⟩ := r; exact ⟨ws, h _ h1, h2, h3.ext e⟩
  | dt l => obtain ⟨ws, h1, h2, h3⟩ := r; exact ⟨ws, h _ h1, h2, h3.ext e⟩
  | dkf l => obtain ⟨o, ws, h1, h2, h3⟩ := r; exact ⟨o, ws, h _ h1, h2, h3.ext e⟩
  | dtf l => obtain ⟨o, ws, h1, h2, h3⟩ := r; exact ⟨o, ws, h _ h1, h2, h3.ext e⟩
theorem RC.some (r : RC K H μ a c) (h : c.isRo = false) : ∃ o, H a = some o ∧ (∀ xs, o ≠ .tup xs) ∧ (∀ ob xs, o ≠ .frz ob (.tup xs)) ∧ ∀ ob xs, o ≠ .frz ob (.lst xs) := by
  cases c with
  | lst l => obtain ⟨vs, h1, h2⟩ := r; exact ⟨_, h1, by simp, by simp, by simp⟩
  | ro l => exact absurd h (by simp [Cell.isRo])
  | dk l => obtain ⟨ws, h1, h2, h3⟩ := r; exact ⟨_, h1, by simp, by simp, by simp⟩
  | dt l => obtain ⟨ws, h1, h2, h3⟩ := r; exact ⟨_, h1, by simp, by simp, by simp⟩
  | dkf l => obtain ⟨o, ws, h1, h2, h3⟩ := r; exact ⟨_, h1, by simp, by simp, by simp⟩
  | dtf l => obtain ⟨o, ws, h1, h2, h3⟩ := r; exact ⟨_, h1, by simp, by simp, by simp⟩
/-- the heap grew by things that no cell tells of -/
theorem RS.same (r : RS K H μ S) (s : Same H H') : RS K H' μ S := ⟨r.len, r.inj, fun n c h => let ⟨a, h1, h2⟩ := r.cell n c h; ⟨a, h1, h2.keep (.same s) fun o => s _ o⟩⟩
theorem same_upd (h : H p = none) : Same H (upd H p o) := fun b u e => by rw [upd_ne (ne_of_none e h)]; exact e
/-- the address of a cell -/
theorem RS.at (r : RS K H μ S) {n : Nat} (h : μ[n]? = some a) : ∃ c, S[n]? = some c ∧ RC K H μ a c := by
  have hl := (List.getElem?_eq_some_iff.mp h).1
  rw [r.len] at hl
  obtain ⟨b, h1, h2⟩ := r.cell n S[n] (List.getElem?_eq_getElem hl)
  rw [h] at h1; cases h1
  exact ⟨_, List.getElem?_eq_getElem hl, h2⟩
theorem RS.atc (r : RS K H μ S) (h : μ[n]? = some a) (hc : S[n]? = some c) : RC K H μ a c := by
  obtain ⟨b, h1, h2⟩ := r.cell n c hc
  rw [h] at h1; cases h1
  exact h2
/-- a new cell -/
theorem RS.alloc (r : RS K H μ S) (h : H p = none) (hc : RC K (upd H p o) (μ ++ [p]) p c) : RS K (upd H p o) (μ ++ [p]) (S ++ [c]) := by
  refine ⟨by simp [r.len], fun n m a c1 c2 h1 h2 i1 i2 e1 e2 => ?_, fun n c1 h1 => ?_⟩
  · have key : ∀ (n : Nat) (c1 : Cell), (S ++ [c])[n]? = some c1 → c1.isRo = false → (μ ++ [p])[n]? = some a → (n < S.length ∧ S[n]? = some c1 ∧ μ[n]? = some a ∧ a ≠ p) ∨ (n = S.length ∧ a = p) := fun n c1 h1 i1 e1 => by
      by_cases hn : n < S.length
      · rw [List.getElem?_append_left hn] at h1
        rw [List.getElem?_append_left (by rw [r.len]; exact hn)] at e1
        obtain ⟨o1, q, _⟩ := (r.atc e1 h1).some i1
        exact .inl ⟨hn, h1, e1, ne_of_none q h⟩
      · have h3 := (List.getElem?_eq_some_iff.mp h1).1
        rw [List.length_append, List.length_singleton] at h3
        have h4 : n = S.length := by omega
        subst h4
        have h5 : (μ ++ [p])[S.length]? = Option.some p := by rw [← r.len]; simp
        rw [h5] at e1
        exact .inr ⟨rfl, (Option.some.inj e1).symm⟩
    rcases key n c1 h1 i1 e1 with ⟨l1, q1, q2, q3⟩ | ⟨l1, q3⟩
    · rcases key m c2 h2 i2 e2 with ⟨l2, q4, q5, _⟩ | ⟨_, q6⟩
      · exact r.inj n m a c1 c2 q1 q4 i1 i2 q2 q5
      · exact absurd q6 q3
    · rcases key m c2 h2 i2 e2 with ⟨l2, q4, q5, q6⟩ | ⟨l2, _⟩
      · exact absurd q3 q6
      · rw [l1, l2]
  · by_cases hn : n < S.length
    · rw [List.getElem?_append_left hn] at h1
      obtain ⟨a, e1, e2⟩ := r.cell n c1 h1
      exact ⟨a, by rw [List.getElem?_append_left (by rw [r.len]; exact hn)]; exact e1, e2.keep (.grow1 (same_upd h) h) fun o => same_upd h _ o⟩
    · have h3 := (List.getElem?_eq_some_iff.mp h1).1
      rw [List.length_append, List.length_singleton] at h3
      have h4 : n = S.length := by omega
      subst h4
      rw [List.getElem?_append_right (Nat.le_refl _), Nat.sub_self] at h1
      cases h1
      exact ⟨p, by rw [← r.len]; simp, hc⟩
theorem nm_ne {a p : Addr} {μ : List Addr} (n : a ∉ μ) (hm : p ∈ μ) : a ≠ p := fun w => n (by rw [w]; exact hm)
theorem ext_upd (h1 : H p = some o) (ht : ∀ xs, o ≠ .tup xs) (hf : ∀ ob xs, o ≠ .frz ob (.tup xs)) (hl : ∀ ob xs, o ≠ .frz ob (.lst xs)) (hm : p ∈ μ) : Ext K H μ (upd H p o') μ := ⟨fun a xs q => by
  have ne : a ≠ p := fun w => by
    subst w
    rw [h1] at q; cases q
    exact ht _ rfl
  rw [upd_ne ne]; exact q, List.prefix_refl _, fun a ob xs q => by
  have ne : a ≠ p := fun w => by
    subst w
    rw [h1] at q; cases q
    exact hf _ _ rfl
  rw [upd_ne ne]; exact q, fun a ob xs q => by
  have ne : a ≠ p := fun w => by
    subst w
    rw [h1] at q; cases q
    exact hl _ _ rfl
  rw [upd_ne ne]; exact q, fun a xs n q => by
  rw [upd_ne (nm_ne n hm)]; exact q, fun a xs n q => by
  unfold Rd
  rw [upd_ne (nm_ne n hm)]; exact q, fun a xs n q => by
  unfold Rd
  rw [upd_ne (nm_ne n hm)]; exact q, fun _ h => .inl h, fun a q => by
  by_cases w : a = p
  · subst w; rw [upd_same] at q; cases q
  · rw [upd_ne w] at q; exact q, fun a o u n q => by
  rw [upd_ne (nm_ne n hm)]; exact q⟩
/-- a cell written -/
theorem RS.write (r : RS K H μ S) (hn : μ[n]? = some p) (hS : S[n]? = some c) (hr : c.isRo = false) (hr' : c'.isRo = false) (hc : RC K (upd H p o') μ p c') : RS K (upd H p o') μ (S.set n c') ∧ Ext K H μ (upd H p o') μ := by
  obtain ⟨o, q1, q2, q3, q4⟩ := (r.atc hn hS).some hr
  have e : Ext K H μ (upd H p o') μ := ext_upd q1 q2 q3 q4 (List.mem_of_getElem? hn)
  have hl := (List.getElem?_eq_some_iff.mp hS).1
  have rd : ∀ (m : Nat) (c1 : Cell), (S.set n c')[m]? = Option.some c1 → c1.isRo = false → ∃ c2, S[m]? = Option.some c2 ∧ c2.isRo = false := fun m c1 h i => by
    by_cases hm : n = m
    · subst hm; exact ⟨c, hS, hr⟩
    · rw [List.getElem?_set_ne hm] at h; exact ⟨c1, h, i⟩
  refine ⟨⟨by simp [r.len], fun m1 m2 a c1 c2 h1 h2 i1 i2 e1 e2 => ?_, fun m c1 h1 => ?_⟩, e⟩
  · obtain ⟨d1, x1, y1⟩ := rd m1 c1 h1 i1
    obtain ⟨d2, x2, y2⟩ := rd m2 c2 h2 i2
    exact r.inj m1 m2 a d1 d2 x1 x2 y1 y2 e1 e2
  · by_cases hm : n = m
    · subst hm
      rw [List.getElem?_set_self hl] at h1
      cases h1
      exact ⟨p, hn, hc⟩
    · rw [List.getElem?_set_ne hm] at h1
      obtain ⟨a, e1, e2⟩ := r.cell m c1 h1
      refine ⟨a, e1, ?_⟩
      by_cases hro : c1.isRo = true
      · cases c1 with
        | ro l =>
          obtain ⟨vs, z1, z2⟩ := e2
          refine ⟨vs, ?_, z2.ext e⟩
          rcases z1 with ⟨ob, z1⟩ | z1
          · have ne : a ≠ p := fun w => by
              subst w
              rw [q1] at z1; cases z1
              have w2 := r.atc hn hS
              cases c with
              | ro l => exact absurd hr (by simp [Cell.isRo])
              | lst l => obtain ⟨vs, h1, h2⟩ := w2; rw [q1] at h1; cases h1
              | dk l => obtain ⟨ws, h1, h2, h3⟩ := w2; rw [q1] at h1; cases h1
              | dt l => obtain ⟨ws, h1, h2, h3⟩ := w2; rw [q1] at h1; cases h1
              | dkf l => obtain ⟨o, ws, h1, h2, h3⟩ := w2; rw [q1] at h1; cases h1
              | dtf l => obtain ⟨o, ws, h1, h2, h3⟩ := w2; rw [q1] at h1; cases h1
            exact .inl ⟨ob, by rw [upd_ne ne]; exact z1⟩
          · exact .inr z1
        | _ => exact absurd hro (by simp [Cell.isRo])
      · have ne : a ≠ p := fun w => by
          subst w
          exact hm (r.inj n m a c c1 hS h1 hr (by simpa using hro) hn e1)
        exact e2.keep e fun o => fun z => by rw [upd_ne ne]; exact z
theorem RC.sub {μ2 : List Addr} (hs : ∀ x, x ∈ μ2 → x ∈ μ) (hg : ∀ m, m < n → μ2[m]? = μ[m]?) (r : RC K H μ a c) (h : c.lo n = true) : RC K H μ2 a c := by
  cases c with
  | lst l => obtain ⟨vs, h1, h2⟩ := r; exact ⟨vs, h1, h2.sub hs hg h⟩
  | ro l => obtain ⟨vs, h1, h2⟩ := r; exact ⟨vs, h1, h2.sub hs hg h⟩
  | dk l => obtain ⟨ws, h1, h2, h3⟩ := r; exact ⟨ws, h1, h2, h3.sub hs hg h⟩
  | dt l => obtain ⟨ws, h1, h2, h3⟩ := r; exact ⟨ws, h1, h2, h3.sub hs hg h⟩
  | dkf l => obtain ⟨o, ws, h1, h2, h3⟩ := r; exact ⟨o, ws, h1, h2, h3.sub hs hg h⟩
  | dtf l => obtain ⟨o, ws, h1, h2, h3⟩ := r; exact ⟨o, ws, h1, h2, h3.sub hs hg h⟩
theorem RC.trunc (r : RC K H μ a c) (h : c.lo n = true) : RC K H (μ.take n) a c := r.sub (fun _ m => List.mem_of_mem_take m) (fun _ hm => List.getElem?_take_of_lt hm) h
/-- the cells from n on forgotten: nothing that stays speaks of them -/
theorem RS.trunc (r : RS K H μ S) (h : (S.take n).all (Cell.lo n) = true) : RS K H (μ.take n) (S.take n) := by
  have cut : ∀ {α : Type} (l : List α) (m : Nat) (x : α), (l.take n)[m]? = Option.some x → l[m]? = Option.some x := fun l m x h => by
    by_cases hm : m < n
    · rw [List.getElem?_take_of_lt hm] at h; exact h
    · rw [List.getElem?_eq_none (by rw [List.length_take]; omega)] at h; cases h
  refine ⟨by simp [r.len], fun m1 m2 a c1 c2 h1 h2 i1 i2 e1 e2 => r.inj m1 m2 a c1 c2 (cut _ _ _ h1) (cut _ _ _ h2) i1 i2 (cut _ _ _ e1) (cut _ _ _ e2), fun m c1 h1 => ?_⟩
  obtain ⟨a, e1, e2⟩ := r.cell m c1 (cut _ _ _ h1)
  have hm : m < n := by
    have := (List.getElem?_eq_some_iff.mp h1).1
    rw [List.length_take] at this; omega
  exact ⟨a, by rw [List.getElem?_take_of_lt hm]; exact e1, e2.trunc (List.all_eq_true.mp h c1 (List.mem_of_getElem? h1))⟩
end
/-- a dict that nobody changes any more is locked -/
theorem relock {K : PySem.W.Frag} {H : Hp} {μ : List Addr} {S : Sto} {d : Addr} {u : HO} (o : Obj) (r : RS K H μ S) (n : d ∉ μ) (h : H d = some u) (hu : (∃ ws, u = .dK ws) ∨ ∃ ws, u = .dT ws) :
    RS K (upd H d (.frz o u)) μ S ∧ Ext K H μ (upd H d (.frz o u)) μ := by
  have ne : ∀ {a : Addr} {v : HO}, H a = some v → v ≠ u → a ≠ d := fun q w e => by
    subst e
    rw [h] at q
    cases q
    exact w rfl
  have e : Ext K H μ (upd H d (.frz o u)) μ := by
    have k1 : ∀ xs, u ≠ .lst xs := by rcases hu with ⟨ws, rfl⟩ | ⟨ws, rfl⟩ <;> simp
    have k2 : ∀ xs, u ≠ .tup xs := by rcases hu with ⟨ws, rfl⟩ | ⟨ws, rfl⟩ <;> simp
    have k3 : ∀ o v, u ≠ .frz o v := by rcases hu with ⟨ws, rfl⟩ | ⟨ws, rfl⟩ <;> simp
    refine ⟨fun a xs q => by rw [upd_ne (ne q (k2 xs).symm)]; exact q, List.prefix_refl _, fun a ob xs q => by rw [upd_ne (ne q (k3 _ _).symm)]; exact q, fun a ob xs q => by rw [upd_ne (ne q (k3 _ _).symm)]; exact q,
      fun a xs _ q => by rw [upd_ne (ne q (k1 xs).symm)]; exact q, fun a ws _ q => ?_, fun a ws _ q => ?_, fun _ h => .inl h, fun a q => ?_, fun a ob v _ q => by rw [upd_ne (ne q (k3 _ _).symm)]; exact q⟩
    · by_cases ha : a = d
      · subst ha
        rcases q with q | ⟨ob, q⟩
        · rw [h] at q; cases q; exact .inr ⟨o, upd_same⟩
        · rw [h] at q; cases q; exact absurd rfl (k3 _ _)
      · unfold Rd; rw [upd_ne ha]; exact q
    · by_cases ha : a = d
      · subst ha
        rcases q with q | ⟨ob, q⟩
        · rw [h] at q; cases q; exact .inr ⟨o, upd_same⟩
        · rw [h] at q; cases q; exact absurd rfl (k3 _ _)
      · unfold Rd; rw [upd_ne ha]; exact q
    · by_cases ha : a = d
      · subst ha; rw [upd_same] at q; cases q
      · rw [upd_ne ha] at q; exact q
  refine ⟨⟨r.len, r.inj, fun m c hc => ?_⟩, e⟩
  obtain ⟨a, h1, h2⟩ := r.cell m c hc
  exact ⟨a, h1, h2.keep e fun ob q => by rw [upd_ne fun w => n (by rw [← w]; exact List.mem_of_getElem? h1)]; exact q⟩
/-! ### what is read as a list, a tuple, a dict -/
section
variable {K : PySem.W.Frag} {H : Hp} {μ : List Addr} {S : Sto} {d : D} {v : V} {l : List D}
def rdL (S : Sto) : D → Option (List D)
  | .lst l => some l
  | .rov l => some l
  | .loc n => match S[n]? with
    | some (.lst l) => some l
    | some (.ro l) => some l
    | _ => none
  | _ => none
def rdT : D → Option (List D)
  | .tup l => some l
  | .tpu l => some l
  | _ => none
theorem rdL_of (r : RS K H μ S) (rv : RV K H μ d v) (h : rdL S d = some l) : ∃ a vs, v = .ref a ∧ SqL K H a vs ∧ RVs K H μ l vs := by
  cases rv with
  | lst h1 h2 h3 => cases h; exact ⟨_, _, rfl, SqL.of h1, h3⟩
  | rov h1 h3 => cases h; exact ⟨_, _, rfl, h1.seq, h3⟩
  | @loc a n h1 =>
    simp only [rdL] at h
    split at h
    · rename_i l e
      cases h
      obtain ⟨vs, q1, q2⟩ := r.atc h1 e
      exact ⟨_, _, rfl, SqL.of q1, q2⟩
    · rename_i l e
      cases h
      obtain ⟨vs, q1, q2⟩ := r.atc h1 e
      exact ⟨_, _, rfl, q1.seq, q2⟩
    · cases h
  | _ => cases h
theorem rdT_of (rv : RV K H μ d v) (h : rdT d = some l) : ∃ a vs, v = .ref a ∧ SqT K H a vs ∧ RVs K H μ l vs := by
  cases rv with
  | tup h1 h2 => cases h; exact ⟨_, _, rfl, SqT.of h1, h2⟩
  | tpu h1 h2 h3 => cases h; exact ⟨_, _, rfl, .inl (.inr ⟨_, h1⟩), h3⟩
  | _ => cases h
/-- a list that may be a new one's part: its own object is a list's -/
def rdX (S : Sto) : D → Option (List D)
  | .lst l => some l
  | .loc n => match S[n]? with
    | some (.lst l) => some l
    | _ => none
  | _ => none
theorem rdX_of (r : RS K H μ S) (rv : RV K H μ d v) (h : rdX S d = some l) : ∃ a vs, v = .ref a ∧ H a = some (.lst vs) ∧ RVs K H μ l vs := by
  cases rv with
  | lst h1 h2 h3 => cases h; exact ⟨_, _, rfl, h1, h3⟩
  | @loc a n h1 =>
    simp only [rdX] at h
    split at h
    · rename_i l e
      cases h
      obtain ⟨vs, q1, q2⟩ := r.atc h1 e
      exact ⟨_, _, rfl, q1, q2⟩
    · cases h
  | _ => cases h
/-- a dict, by its pairs -/
def rdK (S : Sto) : D → Option (List (Key × D))
  | .dkv ks l => some (ks.zip l)
  | .loc n => match S[n]? with
    | some (.dk l) => some l
    | some (.dkf l) => some l
    | _ => none
  | _ => none
def rdDT (S : Sto) : D → Option (List (List Key × D))
  | .dtv ks l => some (ks.zip l)
  | .loc n => match S[n]? with
    | some (.dt l) => some l
    | some (.dtf l) => some l
    | _ => none
  | _ => none
theorem zip_fst {α β : Type} : ∀ {l : List α} {m : List β}, l.length = m.length → (l.zip m).map (·.1) = l
  | [], [], _ => rfl
  | x :: l, y :: m, h => by rw [List.zip_cons_cons, List.map_cons, zip_fst (by simpa using h)]
theorem zip_snd {α β : Type} : ∀ {l : List α} {m : List β}, l.length = m.length → (l.zip m).map (·.2) = m
  | [], [], _ => rfl
  | x :: l, y :: m, h => by rw [List.zip_cons_cons, List.map_cons, zip_snd (by simpa using h)]
theorem RK.zip {κ : Type} {ks : List κ} {ws : List (κ × V)} (e : ks = ws.map (·.1)) (r : RVs K H μ l (ws.map (·.2))) : RK K H μ (ks.zip l) ws := by
  have hl := r.length
  have : ks.length = l.length := by rw [hl, e]; simp
  refine ⟨by rw [zip_fst this, e], by rw [zip_snd this]; exact r⟩
theorem rdK_of {l : List (Key × D)} (r : RS K H μ S) (rv : RV K H μ d v) (h : rdK S d = some l) : ∃ a ws, v = .ref a ∧ Rd H a (.dK ws) ∧ RK K H μ l ws := by
  cases rv with
  | dkv h1 h2 h3 h4 => cases h; exact ⟨_, _, rfl, h1, RK.zip h3 h4⟩
  | @loc a n h1 =>
    simp only [rdK] at h
    split at h
    · rename_i l e
      cases h
      obtain ⟨ws, q1, q2⟩ := r.atc h1 e
      exact ⟨_, _, rfl, .inl q1, q2⟩
    · rename_i l e
      cases h
      obtain ⟨o, ws, q1, q2⟩ := r.atc h1 e
      exact ⟨_, _, rfl, .inr ⟨o, q1⟩, q2⟩
    · cases h
  | _ => cases h
theorem rdDT_of {l : List (List Key × D)} (r : RS K H μ S) (rv : RV K H μ d v) (h : rdDT S d = some l) : ∃ a ws, v = .ref a ∧ Rd H a (.dT ws) ∧ RK K H μ l ws := by
  cases rv with
  | dtv h1 h2 h3 h4 => cases h; exact ⟨_, _, rfl, h1, RK.zip h3 h4⟩
  | @loc a n h1 =>
    simp only [rdDT] at h
    split at h
    · rename_i l e
      cases h
      obtain ⟨ws, q1, q2⟩ := r.atc h1 e
      exact ⟨_, _, rfl, .inl q1, q2⟩
    · rename_i l e
      cases h
      obtain ⟨o, ws, q1, q2⟩ := r.atc h1 e
      exact ⟨_, _, rfl, .inr ⟨o, q1⟩, q2⟩
    · cases h
  | _ => cases h
end
end Dl

/-! DlE: expressions, by what they compute -/
namespace Dl
open PySem PySem.Spec PyProof.Rows L2

abbrev FE := Ctx → Sto → Option (D × Sto)
abbrev FT := Ctx → Sto → Option (Bool × Sto)
abbrev FA := Ctx → Sto → Option (List D × Sto)
/-- an operation upon two values -/
abbrev O2 := D → D → Sto → Option (D × Sto)
/-- a call upon values -/
abbrev FF := List D → Sto → Option (D × Sto)

/-- what is wanted behind: wherever the store stands so and the value is d -/
def Kt (K : PySem.W.Frag) (H : Hp) (μ : List Addr) (S' : Sto) (d : D) (Q : VK) : Prop := ∀ v H' μ', RS K H' μ' S' → Ext K H μ H' μ' → RV K H' μ' d v → Q v H'
def KtB (K : PySem.W.Frag) (H : Hp) (μ : List Addr) (S' : Sto) (b : Bool) (Q : Bool → Hp → Prop) : Prop := ∀ H' μ', RS K H' μ' S' → Ext K H μ H' μ' → Q b H'
def KtA (K : PySem.W.Frag) (H : Hp) (μ : List Addr) (S' : Sto) (ds : List D) (Q : List V → Hp → Prop) : Prop := ∀ vs H' μ', RS K H' μ' S' → Ext K H μ H' μ' → RVs K H' μ' ds vs → Q vs H'
theorem Kt.after {K : PySem.W.Frag} {H H1 : Hp} {μ μ1 : List Addr} {S' : Sto} {d : D} {Q : VK} (k : Kt K H μ S' d Q) (e : Ext K H μ H1 μ1) : Kt K H1 μ1 S' d Q := fun v H' μ' r e' rv => k v H' μ' r (e.trans e') rv
theorem KtB.after {K : PySem.W.Frag} {H H1 : Hp} {μ μ1 : List Addr} {S' : Sto} {d : Bool} {Q : Bool → Hp → Prop} (k : KtB K H μ S' d Q) (e : Ext K H μ H1 μ1) : KtB K H1 μ1 S' d Q := fun H' μ' r e' => k H' μ' r (e.trans e')
theorem KtA.after {K : PySem.W.Frag} {H H1 : Hp} {μ μ1 : List Addr} {S' : Sto} {d : List D} {Q : List V → Hp → Prop} (k : KtA K H μ S' d Q) (e : Ext K H μ H1 μ1) : KtA K H1 μ1 S' d Q := fun v H' μ' r e' rv => k v H' μ' r (e.trans e') rv

def tD (K : PySem.W.Frag) (f : FE) : TE := fun σ H Q => ∃ Γ S μ d S', RG K H μ Γ σ ∧ RS K H μ S ∧ f Γ S = some (d, S') ∧ Kt K H μ S' d Q
def tT (K : PySem.W.Frag) (f : FT) : TT := fun σ H Q => ∃ Γ S μ d S', RG K H μ Γ σ ∧ RS K H μ S ∧ f Γ S = some (d, S') ∧ KtB K H μ S' d Q
def tA (K : PySem.W.Frag) (f : FA) : TA := fun σ H Q => ∃ Γ S μ d S', RG K H μ Γ σ ∧ RS K H μ S ∧ f Γ S = some (d, S') ∧ KtA K H μ S' d Q
/-- e does what f says -/
def SE (X : Cx) (e : Expr) (f : FE) : Prop := PE X e (tD X.K f)
def ST (X : Cx) (e : Expr) (f : FT) : Prop := PT X e (tT X.K f)
def SA (X : Cx) (es : List Expr) (f : FA) : Prop := PA X es (tA X.K f)

theorem imp_e {X : Cx} {e : Expr} {t t' : TE} (h : PE X e t) (i : ∀ σ H Q, t' σ H Q → t σ H Q) : PE X e t' := ⟨fun pins s σ H Q I q => h.run pins s σ H Q I (i σ H Q q)⟩
theorem imp_t {X : Cx} {e : Expr} {t t' : TT} (h : PT X e t) (i : ∀ σ H Q, t' σ H Q → t σ H Q) : PT X e t' := ⟨fun pins s σ H Q I q => h.run pins s σ H Q I (i σ H Q q)⟩
theorem imp_w {X : Cx} {e : Expr} {t t' : TT} (h : PW X e t) (i : ∀ σ H Q, t' σ H Q → t σ H Q) : PW X e t' := ⟨fun w pins s σ H Q I q => h.run w pins s σ H Q I (i σ H Q q)⟩
theorem imp_a {X : Cx} {e : List Expr} {t t' : TA} (h : PA X e t) (i : ∀ σ H Q, t' σ H Q → t σ H Q) : PA X e t' := ⟨fun pos pins s σ H Q I q => h.run pos pins s σ H Q I (i σ H Q q)⟩
section
variable {X : Cx} {e a b c : Expr} {es rest : List Expr} {f fa fb fc : FE} {g ga gb : FT} {pos pos' p : Pos}
theorem SE.mk {t : TE} (h : PE X e t) (i : ∀ σ H Q Γ S μ d S', RG X.K H μ Γ σ → RS X.K H μ S → f Γ S = some (d, S') → Kt X.K H μ S' d Q → t σ H Q) : SE X e f :=
  imp_e h fun σ H Q ⟨Γ, S, μ, d, S', h1, h2, h3, h4⟩ => i σ H Q Γ S μ d S' h1 h2 h3 h4
theorem ST.mk {t : TT} (h : PT X e t) (i : ∀ σ H Q Γ S μ d S', RG X.K H μ Γ σ → RS X.K H μ S → g Γ S = some (d, S') → KtB X.K H μ S' d Q → t σ H Q) : ST X e g :=
  imp_t h fun σ H Q ⟨Γ, S, μ, d, S', h1, h2, h3, h4⟩ => i σ H Q Γ S μ d S' h1 h2 h3 h4
theorem SA.mk {t : TA} {g : FA} (h : PA X es t) (i : ∀ σ H Q Γ S μ d S', RG X.K H μ Γ σ → RS X.K H μ S → g Γ S = some (d, S') → KtA X.K H μ S' d Q → t σ H Q) : SA X es g :=
  imp_a h fun σ H Q ⟨Γ, S, μ, d, S', h1, h2, h3, h4⟩ => i σ H Q Γ S μ d S' h1 h2 h3 h4

/-! ### names, constants -/
def eVar (i : Nat) : FE := fun Γ S => match Γ[i]? with
  | some (some d) => some (d, S)
  | _ => none
def eC (d : D) : FE := fun _ S => some (d, S)
theorem se_v (i : Nat) {x : Str} (hN : X.N[i]? = some x := by rfl) (hv : Vis X.env.scope x := by first | exact Or.inl rfl | exact Or.inr (Or.inl rfl) | exact Or.inr (Or.inr rfl)) (hd : (x == ("__debug__" : Str)) = false := by decide)
    (hcd : (x == ("__classdict__" : Str)) = false := by decide) : SE X (.Name x pos) (eVar i) :=
  SE.mk (pe_var hN hv hd hcd) fun σ H Q Γ S μ d S' g r h k => by
    unfold eVar at h
    split at h
    · rename_i d' e
      cases h
      obtain ⟨v, h1, h2⟩ := g.slot i _ e
      exact ⟨v, h1, k v H μ r .refl h2⟩
    · cases h
theorem se_int {i j} : SE X (.Constant (.int i) j pos) (eC (.int i)) := SE.mk pe_int fun σ H Q Γ S μ d S' g r h k => by cases h; exact k _ H μ r .refl (.int i)
theorem se_bl {i j} : SE X (.Constant (.bool i) j pos) (eC (.bl i)) := SE.mk pe_bl fun σ H Q Γ S μ d S' g r h k => by cases h; exact k _ H μ r .refl (.bl i)
theorem se_non {j} : SE X (.Constant .none j pos) (eC .non) := SE.mk pe_non fun σ H Q Γ S μ d S' g r h k => by cases h; exact k _ H μ r .refl .non
theorem se_str {x j} : SE X (.Constant (.str x) j pos) (eC (.str x)) := SE.mk pe_str fun σ H Q Γ S μ d S' g r h k => by cases h; exact k _ H μ r .refl (.str x)

/-! ### two values in a row -/
def eBin (o : O2) (fa fb : FE) : FE := fun Γ S => (fa Γ S).bind fun p => (fb Γ p.2).bind fun q => o p.1 q.1 q.2
theorem bind_some {α β : Type} {o : Option α} {k : α → Option β} {y : β} (h : o.bind k = some y) : ∃ x, o = some x ∧ k x = some y := by
  cases o with
  | none => cases h
  | some x => exact ⟨x, rfl, h⟩
theorem map_some {α β : Type} {o : Option α} {k : α → β} {y : β} (h : o.map k = some y) : ∃ x, o = some x ∧ k x = y := by
  cases o with
  | none => cases h
  | some x => exact ⟨x, rfl, Option.some.inj h⟩
/-- two expressions read in a row -/
theorem two {σ : L2.St} {H : Hp} {Γ : Ctx} {S S' : Sto} {μ : List Addr} {d : D} {K : PySem.W.Frag} {o : O2} {R : V → V → Hp → Prop} (g : RG K H μ Γ σ) (r : RS K H μ S) (h : eBin o fa fb Γ S = some (d, S'))
    (i : ∀ x y dx dy H2 μ2 S2, RS K H2 μ2 S2 → Ext K H μ H2 μ2 → RV K H2 μ2 dx x → RV K H2 μ2 dy y → o dx dy S2 = some (d, S') → R x y H2) :
    tD K fa σ H fun x H1 => tD K fb σ H1 fun y H2 => R x y H2 := by
  obtain ⟨⟨dx, S1⟩, h1, h2⟩ := bind_some h
  obtain ⟨⟨dy, S2⟩, h3, h4⟩ := bind_some h2
  exact ⟨Γ, S, μ, dx, S1, g, r, h1, fun x H1 μ1 r1 e1 v1 => ⟨Γ, S1, μ1, dy, S2, g.ext e1, r1, h3, fun y H2 μ2 r2 e2 v2 => i x y dx dy H2 μ2 S2 r2 (e1.trans e2) (v1.ext e2) v2 h4⟩⟩
/-- a rule by values serves an operation on data -/
def RD (K : PySem.W.Frag) (r : R2) (o : O2) : Prop := ∀ (H : Hp) (S : Sto) (μ : List Addr) (x y : V) (dx dy d : D) (S' : Sto) (Q : VK), RS K H μ S → RV K H μ dx x → RV K H μ dy y → o dx dy S = some (d, S') → Kt K H μ S' d Q → r x y H Q
theorem se_op {op : Operator} {r : R2} {o : O2} (ho : OpR X (binaryOp op) r) (hr : RD X.K r o) (ha : SE X a fa) (hb : SE X b fb) : SE X (.BinOp a op b pos) (eBin o fa fb) :=
  SE.mk (pe_op ho ha hb) fun σ H Q Γ S μ d S' g r h k => two g r h fun x y dx dy H2 μ2 S2 r2 e2 v1 v2 h4 => hr H2 S2 μ2 x y dx dy d S' Q r2 v1 v2 h4 (k.after e2)
theorem se_cmp {op : CmpOp} {r : R2} {o : O2} (ho : OpR X (compareOp op) r) (hr : RD X.K r o) (ha : SE X a fa) (hb : SE X b fb) (hm : behindInMarks op b = false) : SE X (.Compare a [op] [b] pos) (eBin o fa fb) :=
  SE.mk (pe_cmpR ho ha hb hm) fun σ H Q Γ S μ d S' g r h k => two g r h fun x y dx dy H2 μ2 S2 r2 e2 v1 v2 h4 => hr H2 S2 μ2 x y dx dy d S' Q r2 v1 v2 h4 (k.after e2)
/-- a truth value as a test -/
def tst (f : FE) : FT := fun Γ S => (f Γ S).bind fun p => match p.1 with
  | .bl b => some (b, p.2)
  | _ => none
theorem tst_some {Γ : Ctx} {S S' : Sto} {b : Bool} (h : tst f Γ S = some (b, S')) : f Γ S = some (.bl b, S') := by
  obtain ⟨⟨d, S1⟩, h1, h2⟩ := bind_some h
  cases d with
  | bl b' => cases h2; exact h1
  | _ => cases h2
theorem st_cmp {op : CmpOp} {r : R2} {o : O2} (ho : OpR X (compareOp op) r) (hr : RD X.K r o) (ha : SE X a fa) (hb : SE X b fb) (hm : behindInMarks op b = false) : ST X (.Compare a [op] [b] pos) (tst (eBin o fa fb)) :=
  ST.mk (pt_cmpR ho ha hb hm) fun σ H Q Γ S μ d S' g r h k => two g r (tst_some h) fun x y dx dy H2 μ2 S2 r2 e2 v1 v2 h4 => hr H2 S2 μ2 x y dx dy _ S' _ r2 v1 v2 h4 fun v H' μ' r' e' rv => by
    cases rv
    exact ⟨d, rfl, k H' μ' r' (e2.trans e')⟩
/-- a op b op' c -/
def eChain (o o' : O2) (fa fb fc : FE) : FE := fun Γ S => (fa Γ S).bind fun p => (fb Γ p.2).bind fun q => (o p.1 q.1 q.2).bind fun t => match t.1 with
  | .bl true => (fc Γ t.2).bind fun w => o' q.1 w.1 w.2
  | .bl false => some (.bl false, t.2)
  | _ => none
theorem chain_run {r r' : R2} {o o' : O2} {σ : L2.St} {H : Hp} {Q : VK} {Γ : Ctx} {S S' : Sto} {μ : List Addr} {d : D} (hr : RD X.K r o) (hr' : RD X.K r' o') (g : RG X.K H μ Γ σ) (rs : RS X.K H μ S) (h : eChain o o' fa fb fc Γ S = some (d, S'))
    (k : Kt X.K H μ S' d Q) : tChain r r' (tD X.K fa) (tD X.K fb) (tD X.K fc) σ H Q := by
  obtain ⟨⟨dx, S1⟩, h1, h2⟩ := bind_some h
  obtain ⟨⟨dy, S2⟩, h3, h4⟩ := bind_some h2
  obtain ⟨⟨dz, S3⟩, h5, h6⟩ := bind_some h4
  refine ⟨Γ, S, μ, dx, S1, g, rs, h1, fun x H1 μ1 r1 e1 v1 => ⟨Γ, S1, μ1, dy, S2, g.ext e1, r1, h3, fun y H2 μ2 r2 e2 v2 => hr H2 S2 μ2 x y dx dy dz S3 _ r2 (v1.ext e2) v2 h5 fun z H3 μ3 r3 e3 v3 => ?_⟩⟩
  cases dz with
  | bl t =>
    cases v3
    refine ⟨t, rfl, ?_⟩
    cases t with
    | true =>
      rw [if_pos rfl]
      obtain ⟨⟨dw, S4⟩, h7, h8⟩ := bind_some h6
      exact ⟨Γ, S3, μ3, dw, S4, g.ext (e1.trans (e2.trans e3)), r3, h7, fun w H4 μ4 r4 e4 v4 => hr' H4 S4 μ4 y w dy dw d S' Q r4 (v2.ext (e3.trans e4)) v4 h8 (k.after (e1.trans (e2.trans (e3.trans e4))))⟩
    | false =>
      rw [if_neg Bool.false_ne_true]
      cases h6
      exact k _ H3 μ3 r3 (e1.trans (e2.trans e3)) (.bl false)
  | _ => cases h6
theorem se_chain {op op' : CmpOp} {r r' : R2} {o o' : O2} (ho : OpR X (compareOp op) r) (hr : RD X.K r o) (ho' : OpR X (compareOp op') r') (hr' : RD X.K r' o') (ha : SE X a fa) (hb : SE X b fb) (hc : SE X c fc)
    (hm : lastMarks [op, op'] [b, c] = false := by with_unfolding_all rfl) : SE X (.Compare a [op, op'] [b, c] pos) (eChain o o' fa fb fc) :=
  SE.mk (pe_chain ho ho' ha hb hc hm) fun σ H Q Γ S μ d S' g r h k => chain_run hr hr' g r h k
theorem st_chain {op op' : CmpOp} {r r' : R2} {o o' : O2} (ho : OpR X (compareOp op) r) (hr : RD X.K r o) (ho' : OpR X (compareOp op') r') (hr' : RD X.K r' o') (ha : SE X a fa) (hb : SE X b fb) (hc : SE X c fc)
    (hm : lastMarks [op, op'] [b, c] = false := by with_unfolding_all rfl) : ST X (.Compare a [op, op'] [b, c] pos) (tst (eChain o o' fa fb fc)) :=
  ST.mk (pt_chain ho ho' ha hb hc hm) fun σ H Q Γ S μ d S' g r h k => chain_run hr hr' g r (tst_some h) fun v H' μ' r' e' rv => by
    cases rv
    exact ⟨d, rfl, k H' μ' r' e'⟩

/-! ### and, or, not, if -/
theorem st_val (h : SE X e f) (he : ∀ whole, isTrue e X.env whole = (do let v ← whole; standAt e.pos; holding [v] (truthy v)) := by intro _; rfl) : ST X e (tst f) :=
  ST.mk (pt_val h he) fun σ H Q Γ S μ d S' g r h k => ⟨Γ, S, μ, .bl d, S', g, r, tst_some h, fun v H' μ' r' e' rv => by
    cases rv
    exact ⟨d, rfl, k H' μ' r' e'⟩⟩
/-- a value's truth -/
def dTru (S : Sto) : D → Option Bool
  | .non => some false
  | .bl b => some b
  | .int i => some (i != 0)
  | .str x => if x.length ≤ sizeLine then some ((x.length : Int) != 0) else none
  | .tup l => some (!l.isEmpty)
  | .loc n => match S[n]? with
    | some (.lst l) => some (!l.isEmpty)
    | some (.ro l) => some (!l.isEmpty)
    | some (.dk l) => some (!l.isEmpty)
    | _ => none
  | .lst l => some (!l.isEmpty)
  | .tpu l => some (!l.isEmpty)
  | .rov l => some (!l.isEmpty)
  | _ => none
def tru (f : FE) : FT := fun Γ S => (f Γ S).bind fun p => (dTru p.2 p.1).map fun b => (b, p.2)
theorem RVs.emp {K : PySem.W.Frag} {H : Hp} {μ : List Addr} {l : List D} {vs : List V} (h : RVs K H μ l vs) : l.isEmpty = vs.isEmpty := by cases h <;> rfl
theorem RK.emp {K : PySem.W.Frag} {H : Hp} {μ : List Addr} {κ : Type} {l : List (κ × D)} {ws : List (κ × V)} (h : RK K H μ l ws) : l.isEmpty = ws.isEmpty := by
  have := h.2.emp
  cases l <;> cases ws <;> simp_all
theorem tru_of {K : PySem.W.Frag} {H : Hp} {μ : List Addr} {S : Sto} {d : D} {v : V} {b : Bool} (r : RS K H μ S) (rv : RV K H μ d v) (h : dTru S d = some b) : TruV K v H b := by
  cases rv with
  | non => cases h; rfl
  | bl c => cases h; rfl
  | int i => cases h; rfl
  | str x =>
    simp only [dTru] at h
    split at h
    · rename_i hx; cases h; exact ⟨hx, rfl⟩
    · cases h
  | tup h1 h2 => cases h; exact .inr (.inl ⟨_, SqT.of h1, by rw [h2.emp]⟩)
  | @loc a n h1 =>
    simp only [dTru] at h
    split at h
    · rename_i l e
      cases h
      obtain ⟨vs, q1, q2⟩ := r.atc h1 e
      exact .inl ⟨_, SqL.of q1, by rw [q2.emp]⟩
    · rename_i l e
      cases h
      obtain ⟨vs, q1, q2⟩ := r.atc h1 e
      exact .inl ⟨_, q1.seq, by rw [q2.emp]⟩
    · rename_i l e
      cases h
      obtain ⟨ws, q1, q2⟩ := r.atc h1 e
      exact .inr (.inr ⟨_, q1, by rw [RK.emp q2]⟩)
    · cases h
  | lst h1 _ h2 => cases h; exact .inl ⟨_, SqL.of h1, by rw [h2.emp]⟩
  | rov h1 h2 => cases h; exact .inl ⟨_, h1.seq, by rw [h2.emp]⟩
  | tpu h1 _ h2 => cases h; exact .inr (.inl ⟨_, .inl (.inr ⟨_, h1⟩), by rw [h2.emp]⟩)
  | _ => cases h
theorem st_tru (h : SE X e f) (he : ∀ whole, isTrue e X.env whole = (do let v ← whole; standAt e.pos; holding [v] (truthy v)) := by intro _; rfl) : ST X e (tru f) :=
  ST.mk (pt_truth h he) fun σ H Q Γ S μ d S' g r h k => by
    obtain ⟨⟨x, S1⟩, h1, h2⟩ := bind_some h
    obtain ⟨b, h3, h4⟩ := map_some h2
    cases h4
    exact ⟨Γ, S, μ, x, S1, g, r, h1, fun v H' μ' r' e' rv => ⟨_, tru_of r' rv h3, k H' μ' r' e'⟩⟩
def tNo (g : FT) : FT := fun Γ S => (g Γ S).map fun p => (!p.1, p.2)
theorem st_not (h : ST X a g) : ST X (.UnaryOp .Not a pos) (tNo g) :=
  ST.mk (pt_not h) fun σ H Q Γ S μ d S' gg r h k => by
    obtain ⟨⟨b, S1⟩, h1, h2⟩ := map_some h
    cases h2
    exact ⟨Γ, S, μ, b, S1, gg, r, h1, fun H' μ' r' e' => k H' μ' r' e'⟩
/-- a test whatever its whole is (and, or) -/
def SW (X : Cx) (e : Expr) (f : FT) : Prop := PW X e (tT X.K f)
theorem SW.st (h : SW X e g) : ST X e g := PW.pt h
def tAnd2 (ga gb : FT) : FT := fun Γ S => (ga Γ S).bind fun p => if p.1 = true then gb Γ p.2 else some (false, p.2)
def tOr2 (ga gb : FT) : FT := fun Γ S => (ga Γ S).bind fun p => if p.1 = true then some (true, p.2) else gb Γ p.2
theorem sw_and1 (h : ST X a g) : SW X (.BoolOp .And [a] pos) g := pw_and1 h
theorem sw_or1 (h : ST X a g) : SW X (.BoolOp .Or [a] pos) g := pw_or1 h
theorem sw_and (ha : ST X a ga) (hb : SW X (.BoolOp .And (b :: rest) pos) gb) : SW X (.BoolOp .And (a :: b :: rest) pos) (tAnd2 ga gb) :=
  imp_w (pw_and ha hb) fun σ H Q ⟨Γ, S, μ, d, S', g, r, h, k⟩ => by
    obtain ⟨⟨x, S1⟩, h1, h2⟩ := bind_some h
    refine ⟨Γ, S, μ, x, S1, g, r, h1, fun H' μ' r' e' => ?_⟩
    cases x with
    | true => rw [if_pos rfl]; exact ⟨Γ, S1, μ', d, S', g.ext e', r', h2, fun H2 μ2 r2 e2 => k H2 μ2 r2 (e'.trans e2)⟩
    | false =>
      rw [if_neg Bool.false_ne_true]
      cases h2
      exact k H' μ' r' e'
theorem sw_or (ha : ST X a ga) (hb : SW X (.BoolOp .Or (b :: rest) pos) gb) : SW X (.BoolOp .Or (a :: b :: rest) pos) (tOr2 ga gb) :=
  imp_w (pw_or ha hb) fun σ H Q ⟨Γ, S, μ, d, S', g, r, h, k⟩ => by
    obtain ⟨⟨x, S1⟩, h1, h2⟩ := bind_some h
    refine ⟨Γ, S, μ, x, S1, g, r, h1, fun H' μ' r' e' => ?_⟩
    cases x with
    | false => rw [if_neg Bool.false_ne_true]; exact ⟨Γ, S1, μ', d, S', g.ext e', r', h2, fun H2 μ2 r2 e2 => k H2 μ2 r2 (e'.trans e2)⟩
    | true =>
      rw [if_pos rfl]
      cases h2
      exact k H' μ' r' e'
/-- as values: all but the last are truth values -/
def eAnd (fa fb : FE) : FE := fun Γ S => (fa Γ S).bind fun p => match p.1 with
  | .bl true => fb Γ p.2
  | .bl false => some (.bl false, p.2)
  | _ => none
def eOr (fa fb : FE) : FE := fun Γ S => (fa Γ S).bind fun p => match p.1 with
  | .bl false => fb Γ p.2
  | .bl true => some (.bl true, p.2)
  | _ => none
def eNot (fa : FE) : FE := fun Γ S => (fa Γ S).bind fun p => match p.1 with
  | .bl b => some (.bl (!b), p.2)
  | _ => none
theorem se_one {op} (h : SE X a f) : SE X (.BoolOp op [a] pos) f := pe_one h
theorem se_and (ha : SE X a fa) (hb : SE X (.BoolOp .And (b :: rest) pos) fb) : SE X (.BoolOp .And (a :: b :: rest) pos) (eAnd fa fb) :=
  SE.mk (pe_and ha hb) fun σ H Q Γ S μ d S' g r h k => by
    obtain ⟨⟨x, S1⟩, h1, h2⟩ := bind_some h
    refine ⟨Γ, S, μ, x, S1, g, r, h1, fun v H' μ' r' e' rv => ?_⟩
    cases x with
    | bl t =>
      cases rv
      refine ⟨t, rfl, ?_⟩
      cases t with
      | true => rw [if_pos rfl]; exact ⟨Γ, S1, μ', d, S', g.ext e', r', h2, k.after e'⟩
      | false => rw [if_neg Bool.false_ne_true]; cases h2; exact k _ H' μ' r' e' (.bl false)
    | _ => cases h2
theorem se_or (ha : SE X a fa) (hb : SE X (.BoolOp .Or (b :: rest) pos) fb) : SE X (.BoolOp .Or (a :: b :: rest) pos) (eOr fa fb) :=
  SE.mk (pe_or ha hb) fun σ H Q Γ S μ d S' g r h k => by
    obtain ⟨⟨x, S1⟩, h1, h2⟩ := bind_some h
    refine ⟨Γ, S, μ, x, S1, g, r, h1, fun v H' μ' r' e' rv => ?_⟩
    cases x with
    | bl t =>
      cases rv
      refine ⟨t, rfl, ?_⟩
      cases t with
      | false => rw [if_neg Bool.false_ne_true]; exact ⟨Γ, S1, μ', d, S', g.ext e', r', h2, k.after e'⟩
      | true => rw [if_pos rfl]; cases h2; exact k _ H' μ' r' e' (.bl true)
    | _ => cases h2
theorem se_not (ha : SE X a fa) : SE X (.UnaryOp .Not a pos) (eNot fa) :=
  SE.mk (pe_not ha) fun σ H Q Γ S μ d S' g r h k => by
    obtain ⟨⟨x, S1⟩, h1, h2⟩ := bind_some h
    refine ⟨Γ, S, μ, x, S1, g, r, h1, fun v H' μ' r' e' rv => ?_⟩
    cases x with
    | bl t => cases rv; cases h2; exact ⟨t, rfl, k _ H' μ' r' e' (.bl _)⟩
    | _ => cases h2
def eIf (g : FT) (fa fb : FE) : FE := fun Γ S => (g Γ S).bind fun p => if p.1 = true then fa Γ p.2 else fb Γ p.2
theorem se_if (hc : ST X c g) (ha : SE X a fa) (hb : SE X b fb) : SE X (.IfExp c a b pos) (eIf g fa fb) :=
  SE.mk (pe_ifExp hc ha hb) fun σ H Q Γ S μ d S' gg r h k => by
    obtain ⟨⟨x, S1⟩, h1, h2⟩ := bind_some h
    refine ⟨Γ, S, μ, x, S1, gg, r, h1, fun H' μ' r' e' => ?_⟩
    cases x with
    | true => rw [if_pos rfl]; exact ⟨Γ, S1, μ', d, S', gg.ext e', r', h2, k.after e'⟩
    | false => rw [if_neg Bool.false_ne_true]; exact ⟨Γ, S1, μ', d, S', gg.ext e', r', h2, k.after e'⟩

/-! ### one value -/
def eUn (o : D → Option D) (fa : FE) : FE := fun Γ S => (fa Γ S).bind fun p => (o p.1).map fun d => (d, p.2)
def oNeg : D → Option D
  | .int i => some (.int (-i))
  | _ => none
theorem se_neg (ha : SE X a fa) : SE X (.UnaryOp .USub a pos) (eUn oNeg fa) :=
  SE.mk (pe_un un_neg ha) fun σ H Q Γ S μ d S' g r h k => by
    obtain ⟨⟨x, S1⟩, h1, h2⟩ := bind_some h
    obtain ⟨y, h3, h4⟩ := map_some h2
    cases h4
    refine ⟨Γ, S, μ, x, S1, g, r, h1, fun v H' μ' r' e' rv => ?_⟩
    cases x with
    | int i => cases rv; cases h3; exact ⟨i, rfl, k _ H' μ' r' e' (.int _)⟩
    | _ => cases h3

/-! ### arguments, displays, calls -/
def args : List FE → FA
  | [], _, S => some ([], S)
  | f :: r, Γ, S => (f Γ S).bind fun p => (args r Γ p.2).map fun q => (p.1 :: q.1, q.2)
theorem sa_nil : SA X [] (args []) := SA.mk pa_nil fun σ H Q Γ S μ d S' g r h k => by cases h; exact k [] H μ r .refl .nil
theorem sa_cons {fs : List FE} (ha : SE X e f) (hr : SA X es (args fs)) (hs : starEach (e :: es) X.env = (false, eval e X.env) :: starEach es X.env := by rfl) : SA X (e :: es) (args (f :: fs)) :=
  SA.mk (pa_cons ha hr hs) fun σ H Q Γ S μ d S' g r h k => by
    obtain ⟨⟨x, S1⟩, h1, h2⟩ := bind_some h
    obtain ⟨⟨xs, S2⟩, h3, h4⟩ := map_some h2
    cases h4
    exact ⟨Γ, S, μ, x, S1, g, r, h1, fun v H1 μ1 r1 e1 rv => ⟨Γ, S1, μ1, xs, S2, g.ext e1, r1, h3, fun vs H2 μ2 r2 e2 rvs => k _ H2 μ2 r2 (e1.trans e2) (.cons (rv.ext e2) rvs)⟩⟩
theorem args_length : ∀ {fs : List FE} {Γ : Ctx} {S S' : Sto} {ds : List D}, args fs Γ S = some (ds, S') → ds.length = fs.length
  | [], _, _, _, _, h => by cases h; rfl
  | f :: fs, Γ, S, S', ds, h => by
    obtain ⟨⟨x, S1⟩, h1, h2⟩ := bind_some h
    obtain ⟨⟨xs, S2⟩, h3, h4⟩ := map_some h2
    cases h4
    simp [args_length h3]
def eTup (fs : List FE) : FE := fun Γ S => (args fs Γ S).map fun p => (.tup p.1, p.2)
def eLst (fs : List FE) : FE := fun Γ S => (args fs Γ S).map fun p => (.loc p.2.length, p.2 ++ [.lst p.1])
theorem se_tup {fs : List FE} {x1} (h : SA X es (args fs)) (hn : fs.length ≤ 1000 := by decide) : SE X (.Tuple es x1 pos) (eTup fs) :=
  SE.mk (pe_tup h) fun σ H Q Γ S μ d S' g r hh k => by
    obtain ⟨⟨xs, S1⟩, h1, h2⟩ := map_some hh
    cases h2
    refine ⟨Γ, S, μ, xs, S1, g, r, h1, fun vs H' μ' r' e' rv => ⟨?_, fun p hp => ?_⟩⟩
    · rw [← rv.length, args_length h1]; exact Nat.le_of_lt (small1000 hn)
    · have s : Same H' (upd H' p (.tup vs)) := same_upd hp
      exact k _ _ μ' (r'.same s) (e'.trans (.same s)) (.tup upd_same (rv.ext (.same s)))
theorem RS.newL {K : PySem.W.Frag} {H : Hp} {μ : List Addr} {S : Sto} {l : List D} {vs : List V} {p : Addr} (r : RS K H μ S) (rv : RVs K H μ l vs) (hp : H p = none) :
    RS K (upd H p (.lst vs)) (μ ++ [p]) (S ++ [.lst l]) ∧ Ext K H μ (upd H p (.lst vs)) (μ ++ [p]) ∧ RV K (upd H p (.lst vs)) (μ ++ [p]) (.loc S.length) (.ref p) := by
  have e : Ext K H μ (upd H p (.lst vs)) (μ ++ [p]) := .grow1 (same_upd hp) hp
  exact ⟨r.alloc hp ⟨vs, upd_same, rv.ext e⟩, e, .loc (by rw [← r.len]; simp)⟩
theorem se_lst {fs : List FE} (h : SA X es (args fs)) (hn : fs.length ≤ 1000 := by decide) : SE X (.List es pos) (eLst fs) :=
  SE.mk (pe_lst h) fun σ H Q Γ S μ d S' g r hh k => by
    obtain ⟨⟨xs, S1⟩, h1, h2⟩ := map_some hh
    cases h2
    refine ⟨Γ, S, μ, xs, S1, g, r, h1, fun vs H' μ' r' e' rv => ⟨?_, fun p hp => ?_⟩⟩
    · rw [← rv.length, args_length h1]; exact Nat.le_of_lt (small1000 hn)
    · obtain ⟨a1, a2, a3⟩ := r'.newL rv hp
      exact k _ _ _ a1 (e'.trans a2) a3

/-- a def's promise: it does what F says -/
def spD (K : PySem.W.Frag) (F : FF) : Sp := fun vs H Q _ => ∃ ds S μ d S', RVs K H μ ds vs ∧ RS K H μ S ∧ F ds S = some (d, S') ∧ Kt K H μ S' d Q
/-- a def that may be called by its name -/
structure Fn (P : Program) (w : World) (K : PySem.W.Frag) (mg : Str → Option Value) (base : Heap) (k : Nat) (x : Str) (F : FF) : Prop where
  ex : ∃ (f : Addr) (fd : FuncData) (ps : List Str), FnOk P w K mg base CX0 k f fd ps (spD K F) ∧ mg x = some (.ref f) ∧ PySem.W.keepIn K (.ref f) = true ∧ Binds K fd ps []
def eCall (F : FF) (fs : List FE) : FE := fun Γ S => (args fs Γ S).bind fun p => F p.1 p.2
theorem se_call {x : Str} {F : FF} {fs : List FE} {k : Nat} (G : Fn X.prog X.w X.K X.mg X.base k x F) (hr : Room k X.A) (hg : Gl X x) (ha : SA X (e :: es) (args fs)) (hdb : (x == ("__debug__" : Str)) = false := by decide)
    (he : starEach (e :: es) X.env = (false, eval e X.env) :: starEach es X.env := by rfl) (hpl : (backTo pos (starEach es X.env)).any (·.1) = false := by rfl) : SE X (.Call (.Name x p) (e :: es) [] pos) (eCall F fs) := by
  obtain ⟨f, fd, ps, G1, G2, G3, G4⟩ := G.ex
  refine SE.mk (pe_call G1 hr hg G2 G3 G4 .nil (pass0 (X := X)) ha hdb he hpl) fun σ H Q Γ S μ d S' g r hh k => ?_
  obtain ⟨⟨xs, S1⟩, h1, h2⟩ := bind_some hh
  refine ⟨Γ, S, μ, xs, S1, g, r, h1, fun vs H' μ' r' e' rv => ?_⟩
  show spD X.K F (vs ++ []) H' Q E0
  rw [List.append_nil]
  exact ⟨xs, S1, μ', d, S', rv, r', h2, k.after e'⟩
/-- a rule for a built-in's call serves a function on data -/
def BD (K : PySem.W.Frag) (r : List V → Hp → VK → Prop) (F : FF) : Prop := ∀ (H : Hp) (S : Sto) (μ : List Addr) (xs : List V) (ds : List D) (d : D) (S' : Sto) (Q : VK), RS K H μ S → RVs K H μ ds xs → F ds S = some (d, S') → Kt K H μ S' d Q → r xs H Q
theorem bd_run {r : List V → Hp → VK → Prop} {F : FF} {fs : List FE} {σ : L2.St} {H : Hp} {Q : VK} {Γ : Ctx} {S S' : Sto} {μ : List Addr} {d : D} (hb : BD X.K r F) (g : RG X.K H μ Γ σ) (rs : RS X.K H μ S) (h : eCall F fs Γ S = some (d, S')) (k : Kt X.K H μ S' d Q) :
    tCB r (tA X.K (args fs)) σ H Q := by
  obtain ⟨⟨xs, S1⟩, h1, h2⟩ := bind_some h
  exact ⟨Γ, S, μ, xs, S1, g, rs, h1, fun vs H' μ' r' e' rv => hb H' S1 μ' vs xs d S' Q r' rv h2 (k.after e')⟩
theorem se_callB {x : Str} {id : String} {r : List V → Hp → VK → Prop} {F : FF} {fs : List FE} (hc : CallR X (.builtin id) r) (hb : BD X.K r F) (hg : Gl X x) (hm : X.mg x = none) (hv : bootBuiltins x = some (.builtin id)) (ha : SA X (e :: es) (args fs)) (hn : x ≠ "__name__" := by decide) (hdb : (x == ("__debug__" : Str)) = false := by decide)
    (he : starEach (e :: es) X.env = (false, eval e X.env) :: starEach es X.env := by rfl) (hpl : (backTo pos (starEach es X.env)).any (·.1) = false := by rfl) : SE X (.Call (.Name x p) (e :: es) [] pos) (eCall F fs) :=
  SE.mk (pe_callB hc hg hm hv ha hn hdb he hpl) fun σ H Q Γ S μ d S' g r h k => bd_run hb g r h k
theorem se_callTy {x : Str} {id : String} {r : List V → Hp → VK → Prop} {F : FF} {fs : List FE} (hc : CallR X (.type id) r) (hb : BD X.K r F) (hg : Gl X x) (hm : X.mg x = none) (hv : bootBuiltins x = some (.type id)) (ha : SA X (e :: es) (args fs)) (hn : x ≠ "__name__" := by decide) (hdb : (x == ("__debug__" : Str)) = false := by decide)
    (he : starEach (e :: es) X.env = (false, eval e X.env) :: starEach es X.env := by rfl) (hpl : (backTo pos (starEach es X.env)).any (·.1) = false := by rfl) : SE X (.Call (.Name x p) (e :: es) [] pos) (eCall F fs) :=
  SE.mk (pe_callTy hc hg hm hv ha hn hdb he hpl) fun σ H Q Γ S μ d S' g r h k => bd_run hb g r h k
/-- f(..), f a module's name for a built-in function (from math import gcd) -/
theorem se_callBf {x : Str} {id : String} {r : List V → Hp → VK → Prop} {F : FF} {fs : List FE} (hc : CallR X (.builtin id) r) (hb : BD X.K r F) (hg : Gl X x) (hm : X.mg x = some (.builtin id)) (ha : SA X (e :: es) (args fs)) (hdb : (x == ("__debug__" : Str)) = false := by decide)
    (he : starEach (e :: es) X.env = (false, eval e X.env) :: starEach es X.env := by rfl) (hpl : (backTo pos (starEach es X.env)).any (·.1) = false := by rfl) : SE X (.Call (.Name x p) (e :: es) [] pos) (eCall F fs) :=
  SE.mk (pe_callBfun hc hg hm ha hdb he hpl) fun σ H Q Γ S μ d S' g r h k => bd_run hb g r h k
end
end Dl

/-! DlO: operations upon data -/
namespace Dl
open PySem PySem.Spec PyProof.Rows L2

/-! ### ints -/
def mulOk (i j : Int) : Bool := decide (i.natAbs < 2 ^ 64) || decide (j.natAbs < 2 ^ 64) || decide (i.natAbs.log2 + j.natAbs.log2 < 1000000)
def oSub : O2
  | .int i, .int j, S => some (.int (i - j), S)
  | _, _, _ => none
def oFdiv : O2
  | .int i, .int j, S => if 0 < j ∧ j.natAbs.log2 < 9000 then some (.int (i / j), S) else none
  | _, _, _ => none
def oMod : O2
  | .int i, .int j, S => if 0 < j then some (.int (i % j), S) else none
  | _, _, _ => none
def oPow : O2
  | .int i, .int j, S => if 0 ≤ j ∧ j ≤ 1000000 ∧ i.natAbs < 2 ^ 64 then some (.int (i ^ j.toNat), S) else none
  | _, _, _ => none
def oShl : O2
  | .int i, .int j, S => if 0 ≤ j ∧ j ≤ 1000000 ∧ i.natAbs < 2 ^ 64 then some (.int (i * 2 ^ j.toNat), S) else none
  | _, _, _ => none
def oShr : O2
  | .int i, .int j, S => if 0 ≤ j then some (.int (i / 2 ^ j.toNat), S) else none
  | _, _, _ => none
def oAndB : O2
  | .int i, .int j, S => some (.int (Builtin.bitAnd i j), S)
  | _, _, _ => none
def oOrB : O2
  | .int i, .int j, S => some (.int (Builtin.bitOr i j), S)
  | _, _, _ => none
def oLt : O2
  | .int i, .int j, S => some (.bl (decide (i < j)), S)
  | _, _, _ => none
def oLe : O2
  | .int i, .int j, S => some (.bl (decide (i ≤ j)), S)
  | _, _, _ => none
def oGt : O2
  | .int i, .int j, S => some (.bl (decide (j < i)), S)
  | _, _, _ => none
def oGe : O2
  | .int i, .int j, S => some (.bl (decide (j ≤ i)), S)
  | _, _, _ => none
def oAdd : O2
  | .int i, .int j, S => some (.int (i + j), S)
  | .str x, .str y, S => if x.length + y.length ≤ sizeLine then some (.str (x ++ y), S) else none
  | .tup l, .tup m, S => if l.length + m.length ≤ sizeLine then some (.tup (l ++ m), S) else none
  | x, y, S => match rdX S x, rdX S y with
    | some l, some m => if l.length + m.length ≤ sizeLine then some (.loc S.length, S ++ [.lst (l ++ m)]) else none
    | _, _ => none
def oMul : O2
  | .int i, .int j, S => if mulOk i j = true then some (.int (i * j), S) else none
  | .str x, .int j, S => if -(2 ^ 63) ≤ j ∧ j < 2 ^ 63 ∧ x.length * j.toNat ≤ sizeLine then some (.str ⟨(List.replicate j.toNat x.cps.toList).flatten.toArray⟩, S) else none
  | x, .int j, S => match rdX S x with
    | some l => if -(2 ^ 63) ≤ j ∧ j < 2 ^ 63 ∧ l.length * j.toNat ≤ sizeLine then some (.loc S.length, S ++ [.lst (List.replicate j.toNat l).flatten]) else none
    | _ => none
  | _, _, _ => none
section
variable {K : PySem.W.Frag}
theorem rd_sub : RD K (rI0 fun i j => .int (i - j)) oSub := by
  intro H S μ x y dx dy d S' Q r v1 v2 h k
  cases v1 <;> cases v2 <;> simp only [oSub] at h <;> cases h
  exact ⟨_, _, rfl, rfl, k _ H μ r .refl (.int _)⟩
theorem rd_fdiv : RD K (rI CDivW fun i j => .int (i / j)) oFdiv := by
  intro H S μ x y dx dy d S' Q r v1 v2 h k
  cases v1 <;> cases v2 <;> simp only [oFdiv] at h <;> first | cases h | skip
  split at h
  · rename_i hc; cases h; exact ⟨_, _, rfl, rfl, hc, k _ H μ r .refl (.int _)⟩
  · cases h
theorem rd_mod : RD K (rI (fun _ j => 0 < j) fun i j => .int (i % j)) oMod := by
  intro H S μ x y dx dy d S' Q r v1 v2 h k
  cases v1 <;> cases v2 <;> simp only [oMod] at h <;> first | cases h | skip
  split at h
  · rename_i hc; cases h; exact ⟨_, _, rfl, rfl, hc, k _ H μ r .refl (.int _)⟩
  · cases h
theorem rd_pow : RD K (rI CPow fun i j => .int (i ^ j.toNat)) oPow := by
  intro H S μ x y dx dy d S' Q r v1 v2 h k
  cases v1 <;> cases v2 <;> simp only [oPow] at h <;> first | cases h | skip
  split at h
  · rename_i hc; cases h; exact ⟨_, _, rfl, rfl, hc, k _ H μ r .refl (.int _)⟩
  · cases h
theorem rd_shl : RD K (rI CPow fun i j => .int (i * 2 ^ j.toNat)) oShl := by
  intro H S μ x y dx dy d S' Q r v1 v2 h k
  cases v1 <;> cases v2 <;> simp only [oShl] at h <;> first | cases h | skip
  split at h
  · rename_i hc; cases h; exact ⟨_, _, rfl, rfl, hc, k _ H μ r .refl (.int _)⟩
  · cases h
theorem rd_shr : RD K (rI (fun _ j => 0 ≤ j) fun i j => .int (i / 2 ^ j.toNat)) oShr := by
  intro H S μ x y dx dy d S' Q r v1 v2 h k
  cases v1 <;> cases v2 <;> simp only [oShr] at h <;> first | cases h | skip
  split at h
  · rename_i hc; cases h; exact ⟨_, _, rfl, rfl, hc, k _ H μ r .refl (.int _)⟩
  · cases h
theorem rd_andB : RD K (rI0 fun i j => .int (Builtin.bitAnd i j)) oAndB := by
  intro H S μ x y dx dy d S' Q r v1 v2 h k
  cases v1 <;> cases v2 <;> simp only [oAndB] at h <;> cases h
  exact ⟨_, _, rfl, rfl, k _ H μ r .refl (.int _)⟩
theorem rd_orB : RD K (rI0 fun i j => .int (Builtin.bitOr i j)) oOrB := by
  intro H S μ x y dx dy d S' Q r v1 v2 h k
  cases v1 <;> cases v2 <;> simp only [oOrB] at h <;> cases h
  exact ⟨_, _, rfl, rfl, k _ H μ r .refl (.int _)⟩
theorem rd_lt : RD K (rI0 fun i j => .bl (decide (i < j))) oLt := by
  intro H S μ x y dx dy d S' Q r v1 v2 h k
  cases v1 <;> cases v2 <;> simp only [oLt] at h <;> cases h
  exact ⟨_, _, rfl, rfl, k _ H μ r .refl (.bl _)⟩
theorem rd_le : RD K (rI0 fun i j => .bl (decide (i ≤ j))) oLe := by
  intro H S μ x y dx dy d S' Q r v1 v2 h k
  cases v1 <;> cases v2 <;> simp only [oLe] at h <;> cases h
  exact ⟨_, _, rfl, rfl, k _ H μ r .refl (.bl _)⟩
theorem rd_gt : RD K (rI0 fun i j => .bl (decide (j < i))) oGt := by
  intro H S μ x y dx dy d S' Q r v1 v2 h k
  cases v1 <;> cases v2 <;> simp only [oGt] at h <;> cases h
  exact ⟨_, _, rfl, rfl, k _ H μ r .refl (.bl _)⟩
theorem rd_ge : RD K (rI0 fun i j => .bl (decide (j ≤ i))) oGe := by
  intro H S μ x y dx dy d S' Q r v1 v2 h k
  cases v1 <;> cases v2 <;> simp only [oGe] at h <;> cases h
  exact ⟨_, _, rfl, rfl, k _ H μ r .refl (.bl _)⟩
/-! ### + and * -/
def rAdd4 (K : PySem.W.Frag) : R2 := fun x y H Q => (rI0 fun i j => .int (i + j)) x y H Q ∨ (∃ i j, x = .str i ∧ y = .str j ∧ i.length + j.length ≤ sizeLine ∧ Q (.str (i ++ j)) H) ∨ rCatA K x y H Q ∨ rCat x y H Q
theorem or_add {X : Cx} : OpR X (binaryOp .Add) (rAdd4 X.K) := op_add.or (op_add_str.or (op_catA.or op_cat))
theorem RVs.nil_iff {K : PySem.W.Frag} {H : Hp} {μ : List Addr} {l : List D} {vs : List V} (h : RVs K H μ l vs) : vs = [] ↔ l = [] := by cases h <;> simp
theorem rd_addX {H : Hp} {S : Sto} {μ : List Addr} {x y : V} {dx dy d : D} {S' : Sto} {Q : VK} (r : RS K H μ S) (v1 : RV K H μ dx x) (v2 : RV K H μ dy y)
    (h : (match rdX S dx, rdX S dy with
    | some l, some m => if l.length + m.length ≤ sizeLine then some (D.loc S.length, S ++ [.lst (l ++ m)]) else none
    | _, _ => none) = some (d, S')) (k : Kt K H μ S' d Q) : rAdd4 K x y H Q := by
  split at h
  · rename_i l m e1 e2
    split at h
    · rename_i hc
      cases h
      obtain ⟨a, vs, rfl, q1, q2⟩ := rdX_of r v1 e1
      obtain ⟨b, ws, rfl, q3, q4⟩ := rdX_of r v2 e2
      refine .inr (.inr (.inr ⟨a, b, vs, ws, rfl, rfl, q1, q3, by rw [← q2.length, ← q4.length]; exact hc, fun p hp => ?_⟩))
      obtain ⟨a1, a2, a3⟩ := r.newL (q2.append q4) hp
      exact k _ _ _ a1 a2 a3
    · cases h
  · cases h
theorem rd_add : RD K (rAdd4 K) oAdd := by
  intro H S μ x y dx dy d S' Q r v1 v2 h k
  unfold oAdd at h
  split at h
  · cases v1; cases v2; cases h
    exact .inl ⟨_, _, rfl, rfl, k _ H μ r .refl (.int _)⟩
  · cases v1; cases v2
    split at h
    · rename_i hc; cases h; exact .inr (.inl ⟨_, _, rfl, rfl, hc, k _ H μ r .refl (.str _)⟩)
    · cases h
  · cases v1 with
    | @tup a vs l h1 h2 =>
      cases v2 with
      | @tup b ws m h3 h4 =>
        split at h
        · rename_i hc
          cases h
          refine .inr (.inr (.inl ⟨a, b, vs, ws, rfl, rfl, SqT.of h1, SqT.of h3, by rw [← h2.length, ← h4.length]; exact hc, fun e => ?_, fun _ e => ?_, fun _ _ p hp => ?_⟩))
          · have e' := h2.nil_iff.mp e
            subst e'
            exact k _ H μ r .refl (.tup h3 h4)
          · have e' := h4.nil_iff.mp e
            subst e'
            rw [List.append_nil] at k
            exact k _ H μ r .refl (.tup h1 h2)
          · have s := same_upd (o := .tup (vs ++ ws)) hp
            exact k _ _ μ (r.same s) (.same s) (.tup upd_same ((h2.append h4).ext (.same s)))
        · cases h
  · exact rd_addX r v1 v2 h k
end
end Dl

/-! DlP: * of texts and lists; ==, in, sorted upon data; items, slices -/
namespace Dl
open PySem PySem.Spec PyProof.Rows L2

/-! ### * -/
def rMul3 : R2 := fun x y H Q => rI CMul (fun i j => .int (i * j)) x y H Q ∨ rI CMulW (fun i j => .int (i * j)) x y H Q ∨ rRep x y H Q ∨
  (∃ (z : Str) (j : Int), x = .str z ∧ y = .int j ∧ -(2 ^ 63) ≤ j ∧ j < 2 ^ 63 ∧ z.length * j.toNat ≤ sizeLine ∧ Q (.str ⟨(List.replicate j.toNat z.cps.toList).flatten.toArray⟩) H)
theorem foldl_app (its : Array Nat) : ∀ (k : Nat) (acc : List Nat), List.foldl (fun x1 x2 => x1 ++ x2) acc.toArray (List.replicate k its) = (acc ++ (List.replicate k its.toList).flatten).toArray
  | 0, acc => by simp
  | k + 1, acc => by
    have e : acc.toArray ++ its = (acc ++ its.toList).toArray := by
      apply Array.toList_inj.mp
      simp
    rw [List.replicate_succ, List.foldl_cons, e, foldl_app its k, List.replicate_succ, List.flatten_cons, List.append_assoc]
theorem op_mulS {X : Cx} : OpR X (binaryOp .Mult) (fun x y H Q => ∃ (z : Str) (j : Int), x = .str z ∧ y = .int j ∧ -(2 ^ 63) ≤ j ∧ j < 2 ^ 63 ∧ z.length * j.toNat ≤ sizeLine ∧ Q (.str ⟨(List.replicate j.toNat z.cps.toList).flatten.toArray⟩) H) := by
  intro pins s σ H x y v u Q I rx ry h
  obtain ⟨z, j, rfl, rfl, h1, h2, h3, q⟩ := h
  obtain ⟨t, rfl⟩ := rx
  obtain ⟨t', rfl⟩ := ry
  have hz : sizeLine = 16777216 := sizeLine_eq
  refine P.mul_str (by
    have a1 : decide (j < -(2 ^ 63 : Int)) = false := decide_eq_false (by omega)
    have a2 : decide (j ≥ 2 ^ 63) = false := decide_eq_false (by omega)
    rw [a1, a2]; rfl) (fun a1 a2 => ?_) (fun a1 a2 => ?_) ?_
  · have hj : 0 < j := by omega
    have b1 : (z.length : Int) * j ≤ 16777216 := by
      have : ((z.length * j.toNat : Nat) : Int) ≤ 16777216 := by omega
      rw [Int.natCast_mul, Int.toNat_of_nonneg (by omega)] at this
      exact this
    have b2 : (z.length : Int) ≤ (2 ^ 63 - 1) / j := by
      rw [Int.le_ediv_iff_mul_le hj]
      omega
    omega
  · show Builtin.Str.tooLong (z.length * j.toNat) = false
    unfold Builtin.Str.tooLong
    simp only [decide_eq_false_iff_not]
    omega
  · by_cases c1 : j < 1
    · rw [if_pos c1]
      have e0 : j.toNat = 0 := by omega
      rw [e0] at q
      exact ⟨by decide, ⟨.str _, H, I.tok _, ⟨_, rfl⟩, q⟩⟩
    · rw [if_neg c1]
      by_cases c2 : (j == 1 || z.length == 0) = true
      · rw [if_pos c2]
        have e0 : (⟨(List.replicate j.toNat z.cps.toList).flatten.toArray⟩ : Str) = z := by
          rw [Bool.or_eq_true, beq_iff_eq, beq_iff_eq] at c2
          rcases c2 with c2 | c2
          · subst c2
            simp
          · have : z.cps = #[] := Array.size_eq_zero_iff.mp c2
            cases z with
            | mk cps =>
              simp only at this
              subst this
              simp
        rw [e0] at q
        exact ⟨.str _, H, I, ⟨_, rfl⟩, q⟩
      · rw [if_neg c2]
        have e0 : (List.replicate j.toNat z.cps).foldl (· ++ ·) #[] = (List.replicate j.toNat z.cps.toList).flatten.toArray := by
          have := foldl_app z.cps j.toNat []
          simpa using this
        rw [e0]
        refine ⟨?_, ⟨.str _, H, I.tok _, ⟨_, rfl⟩, q⟩⟩
        show (List.replicate j.toNat z.cps.toList).flatten.toArray.size ≤ sizeLine
        have : (List.replicate j.toNat z.cps.toList).flatten.toArray.size = j.toNat * z.length := by
          simp
          rfl
        rw [this, Nat.mul_comm]
        exact h3
theorem or_mul {X : Cx} : OpR X (binaryOp .Mult) rMul3 := op_mul.or (op_mulW.or (op_rep.or op_mulS))
section
variable {K : PySem.W.Frag}
theorem rd_mul : RD K rMul3 oMul := by
  intro H S μ x y dx dy d S' Q r v1 v2 h k
  unfold oMul at h
  split at h
  · rename_i i j
    cases v1; cases v2
    split at h
    · rename_i hc
      cases h
      have kk : Q (.int (i * j)) H := k _ H μ r .refl (.int _)
      simp only [mulOk, Bool.or_eq_true, decide_eq_true_eq] at hc
      rcases hc with (hc | hc) | hc
      · exact .inl ⟨_, _, rfl, rfl, .inl (by omega), kk⟩
      · exact .inl ⟨_, _, rfl, rfl, .inr (by omega), kk⟩
      · exact .inr (.inl ⟨_, _, rfl, rfl, hc, kk⟩)
    · cases h
  · cases v1; cases v2
    split at h
    · rename_i hc
      cases h
      exact .inr (.inr (.inr ⟨_, _, rfl, rfl, hc.1, hc.2.1, hc.2.2, k _ H μ r .refl (.str _)⟩))
    · cases h
  · cases v2
    split at h
    · rename_i l e
      split at h
      · rename_i hc
        cases h
        obtain ⟨a, vs, rfl, q1, q2⟩ := rdX_of r v1 e
        refine .inr (.inr (.inl ⟨a, _, vs, rfl, rfl, q1, hc.1, hc.2.1, by rw [← q2.length]; exact hc.2.2, fun p hp => ?_⟩))
        obtain ⟨a1, a2, a3⟩ := r.newL (q2.rep _) hp
        exact k _ _ _ a1 a2 a3
      · cases h
    · cases h
  · cases h
end

/-! ### data as the library's data -/
mutual
/-- no cell within -/
def D.pure : D → Bool
  | .tup l => D.pures l
  | .lst l => D.pures l
  | .tpu l => D.pures l
  | .dkv _ _ => false
  | .dtv _ _ => false
  | .rov _ => false
  | .loc _ => false
  | .non => true
  | .bl _ => true
  | .int _ => true
  | .str _ => true
def D.pures : List D → Bool
  | [] => true
  | d :: r => D.pure d && D.pures r
end
mutual
def D.py : D → PyData
  | .tup l => .tuple (D.pys l)
  | .lst l => .list (D.pys l)
  | .tpu l => .tuple (D.pys l)
  | .dkv _ _ => .none
  | .dtv _ _ => .none
  | .rov _ => .none
  | .loc _ => .none
  | .non => .none
  | .bl b => .bool b
  | .int i => .int i
  | .str x => .str x
def D.pys : List D → List PyData
  | [] => []
  | d :: r => D.py d :: D.pys r
end
theorem pys_map : ∀ l : List D, D.pys l = l.map D.py
  | [] => rfl
  | d :: r => by rw [D.pys, pys_map r, List.map_cons]
theorem pures_all : ∀ l : List D, D.pures l = l.all D.pure
  | [] => rfl
  | d :: r => by rw [D.pures, pures_all r, List.all_cons]
mutual
/-- no cell, no list, no dict within -/
def D.nol : D → Bool
  | .tup l => D.nols l
  | .tpu l => D.nols l
  | .lst _ => false
  | .dkv _ _ => false
  | .dtv _ _ => false
  | .rov _ => false
  | .loc _ => false
  | .non => true
  | .bl _ => true
  | .int _ => true
  | .str _ => true
def D.nols : List D → Bool
  | [] => true
  | d :: r => D.nol d && D.nols r
end
mutual
theorem nol_pure : ∀ {d : D}, d.nol = true → d.pure = true
  | .non, _ => by rw [D.pure]
  | .bl _, _ => by rw [D.pure]
  | .int _, _ => by rw [D.pure]
  | .str _, _ => by rw [D.pure]
  | .tup l, h => by rw [D.nol] at h; rw [D.pure]; exact nols_pure h
  | .tpu l, h => by rw [D.nol] at h; rw [D.pure]; exact nols_pure h
  | .lst _, h => by rw [D.nol] at h; cases h
  | .dkv _ _, h => by rw [D.nol] at h; cases h
  | .dtv _ _, h => by rw [D.nol] at h; cases h
  | .rov _, h => by rw [D.nol] at h; cases h
  | .loc _, h => by rw [D.nol] at h; cases h
theorem nols_pure : ∀ {l : List D}, D.nols l = true → D.pures l = true
  | [], _ => by rw [D.pures]
  | d :: r, h => by
    rw [D.nols, Bool.and_eq_true] at h
    rw [D.pures, nol_pure h.1, nols_pure h.2]
    rfl
end
theorem nols_all : ∀ l : List D, D.nols l = l.all D.nol
  | [] => rfl
  | d :: r => by rw [D.nols, nols_all r, List.all_cons]
section
variable {K : PySem.W.Frag} {H : Hp} {μ : List Addr} {S : Sto}
mutual
theorem RV.dp : ∀ {d : D} {v : V}, RV K H μ d v → d.pure = true → Dp K H v d.py
  | _, _, .non, _ => .non
  | _, _, .bl b, _ => .bl b
  | _, _, .int i, _ => .int i
  | _, _, .str x, _ => .str x
  | _, _, .tup h r, p => .tup (SqT.of h) (RVs.dp r (by simpa [D.pure] using p))
  | _, _, .lst h _ r, p => .lst (SqL.of h) (RVs.dp r (by simpa [D.pure] using p))
  | _, _, .tpu h _ r, p => .tup (.inl (.inr ⟨_, h⟩)) (RVs.dp r (by simpa [D.pure] using p))
  | _, _, .dkv _ _ _ _, p => absurd p (by simp [D.pure])
  | _, _, .dtv _ _ _ _, p => absurd p (by simp [D.pure])
  | _, _, .rov _ _, p => absurd p (by simp [D.pure])
  | _, _, .loc h, p => absurd p (by simp [D.pure])
theorem RVs.dp : ∀ {l : List D} {vs : List V}, RVs K H μ l vs → D.pures l = true → DpAll K H vs (D.pys l)
  | _, _, .nil, _ => .nil
  | _, _, .cons h r, p => by
    have p' := by simpa [D.pures] using p
    exact .cons (RV.dp h p'.1) (RVs.dp r p'.2)
end
/-- a datum, or a list of data -/
def py1 (S : Sto) : D → Option PyData
  | .loc n => match S[n]? with
    | some (.lst l) => if D.pures l = true then some (.list (D.pys l)) else none
    | _ => none
  | d => if d.pure = true then some d.py else none
theorem RV.dp1 {d : D} {v : V} {p : PyData} (r : RS K H μ S) (h : RV K H μ d v) (e : py1 S d = some p) : Dp K H v p := by
  cases d with
  | loc n =>
    cases h with
    | @loc a n h1 =>
      simp only [py1] at e
      split at e
      · rename_i l el
        split at e
        · rename_i hp
          cases e
          obtain ⟨vs, q1, q2⟩ := r.atc h1 el
          exact .lst (SqL.of q1) (q2.dp hp)
        · cases e
      · cases e
  | _ =>
    simp only [py1] at e
    split at e
    · rename_i hp; cases e; exact h.dp hp
    · cases e
end
/-- == -/
def eqB (S : Sto) (x y : D) : Option Bool := match py1 S x, py1 S y with
  | some a, some b => if SeqAt.shaped a = true ∧ SeqAt.shaped b = true then some (PyData.eqv a b) else none
  | _, _ => none
def oEq : O2 := fun x y S => (eqB S x y).map fun b => (.bl b, S)
def oNe : O2 := fun x y S => (eqB S x y).map fun b => (.bl (!b), S)
theorem rd_eq {K : PySem.W.Frag} : RD K (rEqD K) oEq := by
  intro H S μ x y dx dy d S' Q r v1 v2 h k
  obtain ⟨b, h1, h2⟩ := map_some h
  cases h2
  unfold eqB at h1
  split at h1
  · rename_i a b e1 e2
    split at h1
    · rename_i hc; cases h1; exact ⟨a, b, v1.dp1 r e1, v2.dp1 r e2, hc.1, hc.2, k _ H μ r .refl (.bl _)⟩
    · cases h1
  · cases h1
theorem rd_ne {K : PySem.W.Frag} : RD K (rNeD K) oNe := by
  intro H S μ x y dx dy d S' Q r v1 v2 h k
  obtain ⟨b, h1, h2⟩ := map_some h
  cases h2
  unfold eqB at h1
  split at h1
  · rename_i a b e1 e2
    split at h1
    · rename_i hc; cases h1; exact ⟨a, b, v1.dp1 r e1, v2.dp1 r e2, hc.1, hc.2, k _ H μ r .refl (.bl _)⟩
    · cases h1
  · cases h1
/-- is None -/
def isNon : D → Bool
  | .non => true
  | _ => false
def oIsN : O2 := fun x y S => match y with
  | .non => some (.bl (isNon x), S)
  | _ => none
def oNotN : O2 := fun x y S => match y with
  | .non => some (.bl (!isNon x), S)
  | _ => none
theorem RV.isNon {K : PySem.W.Frag} {H : Hp} {μ : List Addr} {d : D} {v : V} (h : RV K H μ d v) : decide (v = .non) = Dl.isNon d := by cases h <;> simp [Dl.isNon]
theorem rd_isN {K : PySem.W.Frag} : RD K (fun x y H Q => y = .non ∧ Q (.bl (decide (x = .non))) H) oIsN := by
  intro H S μ x y dx dy d S' Q r v1 v2 h k
  cases v2 <;> simp only [oIsN] at h <;> cases h
  exact ⟨rfl, by rw [v1.isNon]; exact k _ H μ r .refl (.bl _)⟩
theorem rd_notN {K : PySem.W.Frag} : RD K (fun x y H Q => y = .non ∧ Q (.bl (!decide (x = .non))) H) oNotN := by
  intro H S μ x y dx dy d S' Q r v1 v2 h k
  cases v2 <;> simp only [oNotN] at h <;> cases h
  exact ⟨rfl, by rw [v1.isNon]; exact k _ H μ r .refl (.bl _)⟩

/-! ### keys -/
def D.key : D → Option Key
  | .int i => some (.inl i)
  | .str x => some (.inr x)
  | _ => none
def Key.d : Key → D
  | .inl i => .int i
  | .inr x => .str x
def keysOf : List D → Option (List Key)
  | [] => some []
  | d :: r => match d.key, keysOf r with
    | some k, some ks => some (k :: ks)
    | _, _ => none
def D.tkey : D → Option (List Key)
  | .tup l => keysOf l
  | _ => none
section
variable {K : PySem.W.Frag} {H : Hp} {μ : List Addr} {S : Sto}
theorem RV.key {d : D} {v : V} {k : Key} (h : RV K H μ d v) (e : d.key = some k) : v = kV k := by
  cases h <;> simp only [D.key] at e <;> cases e <;> rfl
theorem RVs.keys : ∀ {l : List D} {vs : List V} {ks : List Key}, RVs K H μ l vs → keysOf l = some ks → vs = ks.map kV
  | _, _, ks, .nil, e => by cases e; rfl
  | _, _, ks, .cons h r, e => by
    simp only [keysOf] at e
    split at e
    · rename_i k ks' e1 e2
      cases e
      rw [List.map_cons, h.key e1, RVs.keys r e2]
    · cases e
theorem RV.tkey {d : D} {v : V} {ks : List Key} (h : RV K H μ d v) (e : d.tkey = some ks) : ∃ b, v = .ref b ∧ H b = some (.tup (ks.map kV)) := by
  cases h with
  | @tup a vs l h1 h2 => exact ⟨a, rfl, by rw [← h2.keys e]; exact h1⟩
  | _ => simp only [D.tkey] at e; cases e
end
def valD {κ : Type} [DecidableEq κ] (kvs : List (κ × D)) (k : κ) : Option D := (kvs.find? fun kv => decide (kv.1 = k)).map (·.2)
def putD {κ : Type} [DecidableEq κ] (kvs : List (κ × D)) (k : κ) (v : D) : List (κ × D) :=
  if (kvs.any fun kv => decide (kv.1 = k)) = true then kvs.map (fun kv => if kv.1 = k then (kv.1, v) else kv) else kvs ++ [(k, v)]
section
variable {K : PySem.W.Frag} {H : Hp} {μ : List Addr} {κ : Type} [DecidableEq κ]
theorem RK.val : ∀ {l : List (κ × D)} {ws : List (κ × V)} (k : κ), RK K H μ l ws → (valD l k = none ∧ valV ws k = none) ∨ ∃ d v, valD l k = some d ∧ valV ws k = some v ∧ RV K H μ d v
  | [], [], k, _ => .inl ⟨rfl, rfl⟩
  | [], _ :: _, k, h => absurd h.1 (by simp)
  | _ :: _, [], k, h => absurd h.1 (by simp)
  | p :: l, q :: ws, k, h => by
    obtain ⟨h1, h2⟩ := h
    rw [List.map_cons, List.map_cons] at h1 h2
    injection h1 with e1 e2
    cases h2 with
    | cons r1 r2 =>
      by_cases hk : p.1 = k
      · refine .inr ⟨p.2, q.2, ?_, ?_, r1⟩
        · simp [valD, List.find?, hk]
        · simp [valV, List.find?, ← e1, hk]
      · have a1 : valD (p :: l) k = valD l k := by simp [valD, List.find?, hk]
        have a2 : valV (q :: ws) k = valV ws k := by simp [valV, List.find?, ← e1, hk]
        rw [a1, a2]
        exact RK.val k ⟨e2, r2⟩
theorem RK.any {l : List (κ × D)} {ws : List (κ × V)} (k : κ) (h : RK K H μ l ws) : (l.any fun kv => decide (kv.1 = k)) = ws.any fun kv => decide (kv.1 = k) := by
  have a : ∀ {α : Type} (l : List (κ × α)), (l.any fun kv => decide (kv.1 = k)) = (l.map (·.1)).any fun x => decide (x = k) := fun l => by rw [List.any_map]; rfl
  rw [a, a, h.1]
theorem RK.put {l : List (κ × D)} {ws : List (κ × V)} {d : D} {v : V} (k : κ) (h : RK K H μ l ws) (hd : RV K H μ d v) : RK K H μ (putD l k d) (putK ws k v) := by
  unfold putD putK
  rw [h.any k]
  split
  · obtain ⟨h1, h2⟩ := h
    have rep : ∀ (l : List (κ × D)) (ws : List (κ × V)), l.map (·.1) = ws.map (·.1) → RVs K H μ (l.map (·.2)) (ws.map (·.2)) →
        RK K H μ (l.map fun kv => if kv.1 = k then (kv.1, d) else kv) (ws.map fun kv => if kv.1 = k then (kv.1, v) else kv) := by
      intro l
      induction l with
      | nil =>
        intro ws e1 e2
        cases ws with
        | nil => exact ⟨rfl, .nil⟩
        | cons q ws => exact absurd e1 (by simp)
      | cons p l ih =>
        intro ws e1 e2
        cases ws with
        | nil => exact absurd e1 (by simp)
        | cons q ws =>
          rw [List.map_cons, List.map_cons] at e1 e2
          injection e1 with f1 f2
          cases e2 with
          | cons r1 r2 =>
            obtain ⟨i1, i2⟩ := ih ws f2 r2
            rw [List.map_cons, List.map_cons]
            by_cases hk : p.1 = k
            · rw [if_pos hk, if_pos (f1 ▸ hk)]
              exact ⟨by rw [List.map_cons, List.map_cons, i1, f1], .cons hd i2⟩
            · rw [if_neg hk, if_neg (f1 ▸ hk)]
              exact ⟨by rw [List.map_cons, List.map_cons, i1, f1], .cons r1 i2⟩
    exact rep l ws h1 h2
  · obtain ⟨h1, h2⟩ := h
    refine ⟨by simp [h1], ?_⟩
    rw [List.map_append, List.map_append]
    exact h2.snoc hd
theorem RK.length {l : List (κ × D)} {ws : List (κ × V)} (h : RK K H μ l ws) : l.length = ws.length := by
  have := congrArg List.length h.1
  simpa using this
end
/-- what the dict d holds at y: none where it is no dict, or y no key -/
def dGet (S : Sto) (d y : D) : Option (Option D) := match d with
  | .loc n => match S[n]? with
    | some (.dk l) => y.key.map fun k => valD l k
    | some (.dkf l) => y.key.map fun k => valD l k
    | some (.dt l) => y.tkey.map fun k => valD l k
    | some (.dtf l) => y.tkey.map fun k => valD l k
    | _ => none
  | .dkv ks l => y.key.map fun k => valD (ks.zip l) k
  | .dtv ks l => y.tkey.map fun k => valD (ks.zip l) k
  | _ => none
/-- a tracked tuple -/
theorem dget_of {K : PySem.W.Frag} {H : Hp} {μ : List Addr} {S : Sto} {d y : D} {v w : V} {o : Option D} (r : RS K H μ S) (hv : RV K H μ d v) (hw : RV K H μ y w) (e : dGet S d y = some o) :
    ∃ a o', v = .ref a ∧ DGet H a w o' ∧ ((o = none ∧ o' = none) ∨ ∃ x z, o = some x ∧ o' = some z ∧ RV K H μ x z) := by
  cases hv with
  | @loc a n h1 =>
    simp only [dGet] at e
    split at e
    · rename_i l el
      obtain ⟨k, e1, e2⟩ := map_some e
      obtain ⟨ws, q1, q2⟩ := r.atc h1 el
      refine ⟨a, valV ws k, rfl, .inl ⟨ws, k, .inl q1, hw.key e1, rfl⟩, ?_⟩
      subst e2
      exact RK.val k q2
    · rename_i l el
      obtain ⟨k, e1, e2⟩ := map_some e
      obtain ⟨ob, ws, q1, q2⟩ := r.atc h1 el
      refine ⟨a, valV ws k, rfl, .inl ⟨ws, k, .inr ⟨ob, q1⟩, hw.key e1, rfl⟩, ?_⟩
      subst e2
      exact RK.val k q2
    · rename_i l el
      obtain ⟨k, e1, e2⟩ := map_some e
      obtain ⟨ws, q1, q2⟩ := r.atc h1 el
      obtain ⟨b, f1, f2⟩ := hw.tkey e1
      refine ⟨a, valV ws k, rfl, .inr ⟨ws, k, b, .inl q1, f1, f2, rfl⟩, ?_⟩
      subst e2
      exact RK.val k q2
    · rename_i l el
      obtain ⟨k, e1, e2⟩ := map_some e
      obtain ⟨ob, ws, q1, q2⟩ := r.atc h1 el
      obtain ⟨b, f1, f2⟩ := hw.tkey e1
      refine ⟨a, valV ws k, rfl, .inr ⟨ws, k, b, .inr ⟨ob, q1⟩, f1, f2, rfl⟩, ?_⟩
      subst e2
      exact RK.val k q2
    · cases e
  | @dkv a ws ks l h1 h2 h3 h4 =>
    obtain ⟨k, e1, e2⟩ := map_some e
    refine ⟨a, valV ws k, rfl, .inl ⟨ws, k, h1, hw.key e1, rfl⟩, ?_⟩
    subst e2
    exact RK.val k (RK.zip h3 h4)
  | @dtv a ws ks l h1 h2 h3 h4 =>
    obtain ⟨k, e1, e2⟩ := map_some e
    obtain ⟨b, f1, f2⟩ := hw.tkey e1
    refine ⟨a, valV ws k, rfl, .inr ⟨ws, k, b, h1, f1, f2, rfl⟩, ?_⟩
    subst e2
    exact RK.val k (RK.zip h3 h4)
  | _ => simp only [dGet] at e; cases e
end Dl

/-! DlQ: in, items, slices, sorted, built-in calls, methods -/
namespace Dl
open PySem PySem.Spec PyProof.Rows L2

/-! ### in -/
def flatD : D → Bool
  | .non => true
  | .bl _ => true
  | .int _ => true
  | .str _ => true
  | _ => false
def eqF : D → D → Bool
  | .non, .non => true
  | .bl a, .bl b => a == b
  | .bl a, .int b => (if a then 1 else 0) == b
  | .int a, .bl b => a == (if b then 1 else 0)
  | .int a, .int b => a == b
  | .str a, .str b => a == b
  | _, _ => false
def pyO (S : Sto) : List D → Option (List PyData)
  | [] => some []
  | d :: r => match py1 S d, pyO S r with
    | some a, some b => some (a :: b)
    | _, _ => none
/-- x in y -/
def inL (S : Sto) (x : D) (l : List D) : Option Bool := if flatD x = true ∧ l.all flatD = true then some (l.any fun z => eqF z x) else
        (match py1 S x, pyO S l with
        | some a, some b => if SeqAt.shaped a = true ∧ SeqAt.shaped (.list b) = true then some (b.any fun z => PyData.eqv z a) else none
        | _, _ => none)
def inB (S : Sto) (x y : D) : Option Bool := match y with
  | .tup l => if flatD x = true ∧ l.all flatD = true then some (l.any fun z => eqF z x) else none
  | .tpu l => if flatD x = true ∧ l.all flatD = true then some (l.any fun z => eqF z x) else none
  | .lst l => inL S x l
  | .loc n => match S[n]? with
    | some (.lst l) => inL S x l
    | _ => (dGet S y x).map (·.isSome)
  | y => (dGet S y x).map (·.isSome)
def oIn : O2 := fun x y S => (inB S x y).map fun b => (.bl b, S)
def oNotIn : O2 := fun x y S => (inB S x y).map fun b => (.bl (!b), S)
def rDIn (neg : Bool) : R2 := fun y x H Q => ∃ a o, x = .ref a ∧ DGet H a y o ∧ Q (.bl (if neg then !o.isSome else o.isSome)) H
theorem op_din {X : Cx} (hu : X.A.units + 1 < cLine) : OpR X (compareOp .In) (rDIn false) := by
  intro pins s σ H y x u v Q I ry rx h
  obtain ⟨a, o, rfl, g, q⟩ := h
  cases rx
  exact d_in hu I g ry fun s3 I3 => ⟨.bl o.isSome, H, I3, rfl, q⟩
theorem op_dnotin {X : Cx} (hu : X.A.units + 1 < cLine) : OpR X (compareOp .NotIn) (rDIn true) := by
  intro pins s σ H y x u v Q I ry rx h
  obtain ⟨a, o, rfl, g, q⟩ := h
  cases rx
  exact d_notIn hu I g ry fun s3 I3 => ⟨.bl (!o.isSome), H, I3, rfl, q⟩
def rIn3 (K : PySem.W.Frag) : R2 := fun x y H Q => rIn K false x y H Q ∨ rInD K x y H Q ∨ rDIn false x y H Q
def rNotIn3 (K : PySem.W.Frag) : R2 := fun x y H Q => rIn K true x y H Q ∨ rNotInD K x y H Q ∨ rDIn true x y H Q
theorem or_in {X : Cx} (hu : X.A.units + 65 < cLine) : OpR X (compareOp .In) (rIn3 X.K) := op_in_seq.or ((op_inD hu).or (op_din (by omega)))
theorem or_notIn {X : Cx} (hu : X.A.units + 65 < cLine) : OpR X (compareOp .NotIn) (rNotIn3 X.K) := op_notIn_seq.or ((op_notInD hu).or (op_dnotin (by omega)))
section
variable {K : PySem.W.Frag} {H : Hp} {μ : List Addr} {S : Sto}
theorem RV.flat {d : D} {v : V} (h : RV K H μ d v) (f : flatD d = true) : flatV v = true := by cases h <;> first | rfl | (simp [flatD] at f)
theorem RV.eqF {d e : D} {v w : V} (h : RV K H μ d v) (g : RV K H μ e w) (f : flatD d = true) (f' : flatD e = true) : eqV v w = eqF d e := by
  cases h <;> first | (simp [flatD] at f; done) | (cases g <;> first | rfl | (simp [flatD] at f'))
theorem RVs.flat : ∀ {l : List D} {vs : List V}, RVs K H μ l vs → l.all flatD = true → vs.all flatV = true
  | _, _, .nil, _ => rfl
  | _, _, .cons h r, f => by
    rw [List.all_cons, Bool.and_eq_true] at f ⊢
    exact ⟨h.flat f.1, RVs.flat r f.2⟩
theorem RVs.anyF {x : D} {v : V} (hx : RV K H μ x v) (fx : flatD x = true) : ∀ {l : List D} {vs : List V}, RVs K H μ l vs → l.all flatD = true → inV v vs = l.any fun z => Dl.eqF z x
  | _, _, .nil, _ => rfl
  | _, _, .cons h r, f => by
    rw [List.all_cons, Bool.and_eq_true] at f
    have ih := RVs.anyF hx fx r f.2
    unfold inV at ih ⊢
    rw [List.any_cons, List.any_cons, h.eqF hx f.1 fx, ih]
theorem pyO_dp (r : RS K H μ S) : ∀ {l : List D} {vs : List V} {ps : List PyData}, RVs K H μ l vs → pyO S l = some ps → DpAll K H vs ps
  | _, _, ps, .nil, e => by cases e; exact .nil
  | _, _, ps, .cons h t, e => by
    simp only [pyO] at e
    split at e
    · rename_i a b e1 e2
      cases e
      exact .cons (h.dp1 r e1) (pyO_dp r t e2)
    · cases e
theorem rd_inL_go {x : V} {dx : D} {a : Addr} {vs : List V} {l : List D} {b : Bool} (r : RS K H μ S) (v1 : RV K H μ dx x) (q1 : SqL K H a vs) (q2 : RVs K H μ l vs) (h : inL S dx l = some b) :
    (∃ p xs, V.ref a = .ref p ∧ (SqL K H p xs ∨ SqT K H p xs) ∧ flatV x = true ∧ xs.all flatV = true ∧ inV x xs = b) ∨
    (∃ d ds, Dp K H x d ∧ Dp K H (.ref a) (.list ds) ∧ SeqAt.shaped d = true ∧ SeqAt.shaped (.list ds) = true ∧ (ds.any fun z => PyData.eqv z d) = b) := by
  unfold inL at h
  split at h
  · rename_i hc
    cases h
    exact .inl ⟨a, vs, rfl, .inl q1, v1.flat hc.1, q2.flat hc.2, RVs.anyF v1 hc.1 q2 hc.2⟩
  · split at h
    · rename_i p ps e1 e2
      split at h
      · rename_i hc
        cases h
        exact .inr ⟨p, ps, v1.dp1 r e1, .lst q1 (pyO_dp r q2 e2), hc.1, hc.2, rfl⟩
      · cases h
    · cases h
theorem rd_in_go {x y : V} {dx dy : D} {b : Bool} (r : RS K H μ S) (v1 : RV K H μ dx x) (v2 : RV K H μ dy y) (h : inB S dx dy = some b) :
    (∃ p xs, y = .ref p ∧ (SqL K H p xs ∨ SqT K H p xs) ∧ flatV x = true ∧ xs.all flatV = true ∧ inV x xs = b) ∨
    (∃ d ds, Dp K H x d ∧ Dp K H y (.list ds) ∧ SeqAt.shaped d = true ∧ SeqAt.shaped (.list ds) = true ∧ (ds.any fun z => PyData.eqv z d) = b) ∨
    ∃ a o, y = .ref a ∧ DGet H a x o ∧ o.isSome = b := by
  have dd : ∀ {dy : D} {y : V}, RV K H μ dy y → (dGet S dy dx).map (·.isSome) = some b → ∃ a o, y = .ref a ∧ DGet H a x o ∧ o.isSome = b := fun hv h => by
    obtain ⟨o, e1, e2⟩ := map_some h
    obtain ⟨a', o', ea, g, oo⟩ := dget_of r hv v1 e1
    refine ⟨a', o', ea, g, ?_⟩
    rcases oo with ⟨z1, z2⟩ | ⟨x', z', z1, z2, _⟩
    · rw [z2, ← e2, z1]
      all_goals rfl
    · rw [z2, ← e2, z1]
      all_goals rfl
  unfold inB at h
  split at h
  · cases v2 with
    | @tup a vs l h1 h2 =>
      split at h
      · rename_i hc
        cases h
        exact .inl ⟨a, vs, rfl, .inr (SqT.of h1), v1.flat hc.1, h2.flat hc.2, RVs.anyF v1 hc.1 h2 hc.2⟩
      · cases h
  · cases v2 with
    | @tpu a o vs l h1 h3 h2 =>
      split at h
      · rename_i hc
        cases h
        exact .inl ⟨a, vs, rfl, .inr (.inl (.inr ⟨_, h1⟩)), v1.flat hc.1, h2.flat hc.2, RVs.anyF v1 hc.1 h2 hc.2⟩
      · cases h
  · cases v2 with
    | lst h1 h3 h2 => exact (rd_inL_go r v1 (SqL.of h1) h2 h).elim .inl fun q => .inr (.inl q)
  · split at h
    · rename_i l e
      cases v2 with
      | loc h1 =>
        obtain ⟨vs, q1, q2⟩ := r.atc h1 e
        exact (rd_inL_go r v1 (SqL.of q1) q2 h).elim .inl fun q => .inr (.inl q)
    · exact .inr (.inr (dd v2 h))
  · exact .inr (.inr (dd v2 h))
end
theorem rd_in {K : PySem.W.Frag} : RD K (rIn3 K) oIn := by
  intro H S μ x y dx dy d S' Q r v1 v2 h k
  obtain ⟨b, h1, h2⟩ := map_some h
  cases h2
  have kk : Q (.bl b) H := k _ H μ r .refl (.bl _)
  rcases rd_in_go r v1 v2 h1 with ⟨p, xs, e1, e2, e3, e4, e5⟩ | ⟨p, ds, e1, e2, e3, e4, e5⟩ | ⟨a, o, e1, e2, e3⟩
  · exact .inl ⟨p, xs, e1, e2, e3, e4, by rw [if_neg Bool.false_ne_true, e5]; exact kk⟩
  · exact .inr (.inl ⟨p, ds, e1, e2, e3, e4, by rw [e5]; exact kk⟩)
  · exact .inr (.inr ⟨a, o, e1, e2, by rw [if_neg Bool.false_ne_true, e3]; exact kk⟩)
theorem rd_notIn {K : PySem.W.Frag} : RD K (rNotIn3 K) oNotIn := by
  intro H S μ x y dx dy d S' Q r v1 v2 h k
  obtain ⟨b, h1, h2⟩ := map_some h
  cases h2
  have kk : Q (.bl (!b)) H := k _ H μ r .refl (.bl _)
  rcases rd_in_go r v1 v2 h1 with ⟨p, xs, e1, e2, e3, e4, e5⟩ | ⟨p, ds, e1, e2, e3, e4, e5⟩ | ⟨a, o, e1, e2, e3⟩
  · exact .inl ⟨p, xs, e1, e2, e3, e4, by rw [if_pos rfl, e5]; exact kk⟩
  · exact .inr (.inl ⟨p, ds, e1, e2, e3, e4, by rw [e5]; exact kk⟩)
  · exact .inr (.inr ⟨a, o, e1, e2, by rw [if_pos rfl, e3]; exact kk⟩)

/-! ### items -/
def oIx : O2 := fun x y S => match x, y with
  | .tup l, .int i => (atI l i).map fun d => (d, S)
  | .tpu l, .int i => (atI l i).map fun d => (d, S)
  | .lst l, .int i => (atI l i).map fun d => (d, S)
  | .rov l, .int i => (atI l i).map fun d => (d, S)
  | .str z, .int i => if z.length ≤ sizeLine then (atI z.cps.toList i).map fun c => (.str ⟨#[c]⟩, S) else none
  | .loc n, y => match S[n]?, y with
    | some (.lst l), .int i => (atI l i).map fun d => (d, S)
    | some (.ro l), .int i => (atI l i).map fun d => (d, S)
    | _, _ => match dGet S x y with
      | some (some d) => some (d, S)
      | _ => none
  | x, y => match dGet S x y with
    | some (some d) => some (d, S)
    | _ => none
def rDIx : R2 := fun x y H Q => ∃ a v, x = .ref a ∧ DGet H a y (some v) ∧ Q v H
theorem ix_dict {X : Cx} (hu : X.A.units + 1 < cLine) : IxR X rDIx := by
  intro value slice pins s σ H x y v u Q I rx ry h hs
  obtain ⟨a, z, rfl, g, q⟩ := h
  cases rx
  exact tail_any (dict_typeIs I g) PySem.F.slot_dict_getitem.lookup (d_getItem hu I g ry fun w' s3 I3 rw' => ⟨z, H, I3, rw', q⟩) hs
def rIx4 (K : PySem.W.Frag) : R2 := fun x y H Q => rIx K x y H Q ∨ rDIx x y H Q
theorem ixr {X : Cx} (hu : X.A.units + 1 < cLine) : IxR X (rIx4 X.K) := ix_seq.or (ix_dict hu)
theorem RVs.atI {K : PySem.W.Frag} {H : Hp} {μ : List Addr} {l : List D} {vs : List V} {i : Int} {d : D} (h : RVs K H μ l vs) (e : L2.atI l i = some d) : ∃ v, L2.atI vs i = some v ∧ RV K H μ d v := by
  unfold L2.atI at e ⊢
  rw [← h.length]
  obtain ⟨j, e1, e2⟩ := bind_some e
  obtain ⟨v, e3, e4⟩ := h.get e2
  exact ⟨v, by rw [e1]; exact e3, e4⟩
theorem rd_ix {K : PySem.W.Frag} : RD K (rIx4 K) oIx := by
  intro H S μ x y dx dy d S' Q r v1 v2 h k
  have dd : (match dGet S dx dy with
      | some (some d) => some (d, S)
      | _ => none) = some (d, S') → rIx4 K x y H Q := fun h => by
    split at h
    · rename_i z e
      cases h
      obtain ⟨a', o', ea, g, oo⟩ := dget_of r v1 v2 e
      rcases oo with ⟨z1, _⟩ | ⟨x', z', z1, z2, rv⟩
      · cases z1
      · cases z1
        subst z2
        exact .inr ⟨a', z', ea, g, k _ H μ r .refl rv⟩
    · cases h
  unfold oIx at h
  split at h
  · cases v1 with
    | @tup a vs l h1 h2 =>
      cases v2
      obtain ⟨z, e1, e2⟩ := map_some h
      cases e2
      obtain ⟨v, e3, e4⟩ := h2.atI e1
      exact .inl (.inr (.inl ⟨a, vs, _, v, rfl, rfl, SqT.of h1, e3, k _ H μ r .refl e4⟩))
  · cases v1 with
    | @tpu a o vs l h1 h3 h2 =>
      cases v2
      obtain ⟨z, e1, e2⟩ := map_some h
      cases e2
      obtain ⟨v, e3, e4⟩ := h2.atI e1
      exact .inl (.inr (.inl ⟨a, vs, _, v, rfl, rfl, .inl (.inr ⟨_, h1⟩), e3, k _ H μ r .refl e4⟩))
  · cases v1 with
    | @lst a vs l h1 h3 h2 =>
      cases v2
      obtain ⟨z, e1, e2⟩ := map_some h
      cases e2
      obtain ⟨v, e3, e4⟩ := h2.atI e1
      exact .inl (.inl ⟨a, vs, _, v, rfl, rfl, SqL.of h1, e3, k _ H μ r .refl e4⟩)
  · cases v1 with
    | @rov a vs l h1 h2 =>
      cases v2
      obtain ⟨z, e1, e2⟩ := map_some h
      cases e2
      obtain ⟨v, e3, e4⟩ := h2.atI e1
      exact .inl (.inl ⟨a, vs, _, v, rfl, rfl, h1.seq, e3, k _ H μ r .refl e4⟩)
  · cases v1; cases v2
    split at h
    · rename_i hc
      obtain ⟨c, e1, e2⟩ := map_some h
      cases e2
      exact .inl (.inr (.inr ⟨_, _, c, rfl, rfl, hc, e1, k _ H μ r .refl (.str _)⟩))
    · cases h
  · cases v1 with
    | @loc a n h1 =>
      split at h
      · rename_i l i e
        cases v2
        obtain ⟨z, e1, e2⟩ := map_some h
        cases e2
        obtain ⟨vs, q1, q2⟩ := r.atc h1 e
        obtain ⟨v, e3, e4⟩ := q2.atI e1
        exact .inl (.inl ⟨a, vs, _, v, rfl, rfl, SqL.of q1, e3, k _ H μ r .refl e4⟩)
      · rename_i l i e
        cases v2
        obtain ⟨z, e1, e2⟩ := map_some h
        cases e2
        obtain ⟨vs, q1, q2⟩ := r.atc h1 e
        obtain ⟨v, e3, e4⟩ := q2.atI e1
        exact .inl (.inl ⟨a, vs, _, v, rfl, rfl, q1.seq, e3, k _ H μ r .refl e4⟩)
      · exact dd h
  · exact dd h
section
variable {X : Cx} {e a b c : Expr} {es rest : List Expr} {f fa fb fc : FE} {g ga gb : FT} {pos pos' p p2 : Pos}
theorem se_ix (hu : X.A.units + 1 < cLine) (ha : SE X a fa) (hb : SE X b fb) (hs : PlainIx b := by exact fun _ _ => rfl) : SE X (.Subscript a b pos) (eBin oIx fa fb) :=
  SE.mk (pe_ix (ixr hu) ha hb hs) fun σ H Q Γ S μ d S' g r h k => two g r h fun x y dx dy H2 μ2 S2 r2 e2 v1 v2 h4 => rd_ix H2 S2 μ2 x y dx dy d S' Q r2 v1 v2 h4 (k.after e2)

/-! ### slices -/
def cut {α : Type} (xs : List α) (lo hi : Option Int) : List α := (xs.drop (HT.sIx xs.length 0 lo)).take (HT.sIx xs.length xs.length hi - HT.sIx xs.length 0 lo)
theorem RVs.cut {K : PySem.W.Frag} {H : Hp} {μ : List Addr} {l : List D} {vs : List V} (h : RVs K H μ l vs) (lo hi : Option Int) : RVs K H μ (Dl.cut l lo hi) (cutV vs lo hi) := by
  unfold Dl.cut cutV
  rw [← h.length]
  exact (h.drop _).take _
def oSl (x : D) (lo hi : Option Int) (S : Sto) : Option (D × Sto) := match x with
  | .tup l => some (.tup (cut l lo hi), S)
  | .str z => if z.length ≤ sizeLine then some (.str (Txt.slice z lo hi), S) else none
  | .loc n => match S[n]? with
    | some (.lst l) => some (.loc S.length, S ++ [.lst (cut l lo hi)])
    | some (.ro l) => some (.loc S.length, S ++ [.lst (cut l lo hi)])
    | _ => none
  | .lst l => some (.loc S.length, S ++ [.lst (cut l lo hi)])
  | .rov l => some (.loc S.length, S ++ [.lst (cut l lo hi)])
  | .tpu l => if HT.sIx l.length 0 lo = 0 ∧ HT.sIx l.length l.length hi = l.length then some (.tpu l, S) else some (.tup (cut l lo hi), S)
  | _ => none
def rSl3 (K : PySem.W.Frag) : V → Option Int → Option Int → Hp → VK → Prop := fun x lo hi H Q => rSlA K x lo hi H Q ∨ rSlL K x lo hi H Q ∨ C8.rSlX x lo hi H Q
/-- a slice's part -/
abbrev FO := Ctx → Sto → Option (Option Int × Sto)
def oNo : FO := fun _ S => some (none, S)
def oPart (f : FE) : FO := fun Γ S => (f Γ S).bind fun p => match p.1 with
  | .int i => some (some i, p.2)
  | _ => none
def tO (K : PySem.W.Frag) (f : FO) : TO := fun σ H Q => ∃ Γ S μ o S', RG K H μ Γ σ ∧ RS K H μ S ∧ f Γ S = some (o, S') ∧ ∀ H' μ', RS K H' μ' S' → Ext K H μ H' μ' → Q o H'
def SO (X : Cx) (e : Option Expr) (f : FO) : Prop := PO X e (tO X.K f)
theorem imp_o {X : Cx} {e : Option Expr} {t t' : TO} (h : PO X e t) (i : ∀ σ H Q, t' σ H Q → t σ H Q) : PO X e t' := ⟨fun pins s σ H Q I q => h.run pins s σ H Q I (i σ H Q q)⟩
theorem so_no : SO X none oNo := imp_o po_none fun σ H Q ⟨Γ, S, μ, o, S', g, r, h, k⟩ => by cases h; exact k H μ r .refl
theorem so_some (he : SE X e f) : SO X (some e) (oPart f) := imp_o (po_some he) fun σ H Q ⟨Γ, S, μ, o, S', g, r, h, k⟩ => by
  obtain ⟨⟨x, S1⟩, h1, h2⟩ := bind_some h
  refine ⟨Γ, S, μ, x, S1, g, r, h1, fun v H' μ' r' e' rv => ?_⟩
  cases x with
  | int i => cases rv; cases h2; exact ⟨i, rfl, k H' μ' r' e'⟩
  | _ => cases h2
def eSl (fa : FE) (lo hi : FO) : FE := fun Γ S => (fa Γ S).bind fun p => (lo Γ p.2).bind fun q => (hi Γ q.2).bind fun t => oSl p.1 q.1 t.1 t.2
theorem se_sl {lo hi : Option Expr} {fl fh : FO} (ha : SE X a fa) (hl : SO X lo fl) (hh : SO X hi fh) : SE X (.Subscript a (.Slice lo hi none p2) pos) (eSl fa fl fh) :=
  SE.mk (pe_slice (sl_tupA.or (sl_list.or C8.sl_txt)) ha hl hh) fun σ H Q Γ S μ d S' g r h k => by
    obtain ⟨⟨x, S1⟩, h1, h2⟩ := bind_some h
    obtain ⟨⟨l, S2⟩, h3, h4⟩ := bind_some h2
    obtain ⟨⟨u, S3⟩, h5, h6⟩ := bind_some h4
    refine ⟨Γ, S, μ, x, S1, g, r, h1, fun v H1 μ1 r1 e1 rv => ⟨Γ, S1, μ1, l, S2, g.ext e1, r1, h3, fun H2 μ2 r2 e2 => ⟨Γ, S2, μ2, u, S3, (g.ext e1).ext e2, r2, h5, fun H3 μ3 r3 e3 => ?_⟩⟩⟩
    have ee := e1.trans (e2.trans e3)
    have rv := rv.ext (e2.trans e3)
    cases rv with
    | @tup a vs ds q1 q2 =>
      simp only [oSl] at h6
      cases h6
      refine .inl ⟨a, vs, rfl, SqT.of q1, fun hw => ?_, fun _ p hp => ?_⟩
      · have : cut ds l u = ds := by
          unfold cut
          rw [q2.length, hw.1, hw.2]
          simp [← q2.length]
        rw [this] at k
        exact k _ H3 μ3 r3 ee (.tup q1 q2)
      · have s := same_upd (o := .tup (cutV vs l u)) hp
        exact k _ _ μ3 (r3.same s) (ee.trans (.same s)) (.tup upd_same ((q2.cut l u).ext (.same s)))
    | str z =>
      simp only [oSl] at h6
      split at h6
      · rename_i hc; cases h6; exact .inr (.inr ⟨z, rfl, hc, k _ H3 μ3 r3 ee (.str _)⟩)
      · cases h6
    | @loc a n q1 =>
      simp only [oSl] at h6
      split at h6
      · rename_i ds e
        cases h6
        obtain ⟨vs, z1, z2⟩ := r3.atc q1 e
        refine .inr (.inl ⟨a, vs, rfl, SqL.of z1, fun p hp => ?_⟩)
        obtain ⟨a1, a2, a3⟩ := r3.newL (z2.cut l u) hp
        exact k _ _ _ a1 (ee.trans a2) a3
      · rename_i ds e
        cases h6
        obtain ⟨vs, z1, z2⟩ := r3.atc q1 e
        refine .inr (.inl ⟨a, vs, rfl, z1.seq, fun p hp => ?_⟩)
        obtain ⟨a1, a2, a3⟩ := r3.newL (z2.cut l u) hp
        exact k _ _ _ a1 (ee.trans a2) a3
      · cases h6
    | @lst a vs ds q1 q3 q2 =>
      simp only [oSl] at h6
      cases h6
      refine .inr (.inl ⟨a, vs, rfl, SqL.of q1, fun p hp => ?_⟩)
      obtain ⟨a1, a2, a3⟩ := r3.newL (q2.cut l u) hp
      exact k _ _ _ a1 (ee.trans a2) a3
    | @rov a vs ds q1 q2 =>
      simp only [oSl] at h6
      cases h6
      refine .inr (.inl ⟨a, vs, rfl, q1.seq, fun p hp => ?_⟩)
      obtain ⟨a1, a2, a3⟩ := r3.newL (q2.cut l u) hp
      exact k _ _ _ a1 (ee.trans a2) a3
    | @tpu a o vs ds q1 q3 q2 =>
      simp only [oSl] at h6
      split at h6
      · rename_i hc
        cases h6
        refine .inl ⟨a, vs, rfl, .inl (.inr ⟨_, q1⟩), fun hw => k _ H3 μ3 r3 ee (.tpu q1 q3 q2), fun hn => absurd (by rw [← q2.length]; exact hc) hn⟩
      · rename_i hc
        cases h6
        refine .inl ⟨a, vs, rfl, .inl (.inr ⟨_, q1⟩), fun hw => absurd (by rw [q2.length]; exact hw) hc, fun _ p hp => ?_⟩
        have s := same_upd (o := .tup (cutV vs l u)) hp
        exact k _ _ μ3 (r3.same s) (ee.trans (.same s)) (.tup upd_same ((q2.cut l u).ext (.same s)))
    | _ => simp only [oSl] at h6; cases h6
end
end Dl

/-! DlR: built-in calls and methods -/
namespace Dl
open PySem PySem.Spec PyProof.Rows L2

theorem RVs.one {K : PySem.W.Frag} {H : Hp} {μ : List Addr} {d : D} {vs : List V} (h : RVs K H μ [d] vs) : ∃ v, vs = [v] ∧ RV K H μ d v := by
  cases h with
  | cons h r => cases r; exact ⟨_, rfl, h⟩
theorem RVs.two {K : PySem.W.Frag} {H : Hp} {μ : List Addr} {d e : D} {vs : List V} (h : RVs K H μ [d, e] vs) : ∃ v w, vs = [v, w] ∧ RV K H μ d v ∧ RV K H μ e w := by
  cases h with
  | cons h r =>
    obtain ⟨w, rfl, g⟩ := r.one
    exact ⟨_, _, rfl, h, g⟩
theorem RVs.nilv {K : PySem.W.Frag} {H : Hp} {μ : List Addr} {vs : List V} (h : RVs K H μ [] vs) : vs = [] := by cases h; rfl

/-! ### len, abs, int, str, max, min, gcd, lcm -/
def lenD (S : Sto) : D → Option Nat
  | .str z => if z.length ≤ sizeLine then some z.length else none
  | .tup l => some l.length
  | .loc n => match S[n]? with
    | some (.lst l) => some l.length
    | some (.ro l) => some l.length
    | some (.dk l) => some l.length
    | _ => none
  | .lst l => some l.length
  | .rov l => some l.length
  | .tpu l => some l.length
  | _ => none
def bLen : FF
  | [d], S => (lenD S d).map fun n => (.int n, S)
  | _, _ => none
def rLen2 (K : PySem.W.Frag) : List V → Hp → VK → Prop := fun xs H Q => (∃ x n, xs = [x] ∧ LenV K x H n ∧ Q (.int n) H) ∨ (∃ a kvs, xs = [V.ref a] ∧ H a = some (.dK kvs) ∧ Q (.int kvs.length) H)
theorem cr_len {X : Cx} : CallR X (.builtin "len") (rLen2 X.K) := call_len.or call_lenD
theorem bd_len {K : PySem.W.Frag} : BD K (rLen2 K) bLen := by
  intro H S μ xs ds d S' Q r rv h k
  match ds, h with
  | [x], h =>
    obtain ⟨v, rfl, rx⟩ := rv.one
    obtain ⟨n, h1, h2⟩ := map_some h
    cases h2
    have kk : Q (.int n) H := k _ H μ r .refl (.int _)
    cases rx with
    | str z =>
      simp only [lenD] at h1
      split at h1
      · rename_i hc; cases h1; exact .inl ⟨_, _, rfl, ⟨hc, rfl⟩, kk⟩
      · cases h1
    | @tup a vs l q1 q2 =>
      cases h1
      exact .inl ⟨_, _, rfl, .inr ⟨vs, SqT.of q1, q2.length⟩, kk⟩
    | @loc a m q1 =>
      simp only [lenD] at h1
      split at h1
      · rename_i l e
        cases h1
        obtain ⟨vs, z1, z2⟩ := r.atc q1 e
        exact .inl ⟨_, _, rfl, .inl ⟨vs, SqL.of z1, z2.length⟩, kk⟩
      · rename_i l e
        cases h1
        obtain ⟨vs, z1, z2⟩ := r.atc q1 e
        exact .inl ⟨_, _, rfl, .inl ⟨vs, z1.seq, z2.length⟩, kk⟩
      · rename_i l e
        cases h1
        obtain ⟨ws, z1, z2⟩ := r.atc q1 e
        exact .inr ⟨a, ws, rfl, z1, by rw [← RK.length z2]; exact kk⟩
      · cases h1
    | lst q1 _ q2 => cases h1; exact .inl ⟨_, _, rfl, .inl ⟨_, SqL.of q1, q2.length⟩, kk⟩
    | rov q1 q2 => cases h1; exact .inl ⟨_, _, rfl, .inl ⟨_, q1.seq, q2.length⟩, kk⟩
    | tpu q1 _ q2 => cases h1; exact .inl ⟨_, _, rfl, .inr ⟨_, .inl (.inr ⟨_, q1⟩), q2.length⟩, kk⟩
    | _ => simp only [lenD] at h1; cases h1
def bAbs : FF
  | [.int i], S => some (.int (if i < 0 then -i else i), S)
  | _, _ => none
theorem bd_abs {K : PySem.W.Frag} : BD K (fun xs H Q => ∃ i, xs = [.int i] ∧ Q (.int (if i < 0 then -i else i)) H) bAbs := by
  intro H S μ xs ds d S' Q r rv h k
  match ds, h with
  | [.int i], h =>
    cases h
    obtain ⟨v, rfl, rx⟩ := rv.one
    cases rx
    exact ⟨i, rfl, k _ H μ r .refl (.int _)⟩
def bInt : FF
  | [.int i], S => some (.int i, S)
  | [.bl b], S => some (.int (if b then 1 else 0), S)
  | _, _ => none
theorem bd_int {K : PySem.W.Frag} : BD K (fun xs H Q => (∃ i, xs = [.int i] ∧ Q (.int i) H) ∨ ∃ k, xs = [.bl k] ∧ Q (.int (if k then 1 else 0)) H) bInt := by
  intro H S μ xs ds d S' Q r rv h k
  match ds, h with
  | [.int i], h =>
    cases h
    obtain ⟨v, rfl, rx⟩ := rv.one
    cases rx
    exact .inl ⟨i, rfl, k _ H μ r .refl (.int _)⟩
  | [.bl i], h =>
    cases h
    obtain ⟨v, rfl, rx⟩ := rv.one
    cases rx
    exact .inr ⟨i, rfl, k _ H μ r .refl (.int _)⟩
def bStr : FF
  | [.int i], S => if i.natAbs.log2 < 1920 then some (.str (toString i), S) else none
  | _, _ => none
theorem bd_str {K : PySem.W.Frag} : BD K (fun xs H Q => ∃ i, xs = [.int i] ∧ i.natAbs.log2 < 1920 ∧ Q (.str (toString i)) H) bStr := by
  intro H S μ xs ds d S' Q r rv h k
  match ds, h with
  | [.int i], h =>
    simp only [bStr] at h
    split at h
    · rename_i hc
      cases h
      obtain ⟨v, rfl, rx⟩ := rv.one
      cases rx
      exact ⟨i, rfl, hc, k _ H μ r .refl (.str _)⟩
    · cases h
def bMax2 : FF
  | [.int i, .int j], S => some (.int (if j > i then j else i), S)
  | _, _ => none
theorem bd_max2 {K : PySem.W.Frag} : BD K (fun xs H Q => ∃ i j, xs = [.int i, .int j] ∧ Q (.int (if j > i then j else i)) H) bMax2 := by
  intro H S μ xs ds d S' Q r rv h k
  match ds, h with
  | [.int i, .int j], h =>
    cases h
    obtain ⟨v, w, rfl, rx, ry⟩ := rv.two
    cases rx; cases ry
    exact ⟨i, j, rfl, k _ H μ r .refl (.int _)⟩
def bMin2 : FF
  | [.int i, .int j], S => some (.int (if j < i then j else i), S)
  | _, _ => none
theorem bd_min2 {K : PySem.W.Frag} : BD K (fun xs H Q => ∃ i j, xs = [.int i, .int j] ∧ Q (.int (if j < i then j else i)) H) bMin2 := by
  intro H S μ xs ds d S' Q r rv h k
  match ds, h with
  | [.int i, .int j], h =>
    cases h
    obtain ⟨v, w, rfl, rx, ry⟩ := rv.two
    cases rx; cases ry
    exact ⟨i, j, rfl, k _ H μ r .refl (.int _)⟩
def bGcd : FF
  | [.int a, .int b], S => some (.int ((Nat.gcd a.natAbs b.natAbs : Nat) : Int), S)
  | _, _ => none
theorem bd_gcd {K : PySem.W.Frag} : BD K rGcd bGcd := by
  intro H S μ xs ds d S' Q r rv h k
  match ds, h with
  | [.int i, .int j], h =>
    cases h
    obtain ⟨v, w, rfl, rx, ry⟩ := rv.two
    cases rx; cases ry
    exact ⟨i, j, rfl, k _ H μ r .refl (.int _)⟩
def bLcm : FF
  | [.int a, .int b], S => if a.natAbs < 2 ^ 64 ∧ b.natAbs < 2 ^ 64 then some (.int ((Nat.lcm a.natAbs b.natAbs : Nat) : Int), S) else none
  | _, _ => none
def rLcm : List V → Hp → VK → Prop := fun vs H Q => ∃ a b : Int, vs = [.int a, .int b] ∧ a.natAbs < 2 ^ 64 ∧ b.natAbs < 2 ^ 64 ∧ Q (.int ((Nat.lcm a.natAbs b.natAbs : Nat) : Int)) H
theorem cr_lcm {X : Cx} : CallR X (.builtin "math.lcm") rLcm := by
  intro pins s σ H vs us Q I r h
  obtain ⟨a, b, rfl, ha, hb, q⟩ := h
  obtain ⟨t, u, rfl⟩ := Vals.int2 r
  have e : (((Nat.lcm 1 a.natAbs).lcm b.natAbs : Nat) : Int) = ((Nat.lcm a.natAbs b.natAbs : Nat) : Int) := by rw [Nat.lcm_one_left]
  refine PySem.W.mg_lcm_v ha hb e ?_ ⟨.int _, H, I.tok _, ⟨_, rfl⟩, q⟩
  have h1 : Nat.lcm a.natAbs b.natAbs ≤ a.natAbs * b.natAbs := by
    by_cases h0 : a.natAbs * b.natAbs = 0
    · rw [Nat.mul_eq_zero] at h0
      rcases h0 with h0 | h0 <;> simp [h0]
    · exact Nat.le_of_dvd (Nat.pos_of_ne_zero h0) (Nat.lcm_dvd_mul _ _)
  have h2 : a.natAbs * b.natAbs < 2 ^ 128 := by
    have := Nat.mul_lt_mul'' ha hb
    exact Nat.lt_of_lt_of_eq this (by decide)
  have h3 : (((Nat.lcm a.natAbs b.natAbs : Nat) : Int)).natAbs < 2 ^ 128 := by
    rw [Int.natAbs_natCast]
    exact Nat.lt_of_le_of_lt h1 h2
  exact Nat.lt_of_le_of_lt (PySem.W.mg_log (k := 127) h3) (by decide)
theorem bd_lcm {K : PySem.W.Frag} : BD K rLcm bLcm := by
  intro H S μ xs ds d S' Q r rv h k
  match ds, h with
  | [.int i, .int j], h =>
    simp only [bLcm] at h
    split at h
    · rename_i hc
      cases h
      obtain ⟨v, w, rfl, rx, ry⟩ := rv.two
      cases rx; cases ry
      exact ⟨i, j, rfl, hc.1, hc.2, k _ H μ r .refl (.int _)⟩
    · cases h

/-! ### sum, max, min of a list of ints -/
def intsOf : List D → Option (List Int)
  | [] => some []
  | .int i :: r => (intsOf r).map fun l => i :: l
  | _ :: _ => none
theorem RVs.ints {K : PySem.W.Frag} {H : Hp} {μ : List Addr} : ∀ {l : List D} {vs : List V} {ns : List Int}, RVs K H μ l vs → intsOf l = some ns → vs = ns.map V.int
  | _, _, ns, .nil, e => by cases e; rfl
  | _, _, ns, .cons h r, e => by
    cases h <;> simp only [intsOf] at e <;> first | cases e | skip
    obtain ⟨m, e1, e2⟩ := map_some e
    subst e2
    rw [List.map_cons, RVs.ints r e1]
def bSum : FF
  | [d], S => match rdL S d with
    | some l => (intsOf l).map fun ns => (.int ns.sum, S)
    | _ => none
  | _, _ => none
theorem bd_sum {K : PySem.W.Frag} : BD K (rSum K) bSum := by
  intro H S μ xs ds d S' Q r rv h k
  match ds, h with
  | [x], h =>
    obtain ⟨v, rfl, rx⟩ := rv.one
    simp only [bSum] at h
    split at h
    · rename_i l e
      obtain ⟨ns, e1, e2⟩ := map_some h
      cases e2
      obtain ⟨a, vs, rfl, z1, z2⟩ := rdL_of r rx e
      exact ⟨a, ns, rfl, by rw [← z2.ints e1]; exact z1, k _ H μ r .refl (.int _)⟩
    · cases h
def maxL : List Int → Int
  | [] => 0
  | [x] => x
  | x :: y :: r => max x (maxL (y :: r))
def minL : List Int → Int
  | [] => 0
  | [x] => x
  | x :: y :: r => min x (minL (y :: r))
theorem maxL_spec : ∀ l : List Int, l ≠ [] → maxL l ∈ l ∧ ∀ y ∈ l, y ≤ maxL l
  | [], h => absurd rfl h
  | [x], _ => by simp [maxL]
  | x :: y :: r, _ => by
    obtain ⟨h1, h2⟩ := maxL_spec (y :: r) (by simp)
    rw [maxL]
    refine ⟨?_, fun z hz => ?_⟩
    · by_cases h : x ≤ maxL (y :: r)
      · rw [Int.max_eq_right h]; exact List.mem_cons_of_mem _ h1
      · rw [Int.max_eq_left (by omega)]; exact List.mem_cons_self
    · rcases List.mem_cons.mp hz with rfl | hz
      · exact Int.le_max_left _ _
      · exact Int.le_trans (h2 z hz) (Int.le_max_right _ _)
theorem minL_spec : ∀ l : List Int, l ≠ [] → minL l ∈ l ∧ ∀ y ∈ l, minL l ≤ y
  | [], h => absurd rfl h
  | [x], _ => by simp [minL]
  | x :: y :: r, _ => by
    obtain ⟨h1, h2⟩ := minL_spec (y :: r) (by simp)
    rw [minL]
    refine ⟨?_, fun z hz => ?_⟩
    · by_cases h : x ≤ minL (y :: r)
      · rw [Int.min_eq_left h]; exact List.mem_cons_self
      · rw [Int.min_eq_right (by omega)]; exact List.mem_cons_of_mem _ h1
    · rcases List.mem_cons.mp hz with rfl | hz
      · exact Int.min_le_left _ _
      · exact Int.le_trans (Int.min_le_right _ _) (h2 z hz)
def bMaxL : FF
  | [d], S => match rdL S d with
    | some l => match intsOf l with
      | some (x :: ns) => some (.int (maxL (x :: ns)), S)
      | _ => none
    | _ => none
  | _, _ => none
theorem bd_maxL {K : PySem.W.Frag} : BD K (rMax K) bMaxL := by
  intro H S μ xs ds d S' Q r rv h k
  match ds, h with
  | [x], h =>
    obtain ⟨v, rfl, rx⟩ := rv.one
    simp only [bMaxL] at h
    split at h
    · rename_i l e
      split at h
      · rename_i x ns e1
        cases h
        obtain ⟨a, vs, rfl, z1, z2⟩ := rdL_of r rx e
        refine ⟨a, x :: ns, rfl, by rw [← z2.ints e1]; exact z1, by simp, fun m hm hy => ?_⟩
        obtain ⟨m1, m2⟩ := maxL_spec (x :: ns) (by simp)
        have : m = maxL (x :: ns) := Int.le_antisymm (m2 m hm) (hy _ m1)
        rw [this]
        exact k _ H μ r .refl (.int _)
      · cases h
    · cases h
def bMinL : FF
  | [d], S => match rdL S d with
    | some l => match intsOf l with
      | some (x :: ns) => some (.int (minL (x :: ns)), S)
      | _ => none
    | _ => none
  | _, _ => none
theorem bd_minL {K : PySem.W.Frag} : BD K (rMin K) bMinL := by
  intro H S μ xs ds d S' Q r rv h k
  match ds, h with
  | [x], h =>
    obtain ⟨v, rfl, rx⟩ := rv.one
    simp only [bMinL] at h
    split at h
    · rename_i l e
      split at h
      · rename_i x ns e1
        cases h
        obtain ⟨a, vs, rfl, z1, z2⟩ := rdL_of r rx e
        refine ⟨a, x :: ns, rfl, by rw [← z2.ints e1]; exact z1, by simp, fun m hm hy => ?_⟩
        obtain ⟨m1, m2⟩ := minL_spec (x :: ns) (by simp)
        have : m = minL (x :: ns) := Int.le_antisymm (hy _ m1) (m2 m hm)
        rw [this]
        exact k _ H μ r .refl (.int _)
      · cases h
    · cases h
/-! ### tuple(x), list(x); a list that only the call knows is forgotten -/
def seqD (S : Sto) : D → Option (List D)
  | .tup l => some l
  | .tpu l => some l
  | .lst l => some l
  | .rov l => some l
  | .loc n => match S[n]? with
    | some (.lst l) => some l
    | some (.ro l) => some l
    | _ => none
  | _ => none
def bTup : FF
  | [d], S => match d with
    | .tup l => some (.tup l, S)
    | .tpu l => some (.tpu l, S)
    | d => (rdL S d).map fun l => (.tup l, S)
  | _, _ => none
/-- tuple(l) of a list, the new object known whole -/
def bTpu : FF
  | [d], S => (rdL S d).map fun l => (.tpu l, S)
  | _, _ => none
def bList : FF
  | [d], S => (seqD S d).map fun l => (.loc S.length, S ++ [.lst l])
  | _, _ => none
theorem seq_of {K : PySem.W.Frag} {H : Hp} {μ : List Addr} {S : Sto} {d : D} {v : V} {l : List D} (r : RS K H μ S) (rv : RV K H μ d v) (h : seqD S d = some l) :
    ∃ p vs, v = .ref p ∧ RVs K H μ l vs ∧ (SqL K H p vs ∨ SqT K H p vs) := by
  cases rv with
  | @tup a vs l q1 q2 => cases h; exact ⟨a, vs, rfl, q2, .inr (SqT.of q1)⟩
  | @tpu a o vs l q1 _ q2 => cases h; exact ⟨a, vs, rfl, q2, .inr (.inl (.inr ⟨_, q1⟩))⟩
  | @lst a vs l q1 _ q2 => cases h; exact ⟨a, vs, rfl, q2, .inl (SqL.of q1)⟩
  | @rov a vs l q1 q2 => cases h; exact ⟨a, vs, rfl, q2, .inl q1.seq⟩
  | @loc a n q1 =>
    simp only [seqD] at h
    split at h
    · rename_i l e
      cases h
      obtain ⟨vs, z1, z2⟩ := r.atc q1 e
      exact ⟨a, vs, rfl, z2, .inl (SqL.of z1)⟩
    · rename_i l e
      cases h
      obtain ⟨vs, z1, z2⟩ := r.atc q1 e
      exact ⟨a, vs, rfl, z2, .inl z1.seq⟩
    · cases h
  | _ => simp only [seqD] at h; cases h
theorem bd_tup {K : PySem.W.Frag} : BD K (fun xs H Q => ∃ p ys, xs = [.ref p] ∧ ((SqL K H p ys ∧ ∀ l, H l = none → Q (.ref l) (upd H l (.tup ys))) ∨ (SqT K H p ys ∧ Q (.ref p) H))) bTup := by
  intro H S μ xs ds d S' Q r rv h k
  match ds, h with
  | [x], h =>
    obtain ⟨v, rfl, rx⟩ := rv.one
    simp only [bTup] at h
    split at h
    · cases h
      cases rx with
      | tup q2 q1 => exact ⟨_, _, rfl, .inr ⟨SqT.of q2, k _ H μ r .refl (.tup q2 q1)⟩⟩
    · cases h
      cases rx with
      | tpu q2 q3 q1 => exact ⟨_, _, rfl, .inr ⟨.inl (.inr ⟨_, q2⟩), k _ H μ r .refl (.tpu q2 q3 q1)⟩⟩
    · obtain ⟨l, h1, h2⟩ := map_some h
      cases h2
      obtain ⟨p, vs, rfl, q2, q1⟩ := rdL_of r rx h1
      refine ⟨p, vs, rfl, .inl ⟨q2, fun t ht => ?_⟩⟩
      have s := same_upd (o := .tup vs) ht
      exact k _ _ μ (r.same s) (.same s) (.tup upd_same (q1.ext (.same s)))
def rTpu (K : PySem.W.Frag) : List V → Hp → VK → Prop := fun xs H Q => ∃ p ys, xs = [.ref p] ∧ SqL K H p ys ∧ ∀ l o, o.dict = none → H l = none → Q (.ref l) (upd H l (.frz o (.tup ys)))
theorem call_tpu {X : Cx} : CallR X (.type "tuple") (rTpu X.K) := by
  intro pins s σ H xs us Q I r h
  obtain ⟨p, ys, rfl, hq, q⟩ := h
  obtain ⟨u, rfl, rx⟩ := vals1 r
  cases rx
  obtain ⟨its, r', pl, hz⟩ := I.list hq
  have hlen := r'.length
  refine call_tuple_list pl.isList (fun h' kp => ?_) (by simp only [List.size_toArray] <;> omega)
  have I1 : Inv X pins σ H { s with heap := h' } := I.kept (t' := s.toks) kp
  have I2 : Inv X pins σ (upd H h'.objs.size (.frz { cls := .type "tuple", data := .seq its.toArray } (.tup ys))) { s with heap := h'.push { cls := .type "tuple", data := .seq its.toArray } } :=
    I1.laid (t' := s.toks) (fun b o e => Heap.get?_push_of_some _ e) (Nat.le_refl _) (show ObjOk X.prog X.w _ _ _ (.frz _ (.tup ys)) from ⟨Heap.get?_push_size _ (by rfl), hz, its, r', IsTup.new _ _⟩)
  exact ⟨.ref h'.objs.size, _, I2, rfl, q _ _ rfl (I1.hok.fresh (Nat.le_refl _))⟩
theorem bd_tpu {K : PySem.W.Frag} : BD K (rTpu K) bTpu := by
  intro H S μ xs ds d S' Q r rv h k
  match ds, h with
  | [x], h =>
    obtain ⟨v, rfl, rx⟩ := rv.one
    obtain ⟨l, h1, h2⟩ := map_some h
    cases h2
    obtain ⟨p, vs, rfl, q2, q1⟩ := rdL_of r rx h1
    refine ⟨p, vs, rfl, q2, fun t o ho ht => ?_⟩
    have s := same_upd (o := .frz o (.tup vs)) ht
    exact k _ _ μ (r.same s) (.same s) (.tpu upd_same ho (q1.ext (.same s)))
theorem bd_list {K : PySem.W.Frag} : BD K (fun xs H Q => ∃ p ys, xs = [.ref p] ∧ (SqL K H p ys ∨ SqT K H p ys) ∧ ∀ l, H l = none → Q (.ref l) (upd H l (.lst ys))) bList := by
  intro H S μ xs ds d S' Q r rv h k
  match ds, h with
  | [x], h =>
    obtain ⟨v, rfl, rx⟩ := rv.one
    obtain ⟨l, h1, h2⟩ := map_some h
    cases h2
    obtain ⟨p, vs, rfl, q1, q2⟩ := seq_of r rx h1
    refine ⟨p, vs, rfl, q2, fun t ht => ?_⟩
    · obtain ⟨a1, a2, a3⟩ := r.newL q1 ht
      exact k _ _ _ a1 a2 a3

/-! ### what is behind the end and known to nobody is forgotten -/
def fin (b : Nat) (p : D × Sto) : D × Sto := if p.1.lo b = true ∧ (p.2.take b).all (Cell.lo b) = true then (p.1, p.2.take b) else p
def tidy (f : FE) : FE := fun Γ S => (f Γ S).map (fin S.length)
theorem fin_ok {K : PySem.W.Frag} {H0 H : Hp} {μ0 μ : List Addr} {S0 S : Sto} {d : D} {v : V} (r0 : RS K H0 μ0 S0) (r : RS K H μ S) (e : Ext K H0 μ0 H μ) (rv : RV K H μ d v) :
    ∃ μ', RS K H μ' (fin S0.length (d, S)).2 ∧ Ext K H0 μ0 H μ' ∧ RV K H μ' (fin S0.length (d, S)).1 v := by
  unfold fin
  split
  · rename_i hc
    have em : μ.take S0.length = μ0 := by
      obtain ⟨t, ht⟩ := e.pre
      rw [← ht, ← r0.len, List.take_left]
    exact ⟨μ.take S0.length, r.trunc hc.2, by rw [em]; exact e.cut, rv.trunc hc.1⟩
  · exact ⟨μ, r, e, rv⟩
section
variable {X : Cx} {e a b c o : Expr} {es rest : List Expr} {f fa fb fc fo : FE} {g ga gb : FT} {pos pos' p p2 apos cpos : Pos}
theorem se_tidy (h : SE X e f) : SE X e (tidy f) :=
  SE.mk h fun σ H Q Γ S μ d S' g r h k => by
    obtain ⟨⟨x, S1⟩, h1, h2⟩ := map_some h
    refine ⟨Γ, S, μ, x, S1, g, r, h1, fun v H' μ' r' e' rv => ?_⟩
    obtain ⟨μ2, a1, a2, a3⟩ := fin_ok r r' e' rv
    rw [h2] at a1 a3
    exact k v H' μ2 a1 a2 a3

/-! ### isinstance(x, T) -/
def tyN (S : Sto) : D → Option String
  | .non => some "NoneType"
  | .bl _ => some "bool"
  | .int _ => some "int"
  | .str _ => some "str"
  | .tup _ => some "tuple"
  | .lst _ => some "list"
  | .loc n => match S[n]? with
    | some (.lst _) => some "list"
    | some (.dk _) => some "dict"
    | some (.dt _) => some "dict"
    | _ => none
  | _ => none
theorem ty_of {K : PySem.W.Frag} {H : Hp} {μ : List Addr} {S : Sto} {d : D} {v : V} {t : String} (r : RS K H μ S) (rv : RV K H μ d v) (h : tyN S d = some t) : TyOf K H v (.type t) := by
  cases rv with
  | non => cases h; exact .non
  | bl b => cases h; exact .bl b
  | int i => cases h; exact .int i
  | str x => cases h; exact .str x
  | tup h1 h2 => cases h; exact .tup h1
  | lst h1 _ h2 => cases h; exact .lst h1
  | @loc a n h1 =>
    simp only [tyN] at h
    split at h
    · rename_i l e; cases h; obtain ⟨vs, q1, q2⟩ := r.atc h1 e; exact .lst q1
    · rename_i l e; cases h; obtain ⟨vs, q1, q2⟩ := r.atc h1 e; exact .dK q1
    · rename_i l e; cases h; obtain ⟨vs, q1, q2⟩ := r.atc h1 e; exact .dT q1
    · cases h
  | _ => cases h
def eIsi (T : String) (fa : FE) : FE := fun Γ S => (fa Γ S).bind fun p => (tyN p.2 p.1).bind fun t => (kitB t T).map fun b => (.bl b, p.2)
theorem se_isi {x : Str} {T : String} (ha : SE X a fa) (hg : Gl X "isinstance") (hm : X.mg "isinstance" = none) (hg2 : Gl X x) (hm2 : X.mg x = none) (hv2 : bootBuiltins x = some (.type T)) (hn : x ≠ "__name__" := by decide) (hdb : (x == ("__debug__" : Str)) = false := by decide)
    (he : starEach [a, .Name x p2] X.env = (false, eval a X.env) :: starEach [.Name x p2] X.env := by rfl) (hpl : (backTo pos (starEach [.Name x p2] X.env)).any (·.1) = false := by rfl) :
    SE X (.Call (.Name "isinstance" p) [a, .Name x p2] [] pos) (eIsi T fa) :=
  SE.mk (pe_callB call_isi hg hm (by decide +kernel) (pa_cons ha (pa_cons (pe_bltn (v := .ty T) (u := .type T) hg2 hm2 hv2 rfl hn hdb) pa_nil) he) (by decide) (by decide) he hpl) fun σ H Q Γ S μ d S' g r h k => by
    obtain ⟨⟨y, S1⟩, h1, h2⟩ := bind_some h
    obtain ⟨t, h3, h4⟩ := bind_some h2
    obtain ⟨b, h5, h6⟩ := map_some h4
    cases h6
    exact ⟨Γ, S, μ, y, S1, g, r, h1, fun v H' μ' r' e' rv => ⟨v, .ty T, _, _, b, rfl, .ty T, .base (ty_of r' rv h3), kit_ty h5, k _ H' μ' r' e' (.bl _)⟩⟩

/-! ### methods -/
def tyD (T : String) (S : Sto) : D → Bool
  | .str _ => T == "str"
  | .int _ => T == "int"
  | .loc n => match S[n]? with
    | some (.lst _) => T == "list"
    | some (.ro _) => T == "list"
    | some (.dk _) => T == "dict"
    | some (.dt _) => T == "dict"
    | _ => false
  | .lst _ => T == "list"
  | _ => false
theorem tyD_of {K : PySem.W.Frag} {H : Hp} {μ : List Addr} {S : Sto} {d : D} {v : V} {T : String} (r : RS K H μ S) (rv : RV K H μ d v) (h : tyD T S d = true) : tyV K T v H := by
  cases rv with
  | str x => exact beq_iff_eq.mp h
  | int i => exact beq_iff_eq.mp h
  | @loc a n h1 =>
    simp only [tyD] at h
    split at h
    · rename_i l e; obtain ⟨vs, q1, q2⟩ := r.atc h1 e; exact .inl ⟨beq_iff_eq.mp h, vs, SqL.of q1⟩
    · rename_i l e; obtain ⟨vs, q1, q2⟩ := r.atc h1 e; exact .inl ⟨beq_iff_eq.mp h, vs, q1.seq⟩
    · rename_i l e; obtain ⟨vs, q1, q2⟩ := r.atc h1 e; exact .inr (.inr (.inl ⟨beq_iff_eq.mp h, .inl ⟨vs, q1⟩⟩))
    · rename_i l e; obtain ⟨vs, q1, q2⟩ := r.atc h1 e; exact .inr (.inr (.inl ⟨beq_iff_eq.mp h, .inr ⟨vs, q1⟩⟩))
    · cases h
  | @lst a vs l h1 _ h2 => exact .inl ⟨beq_iff_eq.mp h, vs, SqL.of h1⟩
  | _ => simp only [tyD] at h; cases h
/-- a method upon the receiver and the arguments -/
abbrev FM := D → List D → Sto → Option (D × Sto)
def MD (K : PySem.W.Frag) (r : V → List V → Hp → VK → Prop) (F : FM) : Prop := ∀ (H : Hp) (S : Sto) (μ : List Addr) (x : V) (dx : D) (xs : List V) (ds : List D) (d : D) (S' : Sto) (Q : VK), RS K H μ S → RV K H μ dx x → RVs K H μ ds xs → F dx ds S = some (d, S') → Kt K H μ S' d Q → r x xs H Q
def eMeth (T : String) (F : FM) (fo : FE) (fs : List FE) : FE := fun Γ S => (fo Γ S).bind fun p => if tyD T p.2 p.1 = true then (args fs Γ p.2).bind fun q => F p.1 q.1 q.2 else none
theorem se_bm0 {T id : String} {name : Str} {r : V → List V → Hp → VK → Prop} {F : FM} (pa : PlainAttrs T) (slot : Slot T name id) (hty : typeOf (.builtin id) = pure (.type "method_descriptor")) (hm : MtR X id r) (hf : MD X.K r F) (ho : SE X o fo)
    (hbase : attributeBase o name X.env (eval o X.env) = eval o X.env := by rfl) (hline : (apos.endLine == cpos.line) = true := by rfl) : SE X (.Call (.Attribute o name apos) [] [] cpos) (eMeth T F fo []) :=
  SE.mk (pe_bm0 pa slot hty hm ho hbase hline) fun σ H Q Γ S μ d S' g r h k => by
    obtain ⟨⟨y, S1⟩, h1, h2⟩ := bind_some h
    simp only at h2
    split at h2
    · rename_i hc
      obtain ⟨⟨ys, S2⟩, h3, h4⟩ := bind_some h2
      cases h3
      exact ⟨Γ, S, μ, y, S1, g, r, h1, fun v H' μ' r' e' rv => ⟨tyD_of r' rv hc, hf H' S1 μ' v y [] [] d S' Q r' rv .nil h4 (k.after e')⟩⟩
    · cases h2
theorem se_bm {T id : String} {name : Str} {r : V → List V → Hp → VK → Prop} {F : FM} {fs : List FE} (pa : PlainAttrs T) (slot : Slot T name id) (hty : typeOf (.builtin id) = pure (.type "method_descriptor")) (hm : MtR X id r) (hf : MD X.K r F) (ho : SE X o fo) (ha : SA X (e :: es) (args fs))
    (hbase : attributeBase o name X.env (eval o X.env) = eval o X.env := by rfl)
    (hfew : ((backTo cpos (starEach (e :: es) X.env)).all (fun x => !x.1) && (backToKw cpos (keywordEach [] X.env)).all (fun x => x.1.isSome)
      && decide ((e :: es).length + ([] : List Keyword).length + (if ([] : List Keyword).isEmpty then 0 else 1) < 30)) = true := by rfl)
    (hline : (apos.endLine == cpos.line) = true := by rfl) (hs : starEach (e :: es) X.env = (false, eval e X.env) :: starEach es X.env := by rfl) (hplain : (backTo cpos (starEach es X.env)).any (·.1) = false := by rfl) :
    SE X (.Call (.Attribute o name apos) (e :: es) [] cpos) (eMeth T F fo fs) :=
  SE.mk (pe_bm pa slot hty hm ho ha hbase hfew hline hs hplain) fun σ H Q Γ S μ d S' g r h k => by
    obtain ⟨⟨y, S1⟩, h1, h2⟩ := bind_some h
    simp only at h2
    split at h2
    · rename_i hc
      obtain ⟨⟨ys, S2⟩, h3, h4⟩ := bind_some h2
      exact ⟨Γ, S, μ, y, S1, g, r, h1, fun v H' μ' r' e' rv => ⟨tyD_of r' rv hc, Γ, S1, μ', ys, S2, g.ext e', r', h3, fun vs H2 μ2 r2 e2 rvs => hf H2 S2 μ2 v y vs ys d S' Q r2 (rv.ext e2) rvs h4 (k.after (e'.trans e2))⟩⟩
    · cases h2
end
/-- the list at n is written -/
theorem RS.setL {K : PySem.W.Frag} {H : Hp} {μ : List Addr} {S : Sto} {n : Nat} {a : Addr} {l m : List D} {ws : List V} (r : RS K H μ S) (hn : μ[n]? = some a) (hS : S[n]? = some (.lst l)) (rv : RVs K H μ m ws) :
    RS K (upd H a (.lst ws)) μ (S.set n (.lst m)) ∧ Ext K H μ (upd H a (.lst ws)) μ := by
  obtain ⟨o, q1, q2, q3, q4⟩ := (r.atc hn hS).some rfl
  have e : Ext K H μ (upd H a (.lst ws)) μ := ext_upd q1 q2 q3 q4 (List.mem_of_getElem? hn)
  exact r.write hn hS rfl rfl ⟨ws, upd_same, rv.ext e⟩
def mAppend : FM := fun x ds S => match x, ds with
  | .loc n, [y] => match S[n]? with
    | some (.lst l) => if l.length < sizeLine then some (.non, S.set n (.lst (l ++ [y]))) else none
    | _ => none
  | _, _ => none
theorem md_append {K : PySem.W.Frag} : MD K rAppend mAppend := by
  intro H S μ x dx xs ds d S' Q r rv rvs h k
  unfold mAppend at h
  split at h
  · rename_i n y
    split at h
    · rename_i l e
      split at h
      · rename_i hc
        cases h
        cases rv with
        | @loc a _ q1 =>
          obtain ⟨v, rfl, ry⟩ := rvs.one
          obtain ⟨vs, z1, z2⟩ := r.atc q1 e
          obtain ⟨b1, b2⟩ := r.setL q1 e (z2.snoc ry)
          exact ⟨a, vs, v, rfl, rfl, z1, by rw [← z2.length]; exact hc, k _ _ _ b1 b2 .non⟩
      · cases h
    · cases h
  · cases h
def mPop : FM := fun x ds S => match x, ds with
  | .loc n, [] => match S[n]? with
    | some (.lst l) => (l[l.length - 1]?).map fun y => (y, S.set n (.lst l.dropLast))
    | _ => none
  | _, _ => none
theorem md_pop {K : PySem.W.Frag} : MD K rPop mPop := by
  intro H S μ x dx xs ds d S' Q r rv rvs h k
  unfold mPop at h
  split at h
  · rename_i n
    split at h
    · rename_i l e
      obtain ⟨y, h1, h2⟩ := map_some h
      cases h2
      cases rv with
      | @loc a _ q1 =>
        have := rvs.nilv
        subst this
        obtain ⟨vs, z1, z2⟩ := r.atc q1 e
        obtain ⟨w, z3, z4⟩ := z2.get h1
        obtain ⟨b1, b2⟩ := r.setL q1 e z2.dropLast
        exact ⟨a, vs, w, rfl, rfl, z1, by rw [← z2.length]; exact z3, k _ _ _ b1 b2 (z4.ext b2)⟩
    · cases h
  · cases h
def mInsert : FM := fun x ds S => match x, ds with
  | .loc n, [.int i, y] => match S[n]? with
    | some (.lst l) => if l.length < sizeLine ∧ 0 ≤ i ∧ i < 2 ^ 63 then some (.non, S.set n (.lst (l.take i.toNat ++ [y] ++ l.drop i.toNat))) else none
    | _ => none
  | _, _ => none
theorem md_insert {K : PySem.W.Frag} : MD K (fun x vs H Q => ∃ (l : Addr) (xs : List V) (i : Int) (y : V), x = .ref l ∧ vs = [.int i, y] ∧ H l = some (.lst xs) ∧ xs.length < sizeLine ∧ 0 ≤ i ∧ i < 2 ^ 63 ∧
    Q .non (upd H l (.lst (xs.take i.toNat ++ [y] ++ xs.drop i.toNat)))) mInsert := by
  intro H S μ x dx xs ds d S' Q r rv rvs h k
  unfold mInsert at h
  split at h
  · rename_i n i y
    split at h
    · rename_i l e
      split at h
      · rename_i hc
        cases h
        cases rv with
        | @loc a _ q1 =>
          obtain ⟨v, w, rfl, ri, ry⟩ := rvs.two
          cases ri
          obtain ⟨vs, z1, z2⟩ := r.atc q1 e
          obtain ⟨b1, b2⟩ := r.setL q1 e (((z2.take i.toNat).snoc ry).append (z2.drop i.toNat))
          exact ⟨a, vs, i, w, rfl, rfl, z1, by rw [← z2.length]; exact hc.1, hc.2.1, hc.2.2, k _ _ _ b1 b2 .non⟩
      · cases h
    · cases h
  · cases h
/-- l.index(x) of data -/
def idxP : List PyData → PyData → Nat → Option Nat
  | [], _, _ => none
  | z :: r, d, j => if PyData.eqv z d = true then some j else idxP r d (j + 1)
theorem idxP_spec (d : PyData) : ∀ (l : List PyData) (i j : Nat), idxP l d i = some j → i ≤ j ∧ ∃ z, l[j - i]? = some z ∧ PyData.eqv z d = true ∧ ∀ (m : Nat) (z' : PyData), m < j - i → l[m]? = some z' → PyData.eqv z' d = false
  | [], _, _, h => by cases h
  | z :: r, i, j, h => by
    unfold idxP at h
    split at h
    · rename_i hc
      cases h
      refine ⟨Nat.le_refl _, z, by simp, hc, fun m z' hm => absurd hm (by omega)⟩
    · rename_i hc
      obtain ⟨h1, y, h2, h3, h4⟩ := idxP_spec d r (i + 1) j h
      have e : j - i = (j - (i + 1)) + 1 := by omega
      refine ⟨by omega, y, by rw [e]; simpa using h2, h3, fun m z' hm hz => ?_⟩
      cases m with
      | zero =>
        have : z = z' := by simpa using hz
        subst this
        simpa using hc
      | succ m => exact h4 m z' (by omega) (by simpa using hz)
def mIndex : FM := fun x ds S => match ds with
  | [y] => match rdX S x with
    | some l => match pyO S l, py1 S y with
      | some ps, some p => if SeqAt.shaped (.list ps) = true ∧ SeqAt.shaped p = true then (idxP ps p 0).map fun j => (.int (j : Nat), S) else none
      | _, _ => none
    | _ => none
  | _ => none
theorem md_index {K : PySem.W.Frag} : MD K (rIndexD K) mIndex := by
  intro H S μ x dx xs ds d S' Q r rv rvs h k
  unfold mIndex at h
  split at h
  · rename_i y
    split at h
    · rename_i l e
      split at h
      · rename_i ps q e1 e2
        split at h
        · rename_i hc
          obtain ⟨j, h1, h2⟩ := map_some h
          cases h2
          obtain ⟨a, vs, rfl, z1, z2⟩ := rdX_of r rv e
          obtain ⟨v, rfl, ry⟩ := rvs.one
          obtain ⟨_, z, i1, i2, i3⟩ := idxP_spec q ps 0 j h1
          exact ⟨a, v, q, ps, j, z, rfl, rfl, .lst (SqL.of z1) (pyO_dp r z2 e1), ry.dp1 r e2, hc.1, hc.2, by simpa using i1, i2, fun m z' hm => i3 m z' (by simpa using hm), k _ H μ r .refl (.int _)⟩
        · cases h
      · cases h
    · cases h
  · cases h
end Dl

/-! DlT: sorted; d.get; x.bit_length(); x[::-1] -/
namespace Dl
open PySem PySem.Spec PyProof.Rows L2

/-! ### sorted -/
/-- what can be sorted: data of one kind -/
structure SortOk (l : List D) : Prop where
  pure : l.all D.nol = true
  al : PySem.W.AllAlike (l.map D.py)
  so : PySem.W.Sortable (l.map D.py)
  few : l.length ≤ sizeLine
  deep : ∀ d ∈ l, d.py.depth ≤ 32
def sortD (l : List D) : List D := l.mergeSort (PySem.W.dataLe false D.py)
mutual
theorem reads_nil {h : Heap} : ∀ {d : D} {v : Value} {as : List Addr}, d.nol = true → Reads h v d.py as → as = []
  | .non, _, _, _, r => by rw [D.py] at r; cases r; rfl
  | .bl _, _, _, _, r => by rw [D.py] at r; cases r; rfl
  | .int _, _, _, _, r => by rw [D.py] at r; cases r; rfl
  | .str _, _, _, _, r => by rw [D.py] at r; cases r; rfl
  | .tup l, _, _, p, r => by
    rw [D.py] at r
    rw [D.nol] at p
    cases r with
    | tuple _ _ _ h4 => exact readsAll_nil p h4
  | .tpu l, _, _, p, r => by
    rw [D.py] at r
    rw [D.nol] at p
    cases r with
    | tuple _ _ _ h4 => exact readsAll_nil p h4
  | .lst _, _, _, p, _ => by rw [D.nol] at p; cases p
  | .dkv _ _, _, _, p, _ => by rw [D.nol] at p; cases p
  | .dtv _ _, _, _, p, _ => by rw [D.nol] at p; cases p
  | .rov _, _, _, p, _ => by rw [D.nol] at p; cases p
  | .loc _, _, _, p, _ => by rw [D.nol] at p; cases p
theorem readsAll_nil {h : Heap} : ∀ {l : List D} {vs : List Value} {as : List Addr}, D.nols l = true → ReadsAll h vs (D.pys l) as → as = []
  | [], _, _, _, r => by rw [D.pys] at r; cases r; rfl
  | d :: l, _, _, p, r => by
    rw [D.pys] at r
    rw [D.nols, Bool.and_eq_true] at p
    cases r with
    | cons h1 h2 => rw [reads_nil p.1 h1, readsAll_nil p.2 h2]; rfl
end
section
variable {X : Cx} {pins : List (Addr × Obj)} {σ : L2.St} {H : Hp} {s : Shared} {μ : List Addr}
theorem each_of (I : Inv X pins σ H s) : ∀ {l : List D} {vs : List V} {us : List Value}, RVs X.K H μ l vs → Vals vs us → l.all D.nol = true →
    PySem.W.EachIs (fun u d => ∃ v, RelV v u ∧ RV X.K H μ d v) us l ∧ PySem.W.EachIs (fun u d => Reads s.heap u d.py []) us l
  | _, _, _, .nil, .nil, _ => ⟨.nil, .nil⟩
  | _, _, _, .cons h r, .cons q t, p => by
    rw [List.all_cons, Bool.and_eq_true] at p
    obtain ⟨a, b⟩ := each_of I r t p.2
    obtain ⟨as, c⟩ := Dp.reads I _ _ _ (h.dp (nol_pure p.1)) q
    have := reads_nil p.1 c
    subst this
    exact ⟨.cons ⟨_, q, h⟩ a, .cons c b⟩
theorem vals_of_each {K : PySem.W.Frag} : ∀ {l : List D} {us : List Value}, PySem.W.EachIs (fun u d => ∃ v, RelV v u ∧ RV K H μ d v) us l → ∃ vs, Vals vs us ∧ RVs K H μ l vs
  | _, _, .nil => ⟨[], .nil, .nil⟩
  | _, _, .cons ⟨v, a, b⟩ t => by
    obtain ⟨vs, c, d⟩ := vals_of_each t
    exact ⟨v :: vs, .cons a c, .cons b d⟩
/-- behind the collecting of an iterable's items: the new list is sorted -/
theorem sort_tail {v : Value} {l : List D} {Q : VK} (I : Inv X pins σ H s) (hu : X.A.units + 64 < cLine) (ok : SortOk l)
    (hcol : ∀ R : List Value → Shared → Prop, (∀ us vs h' tk, (∀ b o, s.heap.get? b = some o → h'.get? b = some o) → Vals vs us → RVs X.K H μ l vs → R us { s with heap := h', toks := tk }) → wpAny (model X.prog X.w) X.A.in1 (collect v) R X.xe s)
    (q : ∀ p vs, H p = none → RVs X.K H μ (sortD l) vs → Q (.ref p) (upd H p (.lst vs))) : wpAny (model X.prog X.w) X.A (call (.builtin "sorted") [v]) (EP X pins σ Q) X.xe s := by
  refine Calls.call_function_entry PyProof.Rows.kind_sorted PyProof.Rows.plain_sorted PyProof.Rows.entry_sorted (PyProof.Rows.args_sorted1 _) ?_
  unfold Builtin.«sorted»
  refine wpAny_bind (m := checkCount "sorted" 1 1 _) (wpAny_pure ?_)
  refine wpAny_bind (wpAny_mono (hcol (fun us s' => ∃ vs h' tk, s' = { s with heap := h', toks := tk } ∧ (∀ b o, s.heap.get? b = some o → h'.get? b = some o) ∧ Vals vs us ∧ RVs X.K H μ l vs) fun us vs h' tk k a b => ⟨vs, h', tk, rfl, k, a, b⟩) (fun us s' hs => ?_) fun _ _ x => x)
  obtain ⟨vs, h', tk, rfl, hk, rel, rvs⟩ := hs
  have hlen : us.length = l.length := by rw [← rel.length, ← rvs.length]
  have I1 : Inv X pins σ H { s with heap := h', toks := tk } := I.kept hk
  obtain ⟨e1, e2⟩ := each_of I1 rvs rel ok.pure
  refine wpAny_bind (wpAny_newList ?_ (by rw [hlen]; exact ok.few))
  have hoL : (h'.push (seqObj "list" us.toArray 0)).get? h'.objs.size = some (seqObj "list" us.toArray 0) := Heap.get?_push_size _ rfl
  show wpAny _ _ _ _ _ { s with heap := h'.push (seqObj "list" us.toArray 0), toks := tk }
  have er : PySem.W.EachIs (fun v b => ∃ as, Reads (h'.push (seqObj "list" us.toArray 0)) v b.py as ∧ h'.objs.size ∉ as) us l :=
    e2.mono fun _ _ z => ⟨[], PyProof.Rows.Reads.keeps (fun _ _ w => Heap.get?_push_of_some _ w) z, by simp⟩
  refine wpAny_bind (wpAny_holding (PySem.W.list_sort_data (s := { s with heap := h'.push (seqObj "list" us.toArray 0), toks := tk }) hoL e1 er ok.al ok.so ok.few (fun d hd => by
    have := ok.deep d hd
    show X.A.units + 1 + 1 + d.py.depth < cLine
    omega) fun out ho eo => ?_))
  obtain ⟨e', he'⟩ := PyProof.Rows.sortedHeap_at (vs := us) (out := out.toArray) hoL
  obtain ⟨ws, g1, g2⟩ := vals_of_each eo
  have hz : ws.length ≤ sizeLine := by rw [g1.length, ho]; exact ok.few
  refine wpAny_pure ⟨_, rfl, .ref h'.objs.size, upd H h'.objs.size (.lst ws), I1.laid (t' := tk) (fun b u e => ?_) (Nat.le_refl _)
    (show ObjOk X.prog X.w _ _ _ (.lst ws) from ⟨hz, out, e', g1, he'⟩), rfl, q _ ws (I1.hok.fresh (Nat.le_refl _)) g2⟩
  have hb : b < h'.objs.size := Heap.lt_size e
  rw [PyProof.Rows.sortedHeap_old (Nat.ne_of_lt hb) (by rw [size_push']; exact Nat.lt_succ_of_lt hb)]
  exact Heap.get?_push_of_some _ e
end
/-- what sorted goes through: a list's, a tuple's items, a dict's keys -/
def iterD (S : Sto) : D → Option (List D)
  | .tup l => some l
  | .loc n => match S[n]? with
    | some (.lst l) => some l
    | some (.ro l) => some l
    | some (.dk l) => some (l.map fun p => Key.d p.1)
    | some (.dt l) => some (l.map fun p => .tup (p.1.map Key.d))
    | _ => none
  | .lst l => some l
  | .rov l => some l
  | .tpu l => some l
  | .dkv ks l => some ((ks.zip l).map fun p => Key.d p.1)
  | .dtv ks l => some ((ks.zip l).map fun p => .tup (p.1.map Key.d))
  | _ => none
open Classical in
noncomputable def bSorted : FF
  | [d], S => match iterD S d with
    | some l => if SortOk l then some (.loc S.length, S ++ [.lst (sortD l)]) else none
    | none => none
  | _, _ => none
def rSrt (K : PySem.W.Frag) : List V → Hp → VK → Prop := fun xs H Q => ∃ S μ x d l, xs = [x] ∧ RS K H μ S ∧ RV K H μ d x ∧ iterD S d = some l ∧ SortOk l ∧ ∀ p vs, H p = none → RVs K H μ (sortD l) vs → Q (.ref p) (upd H p (.lst vs))
theorem RV_key {K : PySem.W.Frag} {H : Hp} {μ : List Addr} (k : Key) : RV K H μ (Key.d k) (kV k) := by cases k <;> constructor
theorem RVs_keys {K : PySem.W.Frag} {H : Hp} {μ : List Addr} : ∀ ks : List Key, RVs K H μ (ks.map Key.d) (ks.map kV)
  | [] => .nil
  | k :: r => .cons (RV_key k) (RVs_keys r)
theorem RVs_tkeys {K : PySem.W.Frag} {H : Hp} {μ : List Addr} {l : List (List Key × D)} {ws : List (List Key × V)} {bs : List Addr} (h : l.map (·.1) = ws.map (·.1)) (k : IsKeys H ws bs) : RVs K H μ (l.map fun p => D.tup (p.1.map Key.d)) (bs.map V.ref) := by
  induction k generalizing l with
  | nil =>
    cases l with
    | nil => exact .nil
    | cons a l => exact absurd h (by simp)
  | cons h1 t ih =>
    cases l with
    | nil => exact absurd h (by simp)
    | cons a l =>
      rw [List.map_cons, List.map_cons] at h
      injection h with e1 e2
      exact .cons (.tup (by rw [e1]; exact h1) (RVs_keys _)) (ih e2)
theorem cr_sorted {X : Cx} (hc : X.calm = true) (hu : X.A.units + 64 < cLine) : CallR X (.builtin "sorted") (rSrt X.K) := by
  intro pins s σ H xs us Q I rel h
  obtain ⟨S, μ, x, d, l, rfl, r, rv, hi, ok, q⟩ := h
  obtain ⟨u, rfl, rx⟩ := rel.one
  refine sort_tail I hu ok (fun R hR => ?_) q
  cases rv with
  | @tup a vs l q1 q2 =>
    cases rx
    cases hi
    obtain ⟨its, r1, ⟨o, e1, e2, n, e3⟩, hz⟩ := I.tuple (SqT.of q1)
    exact wpAny_collect_seq a (T := "tuple") (.inr rfl) e1 e2 e3 (fun h' k => by simpa using hR its vs h' s.toks k r1 q2) (by rw [List.size_toArray, ← r1.length]; exact hz)
  | @tpu a o vs l q1 _ q2 =>
    cases rx
    cases hi
    obtain ⟨its, r1, ⟨o, e1, e2, n, e3⟩, hz⟩ := I.tuple (xs := vs) (a := a) (.inl (.inr ⟨_, q1⟩))
    exact wpAny_collect_seq a (T := "tuple") (.inr rfl) e1 e2 e3 (fun h' k => by simpa using hR its vs h' s.toks k r1 q2) (by rw [List.size_toArray, ← r1.length]; exact hz)
  | @lst a vs l q1 _ q2 =>
    cases rx
    cases hi
    obtain ⟨its, r1, ⟨o, n, e1, e2, _, e3⟩, hz⟩ := I.list (SqL.of q1)
    exact wpAny_collect_seq a (T := "list") (.inl rfl) e1 e2 e3 (fun h' k => by simpa using hR its vs h' s.toks k r1 q2) (by rw [List.size_toArray, ← r1.length]; exact hz)
  | @rov a vs l q1 q2 =>
    cases rx
    cases hi
    obtain ⟨its, r1, ⟨o, n, e1, e2, _, e3⟩, hz⟩ := I.list q1.seq
    exact wpAny_collect_seq a (T := "list") (.inl rfl) e1 e2 e3 (fun h' k => by simpa using hR its vs h' s.toks k r1 q2) (by rw [List.size_toArray, ← r1.length]; exact hz)
  | @dkv a ws ks l z1 _ z3 z4 =>
    cases rx
    cases hi
    have z2 := RK.zip z3 z4
    obtain ⟨z, lo, vs, rel, dd⟩ := dk_rd I.hok z1
    obtain ⟨ep, hat⟩ := dd.dictAt
    have hl : vs.length = ws.length := rel.length.symm
    refine PySem.W.kdu_collect (A := X.A.in1) (PySem.W.kdl_dict (knd := mixKind X.prog X.w) (kvs := vs) (ep := ep) lo) (I.ok.hd hc) hat (by rw [hl]; exact z) fun h' tk acc hk hacc => ?_
    refine hR acc.toList (vs.map fun p => kV p.1) h' tk hk (keys_at (by rw [Array.length_toList]; exact hacc.1) fun j v e => hacc.2 j v (by rw [← Array.getElem?_toList]; exact e)) ?_
    have e1 : vs.map (fun p => kV p.1) = ((ks.zip l).map (·.1)).map kV := by
      rw [z2.1, rel.keys, List.map_map]
      rfl
    have e2 : (ks.zip l).map (fun p => Key.d p.1) = ((ks.zip l).map (·.1)).map Key.d := by rw [List.map_map]; rfl
    rw [e1, e2]
    exact RVs_keys _
  | @dtv a ws kks l z1 _ z3 z4 =>
    cases rx
    cases hi
    have z2 := RK.zip z3 z4
    have ob : ObjOk X.prog X.w H s.heap a (.dT ws) := by
      rcases z1 with z1 | ⟨o, z1⟩
      · exact I.hok a _ z1
      · exact (I.hok a _ z1).2
    obtain ⟨z, hs, ks, pr, o, es, ep, ho, hx, hdt, he, hn⟩ := ob
    have l1 : es.size = ks.length := size_of_entries he
    have l2 : ws.length = ks.length := Paired.length pr
    refine PySem.W.kdu_collect (A := X.A.in1) (kdl_raw hs hx hdt) (I.ok.hd hc) ho (by omega) fun h' tk acc hk it => ?_
    have ea : acc.toList = ks.map fun x => Value.ref x.2.1 := by
      have hl : acc.toList.length = ks.length := by rw [Array.length_toList, it.1]; exact l1
      apply List.ext_getElem?
      intro j
      rw [List.getElem?_map]
      cases hj : acc.toList[j]? with
      | none =>
        have h1 := List.getElem?_eq_none_iff.mp hj
        rw [List.getElem?_eq_none (by omega)]
        all_goals rfl
      | some v =>
        obtain ⟨en, hen, hv⟩ := it.2 j v (by rw [← Array.getElem?_toList]; exact hj)
        have qe := entry_at he j
        rw [hen] at qe
        cases hb : ks[j]? with
        | none =>
          rw [hb] at qe
          cases qe
        | some x =>
          rw [hb] at qe
          have q2 := Option.some.inj qe
          subst q2
          rw [hv]
          all_goals rfl
    refine hR acc.toList ((ks.map fun x => x.2.1).map V.ref) h' tk hk (by rw [ea]; simpa [List.map_map, Function.comp_def] using vals_refs (ks.map fun x => x.2.1)) (RVs_tkeys z2.1 (isKeys_of pr))
  | @loc a n q1 =>
    cases rx
    simp only [iterD] at hi
    split at hi
    · rename_i l' e
      cases hi
      obtain ⟨vs, z1, z2⟩ := r.atc q1 e
      obtain ⟨its, r1, ⟨o, n, e1, e2, _, e3⟩, hz⟩ := I.list (SqL.of z1)
      exact wpAny_collect_seq a (T := "list") (.inl rfl) e1 e2 e3 (fun h' k => by simpa using hR its vs h' s.toks k r1 z2) (by rw [List.size_toArray, ← r1.length]; exact hz)
    · rename_i l' e
      cases hi
      obtain ⟨vs, z1, z2⟩ := r.atc q1 e
      obtain ⟨its, r1, ⟨o, n, e1, e2, _, e3⟩, hz⟩ := I.list z1.seq
      exact wpAny_collect_seq a (T := "list") (.inl rfl) e1 e2 e3 (fun h' k => by simpa using hR its vs h' s.toks k r1 z2) (by rw [List.size_toArray, ← r1.length]; exact hz)
    · rename_i l' e
      cases hi
      obtain ⟨ws, z1, z2⟩ := r.atc q1 e
      obtain ⟨z, lo, vs, rel, dd⟩ := dk_rd I.hok (.inl z1)
      obtain ⟨ep, hat⟩ := dd.dictAt
      have hl : vs.length = ws.length := rel.length.symm
      refine PySem.W.kdu_collect (A := X.A.in1) (PySem.W.kdl_dict (knd := mixKind X.prog X.w) (kvs := vs) (ep := ep) lo) (I.ok.hd hc) hat (by rw [hl]; exact z) fun h' tk acc hk hacc => ?_
      refine hR acc.toList (vs.map fun p => kV p.1) h' tk hk (keys_at (by rw [Array.length_toList]; exact hacc.1) fun j v e => hacc.2 j v (by rw [← Array.getElem?_toList]; exact e)) ?_
      have e1 : vs.map (fun p => kV p.1) = (l'.map (·.1)).map kV := by
        rw [z2.1, rel.keys, List.map_map]
        rfl
      have e2 : l'.map (fun p => Key.d p.1) = (l'.map (·.1)).map Key.d := by rw [List.map_map]; rfl
      rw [e1, e2]
      exact RVs_keys _
    · rename_i l' e
      cases hi
      obtain ⟨ws, z1, z2⟩ := r.atc q1 e
      obtain ⟨z, hs, ks, pr, o, es, ep, ho, hx, hdt, he, hn⟩ := (show ObjOk X.prog X.w H s.heap a (.dT ws) from I.hok a _ z1)
      have l1 : es.size = ks.length := size_of_entries he
      have l2 : ws.length = ks.length := Paired.length pr
      refine PySem.W.kdu_collect (A := X.A.in1) (kdl_raw hs hx hdt) (I.ok.hd hc) ho (by omega) fun h' tk acc hk it => ?_
      have ea : acc.toList = ks.map fun x => Value.ref x.2.1 := by
        have hl : acc.toList.length = ks.length := by rw [Array.length_toList, it.1]; exact l1
        apply List.ext_getElem?
        intro j
        rw [List.getElem?_map]
        cases hj : acc.toList[j]? with
        | none =>
          have h1 := List.getElem?_eq_none_iff.mp hj
          rw [List.getElem?_eq_none (by omega)]
          all_goals rfl
        | some v =>
          obtain ⟨en, hen, hv⟩ := it.2 j v (by rw [← Array.getElem?_toList]; exact hj)
          have qe := entry_at he j
          rw [hen] at qe
          cases hb : ks[j]? with
          | none =>
            rw [hb] at qe
            cases qe
          | some x =>
            rw [hb] at qe
            have q2 := Option.some.inj qe
            subst q2
            rw [hv]
            all_goals rfl
      refine hR acc.toList ((ks.map fun x => x.2.1).map V.ref) h' tk hk (by rw [ea]; simpa [List.map_map, Function.comp_def] using vals_refs (ks.map fun x => x.2.1)) (RVs_tkeys z2.1 (isKeys_of pr))
    · cases hi
  | _ => simp only [iterD] at hi; cases hi
theorem bd_sorted {K : PySem.W.Frag} : BD K (rSrt K) bSorted := by
  intro H S μ xs ds d S' Q r rv h k
  match ds, h with
  | [x], h =>
    obtain ⟨v, rfl, rx⟩ := rv.one
    simp only [bSorted] at h
    split at h
    · rename_i l e
      split at h
      · rename_i hc
        cases h
        refine ⟨S, μ, v, x, l, rfl, r, rx, e, hc, fun p vs hp rvs => ?_⟩
        obtain ⟨a1, a2, a3⟩ := r.newL rvs hp
        exact k _ _ _ a1 a2 a3
      · cases h
    · cases h

/-! ### d.get(y, z); x.bit_length() -/
section
variable {X : Cx} {e a b c o : Expr} {es rest : List Expr} {f fa fb fc fo : FE} {pos pos' p p2 apos cpos : Pos}
def isDict (S : Sto) : D → Bool
  | .loc n => match S[n]? with
    | some (.dk _) => true
    | some (.dt _) => true
    | some (.dkf _) => true
    | some (.dtf _) => true
    | _ => false
  | .dkv _ _ => true
  | .dtv _ _ => true
  | _ => false
theorem isDict_of {K : PySem.W.Frag} {H : Hp} {μ : List Addr} {S : Sto} {d : D} {v : V} (r : RS K H μ S) (rv : RV K H μ d v) (h : isDict S d = true) : ∃ a, v = .ref a ∧ IsD H a := by
  cases rv with
  | @loc a n h1 =>
    refine ⟨a, rfl, ?_⟩
    simp only [isDict] at h
    split at h
    · rename_i l e; obtain ⟨ws, q1, q2⟩ := r.atc h1 e; exact .inl ⟨ws, .inl q1⟩
    · rename_i l e; obtain ⟨ws, q1, q2⟩ := r.atc h1 e; exact .inr ⟨ws, .inl q1⟩
    · rename_i l e; obtain ⟨ob, ws, q1, q2⟩ := r.atc h1 e; exact .inl ⟨ws, .inr ⟨ob, q1⟩⟩
    · rename_i l e; obtain ⟨ob, ws, q1, q2⟩ := r.atc h1 e; exact .inr ⟨ws, .inr ⟨ob, q1⟩⟩
    · cases h
  | dkv h1 _ _ _ => exact ⟨_, rfl, .inl ⟨_, h1⟩⟩
  | dtv h1 _ _ _ => exact ⟨_, rfl, .inr ⟨_, h1⟩⟩
  | _ => simp only [isDict] at h; cases h
def eGet2 (fo fa fb : FE) : FE := fun Γ S => (fo Γ S).bind fun p => if isDict p.2 p.1 = true then (fa Γ p.2).bind fun q => (fb Γ q.2).bind fun t => (dGet t.2 p.1 q.1).map fun w => (w.getD t.1, t.2) else none
theorem se_get2 (hu : X.A.units + 1 < cLine) (ho : SE X o fo) (ha : SE X e fa) (hb : SE X c fb) (m : M2 X o "get" apos e c cpos := by exact ⟨by rfl, by rfl, by rfl, by rfl⟩) : SE X (.Call (.Attribute o "get" apos) [e, c] [] cpos) (eGet2 fo fa fb) :=
  SE.mk (pe_dget2 hu ho ha hb m) fun σ H Q Γ S μ d S' g r h k => by
    obtain ⟨⟨y, S1⟩, h1, h2⟩ := bind_some h
    simp only at h2
    split at h2
    · rename_i hc
      obtain ⟨⟨y2, S2⟩, h3, h4⟩ := bind_some h2
      obtain ⟨⟨y3, S3⟩, h5, h6⟩ := bind_some h4
      obtain ⟨w, h7, h8⟩ := map_some h6
      cases h8
      refine ⟨Γ, S, μ, y, S1, g, r, h1, fun v H1 μ1 r1 e1 rv => ?_⟩
      obtain ⟨a, ea, id⟩ := isDict_of r1 rv hc
      refine ⟨a, ea, id, Γ, S1, μ1, y2, S2, g.ext e1, r1, h3, fun v2 H2 μ2 r2 e2 rv2 => ⟨Γ, S2, μ2, y3, S3, g.ext (e1.trans e2), r2, h5, fun v3 H3 μ3 r3 e3 rv3 => ?_⟩⟩
      obtain ⟨a', o', ea', g', oo⟩ := dget_of r3 (rv.ext (e2.trans e3)) (rv2.ext e3) h7
      rw [ea] at ea'
      cases ea'
      refine ⟨o', g', ?_⟩
      rcases oo with ⟨z1, z2⟩ | ⟨x', z', z1, z2, z3⟩
      · subst z1 z2; exact k _ H3 μ3 r3 (e1.trans (e2.trans e3)) rv3
      · subst z1 z2; exact k _ H3 μ3 r3 (e1.trans (e2.trans e3)) z3
    · cases h2
def oBits : D → Option D
  | .int i => some (.int (Builtin.Int.intBits i : Nat))
  | _ => none
theorem se_bits (ho : SE X o fo) (hbase : attributeBase o "bit_length" X.env (eval o X.env) = eval o X.env := by rfl) (hline : (apos.endLine == pos.line) = true := by rfl) : SE X (.Call (.Attribute o "bit_length" apos) [] [] pos) (eUn oBits fo) :=
  SE.mk (pe_bits ho hbase hline) fun σ H Q Γ S μ d S' g r h k => by
    obtain ⟨⟨x, S1⟩, h1, h2⟩ := bind_some h
    obtain ⟨y, h3, h4⟩ := map_some h2
    cases h4
    refine ⟨Γ, S, μ, x, S1, g, r, h1, fun v H' μ' r' e' rv => ?_⟩
    cases x with
    | int i => cases rv; cases h3; exact ⟨i, rfl, k _ H' μ' r' e' (.int _)⟩
    | _ => cases h3
end
end Dl

/-! DlU: enumerate and zip over lists and tuples in any mix -/
namespace Dl
open PySem PySem.Spec PyProof.Rows L2

/-- a list (true) or a tuple -/
def Sq (K : PySem.W.Frag) (H : Hp) : Bool → Addr → List V → Prop
  | true, a, xs => SqL K H a xs
  | false, a, xs => SqT K H a xs
def IsIt (h : Heap) : Bool → Addr → Addr → Nat → Prop
  | true, it, a, i => h.IsListIter it a i
  | false, it, a, i => h.IsTupleIter it a i
def IsSq (h : Heap) : Bool → Addr → Array Value → Prop
  | true, a, xs => h.IsList a xs
  | false, a, xs => h.IsTuple a xs
def itObj : Bool → Addr → Obj
  | true, a => { cls := .type "list_iterator", data := .fields #[.ref a, .int 0 0] }
  | false, a => { cls := .type "tuple_iterator", data := .fields #[.ref a, .int 0 0] }
theorem begins_sq (b : Bool) (a : Addr) (items : Array Value) : Begins (.ref a) (itObj b a) fun h => IsSq h b a items := by
  cases b with
  | true => exact begins_list a items
  | false => exact begins_tuple a items
theorem draws_sq {prog : Program} {w : World} {A : Around} (hh : A.handled = none) (b : Bool) (it a : Addr) (hne : a ≠ it) (items : Array Value) :
    Draws prog w A it [it, a] items.size (fun i v => items[i]? = some v) (fun i h => IsIt h b it a i ∧ IsSq h b a items) := by
  cases b with
  | true => exact Draws.list hh it a hne items
  | false => exact Draws.tuple hh it a hne items
theorem isIt_new {h : Heap} {b : Bool} {it a : Addr} (e : h.get? it = some (itObj b a)) : IsIt h b it a 0 := by
  cases b with
  | true => exact ⟨_, e, rfl, rfl⟩
  | false => exact ⟨_, e, rfl, rfl⟩
theorem IsIt.obj {h : Heap} {b : Bool} {it a : Addr} {i : Nat} (x : IsIt h b it a i) : ∃ o, h.get? it = some o ∧ ∀ v, o.data ≠ .cell v := by
  cases b with
  | true => obtain ⟨o, e, _, d⟩ := x; exact ⟨o, e, fun v q => by rw [d] at q; cases q⟩
  | false => obtain ⟨o, e, _, d⟩ := x; exact ⟨o, e, fun v q => by rw [d] at q; cases q⟩
theorem IsIt.at {h h' : Heap} {b : Bool} {it a : Addr} {i : Nat} (x : IsIt h b it a i) (k : ∀ o, h.get? it = some o → h'.get? it = some o) : IsIt h' b it a i := by
  cases b with
  | true => exact Heap.IsListIter.at x k
  | false => exact Heap.IsTupleIter.at x k
section
variable {X : Cx} {pins : List (Addr × Obj)} {σ : L2.St} {H : Hp} {s : Shared}
theorem Sq.have (I : Inv X pins σ H s) {b : Bool} {a : Addr} {xs : List V} (h : Sq X.K H b a xs) : ∃ its : List Value, Vals xs its ∧ IsSq s.heap b a its.toArray ∧ a < s.heap.objs.size := by
  cases b with
  | true => obtain ⟨its, r, p, _⟩ := I.list h; exact ⟨its, r, p.isList, p.lt⟩
  | false =>
    obtain ⟨its, r, p, _⟩ := I.tuple h
    obtain ⟨o, e, _⟩ := id p
    exact ⟨its, r, p, Heap.lt_size e⟩
theorem Sq.inj (I : Inv X pins σ H s) {b : Bool} {a : Addr} {xs ys : List V} (h : Sq X.K H b a xs) (h' : Sq X.K H b a ys) : xs = ys := by
  cases b with
  | true => exact I.list_inj h h'
  | false => exact I.tuple_inj h h'
end
/-! ### enumerate -/
def IteS (K : PySem.W.Frag) (b : Bool) (a : Addr) : It :=
  ⟨fun i H => ∃ (xs : List V) (x : V), Sq K H b a xs ∧ xs[i]? = some x, fun i H v H' => ∃ T x, v = .ref T ∧ H T = none ∧ H' = upd H T (.tup [.int (i : Nat), x]) ∧ ∀ xs, Sq K H b a xs → xs[i]? = some x, fun i H => ∃ xs : List V, Sq K H b a xs ∧ xs.length = i⟩
theorem turn_enumS {P : Program} {w : World} {K : PySem.W.Frag} {elts : List Expr} {kk : Nat} {tpos : Pos} (b : Bool) (a e it : Addr) (hne : e ≠ it) (hea : e ≠ a) (hia : a ≠ it) :
    Turn P w K (.Tuple elts kk tpos) (IteS K b a) [e, it] e (fun i h => (∃ old, IsEnum h e it ((i : Nat) : Int) old) ∧ IsIt h b it a i) where
  mem := by simp
  obj := fun i h st c hc => by
    obtain ⟨⟨old, he⟩, hi⟩ := st
    have e' : c = e ∨ c = it := by simpa using hc
    rcases e' with z | z
    · rw [z]; exact ⟨_, he, fun v q => nomatch q⟩
    · rw [z]; exact hi.obj
  keep := fun i h h' st k => let ⟨⟨old, he⟩, hi⟩ := st; ⟨⟨old, k e (by simp) _ he⟩, hi.at fun o q => k it (by simp) o q⟩
  item := by
    intro X hP hw hK hc i pins s σ H E I hf st hg
    subst hP hw hK
    obtain ⟨⟨old, he⟩, hit⟩ := st
    obtain ⟨xs, x, hq, hx⟩ := hg
    obtain ⟨its, rv, p, hal⟩ := hq.have I
    obtain ⟨u, hu, ru⟩ := rv.get hx
    have hel : e < s.heap.objs.size := Heap.lt_size he
    have hil : it < s.heap.objs.size := by obtain ⟨_, q, _⟩ := hit.obj; exact Heap.lt_size q
    have hlt : i < its.toArray.size := by rw [List.size_toArray]; exact (List.getElem?_eq_some_iff.mp hu).1
    refine wpAny_pyNext_enum_itemD (draws_sq (A := X.A.in1) (show X.A.in1.handled = none from I.ok.hd hc) b it a hia its.toArray) he ⟨hit, p⟩ hlt hne (by simp [hne, hea]) fun y h' tk hy ho hit' hT hsz hk => ?_
    have ey : y = u := by
      have : its.toArray[i]? = some u := by simpa using hu
      rw [this] at hy; exact (Option.some.inj hy).symm
    subst ey
    refine ⟨_, rfl, wpAny_letOwnedTupleGo_enum (s := { s with heap := h', toks := tk + 1 }) ho fun h'' he' sb => ?_⟩
    have hT2 : h''.get? s.heap.objs.size = some { cls := .type "tuple", data := .seq #[.int i tk, y] } := (sb.2 _ (Nat.ne_of_gt hel)).trans hT
    have new : ObjOk X.prog X.w (upd H s.heap.objs.size (.tup [.int (i : Nat), x])) h'' s.heap.objs.size (.tup [.int (i : Nat), x]) :=
      ⟨by show 2 ≤ sizeLine; decide, [.int i tk, y], .cons ⟨_, rfl⟩ (.cons ru .nil), ⟨_, hT2, rfl, _, rfl⟩⟩
    have I1 : Inv X pins σ (upd H s.heap.objs.size (.tup [.int (i : Nat), x])) { s with heap := h'', toks := tk + 1 } :=
      I.turnedNew (ch := [e, it]) (fun c ob hb q => (sb.2 c (fun z => hb (by simp [z]))).trans (hk c ob (fun z => hb (by simp [z])) (fun z => hb (by simp [z])) q)) hf (Nat.le_refl _) new
    refine ⟨.ref s.heap.objs.size, _, I1, rfl, ⟨_, x, rfl, I.hok.fresh (Nat.le_refl _), rfl, fun ys hy => by rw [Sq.inj I hy hq]; exact hx⟩, ⟨⟨y, ?_⟩, hit'.1.at fun o q => (sb.2 it (Ne.symm hne)).trans q⟩, fun c hb => ?_⟩
    · have e1 : ((i + 1 : Nat) : Int) = (i : Int) + 1 := by omega
      rw [e1]; exact he'
    · have hb' : c < s.heap.objs.size := by
        have e' : c = e ∨ c = it := by simpa using hb
        rcases e' with z | z
        · rw [z]; exact hel
        · rw [z]; exact hil
      rw [upd_ne (Nat.ne_of_lt hb')]
      exact (hf c hb).1
  done := by
    intro X hP hw hK hc i pins s σ H E I hf st hg
    subst hP hw hK
    obtain ⟨⟨old, he⟩, hit⟩ := st
    obtain ⟨xs, hq, hx⟩ := hg
    obtain ⟨its, rv, p, hal⟩ := hq.have I
    obtain ⟨f0, f1, f2, f3, f4, f5⟩ := hf it (by simp)
    have hl := rv.length
    have ei : i = its.toArray.size := by rw [List.size_toArray, ← hl, hx]
    subst ei
    exact wpAny_pyNext_enum_endD (draws_sq (A := X.A.in1) (show X.A.in1.handled = none from I.ok.hd hc) b it a hia its.toArray) he ⟨hit, p⟩ fun h' eb => ⟨rfl, I.turned (t' := s.toks) (fun c o hb q => eb c o hb q) f0 f1 f3 f4 f5⟩
  self := fun A i s Q E st h => let ⟨⟨_, he⟩, _⟩ := st; wpAny_pyIter_enum he h
set_option maxHeartbeats 4000000 in
theorem meets_enum1 {v : Value} {o : Obj} {H : Heap → Prop} (B : Begins v o H) :
    Meets (Builtin.«enumerate.__new__» ⟨[.type "enumerate", v], []⟩) (fun _ R s => H s.heap ∧
      R (.ok (.ret (.ref (s.heap.push o).objs.size))) { s with heap := (s.heap.push o).push { cls := .type "enumerate", data := .fields #[.none, .bool false, .ref s.heap.objs.size, rawInt 0, .none, .none] } }) :=
  .of_wp fun prog w A R s h => by
    obtain ⟨hp, g, d, tk, os⟩ := s; obtain ⟨h1, h⟩ := h
    have hsub := sub_enumerate
    have q1 : ∀ {A' : Around} {E : Value → Shared → Prop} {Q : Value → Shared → Prop}, Q (.ref hp.objs.size) ⟨hp.push o, g, d, tk, os⟩ → wpAny (model prog w) A' (pyIter v) Q E ⟨hp, g, d, tk, os⟩ :=
      fun q => B.iter prog w _ _ ⟨hp, g, d, tk, os⟩ _ h1 q
    wp_walk using q1
    refine wpAny_stack_any fun st => wpAny_pure ?_
    split
    · rename_i c _ _ _ _ _
      cases (c == Value.type "enumerate")
      · wp_walk using q1
        exact ⟨_, rfl, h⟩
      · wp_walk using q1
        exact ⟨_, rfl, h⟩
    · wp_walk using q1
      exact ⟨_, rfl, h⟩
theorem call_enum_sq {prog : Program} {w : World} {A : Around} {E : Value → Shared → Prop} {s : Shared} (b : Bool) {a : Addr} {items : Array Value} {Q : Value → Shared → Prop} (p : IsSq s.heap b a items)
    (h : ∀ h', IsEnum h' (s.heap.objs.size + 1) s.heap.objs.size 0 .none → IsIt h' b s.heap.objs.size a 0 → (∀ c o, s.heap.get? c = some o → h'.get? c = some o) → Q (.ref (s.heap.objs.size + 1)) { s with heap := h' }) :
    wpAny (model prog w) A (call (.type "enumerate") [.ref a]) Q E s := by
  refine callType_new F.called_enumerate (by decide) (F.typeCall_enumerate_1 _) (F.newCall_enumerate_1 _) (fun obj => F.args_object_init_2 obj _) F.entry_enumerate_new
    (meets_enum1 (begins_sq b a items)) ⟨p, ?_⟩
  have hz : (s.heap.push (itObj b a)).objs.size = s.heap.objs.size + 1 := Heap.size_push ..
  show _ ∧ _
  rw [hz]
  have he : IsEnum ((s.heap.push (itObj b a)).push { cls := .type "enumerate", data := .fields #[.none, .bool false, .ref s.heap.objs.size, rawInt 0, .none, .none] }) (s.heap.objs.size + 1) s.heap.objs.size 0 .none := by
    have := Heap.get?_push_size (s.heap.push (itObj b a)) (o := { cls := .type "enumerate", data := .fields #[.none, .bool false, .ref s.heap.objs.size, rawInt 0, .none, .none] }) rfl
    rw [hz] at this; exact this
  exact ⟨⟨_, he, rfl⟩, h _ he (isIt_new (Heap.get?_push_of_some _ (Heap.get?_push_size _ (by cases b <;> rfl)))) fun c o x => Heap.get?_push_of_some _ (Heap.get?_push_of_some _ x)⟩
def iEnumS (K : PySem.W.Frag) (ta : TA) : TI := fun σ H R => ta σ H fun vs H1 => ∃ b a xs, vs = [.ref a] ∧ Sq K H1 b a xs ∧ R (IteS K b a) H1
theorem pi_enumS {X : Cx} {e : Expr} {ta : TA} {p pos tpos : Pos} {elts : List Expr} {kk : Nat} (hg : Gl X "enumerate") (hm : X.mg "enumerate" = none) (ha : PA X [e] ta) (hs : starEach [e] X.env = [(false, eval e X.env)] := by rfl) :
    PI X (.Tuple elts kk tpos) (.Call (.Name "enumerate" p) [e] [] pos) (iEnumS X.K ta) := by
  refine ⟨fun pins s σ H R I h => ?_⟩
  refine Call_ (ld_blt I hg hm boot_enumerate (PyProof.Rows.callWith_type1 (thn (ha.run pos pins s σ H _ I h) fun us s1 ⟨vs, H1, I1, r1, q1⟩ => ?_) hs rfl))
  obtain ⟨b, a, xs, ex, hq, q⟩ := q1
  subst ex
  obtain ⟨u, rfl, r⟩ := vals1 r1
  cases r
  obtain ⟨its, rv, p', hal⟩ := hq.have I1
  refine call_enum_sq b p' fun h' he hit hk => wpAny_pyIter_enum he ?_
  have I2 : Inv X pins σ H1 { s1 with heap := h' } := I1.kept (t' := s1.toks) hk
  refine ⟨s1.heap.objs.size + 1, [s1.heap.objs.size + 1, s1.heap.objs.size], _, _, H1, rfl, I2, turn_enumS b a (s1.heap.objs.size + 1) s1.heap.objs.size (Nat.succ_ne_self _) (Nat.ne_of_gt (Nat.lt_succ_of_lt hal)) (Nat.ne_of_lt hal), ⟨⟨.none, he⟩, hit⟩, fun c hb => ?_, q⟩
  have e' : c = s1.heap.objs.size + 1 ∨ c = s1.heap.objs.size := by simpa using hb
  have hle : s1.heap.objs.size ≤ c := by
    rcases e' with z | z
    · rw [z]; exact Nat.le_add_right _ _
    · rw [z]; exact Nat.le_refl _
  exact I1.fpOk hle (I1.hok.fresh hle)

/-! ### zip of two, of three -/
def Itz2 (K : PySem.W.Frag) (b1 : Bool) (a1 : Addr) (b2 : Bool) (a2 : Addr) : It :=
  ⟨fun i H => ∃ xs ys x y, Sq K H b1 a1 xs ∧ Sq K H b2 a2 ys ∧ xs[i]? = some x ∧ ys[i]? = some y,
    fun i H v H' => ∃ T x y, v = .ref T ∧ H T = none ∧ H' = upd H T (.tup [x, y]) ∧ (∀ xs, Sq K H b1 a1 xs → xs[i]? = some x) ∧ ∀ ys, Sq K H b2 a2 ys → ys[i]? = some y,
    fun i H => ∃ xs ys, Sq K H b1 a1 xs ∧ Sq K H b2 a2 ys ∧ i ≤ xs.length ∧ i ≤ ys.length ∧ (i = xs.length ∨ i = ys.length)⟩
theorem turn_zip2 {P : Program} {w : World} {K : PySem.W.Frag} {elts : List Expr} {kk : Nat} {tpos : Pos} (b1 : Bool) (a1 : Addr) (b2 : Bool) (a2 : Addr) {z TI TO i1 i2 : Addr} (D : ZipSep2 z TI TO i1 i2 [i1, a1] [i2, a2]) (n1 : a1 ≠ i1) (n2 : a2 ≠ i2) :
    Turn P w K (.Tuple elts kk tpos) (Itz2 K b1 a1 b2 a2) [z, TI, TO, i1, i2] z (fun i h => IsZip h z TI TO .none ∧ IsTupOf2 h TI (.ref i1) (.ref i2) ∧ (∃ x y, IsTupOf2 h TO x y) ∧ IsIt h b1 i1 a1 i ∧ IsIt h b2 i2 a2 i) where
  mem := by simp
  obj := fun i h st c hc => by
    obtain ⟨hz, hTI, ⟨x, y, hTO⟩, h1, h2⟩ := st
    have e' : c = z ∨ c = TI ∨ c = TO ∨ c = i1 ∨ c = i2 := by simpa using hc
    rcases e' with q | q | q | q | q
    · rw [q]; exact ⟨_, hz, fun v q => nomatch q⟩
    · rw [q]; exact ⟨_, hTI, fun v q => nomatch q⟩
    · rw [q]; exact ⟨_, hTO, fun v q => nomatch q⟩
    · rw [q]; exact h1.obj
    · rw [q]; exact h2.obj
  keep := fun i h h' st k => by
    obtain ⟨hz, hTI, ⟨x, y, hTO⟩, h1, h2⟩ := st
    exact ⟨k z (by simp) _ hz, k TI (by simp) _ hTI, ⟨x, y, k TO (by simp) _ hTO⟩, h1.at fun o q => k i1 (by simp) o q, h2.at fun o q => k i2 (by simp) o q⟩
  item := by
    intro X hP hw hK hc i pins s σ H E I hf st hg
    subst hP hw hK
    obtain ⟨hz, hTI, ⟨x0, y0, hTO⟩, h1, h2⟩ := st
    obtain ⟨xs, ys, x, y, hqx, hqy, hx, hy⟩ := hg
    obtain ⟨its, rv, p, _⟩ := hqx.have I
    obtain ⟨its2, rv2, p2, _⟩ := hqy.have I
    obtain ⟨u, hu, ru⟩ := rv.get hx
    obtain ⟨u2, hu2, ru2⟩ := rv2.get hy
    have hzl : z < s.heap.objs.size := Heap.lt_size hz
    have hh : X.A.in1.handled = none := I.ok.hd hc
    refine wpAny_pyNext_zipD2_item D (draws_sq hh b1 i1 a1 n1 its.toArray) (draws_sq hh b2 i2 a2 n2 its2.toArray) hz hTI hTO ⟨h1, p⟩ ⟨h2, p2⟩ (by rw [List.size_toArray]; exact (List.getElem?_eq_some_iff.mp hu).1) (by rw [List.size_toArray]; exact (List.getElem?_eq_some_iff.mp hu2).1)
      fun y1 y2 h' tk e1 e2 z' TO' h1' h2' hT hsz hk => ?_
    have ey1 : y1 = u := by rw [show its.toArray[i]? = some u by simpa using hu] at e1; exact (Option.some.inj e1).symm
    have ey2 : y2 = u2 := by rw [show its2.toArray[i]? = some u2 by simpa using hu2] at e2; exact (Option.some.inj e2).symm
    subst ey1 ey2
    refine ⟨_, rfl, wpAny_letOwnedTupleGo_zip (s := { s with heap := h', toks := tk }) z' fun h'' z'' sb => ?_⟩
    have hT2 : h''.get? s.heap.objs.size = some { cls := .type "tuple", data := .seq #[y1, y2] } := (sb.2 _ (Nat.ne_of_gt hzl)).trans hT
    have new : ObjOk X.prog X.w (upd H s.heap.objs.size (.tup [x, y])) h'' s.heap.objs.size (.tup [x, y]) :=
      ⟨by show 2 ≤ sizeLine; decide, [y1, y2], .cons ru (.cons ru2 .nil), ⟨_, hT2, rfl, _, rfl⟩⟩
    have I1 : Inv X pins σ (upd H s.heap.objs.size (.tup [x, y])) { s with heap := h'', toks := tk } :=
      I.turnedNew (t' := tk) (ch := [z, TI, TO, i1, i2]) (fun c o hb q => (sb.2 c (fun q' => hb (by simp [q']))).trans (hk c o (fun q' => hb (by simp [q'])) (fun q' => hb (by simp [q'])) (fun q' => hb (by simp [q'])) (fun q' => hb (by simp [q'])) q)) hf (Nat.le_refl _) new
    refine ⟨.ref s.heap.objs.size, _, I1, rfl, ⟨_, x, y, rfl, I.hok.fresh (Nat.le_refl _), rfl, fun l hl => by rw [Sq.inj I hl hqx]; exact hx, fun l hl => by rw [Sq.inj I hl hqy]; exact hy⟩, ⟨z'', ?_, ⟨y1, y2, ?_⟩, ?_, ?_⟩, fun c hcm => ?_⟩
    · exact (sb.2 _ D.TIz).trans (hk _ _ D.TIz D.TITO D.TIi1 D.TIi2 hTI)
    · exact (sb.2 _ D.TOz).trans TO'
    · exact h1'.1.at fun o q => (sb.2 _ D.zi1.symm).trans q
    · exact h2'.1.at fun o q => (sb.2 _ D.zi2.symm).trans q
    · have hlt : c < s.heap.objs.size := by
        have e' : c = z ∨ c = TI ∨ c = TO ∨ c = i1 ∨ c = i2 := by simpa using hcm
        rcases e' with q | q | q | q | q
        · rw [q]; exact hzl
        · rw [q]; exact Heap.lt_size hTI
        · rw [q]; exact Heap.lt_size hTO
        · rw [q]; obtain ⟨_, e1, _⟩ := h1.obj; exact Heap.lt_size e1
        · rw [q]; obtain ⟨_, e2, _⟩ := h2.obj; exact Heap.lt_size e2
      rw [upd_ne (Nat.ne_of_lt hlt)]
      exact (hf c hcm).1
  done := by
    intro X hP hw hK hc i pins s σ H E I hf st hg
    subst hP hw hK
    obtain ⟨hz, hTI, ⟨x0, y0, hTO⟩, h1, h2⟩ := st
    obtain ⟨xs, ys, hqx, hqy, l1, l2, hend⟩ := hg
    obtain ⟨its, rv, p, _⟩ := hqx.have I
    obtain ⟨its2, rv2, p2, _⟩ := hqy.have I
    rw [rv.length] at l1 hend
    rw [rv2.length] at l2 hend
    have hh : X.A.in1.handled = none := I.ok.hd hc
    exact wpAny_pyNext_zipD2_end D (draws_sq hh b1 i1 a1 n1 its.toArray) (draws_sq hh b2 i2 a2 n2 its2.toArray) hz hTI hTO ⟨h1, p⟩ ⟨h2, p2⟩ (by simpa using l1) (by simpa using l2) (by simpa using hend)
      fun h' tk hk => ⟨rfl, I.turnedL (t' := tk) (ch := [z, TI, TO, i1, i2]) (fun c o hb q => hk c o (fun q' => hb (by simp [q'])) (fun q' => hb (by simp [q'])) (fun q' => hb (by simp [q'])) (fun q' => hb (by simp [q'])) q) hf⟩
  self := fun A i s Q E st h => wpAny_pyIter_zip st.1 h
def iZip2 (K : PySem.W.Frag) (ta : TA) : TI := fun σ H R => ta σ H fun vs H1 => ∃ b1 a1 b2 a2 xs ys, vs = [.ref a1, .ref a2] ∧ Sq K H1 b1 a1 xs ∧ Sq K H1 b2 a2 ys ∧ R (Itz2 K b1 a1 b2 a2) H1
theorem pi_zip2 {X : Cx} {e e2 : Expr} {ta : TA} {p pos tpos : Pos} {elts : List Expr} {kk : Nat} (hg : Gl X "zip") (hm : X.mg "zip" = none) (ha : PA X [e, e2] ta)
    (hs : starEach [e, e2] X.env = (false, eval e X.env) :: starEach [e2] X.env := by rfl) (hpl : (backTo pos (starEach [e2] X.env)).any (·.1) = false := by rfl) :
    PI X (.Tuple elts kk tpos) (.Call (.Name "zip" p) [e, e2] [] pos) (iZip2 X.K ta) := by
  refine ⟨fun pins s σ H R I h => ?_⟩
  refine Call_ (ld_blt I hg hm PyProof.Rows.boot_zip (PyProof.Rows.callWith_type1 (thn (ha.run pos pins s σ H _ I h) fun us s1 ⟨vs, H1, I1, r1, q1⟩ => ?_) hs hpl))
  obtain ⟨b1, a1, b2, a2, xs, ys, ex, hqx, hqy, q⟩ := q1
  subst ex
  obtain ⟨u, u', rfl, r, r'⟩ := vals2 r1
  cases r
  cases r'
  obtain ⟨its, rv, p1, l1⟩ := hqx.have I1
  obtain ⟨its2, rv2, p2, l2⟩ := hqy.have I1
  refine zip_begins2 (begins_sq b1 a1 its.toArray) (begins_sq b2 a2 its2.toArray) p1 p2 fun h' hz hTI hTO h1 h2 hsz hk => wpAny_pyIter_zip hz ?_
  have I2 : Inv X pins σ H1 { s1 with heap := h' } := I1.kept (t' := s1.toks) hk
  refine ⟨s1.heap.objs.size + 4, [s1.heap.objs.size + 4, s1.heap.objs.size + 2, s1.heap.objs.size + 3, s1.heap.objs.size, s1.heap.objs.size + 1], _, _, H1, rfl, I2,
    turn_zip2 b1 a1 b2 a2 ?_ (Nat.ne_of_lt l1) (Nat.ne_of_lt (Nat.lt_succ_of_lt l2)), ⟨hz, hTI, ⟨_, _, hTO⟩, isIt_new h1, isIt_new h2⟩, fun c hcm => ?_, q⟩
  · generalize s1.heap.objs.size = N at *
    constructor <;> simp <;> (try unfold Addr at *) <;> omega
  · have e' : c = s1.heap.objs.size + 4 ∨ c = s1.heap.objs.size + 2 ∨ c = s1.heap.objs.size + 3 ∨ c = s1.heap.objs.size ∨ c = s1.heap.objs.size + 1 := by simpa using hcm
    have hle : s1.heap.objs.size ≤ c := by
      rcases e' with z | z | z | z | z
      · rw [z]; exact Nat.le_add_right _ _
      · rw [z]; exact Nat.le_add_right _ _
      · rw [z]; exact Nat.le_add_right _ _
      · rw [z]; exact Nat.le_refl _
      · rw [z]; exact Nat.le_add_right _ _
    exact I1.fpOk hle (I1.hok.fresh hle)
def Itz3 (K : PySem.W.Frag) (b1 : Bool) (a1 : Addr) (b2 : Bool) (a2 : Addr) (b3 : Bool) (a3 : Addr) : It :=
  ⟨fun i H => ∃ xs ys zs x y z, Sq K H b1 a1 xs ∧ Sq K H b2 a2 ys ∧ Sq K H b3 a3 zs ∧ xs[i]? = some x ∧ ys[i]? = some y ∧ zs[i]? = some z,
    fun i H v H' => ∃ T x y z, v = .ref T ∧ H T = none ∧ H' = upd H T (.tup [x, y, z]) ∧ (∀ xs, Sq K H b1 a1 xs → xs[i]? = some x) ∧ (∀ ys, Sq K H b2 a2 ys → ys[i]? = some y) ∧ ∀ zs, Sq K H b3 a3 zs → zs[i]? = some z,
    fun i H => ∃ xs ys zs, Sq K H b1 a1 xs ∧ Sq K H b2 a2 ys ∧ Sq K H b3 a3 zs ∧ i ≤ xs.length ∧ i ≤ ys.length ∧ i ≤ zs.length ∧ (i = xs.length ∨ i = ys.length ∨ i = zs.length)⟩
theorem turn_zip3 {P : Program} {w : World} {K : PySem.W.Frag} {elts : List Expr} {kk : Nat} {tpos : Pos} (b1 : Bool) (a1 : Addr) (b2 : Bool) (a2 : Addr) (b3 : Bool) (a3 : Addr) {z TI TO i1 i2 i3 : Addr} (D : ZipSep3 z TI TO i1 i2 i3 [i1, a1] [i2, a2] [i3, a3]) (n1 : a1 ≠ i1) (n2 : a2 ≠ i2) (n3 : a3 ≠ i3) :
    Turn P w K (.Tuple elts kk tpos) (Itz3 K b1 a1 b2 a2 b3 a3) [z, TI, TO, i1, i2, i3] z (fun i h => IsZip h z TI TO .none ∧ IsTupOf3 h TI (.ref i1) (.ref i2) (.ref i3) ∧ (∃ x y z, IsTupOf3 h TO x y z) ∧ IsIt h b1 i1 a1 i ∧ IsIt h b2 i2 a2 i ∧ IsIt h b3 i3 a3 i) where
  mem := by simp
  obj := fun i h st c hc => by
    obtain ⟨hz, hTI, ⟨x, y, z', hTO⟩, h1, h2, h3⟩ := st
    have e' : c = z ∨ c = TI ∨ c = TO ∨ c = i1 ∨ c = i2 ∨ c = i3 := by simpa using hc
    rcases e' with q | q | q | q | q | q
    · rw [q]; exact ⟨_, hz, fun v q => nomatch q⟩
    · rw [q]; exact ⟨_, hTI, fun v q => nomatch q⟩
    · rw [q]; exact ⟨_, hTO, fun v q => nomatch q⟩
    · rw [q]; exact h1.obj
    · rw [q]; exact h2.obj
    · rw [q]; exact h3.obj
  keep := fun i h h' st k => by
    obtain ⟨hz, hTI, ⟨x, y, z', hTO⟩, h1, h2, h3⟩ := st
    exact ⟨k z (by simp) _ hz, k TI (by simp) _ hTI, ⟨x, y, z', k TO (by simp) _ hTO⟩, h1.at fun o q => k i1 (by simp) o q, h2.at fun o q => k i2 (by simp) o q, h3.at fun o q => k i3 (by simp) o q⟩
  item := by
    intro X hP hw hK hc i pins s σ H E I hf st hg
    subst hP hw hK
    obtain ⟨hz, hTI, ⟨x0, y0, z0, hTO⟩, h1, h2, h3⟩ := st
    obtain ⟨xs, ys, zs, x, y, zz, hqx, hqy, hqz, hx, hy, hzz⟩ := hg
    obtain ⟨its, rv, p, _⟩ := hqx.have I
    obtain ⟨its2, rv2, p2, _⟩ := hqy.have I
    obtain ⟨its3, rv3, p3, _⟩ := hqz.have I
    obtain ⟨u, hu, ru⟩ := rv.get hx
    obtain ⟨u2, hu2, ru2⟩ := rv2.get hy
    obtain ⟨u3, hu3, ru3⟩ := rv3.get hzz
    have hzl : z < s.heap.objs.size := Heap.lt_size hz
    have hh : X.A.in1.handled = none := I.ok.hd hc
    refine wpAny_pyNext_zipD3_item D (draws_sq hh b1 i1 a1 n1 its.toArray) (draws_sq hh b2 i2 a2 n2 its2.toArray) (draws_sq hh b3 i3 a3 n3 its3.toArray) hz hTI hTO ⟨h1, p⟩ ⟨h2, p2⟩ ⟨h3, p3⟩
      (by rw [List.size_toArray]; exact (List.getElem?_eq_some_iff.mp hu).1) (by rw [List.size_toArray]; exact (List.getElem?_eq_some_iff.mp hu2).1) (by rw [List.size_toArray]; exact (List.getElem?_eq_some_iff.mp hu3).1)
      fun y1 y2 y3 h' tk e1 e2 e3 z' TO' h1' h2' h3' hT hsz hk => ?_
    have ey1 : y1 = u := by rw [show its.toArray[i]? = some u by simpa using hu] at e1; exact (Option.some.inj e1).symm
    have ey2 : y2 = u2 := by rw [show its2.toArray[i]? = some u2 by simpa using hu2] at e2; exact (Option.some.inj e2).symm
    have ey3 : y3 = u3 := by rw [show its3.toArray[i]? = some u3 by simpa using hu3] at e3; exact (Option.some.inj e3).symm
    subst ey1 ey2 ey3
    refine ⟨_, rfl, wpAny_letOwnedTupleGo_zip (s := { s with heap := h', toks := tk }) z' fun h'' z'' sb => ?_⟩
    have hT2 : h''.get? s.heap.objs.size = some { cls := .type "tuple", data := .seq #[y1, y2, y3] } := (sb.2 _ (Nat.ne_of_gt hzl)).trans hT
    have new : ObjOk X.prog X.w (upd H s.heap.objs.size (.tup [x, y, zz])) h'' s.heap.objs.size (.tup [x, y, zz]) :=
      ⟨by show 3 ≤ sizeLine; decide, [y1, y2, y3], .cons ru (.cons ru2 (.cons ru3 .nil)), ⟨_, hT2, rfl, _, rfl⟩⟩
    have I1 : Inv X pins σ (upd H s.heap.objs.size (.tup [x, y, zz])) { s with heap := h'', toks := tk } :=
      I.turnedNew (t' := tk) (ch := [z, TI, TO, i1, i2, i3]) (fun c o hb q => (sb.2 c (fun q' => hb (by simp [q']))).trans (hk c o (fun q' => hb (by simp [q'])) (fun q' => hb (by simp [q'])) (fun q' => hb (by simp [q'])) (fun q' => hb (by simp [q'])) (fun q' => hb (by simp [q'])) q)) hf (Nat.le_refl _) new
    refine ⟨.ref s.heap.objs.size, _, I1, rfl, ⟨_, x, y, zz, rfl, I.hok.fresh (Nat.le_refl _), rfl, fun l hl => by rw [Sq.inj I hl hqx]; exact hx, fun l hl => by rw [Sq.inj I hl hqy]; exact hy, fun l hl => by rw [Sq.inj I hl hqz]; exact hzz⟩, ⟨z'', ?_, ⟨y1, y2, y3, ?_⟩, ?_, ?_, ?_⟩, fun c hcm => ?_⟩
    · exact (sb.2 _ D.TIz).trans (hk _ _ D.TIz D.TITO D.TIi1 D.TIi2 D.TIi3 hTI)
    · exact (sb.2 _ D.TOz).trans TO'
    · exact h1'.1.at fun o q => (sb.2 _ D.zi1.symm).trans q
    · exact h2'.1.at fun o q => (sb.2 _ D.zi2.symm).trans q
    · exact h3'.1.at fun o q => (sb.2 _ D.zi3.symm).trans q
    · have hlt : c < s.heap.objs.size := by
        have e' : c = z ∨ c = TI ∨ c = TO ∨ c = i1 ∨ c = i2 ∨ c = i3 := by simpa using hcm
        rcases e' with q | q | q | q | q | q
        · rw [q]; exact hzl
        · rw [q]; exact Heap.lt_size hTI
        · rw [q]; exact Heap.lt_size hTO
        · rw [q]; obtain ⟨_, e1, _⟩ := h1.obj; exact Heap.lt_size e1
        · rw [q]; obtain ⟨_, e2, _⟩ := h2.obj; exact Heap.lt_size e2
        · rw [q]; obtain ⟨_, e2, _⟩ := h3.obj; exact Heap.lt_size e2
      rw [upd_ne (Nat.ne_of_lt hlt)]
      exact (hf c hcm).1
  done := by
    intro X hP hw hK hc i pins s σ H E I hf st hg
    subst hP hw hK
    obtain ⟨hz, hTI, ⟨x0, y0, z0, hTO⟩, h1, h2, h3⟩ := st
    obtain ⟨xs, ys, zs, hqx, hqy, hqz, l1, l2, l3, hend⟩ := hg
    obtain ⟨its, rv, p, _⟩ := hqx.have I
    obtain ⟨its2, rv2, p2, _⟩ := hqy.have I
    obtain ⟨its3, rv3, p3, _⟩ := hqz.have I
    rw [rv.length] at l1 hend
    rw [rv2.length] at l2 hend
    rw [rv3.length] at l3 hend
    have hh : X.A.in1.handled = none := I.ok.hd hc
    exact wpAny_pyNext_zipD3_end D (draws_sq hh b1 i1 a1 n1 its.toArray) (draws_sq hh b2 i2 a2 n2 its2.toArray) (draws_sq hh b3 i3 a3 n3 its3.toArray) hz hTI hTO ⟨h1, p⟩ ⟨h2, p2⟩ ⟨h3, p3⟩ (by simpa using l1) (by simpa using l2) (by simpa using l3) (by simpa using hend)
      fun h' tk hk => ⟨rfl, I.turnedL (t' := tk) (ch := [z, TI, TO, i1, i2, i3]) (fun c o hb q => hk c o (fun q' => hb (by simp [q'])) (fun q' => hb (by simp [q'])) (fun q' => hb (by simp [q'])) (fun q' => hb (by simp [q'])) (fun q' => hb (by simp [q'])) q) hf⟩
  self := fun A i s Q E st h => wpAny_pyIter_zip st.1 h
theorem vals3 {x y z : V} {us : List Value} (r : Vals [x, y, z] us) : ∃ u v w, us = [u, v, w] ∧ RelV x u ∧ RelV y v ∧ RelV z w := by
  cases r with
  | cons r1 r2 =>
    obtain ⟨v, w, rfl, a, b⟩ := vals2 r2
    exact ⟨_, _, _, rfl, r1, a, b⟩
def iZip3 (K : PySem.W.Frag) (ta : TA) : TI := fun σ H R => ta σ H fun vs H1 => ∃ b1 a1 b2 a2 b3 a3 xs ys zs, vs = [.ref a1, .ref a2, .ref a3] ∧ Sq K H1 b1 a1 xs ∧ Sq K H1 b2 a2 ys ∧ Sq K H1 b3 a3 zs ∧ R (Itz3 K b1 a1 b2 a2 b3 a3) H1
theorem pi_zip3 {X : Cx} {e e2 e3 : Expr} {ta : TA} {p pos tpos : Pos} {elts : List Expr} {kk : Nat} (hg : Gl X "zip") (hm : X.mg "zip" = none) (ha : PA X [e, e2, e3] ta)
    (hs : starEach [e, e2, e3] X.env = (false, eval e X.env) :: starEach [e2, e3] X.env := by rfl) (hpl : (backTo pos (starEach [e2, e3] X.env)).any (·.1) = false := by rfl) :
    PI X (.Tuple elts kk tpos) (.Call (.Name "zip" p) [e, e2, e3] [] pos) (iZip3 X.K ta) := by
  refine ⟨fun pins s σ H R I h => ?_⟩
  refine Call_ (ld_blt I hg hm PyProof.Rows.boot_zip (PyProof.Rows.callWith_type1 (thn (ha.run pos pins s σ H _ I h) fun us s1 ⟨vs, H1, I1, r1, q1⟩ => ?_) hs hpl))
  obtain ⟨b1, a1, b2, a2, b3, a3, xs, ys, zs, ex, hqx, hqy, hqz, q⟩ := q1
  subst ex
  obtain ⟨u, u', u'', rfl, r, r', r''⟩ := vals3 r1
  cases r
  cases r'
  cases r''
  obtain ⟨its, rv, p1, l1⟩ := hqx.have I1
  obtain ⟨its2, rv2, p2, l2⟩ := hqy.have I1
  obtain ⟨its3, rv3, p3, l3⟩ := hqz.have I1
  refine zip_begins3 (begins_sq b1 a1 its.toArray) (begins_sq b2 a2 its2.toArray) (begins_sq b3 a3 its3.toArray) p1 p2 p3 fun h' hz hTI hTO h1 h2 h3 hsz hk => wpAny_pyIter_zip hz ?_
  have I2 : Inv X pins σ H1 { s1 with heap := h' } := I1.kept (t' := s1.toks) hk
  refine ⟨s1.heap.objs.size + 5, [s1.heap.objs.size + 5, s1.heap.objs.size + 3, s1.heap.objs.size + 4, s1.heap.objs.size, s1.heap.objs.size + 1, s1.heap.objs.size + 2], _, _, H1, rfl, I2,
    turn_zip3 b1 a1 b2 a2 b3 a3 ?_ (Nat.ne_of_lt l1) (Nat.ne_of_lt (Nat.lt_succ_of_lt l2)) (Nat.ne_of_lt (Nat.lt_succ_of_lt (Nat.lt_succ_of_lt l3))), ⟨hz, hTI, ⟨_, _, _, hTO⟩, isIt_new h1, isIt_new h2, isIt_new h3⟩, fun c hcm => ?_, q⟩
  · generalize s1.heap.objs.size = N at *
    constructor <;> simp <;> (try unfold Addr at *) <;> omega
  · have e' : c = s1.heap.objs.size + 5 ∨ c = s1.heap.objs.size + 3 ∨ c = s1.heap.objs.size + 4 ∨ c = s1.heap.objs.size ∨ c = s1.heap.objs.size + 1 ∨ c = s1.heap.objs.size + 2 := by simpa using hcm
    have hle : s1.heap.objs.size ≤ c := by
      rcases e' with z | z | z | z | z | z
      · rw [z]; exact Nat.le_add_right _ _
      · rw [z]; exact Nat.le_add_right _ _
      · rw [z]; exact Nat.le_add_right _ _
      · rw [z]; exact Nat.le_refl _
      · rw [z]; exact Nat.le_add_right _ _
      · rw [z]; exact Nat.le_add_right _ _
    exact I1.fpOk hle (I1.hok.fresh hle)
end Dl

/-! DlV: targets, what is walked, comprehensions -/
namespace Dl
open PySem PySem.Spec PyProof.Rows L2

/-! ### targets: names, tuples of names -/
/-- a value stored: the new names -/
abbrev FG := D → Ctx → Sto → Option Ctx
/-- only the slots in is differ -/
def KeepO (is : List Nat) (σ σ' : L2.St) : Prop := σ'.length = σ.length ∧ ∀ j, j ∉ is → σ'[j]? = σ[j]?
/-- is: the slots that may change -/
def tG (K : PySem.W.Frag) (is : List Nat) (h : FG) : TG := fun v σ H Q => ∃ d Γ S μ Γ', RV K H μ d v ∧ RG K H μ Γ σ ∧ RS K H μ S ∧ h d Γ S = some Γ' ∧ ∀ σ', RG K H μ Γ' σ' → KeepO is σ σ' → Q σ' H
def SG (X : Cx) (tg : Expr) (is : List Nat) (h : FG) : Prop := PG X tg (tG X.K is h)
theorem imp_g {X : Cx} {e : Expr} {t t' : TG} (h : PG X e t) (i : ∀ v σ H Q, t' v σ H Q → t v σ H Q) : PG X e t' := ⟨fun pins s σ H v u Q I r q => h.run pins s σ H v u Q I r (i v σ H Q q)⟩
def gN (i : Nat) : FG := fun d Γ _ => some (Γ.set i (some d))
theorem RG.set {K : PySem.W.Frag} {H : Hp} {μ : List Addr} {Γ : Ctx} {σ : L2.St} {d : D} {v : V} (g : RG K H μ Γ σ) (rv : RV K H μ d v) (i : Nat) : RG K H μ (Γ.set i (some d)) (σ.set i (some v)) := by
  refine ⟨by simp [g.len], fun j e h => ?_⟩
  by_cases hj : i = j
  · subst hj
    by_cases hl : i < Γ.length
    · rw [List.getElem?_set_self hl] at h
      cases h
      exact ⟨v, List.getElem?_set_self (by rw [← g.len]; exact hl), rv⟩
    · rw [List.getElem?_eq_none (by rw [List.length_set]; omega)] at h
      cases h
  · rw [List.getElem?_set_ne hj] at h
    obtain ⟨w, h1, h2⟩ := g.slot j e h
    exact ⟨w, by rw [List.getElem?_set_ne hj]; exact h1, h2⟩
section
variable {X : Cx} {pos : Pos}
theorem sg_n (i : Nat) {x : Str} (hN : X.N.Nodup) (hi : X.N[i]? = some x := by rfl) (hx : Loc X.env.scope x := by first | exact Or.inl rfl | exact Or.inr rfl) (hf : X.fn x = true ∨ X.env.scope.names.lookup x = some .local := by first | exact .inl rfl | exact .inr rfl) : SG X (.Name x pos) [i] (gN i) :=
  imp_g (pg_name hN hi hx hf) fun v σ H Q ⟨d, Γ, S, μ, Γ', rv, g, r, h, k⟩ => by
    cases h
    exact k _ (g.set rv i) ⟨List.length_set, fun j hj => List.getElem?_set_ne (fun e => hj (by simp [e]))⟩
/-- several targets -/
def gL : List FG → List D → Ctx → Sto → Option Ctx
  | [], [], Γ, _ => some Γ
  | h :: hs, d :: ds, Γ, S => (h d Γ S).bind fun Γ1 => gL hs ds Γ1 S
  | _, _, _, _ => none
def tGs (K : PySem.W.Frag) (is : List Nat) (hs : List FG) : TGs := fun vs σ H Q => ∃ ds Γ S μ Γ', RVs K H μ ds vs ∧ RG K H μ Γ σ ∧ RS K H μ S ∧ gL hs ds Γ S = some Γ' ∧ ∀ σ', RG K H μ Γ' σ' → KeepO is σ σ' → Q σ' H
def SGs (X : Cx) (tgs : List Expr) (is : List Nat) (hs : List FG) : Prop := PGs X tgs (tGs X.K is hs)
theorem imp_gs {X : Cx} {e : List Expr} {t t' : TGs} (h : PGs X e t) (i : ∀ v σ H Q, t' v σ H Q → t v σ H Q) : PGs X e t' := ⟨fun pins s σ H v u Q I r q => h.run pins s σ H v u Q I r (i v σ H Q q)⟩
theorem sgs_nil : SGs X [] [] [] := imp_gs pgs_nil fun vs σ H Q ⟨ds, Γ, S, μ, Γ', rv, g, r, h, k⟩ => by
  cases ds with
  | nil => cases h; exact ⟨rv.nilv, k σ g ⟨rfl, fun _ _ => rfl⟩⟩
  | cons d ds => cases h
theorem sgs_cons {e : Expr} {es : List Expr} {is js : List Nat} {h : FG} {hs : List FG} (h1 : SG X e is h) (h2 : SGs X es js hs) (ha : (assignEach (e :: es) X.env).map (·.2) = assign e X.env :: (assignEach es X.env).map (·.2) := by rfl) : SGs X (e :: es) (is ++ js) (h :: hs) :=
  imp_gs (pgs_cons h1 h2 ha) fun vs σ H Q ⟨ds, Γ, S, μ, Γ', rv, g, r, hh, k⟩ => by
    cases rv with
    | nil => cases hh
    | cons r1 r2 =>
      obtain ⟨Γ1, e1, e2⟩ := bind_some hh
      exact ⟨_, _, rfl, _, Γ, S, μ, Γ1, r1, g, r, e1, fun σ1 g1 f1 => ⟨_, Γ1, S, μ, Γ', r2, g1, r, e2, fun σ2 g2 f2 => k σ2 g2 ⟨f2.1.trans f1.1, fun j hj => by
        rw [List.mem_append, not_or] at hj
        exact (f2.2 j hj.2).trans (f1.2 j hj.1)⟩⟩⟩
def gT (hs : List FG) : FG := fun d Γ S => (seqD S d).bind fun l => gL hs l Γ S
def gEither (K : PySem.W.Frag) (n : Nat) (t : TGs) : TG := fun v σ H Q => gTup K n t v σ H Q ∨ gUnl K n t v σ H Q
theorem gL_len : ∀ {hs : List FG} {ds : List D} {Γ Γ' : Ctx} {S : Sto}, gL hs ds Γ S = some Γ' → ds.length = hs.length
  | [], [], _, _, _, _ => rfl
  | [], _ :: _, _, _, _, h => by cases h
  | _ :: _, [], _, _, _, h => by cases h
  | h :: hs, d :: ds, Γ, Γ', S, e => by
    obtain ⟨Γ1, _, e2⟩ := bind_some e
    simp [gL_len e2]
theorem sg_t {es : List Expr} {kk : Nat} {is : List Nat} {hs : List FG} (hc : X.calm = true) (h : SGs X es is hs)
    (hn : (assignEach es X.env).length = hs.length := by rfl) (hst : (assignEach es X.env).findIdx? (·.1) = none := by rfl) : SG X (.Tuple es kk pos) is (gT hs) := by
  have a := pg_tup (k := kk) (pos := pos) hc h hn hst
  have b := pg_unl (k := kk) (pos := pos) hc h hn hst
  refine ⟨fun pins s σ H v u Q I r q => ?_⟩
  obtain ⟨d, Γ, S, μ, Γ', rv, g, rs, e, k⟩ := q
  obtain ⟨l, e1, e2⟩ := bind_some e
  obtain ⟨p, vs, ev, q1, q2⟩ := seq_of rs rv e1
  have hlen : vs.length = hs.length := by rw [← q1.length]; exact gL_len e2
  rcases q2 with q2 | q2
  · exact b.run pins s σ H v u Q I r ⟨p, vs, ev, q2, hlen, l, Γ, S, μ, Γ', q1, g, rs, e2, k⟩
  · exact a.run pins s σ H v u Q I r ⟨p, vs, ev, q2, hlen, l, Γ, S, μ, Γ', q1, g, rs, e2, k⟩
end

/-! ### what is walked -/
/-- cells that the walk must find as they stood -/
abbrev Lk := List (Nat × Cell)
def Lkd (lk : Lk) (S : Sto) : Prop := ∀ p ∈ lk, S[p.1]? = some p.2
abbrev FI := Ctx → Sto → Option ((List D × Lk) × Sto)
structure ItD (K : PySem.W.Frag) (J : It) (its : List D) (lk : Lk) (H1 : Hp) (μ1 : List Addr) : Prop where
  go : ∀ (i : Nat) (H : Hp) (μ : List Addr) (S : Sto), i < its.length → RS K H μ S → Ext K H1 μ1 H μ → Lkd lk S → J.go i H
  yld : ∀ (i : Nat) (H : Hp) (μ : List Addr) (S : Sto) (x : V) (H' : Hp), i < its.length → RS K H μ S → Ext K H1 μ1 H μ → Lkd lk S → J.yld i H x H' → Same H H' ∧ ∃ d, its[i]? = some d ∧ RV K H' μ d x
  stop : ∀ (H : Hp) (μ : List Addr) (S : Sto), RS K H μ S → Ext K H1 μ1 H μ → Lkd lk S → J.stop its.length H
def tI (K : PySem.W.Frag) (f : FI) : TI := fun σ H R => ∃ Γ S μ il S1, RG K H μ Γ σ ∧ RS K H μ S ∧ f Γ S = some (il, S1) ∧ ∀ J H1 μ1, RS K H1 μ1 S1 → Ext K H μ H1 μ1 → ItD K J il.1 il.2 H1 μ1 → R J H1
def SI (X : Cx) (tg iter : Expr) (f : FI) : Prop := PI X tg iter (tI X.K f)
section
variable {X : Cx} {tg e a b c : Expr} {es : List Expr} {f fa fb fc : FE} {p pos tpos : Pos}
theorem SI.mk {t : TI} {g : FI} (h : PI X tg e t) (i : ∀ σ H R Γ S μ il S1, RG X.K H μ Γ σ → RS X.K H μ S → g Γ S = some (il, S1) → (∀ J H1 μ1, RS X.K H1 μ1 S1 → Ext X.K H μ H1 μ1 → ItD X.K J il.1 il.2 H1 μ1 → R J H1) → t σ H R) : SI X tg e g :=
  ⟨fun pins s σ H R I ⟨Γ, S, μ, il, S1, h1, h2, h3, h4⟩ => h.run pins s σ H R I (i σ H R Γ S μ il S1 h1 h2 h3 h4)⟩
theorem PI.or {t t' : TI} (h : PI X tg e t) (h' : PI X tg e t') : PI X tg e (fun σ H R => t σ H R ∨ t' σ H R) :=
  ⟨fun pins s σ H R I q => by
    rcases q with q | q
    · exact h.run pins s σ H R I q
    · exact h'.run pins s σ H R I q⟩
/-- a list or a tuple; the items, and the cell that is walked -/
def srcD (S : Sto) : D → Option (List D × Lk)
  | .tup l => some (l, [])
  | .loc n => match S[n]? with
    | some (.lst l) => some (l, [(n, .lst l)])
    | some (.ro l) => some (l, [(n, .ro l)])
    | _ => none
  | .lst l => some (l, [])
  | .rov l => some (l, [])
  | .tpu l => some (l, [])
  | _ => none
/-- is it walked as a list -/
def lbD : D → Bool
  | .tup _ => false
  | .tpu _ => false
  | _ => true
/-- what a source tells at every later heap -/
structure SrcOk (K : PySem.W.Frag) (b : Bool) (a : Addr) (l : List D) (lk : Lk) (H1 : Hp) (μ1 : List Addr) : Prop where
  at_ : ∀ (H : Hp) (μ : List Addr) (S : Sto), RS K H μ S → Ext K H1 μ1 H μ → Lkd lk S → ∃ vs, Sq K H b a vs ∧ RVs K H μ l vs
theorem src_of {K : PySem.W.Frag} {H1 : Hp} {μ1 : List Addr} {S1 : Sto} {d : D} {v : V} {il : List D × Lk} (r : RS K H1 μ1 S1) (rv : RV K H1 μ1 d v) (h : srcD S1 d = some il) :
    ∃ b a, v = .ref a ∧ SrcOk K b a il.1 il.2 H1 μ1 ∧ Lkd il.2 S1 ∧ b = lbD d := by
  cases rv with
  | @tup a vs l q1 q2 =>
    cases h
    exact ⟨false, a, rfl, ⟨fun H μ S _ e _ => ⟨vs, SqT.of (e.tup _ _ q1), q2.ext e⟩⟩, fun p hp => absurd hp (by simp), rfl⟩
  | @tpu a o vs l q1 _ q2 =>
    cases h
    exact ⟨false, a, rfl, ⟨fun H μ S _ e _ => ⟨vs, .inl (.inr ⟨_, e.tpu _ _ _ q1⟩), q2.ext e⟩⟩, fun p hp => absurd hp (by simp), rfl⟩
  | @rov a vs l q1 q2 =>
    cases h
    exact ⟨true, a, rfl, ⟨fun H μ S _ e _ => ⟨vs, (q1.ext e).seq, q2.ext e⟩⟩, fun p hp => absurd hp (by simp), rfl⟩
  | @lst a vs l q1 q3 q2 =>
    cases h
    exact ⟨true, a, rfl, ⟨fun H μ S _ e _ => ⟨vs, SqL.of (e.lst _ _ q3 q1), q2.ext e⟩⟩, fun p hp => absurd hp (by simp), rfl⟩
  | @loc a n q1 =>
    simp only [srcD] at h
    split at h
    · rename_i l e
      cases h
      refine ⟨true, a, rfl, ⟨fun H μ S r' e' lk => ?_⟩, fun p hp => by simp at hp; subst hp; exact e, rfl⟩
      obtain ⟨vs, z1, z2⟩ := r'.atc (get_pre e'.pre q1) (lk (n, .lst l) (by simp))
      exact ⟨vs, SqL.of z1, z2⟩
    · rename_i l e
      cases h
      refine ⟨true, a, rfl, ⟨fun H μ S r' e' lk => ?_⟩, fun p hp => by simp at hp; subst hp; exact e, rfl⟩
      obtain ⟨vs, z1, z2⟩ := r'.atc (get_pre e'.pre q1) (lk (n, .ro l) (by simp))
      exact ⟨vs, z1.seq, z2⟩
    · cases h
  | _ => simp only [srcD] at h; cases h
/-- a value walked: a list, a tuple, a text -/
def iVal (fa : FE) : FI := fun Γ S => (fa Γ S).bind fun p => match p.1 with
  | .str z => some ((z.cps.toList.map fun c => D.str ⟨#[c]⟩, []), p.2)
  | d => (srcD p.2 d).map fun il => (il, p.2)
theorem si_val (ha : SE X a fa) : SI X tg a (iVal fa) :=
  SI.mk (PI.or (pi_list ha) (PI.or (pi_tup ha) (pi_str ha))) fun σ H R Γ S μ il S1 g r h k => by
    obtain ⟨⟨d, S2⟩, h1, h2⟩ := bind_some h
    have other : (srcD S2 d).map (fun il => (il, S2)) = some (il, S1) → (iList X.K (tD X.K fa) σ H R ∨ iTup X.K (tD X.K fa) σ H R ∨ iStr (tD X.K fa) σ H R) := fun h2 => by
      obtain ⟨il', h3, h4⟩ := map_some h2
      cases h4
      cases hb : lbD d with
      | false =>
        refine .inr (.inl ⟨Γ, S, μ, d, S1, g, r, h1, fun v H1 μ1 r1 e1 rv => ?_⟩)
        obtain ⟨b, a, ev, so, lk, dk⟩ := src_of r1 rv h3
        rw [hb] at dk
        subst dk
        obtain ⟨vs, q1, q2⟩ := so.at_ H1 μ1 S1 r1 .refl lk
        refine ⟨a, ev, ⟨vs, q1⟩, k _ H1 μ1 r1 e1 ⟨fun i H μ S hi r' e' lk => ?_, fun i H μ S x H' hi r' e' lk y => ?_, fun H μ S r' e' lk => ?_⟩⟩
        · obtain ⟨ws, z1, z2⟩ := so.at_ H μ S r' e' lk
          exact ⟨ws, ws[i]'(by rw [← z2.length]; exact hi), z1, List.getElem?_eq_getElem _⟩
        · obtain ⟨rfl, y⟩ := y
          obtain ⟨ws, z1, z2⟩ := so.at_ H' μ S r' e' lk
          obtain ⟨d, e1, e2⟩ := z2.getV (y ws z1)
          exact ⟨Same.refl _, d, e1, e2⟩
        · obtain ⟨ws, z1, z2⟩ := so.at_ H μ S r' e' lk
          exact ⟨ws, z1, by rw [z2.length]; exact Nat.le_refl _⟩
      | true =>
        refine .inl ⟨Γ, S, μ, d, S1, g, r, h1, fun v H1 μ1 r1 e1 rv => ?_⟩
        obtain ⟨b, a, ev, so, lk, dk⟩ := src_of r1 rv h3
        rw [hb] at dk
        subst dk
        obtain ⟨vs, q1, q2⟩ := so.at_ H1 μ1 S1 r1 .refl lk
        refine ⟨a, ev, ⟨vs, q1⟩, k _ H1 μ1 r1 e1 ⟨fun i H μ S hi r' e' lk => ?_, fun i H μ S x H' hi r' e' lk y => ?_, fun H μ S r' e' lk => ?_⟩⟩
        · obtain ⟨ws, z1, z2⟩ := so.at_ H μ S r' e' lk
          exact ⟨ws, ws[i]'(by rw [← z2.length]; exact hi), z1, List.getElem?_eq_getElem _⟩
        · obtain ⟨rfl, y⟩ := y
          obtain ⟨ws, z1, z2⟩ := so.at_ H' μ S r' e' lk
          obtain ⟨d, e1, e2⟩ := z2.getV (y ws z1)
          exact ⟨Same.refl _, d, e1, e2⟩
        · obtain ⟨ws, z1, z2⟩ := so.at_ H μ S r' e' lk
          exact ⟨ws, z1, by rw [z2.length]; exact Nat.le_refl _⟩
    cases d with
    | str z =>
      cases h2
      refine .inr (.inr ⟨Γ, S, μ, .str z, _, g, r, h1, fun v H1 μ1 r1 e1 rv => ?_⟩)
      cases rv
      refine ⟨z, rfl, k _ H1 μ1 r1 e1 ⟨fun i H μ S hi _ _ _ => ?_, fun i H μ S x H' hi _ _ _ y => ?_, fun H μ S _ _ _ => ?_⟩⟩
      · show i < z.cps.size
        simpa using hi
      · obtain ⟨rfl, c, e1, e2⟩ := y
        subst e2
        exact ⟨Same.refl _, .str ⟨#[c]⟩, by rw [List.getElem?_map]; simp [e1], .str _⟩
      · show z.cps.size ≤ _
        simp
    | _ => exact other h2
end
end Dl

/-! DlW: ranges, enumerate, zip as walks over data; comprehensions -/
namespace Dl
open PySem PySem.Spec PyProof.Rows L2
section
variable {X : Cx} {tg e a b c : Expr} {es : List Expr} {f fa fb fc : FE} {fs : List FE} {p pos tpos : Pos}
/-! ### range -/
def rgD (lo st : Int) (n : Nat) : List D := (List.range n).map fun t => .int (lo + (t : Nat) * st)
theorem rgD_len (lo st : Int) (n : Nat) : (rgD lo st n).length = n := by simp [rgD]
theorem rgD_get (lo st : Int) (n i : Nat) (h : i < n) : (rgD lo st n)[i]? = some (.int (lo + (i : Nat) * st)) := by
  simp [rgD, List.getElem?_map, List.getElem?_range h]
def rngOf : List D → Option (List D)
  | [.int j] => if -(2 ^ 62) ≤ j ∧ j < 2 ^ 62 then some (rgD 0 1 j.toNat) else none
  | [.int i, .int j] => if -(2 ^ 62) ≤ i ∧ i < 2 ^ 62 ∧ -(2 ^ 62) ≤ j ∧ j < 2 ^ 62 then some (rgD i 1 (j - i).toNat) else none
  | [.int i, .int j, .int k] => if k ≠ 0 ∧ k.natAbs < 1073741824 ∧ Builtin.Range.small i j k = true ∧ Builtin.Range.rangeSize i j k = ((Builtin.Range.rangeSize i j k).toNat : Int) then some (rgD i k (Builtin.Range.rangeSize i j k).toNat) else none
  | _ => none
def iRng (fs : List FE) : FI := fun Γ S => (args fs Γ S).bind fun p => (rngOf p.1).map fun l => ((l, []), p.2)
theorem itd_r {K : PySem.W.Frag} {H1 : Hp} {μ1 : List Addr} (lo : Int) (n : Nat) : ItD K (Itr lo n) (rgD lo 1 n) [] H1 μ1 where
  go := fun i H μ S hi _ _ _ => by rw [rgD_len] at hi; exact hi
  yld := fun i H μ S x H' hi _ _ _ y => by
    rw [rgD_len] at hi
    obtain ⟨y1, y2⟩ := y
    subst y1 y2
    exact ⟨Same.refl _, _, rgD_get _ _ _ _ hi, by rw [Int.mul_one]; exact .int _⟩
  stop := fun H μ S _ _ _ => by rw [rgD_len]; exact Nat.le_refl _
theorem itd_c {K : PySem.W.Frag} {H1 : Hp} {μ1 : List Addr} (lo st : Int) (n : Nat) : ItD K (Itc lo st n) (rgD lo st n) [] H1 μ1 where
  go := fun i H μ S hi _ _ _ => by rw [rgD_len] at hi; exact hi
  yld := fun i H μ S x H' hi _ _ _ y => by
    rw [rgD_len] at hi
    obtain ⟨y1, y2⟩ := y
    subst y1 y2
    exact ⟨Same.refl _, _, rgD_get _ _ _ _ hi, .int _⟩
  stop := fun H μ S _ _ _ => by rw [rgD_len]; exact Nat.le_refl _
theorem si_rng1 (hg : Gl X "range") (hm : X.mg "range" = none) (ha : SA X [a] (args [fa])) (hs : starEach [a] X.env = [(false, eval a X.env)] := by rfl) : SI X tg (.Call (.Name "range" p) [a] [] pos) (iRng [fa]) :=
  SI.mk (pi_range1 hg hm ha hs) fun σ H R Γ S μ il S1 g r h k => by
    obtain ⟨⟨ds, S2⟩, h1, h2⟩ := bind_some h
    obtain ⟨l, h3, h4⟩ := map_some h2
    cases h4
    have hl := args_length h1
    match ds, hl, h3, h1 with
    | [d], _, h3, h1 =>
      cases d <;> simp only [rngOf] at h3 <;> first | cases h3 | skip
      split at h3
      · rename_i hc
        cases h3
        refine ⟨Γ, S, μ, _, _, g, r, h1, fun vs H1 μ1 r1 e1 rv => ?_⟩
        obtain ⟨v, rfl, rx⟩ := rv.one
        cases rx
        exact ⟨_, rfl, hc.1, hc.2, k _ H1 μ1 r1 e1 (itd_r _ _)⟩
      · cases h3
theorem si_rng2 (hg : Gl X "range") (hm : X.mg "range" = none) (ha : SA X [a, b] (args [fa, fb])) (hs : starEach [a, b] X.env = [(false, eval a X.env), (false, eval b X.env)] := by rfl) (hs2 : starEach [b] X.env = [(false, eval b X.env)] := by rfl) :
    SI X tg (.Call (.Name "range" p) [a, b] [] pos) (iRng [fa, fb]) :=
  SI.mk (pi_range2 hg hm ha hs hs2) fun σ H R Γ S μ il S1 g r h k => by
    obtain ⟨⟨ds, S2⟩, h1, h2⟩ := bind_some h
    obtain ⟨l, h3, h4⟩ := map_some h2
    cases h4
    have hl := args_length h1
    match ds, hl, h3, h1 with
    | [d, d'], _, h3, h1 =>
      cases d <;> cases d' <;> simp only [rngOf] at h3 <;> first | cases h3 | skip
      split at h3
      · rename_i hc
        cases h3
        refine ⟨Γ, S, μ, _, _, g, r, h1, fun vs H1 μ1 r1 e1 rv => ?_⟩
        obtain ⟨v, w, rfl, rx, ry⟩ := rv.two
        cases rx; cases ry
        exact ⟨_, _, rfl, hc, k _ H1 μ1 r1 e1 (itd_r _ _)⟩
      · cases h3
theorem si_rng3 (hg : Gl X "range") (hm : X.mg "range" = none) (ha : SA X [a, b, c] (args [fa, fb, fc]))
    (hs : starEach [a, b, c] X.env = (false, eval a X.env) :: starEach [b, c] X.env := by rfl) (hpl : (backTo pos (starEach [b, c] X.env)).any (·.1) = false := by rfl) : SI X tg (.Call (.Name "range" p) [a, b, c] [] pos) (iRng [fa, fb, fc]) :=
  SI.mk (pi_range3 hg hm ha hs hpl) fun σ H R Γ S μ il S1 g r h k => by
    obtain ⟨⟨ds, S2⟩, h1, h2⟩ := bind_some h
    obtain ⟨l, h3, h4⟩ := map_some h2
    cases h4
    have hl := args_length h1
    match ds, hl, h3, h1 with
    | [d, d', d2], _, h3, h1 =>
      cases d <;> cases d' <;> cases d2 <;> simp only [rngOf] at h3 <;> first | cases h3 | skip
      split at h3
      · rename_i hc
        cases h3
        refine ⟨Γ, S, μ, _, _, g, r, h1, fun vs H1 μ1 r1 e1 rv => ?_⟩
        cases rv with
        | cons rx rv =>
          obtain ⟨v, w, rfl, ry, rz⟩ := rv.two
          cases rx; cases ry; cases rz
          exact ⟨_, _, _, _, rfl, ⟨hc.1, hc.2.1, hc.2.2.1, hc.2.2.2⟩, k _ H1 μ1 r1 e1 (itd_c _ _ _)⟩
      · cases h3
/-! ### enumerate, zip -/
theorem SrcOk.sq {K : PySem.W.Frag} {b : Bool} {a : Addr} {l : List D} {lk : Lk} {H1 : Hp} {μ1 : List Addr} (so : SrcOk K b a l lk H1 μ1) {S : Sto} (r : RS K H1 μ1 S) (h : Lkd lk S) : ∃ xs, Sq K H1 b a xs :=
  let ⟨vs, z, _⟩ := so.at_ H1 μ1 S r .refl h
  ⟨vs, z⟩
/-- an item of a source -/
theorem SrcOk.item {K : PySem.W.Frag} {b : Bool} {a : Addr} {l : List D} {lk : Lk} {H1 H : Hp} {μ1 μ : List Addr} (so : SrcOk K b a l lk H1 μ1) {S : Sto} (r : RS K H μ S) (e : Ext K H1 μ1 H μ) (h : Lkd lk S) {i : Nat} {x : V} (y : ∀ xs, Sq K H b a xs → xs[i]? = some x) : ∃ d, l[i]? = some d ∧ RV K H μ d x := by
  obtain ⟨ws, z1, z2⟩ := so.at_ H μ S r e h
  exact z2.getV (y ws z1)
theorem SrcOk.has {K : PySem.W.Frag} {b : Bool} {a : Addr} {l : List D} {lk : Lk} {H1 H : Hp} {μ1 μ : List Addr} (so : SrcOk K b a l lk H1 μ1) {S : Sto} (r : RS K H μ S) (e : Ext K H1 μ1 H μ) (h : Lkd lk S) {i : Nat} (hi : i < l.length) : ∃ xs x, Sq K H b a xs ∧ xs[i]? = some x := by
  obtain ⟨ws, z1, z2⟩ := so.at_ H μ S r e h
  exact ⟨ws, ws[i]'(by rw [← z2.length]; exact hi), z1, List.getElem?_eq_getElem _⟩
theorem SrcOk.end_ {K : PySem.W.Frag} {b : Bool} {a : Addr} {l : List D} {lk : Lk} {H1 H : Hp} {μ1 μ : List Addr} (so : SrcOk K b a l lk H1 μ1) {S : Sto} (r : RS K H μ S) (e : Ext K H1 μ1 H μ) (h : Lkd lk S) : ∃ xs, Sq K H b a xs ∧ xs.length = l.length := by
  obtain ⟨ws, z1, z2⟩ := so.at_ H μ S r e h
  exact ⟨ws, z1, z2.length.symm⟩
theorem Lkd.left {lk lk' : Lk} {S : Sto} (h : Lkd (lk ++ lk') S) : Lkd lk S := fun p hp => h p (List.mem_append_left _ hp)
theorem Lkd.right {lk lk' : Lk} {S : Sto} (h : Lkd (lk ++ lk') S) : Lkd lk' S := fun p hp => h p (List.mem_append_right _ hp)
theorem Lkd.both {lk lk' : Lk} {S : Sto} (h : Lkd lk S) (h' : Lkd lk' S) : Lkd (lk ++ lk') S := fun p hp => by
  rcases List.mem_append.mp hp with q | q
  · exact h p q
  · exact h' p q
def enD (l : List D) : List D := l.mapIdx fun i d => D.tup [.int (i : Nat), d]
def iEnum (fs : List FE) : FI := fun Γ S => (args fs Γ S).bind fun p => match p.1 with
  | [d] => (srcD p.2 d).map fun il => ((enD il.1, il.2), p.2)
  | _ => none
theorem itd_en {K : PySem.W.Frag} {b : Bool} {a : Addr} {l : List D} {lk : Lk} {H1 : Hp} {μ1 : List Addr} (so : SrcOk K b a l lk H1 μ1) : ItD K (IteS K b a) (enD l) lk H1 μ1 where
  go := fun i H μ S hi r e h => by
    rw [enD, List.length_mapIdx] at hi
    exact so.has r e h hi
  yld := fun i H μ S x H' hi r e h y => by
    obtain ⟨T, x', y1, y2, y3, y4⟩ := y
    obtain ⟨d, z1, z2⟩ := so.item r e h y4
    subst y1 y3
    have s := same_upd (o := .tup [V.int (i : Nat), x']) y2
    exact ⟨s, .tup [.int (i : Nat), d], by rw [enD, List.getElem?_mapIdx, z1]; rfl, .tup upd_same (.cons (.int _) (.cons (z2.ext (.same s)) .nil))⟩
  stop := fun H μ S r e h => by
    obtain ⟨xs, z1, z2⟩ := so.end_ r e h
    exact ⟨xs, z1, by rw [z2, enD, List.length_mapIdx]⟩
theorem si_enum {elts : List Expr} {kk : Nat} (hg : Gl X "enumerate") (hm : X.mg "enumerate" = none) (ha : SA X [e] (args [fa])) (hs : starEach [e] X.env = [(false, eval e X.env)] := by rfl) : SI X (.Tuple elts kk tpos) (.Call (.Name "enumerate" p) [e] [] pos) (iEnum [fa]) :=
  SI.mk (pi_enumS hg hm ha hs) fun σ H R Γ S μ il S1 g r h k => by
    obtain ⟨⟨ds, S2⟩, h1, h2⟩ := bind_some h
    have hl := args_length h1
    match ds, hl, h2, h1 with
    | [d], _, h2, h1 =>
      obtain ⟨il', h3, h4⟩ := map_some h2
      cases h4
      refine ⟨Γ, S, μ, _, _, g, r, h1, fun vs H1 μ1 r1 e1 rv => ?_⟩
      obtain ⟨v, rfl, rx⟩ := rv.one
      obtain ⟨b, a, ev, so, lk, dk⟩ := src_of r1 rx h3
      subst ev
      obtain ⟨xs, hx⟩ := so.sq r1 lk
      exact ⟨b, a, xs, rfl, hx, k _ H1 μ1 r1 e1 (itd_en so)⟩
def zp2 (l m : List D) : List D := List.zipWith (fun x y => D.tup [x, y]) l m
def zp3 (l m n : List D) : List D := List.zipWith (fun x (y : D × D) => D.tup [x, y.1, y.2]) l (m.zip n)
def iZip (fs : List FE) : FI := fun Γ S => (args fs Γ S).bind fun p => match p.1 with
  | [d, d'] => (srcD p.2 d).bind fun il => (srcD p.2 d').map fun il' => ((zp2 il.1 il'.1, il.2 ++ il'.2), p.2)
  | [d, d', d2] => (srcD p.2 d).bind fun il => (srcD p.2 d').bind fun il' => (srcD p.2 d2).map fun il2 => ((zp3 il.1 il'.1 il2.1, il.2 ++ (il'.2 ++ il2.2)), p.2)
  | _ => none
theorem itd_z2 {K : PySem.W.Frag} {b b' : Bool} {a a' : Addr} {l l' : List D} {lk lk' : Lk} {H1 : Hp} {μ1 : List Addr} (so : SrcOk K b a l lk H1 μ1) (so' : SrcOk K b' a' l' lk' H1 μ1) : ItD K (Itz2 K b a b' a') (zp2 l l') (lk ++ lk') H1 μ1 where
  go := fun i H μ S hi r e h => by
    rw [zp2, List.length_zipWith] at hi
    obtain ⟨xs, x, q1, q2⟩ := so.has r e h.left (show i < l.length by omega)
    obtain ⟨ys, y, q3, q4⟩ := so'.has r e h.right (show i < l'.length by omega)
    exact ⟨xs, ys, x, y, q1, q3, q2, q4⟩
  yld := fun i H μ S x H' hi r e h y => by
    obtain ⟨T, x', x2, y1, y2, y3, y4, y5⟩ := y
    obtain ⟨d, z1, z2⟩ := so.item r e h.left y4
    obtain ⟨d', z3, z4⟩ := so'.item r e h.right y5
    subst y1 y3
    have s := same_upd (o := .tup [x', x2]) y2
    exact ⟨s, .tup [d, d'], by rw [zp2, List.getElem?_zipWith, z1, z3], .tup upd_same (.cons (z2.ext (.same s)) (.cons (z4.ext (.same s)) .nil))⟩
  stop := fun H μ S r e h => by
    obtain ⟨xs, z1, z2⟩ := so.end_ r e h.left
    obtain ⟨ys, z3, z4⟩ := so'.end_ r e h.right
    refine ⟨xs, ys, z1, z3, ?_⟩
    rw [zp2, List.length_zipWith]
    omega
theorem itd_z3 {K : PySem.W.Frag} {b b' b2 : Bool} {a a' a2 : Addr} {l l' l2 : List D} {lk lk' lk2 : Lk} {H1 : Hp} {μ1 : List Addr} (so : SrcOk K b a l lk H1 μ1) (so' : SrcOk K b' a' l' lk' H1 μ1) (so2 : SrcOk K b2 a2 l2 lk2 H1 μ1) : ItD K (Itz3 K b a b' a' b2 a2) (zp3 l l' l2) (lk ++ (lk' ++ lk2)) H1 μ1 where
  go := fun i H μ S hi r e h => by
    rw [zp3, List.length_zipWith, List.length_zip] at hi
    obtain ⟨xs, x, q1, q2⟩ := so.has r e h.left (show i < l.length by omega)
    obtain ⟨ys, y, q3, q4⟩ := so'.has r e h.right.left (show i < l'.length by omega)
    obtain ⟨zs, z, q5, q6⟩ := so2.has r e h.right.right (show i < l2.length by omega)
    exact ⟨xs, ys, zs, x, y, z, q1, q3, q5, q2, q4, q6⟩
  yld := fun i H μ S x H' hi r e h y => by
    obtain ⟨T, x', x2, x3, y1, y2, y3, y4, y5, y6⟩ := y
    obtain ⟨d, z1, z2⟩ := so.item r e h.left y4
    obtain ⟨d', z3, z4⟩ := so'.item r e h.right.left y5
    obtain ⟨d2, z5, z6⟩ := so2.item r e h.right.right y6
    subst y1 y3
    have s := same_upd (o := .tup [x', x2, x3]) y2
    refine ⟨s, .tup [d, d', d2], ?_, .tup upd_same (.cons (z2.ext (.same s)) (.cons (z4.ext (.same s)) (.cons (z6.ext (.same s)) .nil)))⟩
    have hz : (l'.zip l2)[i]? = some (d', d2) := by rw [List.getElem?_zip_eq_some]; exact ⟨z3, z5⟩
    rw [zp3, List.getElem?_zipWith, z1, hz]
  stop := fun H μ S r e h => by
    obtain ⟨xs, z1, z2⟩ := so.end_ r e h.left
    obtain ⟨ys, z3, z4⟩ := so'.end_ r e h.right.left
    obtain ⟨zs, z5, z6⟩ := so2.end_ r e h.right.right
    refine ⟨xs, ys, zs, z1, z3, z5, ?_⟩
    rw [zp3, List.length_zipWith, List.length_zip]
    omega
theorem si_zip2 {elts : List Expr} {kk : Nat} (hg : Gl X "zip") (hm : X.mg "zip" = none) (ha : SA X [a, b] (args [fa, fb])) (hs : starEach [a, b] X.env = (false, eval a X.env) :: starEach [b] X.env := by rfl) (hpl : (backTo pos (starEach [b] X.env)).any (·.1) = false := by rfl) :
    SI X (.Tuple elts kk tpos) (.Call (.Name "zip" p) [a, b] [] pos) (iZip [fa, fb]) :=
  SI.mk (pi_zip2 hg hm ha hs hpl) fun σ H R Γ S μ il S1 g r h k => by
    obtain ⟨⟨ds, S2⟩, h1, h2⟩ := bind_some h
    have hl := args_length h1
    match ds, hl, h2, h1 with
    | [d, d'], _, h2, h1 =>
      obtain ⟨il1, h3, h2⟩ := bind_some h2
      obtain ⟨il2, h3', h4⟩ := map_some h2
      cases h4
      refine ⟨Γ, S, μ, _, _, g, r, h1, fun vs H1 μ1 r1 e1 rv => ?_⟩
      obtain ⟨v, w, rfl, rx, ry⟩ := rv.two
      obtain ⟨b, a, ev, so, lk, dk⟩ := src_of r1 rx h3
      obtain ⟨b', a', ev', so', lk', dk'⟩ := src_of r1 ry h3'
      subst ev ev'
      obtain ⟨xs, hx⟩ := so.sq r1 lk
      obtain ⟨ys, hy⟩ := so'.sq r1 lk'
      exact ⟨b, a, b', a', xs, ys, rfl, hx, hy, k _ H1 μ1 r1 e1 (itd_z2 so so')⟩
theorem si_zip3 {elts : List Expr} {kk : Nat} (hg : Gl X "zip") (hm : X.mg "zip" = none) (ha : SA X [a, b, c] (args [fa, fb, fc])) (hs : starEach [a, b, c] X.env = (false, eval a X.env) :: starEach [b, c] X.env := by rfl) (hpl : (backTo pos (starEach [b, c] X.env)).any (·.1) = false := by rfl) :
    SI X (.Tuple elts kk tpos) (.Call (.Name "zip" p) [a, b, c] [] pos) (iZip [fa, fb, fc]) :=
  SI.mk (pi_zip3 hg hm ha hs hpl) fun σ H R Γ S μ il S1 g r h k => by
    obtain ⟨⟨ds, S2⟩, h1, h2⟩ := bind_some h
    have hl := args_length h1
    match ds, hl, h2, h1 with
    | [d, d', d2], _, h2, h1 =>
      obtain ⟨il1, h3, h2⟩ := bind_some h2
      obtain ⟨il2, h3', h2⟩ := bind_some h2
      obtain ⟨il3, h32, h4⟩ := map_some h2
      cases h4
      refine ⟨Γ, S, μ, _, _, g, r, h1, fun vs H1 μ1 r1 e1 rv => ?_⟩
      cases rv with
      | cons rx rv =>
        obtain ⟨v, w, rfl, ry, rz⟩ := rv.two
        obtain ⟨b, a, ev, so, lk, dk⟩ := src_of r1 rx h3
        obtain ⟨b', a', ev', so', lk', dk'⟩ := src_of r1 ry h3'
        obtain ⟨b2, a2, ev2, so2, lk2, dk2⟩ := src_of r1 rz h32
        subst ev ev' ev2
        obtain ⟨xs, hx⟩ := so.sq r1 lk
        obtain ⟨ys, hy⟩ := so'.sq r1 lk'
        obtain ⟨zs, hz⟩ := so2.sq r1 lk2
        exact ⟨b, a, b', a', b2, a2, xs, ys, zs, rfl, hx, hy, hz, k _ H1 μ1 r1 e1 (itd_z3 so so' so2)⟩
end
end Dl

/-! DlX: comprehensions over data -/
namespace Dl
open PySem PySem.Spec PyProof.Rows L2
/-! ### the tests of a clause -/
theorem skips {M : Model} {A : Around} {E : Value → Shared → Prop} {env : Env} {Q : Bool → Shared → Prop} : ∀ (l : List Expr) (s : Shared), Q false s →
    wpAny M A (forIn l false fun c r => if r = true then do let ok ← isTrue c env (eval c env); pure (ForInStep.yield ok) else pure (ForInStep.yield r)) Q E s
  | [], s, h => wpAny_pure h
  | c :: l, s, h => by
    simp only [List.forIn_cons, if_neg Bool.false_ne_true]
    exact wpAny_bind (wpAny_pure (skips l s h))
def STs (X : Cx) (ifs : List Expr) (g : FT) : Prop := PTs X ifs (tT X.K g)
def tYs : FT := fun _ S => some (true, S)
section
variable {X : Cx} {c : Expr} {cs : List Expr} {g h : FT}
theorem sts_nil : STs X [] tYs := ⟨fun pins s σ H Q I q => pts_nil.run pins s σ H Q I (by
  obtain ⟨Γ, S, μ, d, S', h1, h2, h3, k⟩ := q
  cases h3
  exact k H μ h2 .refl)⟩
theorem sts_one (a : ST X c g) : STs X [c] g := pts_one a
theorem sts_cons (a : ST X c g) (b : STs X cs h) : STs X (c :: cs) (tAnd2 g h) := ⟨fun pins s σ H Q I q => by
  obtain ⟨Γ, S, μ, d, S', h1, h2, h3, k⟩ := q
  obtain ⟨⟨p, S1⟩, e1, e2⟩ := bind_some h3
  simp only [List.forIn_cons, if_true]
  refine wpAny_bind (wpAny_bind (thn (a.run pins s σ H (fun t H1 => t = p ∧ ∃ μ1, RS X.K H1 μ1 S1 ∧ Ext X.K H μ H1 μ1) I ⟨Γ, S, μ, p, S1, h1, h2, e1, fun H' μ' r e => ⟨rfl, μ', r, e⟩⟩) fun t s1 q1 => ?_))
  obtain ⟨H1, I1, rfl, μ1, r1, x1⟩ := q1
  refine wpAny_pure ?_
  cases t with
  | true => exact b.run pins s1 σ H1 Q I1 ⟨Γ, S1, μ1, d, S', h1.ext x1, r1, e2, k.after x1⟩
  | false =>
    cases e2
    exact skips cs s1 ⟨H1, I1, k H1 μ1 r1 x1⟩⟩
end

/-! ### own names of a block -/
def wipeD (Γ : Ctx) : List Nat → Ctx
  | [] => Γ
  | v :: vs => (wipeD Γ vs).set v none
theorem wipeD_length (Γ : Ctx) : ∀ vs : List Nat, (wipeD Γ vs).length = Γ.length
  | [] => rfl
  | v :: vs => by unfold wipeD; rw [List.length_set, wipeD_length Γ vs]
theorem wipe_in {σ : L2.St} {i : Nat} : ∀ {vs : List Nat}, i ∈ vs → i < σ.length → (wipe σ vs)[i]? = some none
  | v :: vs, h, hl => by
    unfold wipe
    by_cases hi : v = i
    · subst hi
      exact List.getElem?_set_self (by rw [wipe_length]; exact hl)
    · rw [List.getElem?_set_ne hi]
      rcases List.mem_cons.mp h with q | q
      · exact absurd q.symm hi
      · exact wipe_in q hl
theorem wipeD_some {Γ : Ctx} {i : Nat} {x : D} : ∀ {vs : List Nat}, (wipeD Γ vs)[i]? = some (some x) → Γ[i]? = some (some x) ∧ i ∉ vs
  | [], h => ⟨h, by simp⟩
  | v :: vs, h => by
    unfold wipeD at h
    by_cases hi : v = i
    · subst hi
      by_cases hl : v < (wipeD Γ vs).length
      · rw [List.getElem?_set_self hl] at h; cases h
      · rw [List.getElem?_eq_none (by rw [List.length_set]; omega)] at h; cases h
    · rw [List.getElem?_set_ne hi] at h
      obtain ⟨h1, h2⟩ := wipeD_some h
      exact ⟨h1, by simp [h2, Ne.symm hi]⟩
theorem RG.wipe {K : PySem.W.Frag} {H : Hp} {μ : List Addr} {Γ : Ctx} {σ : L2.St} (g : RG K H μ Γ σ) (vs : List Nat) : RG K H μ (wipeD Γ vs) (wipe σ vs) := ⟨by rw [wipeD_length, wipe_length, g.len], fun i d h => by
  obtain ⟨h1, h2⟩ := wipeD_some h
  obtain ⟨v, q1, q2⟩ := g.slot i d h1
  exact ⟨v, by rw [wipe_out h2]; exact q1, q2⟩⟩
theorem wipe_eq {σ σ' : L2.St} {vs is : List Nat} (hi : ∀ i ∈ is, i ∈ vs) (h : KeepO is (wipe σ vs) σ') : wipe σ' vs = wipe σ vs := by
  have hl : σ'.length = σ.length := h.1.trans (wipe_length _ _)
  refine List.ext_getElem? fun j => ?_
  by_cases hj : j ∈ vs
  · by_cases hb : j < σ.length
    · rw [wipe_in hj hb, wipe_in hj (by omega)]
    · rw [List.getElem?_eq_none (by rw [wipe_length]; omega), List.getElem?_eq_none (by rw [wipe_length]; omega)]
  · rw [wipe_out hj, h.2 j fun q => hj (hi j q)]

/-! ### list comprehensions -/
open Classical in
/-- the turns; the new list stands at n -/
noncomputable def lcL (g : FG) (ts : FT) (el : FE) (vs : List Nat) (n : Nat) (lk : Lk) : List D → Ctx → Sto → Option Sto
  | [], _, S => if Lkd lk S then some S else none
  | d :: r, Γ, S => if Lkd lk S then (g d (wipeD Γ vs) S).bind fun Γ1 => (ts Γ1 S).bind fun p => if p.1 = true then ((el Γ1 p.2).bind fun q => match q.2[n]? with
      | some (.lst acc) => if acc.length < sizeLine then lcL g ts el vs n lk r Γ (q.2.set n (.lst (acc ++ [q.1]))) else none
      | _ => none) else lcL g ts el vs n lk r Γ p.2 else none
noncomputable def eLc (it : FI) (g : FG) (ts : FT) (el : FE) (vs : List Nat) : FE := fun Γ S => (it Γ S).bind fun p => (lcL g ts el vs p.2.length p.1.2 p.1.1 Γ (p.2 ++ [.lst []])).map fun S2 => (.loc p.2.length, S2)
theorem lc_turns {X : Cx} {it : FI} {g : FG} {ts : FT} {el : FE} {vs is : List Nat} (hi : ∀ i ∈ is, i ∈ vs) {σ : L2.St} {H : Hp} {Q : VK} {Γ : Ctx} {S S' : Sto} {μ : List Addr} {d : D}
    (G : RG X.K H μ Γ σ) (r : RS X.K H μ S) (h : eLc it g ts el vs Γ S = some (d, S')) (k : Kt X.K H μ S' d Q) : tLc (tI X.K it) (tG X.K is g) (tT X.K ts) (tD X.K el) vs σ H Q := by
  obtain ⟨⟨⟨its, lk⟩, S1⟩, h1, h2⟩ := bind_some h
  obtain ⟨S2, h3, h4⟩ := map_some h2
  injection h4 with h4 h5
  subst h4 h5
  refine ⟨Γ, S, μ, _, S1, G, r, h1, fun J H1 μ1 r1 e1 it D hD => ?_⟩
  obtain ⟨a1, a2, a3⟩ := r1.newL (l := []) .nil hD
  refine ⟨fun i m H => m = its.length - i ∧ i ≤ its.length ∧ ∃ μ S, RS X.K H μ S ∧ Ext X.K (upd H1 D (.lst [])) (μ1 ++ [D]) H μ ∧ lcL g ts el vs S1.length lk (its.drop i) Γ S = some S2, ⟨_, rfl, Nat.zero_le _, _, _, a1, .refl, h3⟩, ?_⟩
  rintro i m H2 ⟨rfl, hle, μ2, S3, r2, e2, h3⟩
  have e3 := a2.trans e2
  rcases Nat.lt_or_ge i its.length with hlt | hge
  · rw [List.drop_eq_getElem_cons hlt, lcL] at h3
    split at h3
    · rename_i hk
      obtain ⟨Γ1, q1, h3⟩ := bind_some h3
      obtain ⟨⟨b, S4⟩, q2, h3⟩ := bind_some h3
      refine .inr ⟨it.go i H2 μ2 S3 hlt r2 e3 hk, fun H' => ∃ μ S, RS X.K H' μ S ∧ Ext X.K (upd H1 D (.lst [])) (μ1 ++ [D]) H' μ ∧ lcL g ts el vs S1.length lk (its.drop (i + 1)) Γ S = some S2, fun H' ⟨μ', S', z1, z2, z3⟩ => ⟨its.length - (i + 1), by omega, rfl, hlt, μ', S', z1, z2, z3⟩, fun x H3 y => ?_⟩
      obtain ⟨s3, d, y1, y2⟩ := it.yld i H2 μ2 S3 x H3 hlt r2 e3 hk y
      rw [List.getElem?_eq_getElem hlt] at y1
      cases y1
      have x3 : Ext X.K H2 μ2 H3 μ2 := .same s3
      have G3 := (((G.ext e1).ext e3).ext x3).wipe vs
      refine ⟨_, wipeD Γ vs, S3, μ2, Γ1, y2, G3, r2.same s3, q1, fun σ' G4 f4 => ⟨wipe_eq hi f4, Γ1, S3, μ2, b, S4, G4, r2.same s3, q2, fun H4 μ4 r4 e4 => ?_⟩⟩
      · cases b with
        | false =>
          rw [if_neg Bool.false_ne_true] at h3 ⊢
          exact ⟨μ4, S4, r4, (e2.trans x3).trans e4, h3⟩
        | true =>
          rw [if_pos rfl] at h3 ⊢
          obtain ⟨⟨y, S5⟩, q3, h3⟩ := bind_some h3
          refine ⟨Γ1, S4, μ4, y, S5, G4.ext e4, r4, q3, fun v H5 μ5 r5 e5 rv => ?_⟩
          have e6 := ((e2.trans x3).trans e4).trans e5
          have hn : μ5[S1.length]? = some D := by
            cases a3 with
            | loc q => exact get_pre e6.pre q
          simp only at h3
          split at h3
          · rename_i acc hacc
            split at h3
            · rename_i hsz
              obtain ⟨ws, w1, w2⟩ := r5.atc hn hacc
              obtain ⟨c1, c2⟩ := r5.setL hn hacc (w2.snoc rv)
              exact ⟨ws, w1, by rw [← w2.length]; exact hsz, μ5, _, c1, e6.trans c2, h3⟩
            · cases h3
          · cases h3
    · cases h3
  · have e : i = its.length := by omega
    subst e
    rw [List.drop_length, lcL] at h3
    split at h3
    · rename_i hk
      cases h3
      refine .inl ⟨it.stop H2 μ2 _ r2 e3 hk, k _ H2 μ2 r2 ((e1.trans a2).trans e2) (a3.ext e2)⟩
    · cases h3
section
variable {X : Cx} {it : FI} {g : FG} {ts : FT} {el ek ev : FE} {is vs : List Nat} {elt kx vx tg iter : Expr} {ifs : List Expr} {scope : Scope} {own : List (Str × Nat)} {pos : Pos}
theorem se_lc (hc : X.calm = true) (hN : X.N.Nodup) (hi : SI X tg iter it) (ok : BlkOk X.N X.env.scope scope own)
    (hg : ∀ (s : Shared) (H : Hp) (C : Addr) (cl : List (Str × Addr)) (fp : List Addr), SG (X.blk s H scope (compEnvC scope cl C X.env) fp) tg is g) (ht : ∀ (s : Shared) (H : Hp) (C : Addr) (cl : List (Str × Addr)) (fp : List Addr), STs (X.blk s H scope (compEnvC scope cl C X.env) fp) ifs ts)
    (he : ∀ (s : Shared) (H : Hp) (C : Addr) (cl : List (Str × Addr)) (fp : List Addr), SE (X.blk s H scope (compEnvC scope cl C X.env) fp) elt el) (his : ∀ i ∈ is, i ∈ vs) (hvs : own.map (·.2) = vs := by rfl) (hs : ∀ x, foldedSetIterable iter X.env x = pure x := by intro _; rfl) :
    SE X (.ListComp elt [⟨tg, iter, ifs, 0⟩] scope pos) (eLc it g ts el vs) := by
  subst hvs
  exact SE.mk (pe_lc (g := tG X.K is g) (tt := tT X.K ts) (te := tD X.K el) hc hN hi ok hg ht he hs) fun σ H Q Γ S μ d S' G r h k => lc_turns his G r h k
/-! ### dict comprehensions -/
theorem RS.setD {K : PySem.W.Frag} {H : Hp} {μ : List Addr} {S : Sto} {n : Nat} {a : Addr} {l m : List (Key × D)} {ws : List (Key × V)} (r : RS K H μ S) (hn : μ[n]? = some a) (hS : S[n]? = some (.dk l)) (rv : RK K H μ m ws) :
    RS K (upd H a (.dK ws)) μ (S.set n (.dk m)) ∧ Ext K H μ (upd H a (.dK ws)) μ := by
  obtain ⟨o, q1, q2, q3, q4⟩ := (r.atc hn hS).some rfl
  have e : Ext K H μ (upd H a (.dK ws)) μ := ext_upd q1 q2 q3 q4 (List.mem_of_getElem? hn)
  exact r.write hn hS rfl rfl ⟨ws, upd_same, rv.1, rv.2.ext e⟩
theorem RS.newD {K : PySem.W.Frag} {H : Hp} {μ : List Addr} {S : Sto} {p : Addr} (r : RS K H μ S) (hp : H p = none) :
    RS K (upd H p (.dK [])) (μ ++ [p]) (S ++ [.dk []]) ∧ Ext K H μ (upd H p (.dK [])) (μ ++ [p]) ∧ RV K (upd H p (.dK [])) (μ ++ [p]) (.loc S.length) (.ref p) := by
  have e : Ext K H μ (upd H p (.dK [])) (μ ++ [p]) := .grow1 (same_upd hp) hp
  exact ⟨r.alloc hp ⟨[], upd_same, rfl, .nil⟩, e, .loc (by rw [← r.len]; simp)⟩
open Classical in
noncomputable def dcL (g : FG) (ts : FT) (ek ev : FE) (vs : List Nat) (n : Nat) (lk : Lk) : List D → Ctx → Sto → Option Sto
  | [], _, S => if Lkd lk S then some S else none
  | d :: r, Γ, S => if Lkd lk S then (g d (wipeD Γ vs) S).bind fun Γ1 => (ts Γ1 S).bind fun p => if p.1 = true then ((ek Γ1 p.2).bind fun q => (ev Γ1 q.2).bind fun z => q.1.key.bind fun y => match z.2[n]? with
      | some (.dk acc) => if acc.length < sizeLine then dcL g ts ek ev vs n lk r Γ (z.2.set n (.dk (putD acc y z.1))) else none
      | _ => none) else dcL g ts ek ev vs n lk r Γ p.2 else none
noncomputable def eDc (it : FI) (g : FG) (ts : FT) (ek ev : FE) (vs : List Nat) : FE := fun Γ S => (it Γ S).bind fun p => (dcL g ts ek ev vs p.2.length p.1.2 p.1.1 Γ (p.2 ++ [.dk []])).map fun S2 => (.loc p.2.length, S2)
theorem dc_turns {vs : List Nat} (hi : ∀ i ∈ is, i ∈ vs) {σ : L2.St} {H : Hp} {Q : VK} {Γ : Ctx} {S S' : Sto} {μ : List Addr} {d : D}
    (G : RG X.K H μ Γ σ) (r : RS X.K H μ S) (h : eDc it g ts ek ev vs Γ S = some (d, S')) (k : Kt X.K H μ S' d Q) : tDc (tI X.K it) (tG X.K is g) (tT X.K ts) (tD X.K ek) (tD X.K ev) vs σ H Q := by
  obtain ⟨⟨⟨its, lk⟩, S1⟩, h1, h2⟩ := bind_some h
  obtain ⟨S2, h3, h4⟩ := map_some h2
  injection h4 with h4 h5
  subst h4 h5
  refine ⟨Γ, S, μ, _, S1, G, r, h1, fun J H1 μ1 r1 e1 it D hD => ?_⟩
  obtain ⟨a1, a2, a3⟩ := r1.newD hD
  refine ⟨fun i m H => m = its.length - i ∧ i ≤ its.length ∧ ∃ μ S, RS X.K H μ S ∧ Ext X.K (upd H1 D (.dK [])) (μ1 ++ [D]) H μ ∧ dcL g ts ek ev vs S1.length lk (its.drop i) Γ S = some S2, ⟨_, rfl, Nat.zero_le _, _, _, a1, .refl, h3⟩, ?_⟩
  rintro i m H2 ⟨rfl, hle, μ2, S3, r2, e2, h3⟩
  have e3 := a2.trans e2
  rcases Nat.lt_or_ge i its.length with hlt | hge
  · rw [List.drop_eq_getElem_cons hlt, dcL] at h3
    split at h3
    · rename_i hk
      obtain ⟨Γ1, q1, h3⟩ := bind_some h3
      obtain ⟨⟨b, S4⟩, q2, h3⟩ := bind_some h3
      refine .inr ⟨it.go i H2 μ2 S3 hlt r2 e3 hk, fun H' => ∃ μ S, RS X.K H' μ S ∧ Ext X.K (upd H1 D (.dK [])) (μ1 ++ [D]) H' μ ∧ dcL g ts ek ev vs S1.length lk (its.drop (i + 1)) Γ S = some S2, fun H' ⟨μ', S', z1, z2, z3⟩ => ⟨its.length - (i + 1), by omega, rfl, hlt, μ', S', z1, z2, z3⟩, fun x H3 y => ?_⟩
      obtain ⟨s3, d, y1, y2⟩ := it.yld i H2 μ2 S3 x H3 hlt r2 e3 hk y
      rw [List.getElem?_eq_getElem hlt] at y1
      cases y1
      have x3 : Ext X.K H2 μ2 H3 μ2 := .same s3
      have G3 := (((G.ext e1).ext e3).ext x3).wipe vs
      refine ⟨_, wipeD Γ vs, S3, μ2, Γ1, y2, G3, r2.same s3, q1, fun σ' G4 f4 => ⟨wipe_eq hi f4, Γ1, S3, μ2, b, S4, G4, r2.same s3, q2, fun H4 μ4 r4 e4 => ?_⟩⟩
      cases b with
      | false =>
        rw [if_neg Bool.false_ne_true] at h3 ⊢
        exact ⟨μ4, S4, r4, (e2.trans x3).trans e4, h3⟩
      | true =>
        rw [if_pos rfl] at h3 ⊢
        obtain ⟨⟨y, S5⟩, q3, h3⟩ := bind_some h3
        obtain ⟨⟨z, S6⟩, q4, h3⟩ := bind_some h3
        obtain ⟨ky, q5, h3⟩ := bind_some h3
        refine ⟨Γ1, S4, μ4, y, S5, G4.ext e4, r4, q3, fun v H5 μ5 r5 e5 rv => ⟨Γ1, S5, μ5, z, S6, (G4.ext e4).ext e5, r5, q4, fun w H6 μ6 r6 e6 rw' => ?_⟩⟩
        have e7 := (((e2.trans x3).trans e4).trans e5).trans e6
        have hn : μ6[S1.length]? = some D := by
          cases a3 with
          | loc q => exact get_pre e7.pre q
        simp only at h3
        split at h3
        · rename_i acc hacc
          split at h3
          · rename_i hsz
            obtain ⟨ws, w1, w2⟩ := r6.atc hn hacc
            obtain ⟨c1, c2⟩ := r6.setD hn hacc (w2.put ky rw')
            exact ⟨ws, ky, rv.key q5, w1, by rw [← w2.length]; exact hsz, μ6, _, c1, e7.trans c2, h3⟩
          · cases h3
        · cases h3
    · cases h3
  · have e : i = its.length := by omega
    subst e
    rw [List.drop_length, dcL] at h3
    split at h3
    · rename_i hk
      cases h3
      refine .inl ⟨it.stop H2 μ2 _ r2 e3 hk, k _ H2 μ2 r2 ((e1.trans a2).trans e2) (a3.ext e2)⟩
    · cases h3
theorem se_dc (hc : X.calm = true) (hN : X.N.Nodup) (hi : SI X tg iter it) (ok : BlkOk X.N X.env.scope scope own)
    (hg : ∀ (s : Shared) (H : Hp) (C : Addr) (cl : List (Str × Addr)) (fp : List Addr), SG (X.blk s H scope (compEnvC scope cl C X.env) fp) tg is g) (ht : ∀ (s : Shared) (H : Hp) (C : Addr) (cl : List (Str × Addr)) (fp : List Addr), STs (X.blk s H scope (compEnvC scope cl C X.env) fp) ifs ts)
    (hk : ∀ (s : Shared) (H : Hp) (C : Addr) (cl : List (Str × Addr)) (fp : List Addr), SE (X.blk s H scope (compEnvC scope cl C X.env) fp) kx ek)
    (he : ∀ (s : Shared) (H : Hp) (C : Addr) (cl : List (Str × Addr)) (fp : List Addr), SE (X.blk s H scope (compEnvC scope cl C X.env) fp) vx ev) (his : ∀ i ∈ is, i ∈ vs) (hvs : own.map (·.2) = vs := by rfl) (hs : ∀ x, foldedSetIterable iter X.env x = pure x := by intro _; rfl) :
    SE X (.DictComp kx vx [⟨tg, iter, ifs, 0⟩] scope pos) (eDc it g ts ek ev vs) := by
  subst hvs
  exact SE.mk (pe_dc (g := tG X.K is g) (tt := tT X.K ts) (tk := tD X.K ek) (tv := tD X.K ev) hc hN hi ok hg ht hk he hs) fun σ H Q Γ S μ d S' G r h k => dc_turns his G r h k
end
end Dl

/-! DlS: statements over data -/
namespace Dl
open PySem PySem.Spec PyProof.Rows L2
inductive Out where
  | nx | bk | ct
  | rt (d : D)
abbrev FS := Ctx → Sto → Option (Out × Ctx × Sto)
/-- behind a statement -/
def Post (K : PySem.W.Frag) (H : Hp) (μ : List Addr) (r : Out × Ctx × Sto) (D : Ends) : Prop :=
  match r.1 with
  | .nx => ∀ σ' H' μ', RG K H' μ' r.2.1 σ' → RS K H' μ' r.2.2 → Ext K H μ H' μ' → D.nx σ' H'
  | .bk => ∀ σ' H' μ', RG K H' μ' r.2.1 σ' → RS K H' μ' r.2.2 → Ext K H μ H' μ' → D.bk σ' H'
  | .ct => ∀ σ' H' μ', RG K H' μ' r.2.1 σ' → RS K H' μ' r.2.2 → Ext K H μ H' μ' → D.ct σ' H'
  | .rt d => ∀ v H' μ', RS K H' μ' r.2.2 → Ext K H μ H' μ' → RV K H' μ' d v → D.rt v H'
theorem Post.after {K : PySem.W.Frag} {H H1 : Hp} {μ μ1 : List Addr} {r : Out × Ctx × Sto} {D : Ends} (p : Post K H μ r D) (e : Ext K H μ H1 μ1) : Post K H1 μ1 r D := by
  obtain ⟨o, Γ, S⟩ := r
  cases o <;> first | exact fun σ' H' μ' g s x => p σ' H' μ' g s (e.trans x) | exact fun v H' μ' s x rv => p v H' μ' s (e.trans x) rv
def tS (K : PySem.W.Frag) (f : FS) : TS := fun D σ H => ∃ Γ S μ r, RG K H μ Γ σ ∧ RS K H μ S ∧ f Γ S = some r ∧ Post K H μ r D
def SS (X : Cx) (st : Stmt) (f : FS) : Prop := PS X st (tS X.K f)
def SSs (X : Cx) (st : List Stmt) (f : FS) : Prop := PSs X st (tS X.K f)
theorem imp_s {X : Cx} {e : Stmt} {t t' : TS} (h : PS X e t) (i : ∀ D σ H, t' D σ H → t D σ H) : PS X e t' := ⟨fun pins s σ H D I q => h.run pins s σ H D I (i D σ H q)⟩
theorem imp_ss {X : Cx} {e : List Stmt} {t t' : TS} (h : PSs X e t) (i : ∀ D σ H, t' D σ H → t D σ H) : PSs X e t' := ⟨fun pins s σ H D I q => h.run pins s σ H D I (i D σ H q)⟩
section
variable {X : Cx} {st : Stmt} {sts : List Stmt} {e o i c : Expr} {fa fb fc fo fi : FE} {g h : FS} {pos : Pos}
theorem SS.mk {t : TS} (p : PS X st t) (i : ∀ D σ H Γ S μ r, RG X.K H μ Γ σ → RS X.K H μ S → g Γ S = some r → Post X.K H μ r D → t D σ H) : SS X st g :=
  imp_s p fun D σ H ⟨Γ, S, μ, r, h1, h2, h3, h4⟩ => i D σ H Γ S μ r h1 h2 h3 h4
theorem SSs.mk {t : TS} (p : PSs X sts t) (i : ∀ D σ H Γ S μ r, RG X.K H μ Γ σ → RS X.K H μ S → g Γ S = some r → Post X.K H μ r D → t D σ H) : SSs X sts g :=
  imp_ss p fun D σ H ⟨Γ, S, μ, r, h1, h2, h3, h4⟩ => i D σ H Γ S μ r h1 h2 h3 h4
def qNx : FS := fun Γ S => some (.nx, Γ, S)
def qSeq (g h : FS) : FS := fun Γ S => (g Γ S).bind fun p => match p.1 with
  | .nx => h p.2.1 p.2.2
  | _ => some p
theorem ss_nil : SSs X [] qNx := SSs.mk pss_nil fun D σ H Γ S μ r h1 h2 h3 k => by
  cases h3
  exact k σ H μ h1 h2 .refl
theorem ss_cons (a : SS X st g) (b : SSs X sts h) : SSs X (st :: sts) (qSeq g h) := SSs.mk (pss_cons a b) fun D σ H Γ S μ r h1 h2 h3 k => by
  obtain ⟨⟨o, Γ1, S1⟩, e1, e2⟩ := bind_some h3
  refine ⟨Γ, S, μ, _, h1, h2, e1, ?_⟩
  cases o with
  | nx => exact fun σ' H' μ' g' s' x => ⟨Γ1, S1, μ', r, g', s', e2, k.after x⟩
  | _ => cases e2; exact k
theorem ss_one (a : SS X st g) : SSs X [st] g := pss_one a
def qBk : FS := fun Γ S => some (.bk, Γ, S)
def qCt : FS := fun Γ S => some (.ct, Γ, S)
theorem ss_pass : SS X (.Pass pos) qNx := SS.mk ps_pass fun D σ H Γ S μ r h1 h2 h3 k => by
  cases h3
  exact k σ H μ h1 h2 .refl
theorem ss_break : SS X (.Break pos) qBk := SS.mk ps_break fun D σ H Γ S μ r h1 h2 h3 k => by
  cases h3
  exact k σ H μ h1 h2 .refl
theorem ss_continue : SS X (.Continue pos) qCt := SS.mk ps_continue fun D σ H Γ S μ r h1 h2 h3 k => by
  cases h3
  exact k σ H μ h1 h2 .refl
def qRet (fa : FE) : FS := fun Γ S => (fa Γ S).map fun p => (.rt p.1, Γ, p.2)
theorem ss_ret (a : SE X e fa) : SS X (.Return (some e) pos) (qRet fa) := SS.mk (ps_ret a) fun D σ H Γ S μ r h1 h2 h3 k => by
  obtain ⟨⟨d, S1⟩, e1, e2⟩ := map_some h3
  cases e2
  exact ⟨Γ, S, μ, d, S1, h1, h2, e1, fun v H' μ' r' x rv => k v H' μ' r' x rv⟩
def qRetN : FS := fun Γ S => some (.rt .non, Γ, S)
theorem ss_retN : SS X (.Return none pos) qRetN := SS.mk ps_retN fun D σ H Γ S μ r h1 h2 h3 k => by
  cases h3
  exact k .non H μ h2 .refl .non
def qDrop (fa : FE) : FS := fun Γ S => (fa Γ S).map fun p => (.nx, Γ, p.2)
theorem ss_expr (a : SE X e fa) (hs : swapsWith e none pos.line X.env = pure false := by rfl) : SS X (.Expr e pos) (qDrop fa) := SS.mk (ps_expr a hs) fun D σ H Γ S μ r h1 h2 h3 k => by
  obtain ⟨⟨d, S1⟩, e1, e2⟩ := map_some h3
  cases e2
  exact ⟨Γ, S, μ, d, S1, h1, h2, e1, fun v H' μ' r' x rv => k σ H' μ' (h1.ext x) r' x⟩
def qIf (c : FT) (g h : FS) : FS := fun Γ S => (c Γ S).bind fun p => if p.1 = true then g Γ p.2 else h Γ p.2
theorem ss_if {t : FT} {a b : List Stmt} (hc : ST X c t) (ha : SSs X a g) (hb : SSs X b h) : SS X (.If c a b pos) (qIf t g h) := SS.mk (ps_if hc ha hb) fun D σ H Γ S μ r h1 h2 h3 k => by
  obtain ⟨⟨b, S1⟩, e1, e2⟩ := bind_some h3
  refine ⟨Γ, S, μ, b, S1, h1, h2, e1, fun H' μ' r' x => ?_⟩
  cases b with
  | true =>
    rw [if_pos rfl] at e2 ⊢
    exact ⟨Γ, S1, μ', r, h1.ext x, r', e2, k.after x⟩
  | false =>
    rw [if_neg Bool.false_ne_true] at e2 ⊢
    exact ⟨Γ, S1, μ', r, h1.ext x, r', e2, k.after x⟩
/-- code that is never come to -/
def qNever : FS := fun _ _ => none
theorem ss_never : SSs X sts qNever := SSs.mk pss_never fun D σ H Γ S μ r h1 h2 h3 k => by cases h3
theorem ss_raise : SS X st qNever := SS.mk ps_never fun D σ H Γ S μ r h1 h2 h3 k => by cases h3
/-! ### stores -/
def qSet (i : Nat) (fa : FE) : FS := fun Γ S => (fa Γ S).map fun p => (.nx, Γ.set i (some p.1), p.2)
theorem ss_set {n : Nat} {x : Str} {pos' : Pos} (hN : X.N.Nodup) (hi : X.N[n]? = some x) (hx : Loc X.env.scope x) (a : SE X e fa) (hs : swapsWith e (some (.Name x pos')) pos.line X.env = pure false := by rfl)
    (hf : X.fn x = true ∨ X.env.scope.names.lookup x = some .local := by first | exact .inl rfl | exact .inr rfl | assumption) : SS X (.Assign [.Name x pos'] e pos) (qSet n fa) :=
  SS.mk (ps_set hN hi hx a hs hf) fun D σ H Γ S μ r h1 h2 h3 k => by
    obtain ⟨⟨d, S1⟩, e1, e2⟩ := map_some h3
    cases e2
    exact ⟨Γ, S, μ, d, S1, h1, h2, e1, fun v H' μ' r' x rv => k _ H' μ' ((h1.ext x).set rv n) r' x⟩
/-- several names at once -/
def setsD : List Nat → List D → Ctx → Ctx
  | i :: is, d :: ds, Γ => setsD is ds (Γ.set i (some d))
  | _, _, Γ => Γ
def qPar (is : List Nat) (fs : List FE) : FS := fun Γ S => (args fs Γ S).map fun p => (.nx, setsD is p.1 Γ, p.2)
theorem ss_par2 {i j : Nat} {x y : Str} {a b : Expr} {fs : List FE} {px py pt : Pos} {kt k2 pt2} (hc : X.calm = true) (hN : X.N.Nodup) (hi : X.N[i]? = some x) (hj : X.N[j]? = some y) (hij : i ≠ j)
    (hx : X.env.scope.names.lookup x = some .local) (hy : X.env.scope.names.lookup y = some .local) (ha : SA X [a, b] (args fs)) (hl : fs.length = 2 := by rfl)
    (hw : swappedStores [.Tuple [.Name x px, .Name y py] kt pt] (.Tuple [a, b] k2 pt2) X.env = pure (some [x, y]) := by rfl)
    (hs : swapsWithSole [.Tuple [.Name x px, .Name y py] kt pt] (.Tuple [a, b] k2 pt2) pos.line X.env = pure false := by rfl) :
    SS X (.Assign [.Tuple [.Name x px, .Name y py] kt pt] (.Tuple [a, b] k2 pt2) pos) (qPar [i, j] fs) :=
  SS.mk (ps_par hc hN hi hj hij hx hy ha hw hs) fun D σ H Γ S μ r h1 h2 h3 k => by
    obtain ⟨⟨ds, S1⟩, e1, e2⟩ := map_some h3
    cases e2
    have hl' := args_length e1
    refine ⟨Γ, S, μ, ds, S1, h1, h2, e1, fun vs H' μ' r' x rv => ?_⟩
    match ds, (show ds.length = 2 by rw [hl', hl]), rv, k with
    | [d, d'], _, rv, k =>
      obtain ⟨v, w, rfl, rx, ry⟩ := rv.two
      exact ⟨v, w, rfl, k _ H' μ' (((h1.ext x).set rx i).set ry j) r' x⟩
theorem ss_par3 {i j l : Nat} {x y z : Str} {a b c : Expr} {fs : List FE} {px py pz pt : Pos} {kt k2 pt2} (hc : X.calm = true) (hN : X.N.Nodup) (hi : X.N[i]? = some x) (hj : X.N[j]? = some y) (hl : X.N[l]? = some z) (hij : i ≠ j) (hil : i ≠ l) (hjl : j ≠ l)
    (hx : X.env.scope.names.lookup x = some .local) (hy : X.env.scope.names.lookup y = some .local) (hz : X.env.scope.names.lookup z = some .local) (ha : SA X [a, b, c] (args fs)) (hn : fs.length = 3 := by rfl)
    (hw : swappedStores [.Tuple [.Name x px, .Name y py, .Name z pz] kt pt] (.Tuple [a, b, c] k2 pt2) X.env = pure (some [x, y, z]) := by rfl)
    (hs : swapsWithSole [.Tuple [.Name x px, .Name y py, .Name z pz] kt pt] (.Tuple [a, b, c] k2 pt2) pos.line X.env = pure false := by rfl) :
    SS X (.Assign [.Tuple [.Name x px, .Name y py, .Name z pz] kt pt] (.Tuple [a, b, c] k2 pt2) pos) (qPar [i, j, l] fs) :=
  SS.mk (ps_par3 hc hN hi hj hl hij hil hjl hx hy hz ha hw hs) fun D σ H Γ S μ r h1 h2 h3 k => by
    obtain ⟨⟨ds, S1⟩, e1, e2⟩ := map_some h3
    cases e2
    have hl' := args_length e1
    refine ⟨Γ, S, μ, ds, S1, h1, h2, e1, fun vs H' μ' r' x rv => ?_⟩
    match ds, (show ds.length = 3 by rw [hl', hn]), rv, k with
    | [d, d', d2], _, rv, k =>
      cases rv with
      | cons rx rw2 =>
        obtain ⟨v, w, rfl, ry, rz⟩ := rw2.two
        exact ⟨_, v, w, rfl, k _ H' μ' ((((h1.ext x).set rx i).set ry j).set rz l) r' x⟩
/-- any target -/
def qAsg (t : FG) (fa : FE) : FS := fun Γ S => (fa Γ S).bind fun p => (t p.1 Γ p.2).map fun Γ1 => (.nx, Γ1, p.2)
theorem ss_asg {tg : Expr} {is : List Nat} {t : FG} (a : SE X e fa) (b : SG X tg is t) (hs : swapsWithSole [tg] e pos.line X.env = pure false := by rfl) (hw : swappedStores [tg] e X.env = pure none := by rfl)
    (hq : (assignEach [tg] X.env).map (·.2) = [assign tg X.env] := by rfl) : SS X (.Assign [tg] e pos) (qAsg t fa) :=
  SS.mk (ps_asg a b hs hw hq) fun D σ H Γ S μ r h1 h2 h3 k => by
    obtain ⟨⟨d, S1⟩, e1, h3⟩ := bind_some h3
    obtain ⟨Γ1, e2, e3⟩ := map_some h3
    cases e3
    exact ⟨Γ, S, μ, d, S1, h1, h2, e1, fun v H' μ' r' x rv => ⟨d, Γ, S1, μ', Γ1, rv, h1.ext x, r', e2, fun σ' g' _ => k σ' H' μ' g' r' x⟩⟩
/-- o[i] = e -/
def setIt (o i v : D) (S : Sto) : Option Sto := match o with
  | .loc n => match S[n]? with
    | some (.lst l) => match i with
      | .int k => (ixN l.length k).map fun j => S.set n (.lst (l.set j v))
      | _ => none
    | some (.dk l) => if l.length < sizeLine then i.key.map fun k => S.set n (.dk (putD l k v)) else none
    | some (.dt l) => if l.length < sizeLine then i.tkey.map fun k => S.set n (.dt (putD l k v)) else none
    | _ => none
  | _ => none
def rSetA : TSet := fun o i v H Q => rSetL o i v H Q ∨ rSetD o i v H Q
theorem set_any (hu : X.A.units + 1 < cLine) : PSet X rSetA := fun pins s σ H o i v ov iv u Q I ro ri rv h => h.elim (set_list pins s σ H o i v ov iv u Q I ro ri rv) (set_dict hu pins s σ H o i v ov iv u Q I ro ri rv)
theorem RS.setT {K : PySem.W.Frag} {H : Hp} {μ : List Addr} {S : Sto} {n : Nat} {a : Addr} {l m : List (List Key × D)} {ws : List (List Key × V)} (r : RS K H μ S) (hn : μ[n]? = some a) (hS : S[n]? = some (.dt l)) (rv : RK K H μ m ws) :
    RS K (upd H a (.dT ws)) μ (S.set n (.dt m)) ∧ Ext K H μ (upd H a (.dT ws)) μ := by
  obtain ⟨o, q1, q2, q3, q4⟩ := (r.atc hn hS).some rfl
  have e : Ext K H μ (upd H a (.dT ws)) μ := ext_upd q1 q2 q3 q4 (List.mem_of_getElem? hn)
  exact r.write hn hS rfl rfl ⟨ws, upd_same, rv.1, rv.2.ext e⟩
theorem setIt_of {K : PySem.W.Frag} {H : Hp} {μ : List Addr} {S S' : Sto} {o i v : D} {ov iv vv : V} {Q : Hp → Prop} (r : RS K H μ S) (ro : RV K H μ o ov) (ri : RV K H μ i iv) (rv : RV K H μ v vv) (h : setIt o i v S = some S')
    (k : ∀ H', RS K H' μ S' → Ext K H μ H' μ → Q H') : rSetA ov iv vv H Q := by
  cases ro with
  | @loc a n q1 =>
    simp only [setIt] at h
    split at h
    · rename_i l e
      split at h
      · rename_i m
        obtain ⟨j, h1, h2⟩ := map_some h
        cases h2
        cases ri
        obtain ⟨vs, z1, z2⟩ := r.atc q1 e
        obtain ⟨a1, a2⟩ := r.setL q1 e (z2.set rv j)
        exact .inl ⟨a, vs, m, j, rfl, rfl, z1, by rw [← z2.length]; exact h1, k _ a1 a2⟩
      · cases h
    · rename_i l e
      split at h
      · rename_i hz
        obtain ⟨ky, h1, h2⟩ := map_some h
        cases h2
        obtain ⟨ws, z1, z2⟩ := r.atc q1 e
        obtain ⟨a1, a2⟩ := r.setD q1 e (z2.put ky rv)
        rw [ri.key h1]
        exact .inr ⟨a, _, rfl, DPut.k z1 (by rw [← z2.length]; exact hz), k _ a1 a2⟩
      · cases h
    · rename_i l e
      split at h
      · rename_i hz
        obtain ⟨ky, h1, h2⟩ := map_some h
        cases h2
        obtain ⟨ws, z1, z2⟩ := r.atc q1 e
        obtain ⟨a1, a2⟩ := r.setT q1 e (z2.put ky rv)
        obtain ⟨b, rfl, hb⟩ := ri.tkey h1
        exact .inr ⟨a, _, rfl, DPut.t z1 hb (by rw [← z2.length]; exact hz), k _ a1 a2⟩
      · cases h
    · cases h
  | _ => simp only [setIt] at h; cases h
def qPut (fa fo fi : FE) : FS := fun Γ S => (fa Γ S).bind fun p => (fo Γ p.2).bind fun q => (fi Γ q.2).bind fun z => (setIt q.1 z.1 p.1 z.2).map fun S' => (.nx, Γ, S')
theorem ss_put {tpos : Pos} (hu : X.A.units + 1 < cLine) (a : SE X e fa) (b : SE X o fo) (c : SE X i fi) (ha : ∀ v, assign (.Subscript o i tpos) X.env v = (do
      let ov ← holding [v] (eval o X.env)
      let iv ← holding [v, ov] (eval i X.env)
      standAt tpos
      holding [v, ov, iv] (setItem ov iv v)
      release [v, ov, iv] []) := by intro _; rfl) (hs : swapsWithSole [.Subscript o i tpos] e pos.line X.env = pure false := by rfl) (hw : swappedStores [.Subscript o i tpos] e X.env = pure none := by rfl)
    (hq : (assignEach [.Subscript o i tpos] X.env).map (·.2) = [assign (.Subscript o i tpos) X.env] := by rfl) : SS X (.Assign [.Subscript o i tpos] e pos) (qPut fa fo fi) :=
  SS.mk (ps_asg a (pg_sub (pos := tpos) b c (set_any hu) ha) hs hw hq) fun D σ H Γ S μ r h1 h2 h3 k => by
    obtain ⟨⟨d, S1⟩, e1, h3⟩ := bind_some h3
    obtain ⟨⟨d2, S2⟩, e2, h3⟩ := bind_some h3
    obtain ⟨⟨d3, S3⟩, e3, h3⟩ := bind_some h3
    obtain ⟨S4, e4, e5⟩ := map_some h3
    cases e5
    refine ⟨Γ, S, μ, d, S1, h1, h2, e1, fun v H' μ' r' x rv => ⟨Γ, S1, μ', d2, S2, h1.ext x, r', e2, fun v2 H2 μ2 r2 x2 rv2 => ⟨Γ, S2, μ2, d3, S3, (h1.ext x).ext x2, r2, e3, fun v3 H3 μ3 r3 x3 rv3 => ?_⟩⟩⟩
    exact setIt_of r3 (rv2.ext x3) rv3 ((rv.ext x2).ext x3) e4 fun H4 r4 x4 => k σ H4 μ3 (((h1.ext x).ext x2).ext x3 |>.ext x4) r4 (((x.trans x2).trans x3).trans x4)
/-- name op= e, of ints -/
def oI (f : Int → Int → Int) : O2 := fun x y S => match x, y with
  | .int i, .int j => some (.int (f i j), S)
  | _, _ => none
def qAug (n : Nat) (o : O2) (fa : FE) : FS := fun Γ S => match Γ[n]? with
  | some (some x) => (fa Γ S).bind fun p => (o x p.1 p.2).map fun q => (.nx, Γ.set n (some q.1), q.2)
  | _ => none
theorem rd_i {K : PySem.W.Frag} (f : Int → Int → Int) : RD K (ipI f) (oI f) := by
  intro H S μ x y dx dy d S' Q r rx ry h k
  unfold oI at h
  split at h
  · cases h
    cases rx; cases ry
    exact ⟨_, _, rfl, rfl, k _ H μ r .refl (.int _)⟩
  · cases h
theorem ss_aug {n : Nat} {x : Str} {op : Operator} {ti : TIp} {o : O2} {pos' : Pos} (hN : X.N.Nodup) (hi : X.N[n]? = some x) (hx : Loc X.env.scope x) (a : SE X e fa) (ho : PIp X op ti) (hr : RD X.K ti o)
    (hf : X.fn x = true ∨ X.env.scope.names.lookup x = some .local := by first | exact .inl rfl | exact .inr rfl | assumption) : SS X (.AugAssign (.Name x pos') op e pos) (qAug n o fa) :=
  SS.mk (ps_aug hN hi hx a ho hf) fun D σ H Γ S μ r h1 h2 h3 k => by
    unfold qAug at h3
    split at h3
    · rename_i dx hdx
      obtain ⟨⟨dy, S1⟩, e1, h3⟩ := bind_some h3
      obtain ⟨⟨dz, S2⟩, e2, e3⟩ := map_some h3
      cases e3
      obtain ⟨v, q1, q2⟩ := h1.slot n dx hdx
      exact ⟨v, q1, Γ, S, μ, dy, S1, h1, h2, e1, fun w H' μ' r' x rv => hr H' S1 μ' v w dx dy dz S2 _ r' (q2.ext x) rv e2 fun z H2 μ2 r2 x2 rz => k _ H2 μ2 (((h1.ext x).ext x2).set rz n) r2 (x.trans x2)⟩
    · cases h3
end
/-! ### for -/
open Classical in
noncomputable def forL (t : FG) (body : FS) (lk : Lk) : List D → FS
  | [], Γ, S => if Lkd lk S then some (.nx, Γ, S) else none
  | d :: r, Γ, S => if Lkd lk S then (t d Γ S).bind fun Γ1 => (body Γ1 S).bind fun p => match p.1 with
      | .nx => forL t body lk r p.2.1 p.2.2
      | .ct => forL t body lk r p.2.1 p.2.2
      | .bk => some (.nx, p.2)
      | .rt d => some (.rt d, p.2) else none
noncomputable def qFor (it : FI) (t : FG) (body : FS) : FS := fun Γ S => (it Γ S).bind fun p => forL t body p.1.2 p.1.1 Γ p.2
section
variable {X : Cx} {tg iter c : Expr} {body : List Stmt} {it : FI} {t : FG} {is : List Nat} {g : FS} {pos : Pos}
theorem ss_for (hp : PassesOwn (model X.prog X.w) X.A X.env X.xe) (hc : X.calm = true) (hi : SI X tg iter it) (hg : SG X tg is t) (hb : SSs X body g) (hs : ∀ x, foldedSetIterable iter X.env x = pure x := by intro _; rfl) : SS X (.For tg iter body [] pos) (qFor it t g) :=
  SS.mk (ps_for hp hc hi hg hb hs) fun D σ H Γ S μ r h1 h2 h3 k => by
    obtain ⟨⟨⟨its, lk⟩, S1⟩, e1, h3⟩ := bind_some h3
    refine ⟨Γ, S, μ, _, S1, h1, h2, e1, fun J H1 μ1 r1 x1 it => ?_⟩
    refine ⟨fun i m σ H2 => m = its.length - i ∧ i ≤ its.length ∧ ∃ Γ S μ2, RG X.K H2 μ2 Γ σ ∧ RS X.K H2 μ2 S ∧ Ext X.K H1 μ1 H2 μ2 ∧ forL t g lk (its.drop i) Γ S = some r, ⟨_, rfl, Nat.zero_le _, Γ, S1, μ1, h1.ext x1, r1, .refl, h3⟩, ?_⟩
    rintro i m σ2 H2 ⟨rfl, hle, Γ2, S2, μ2, G2, r2, x2, h3⟩
    rcases Nat.lt_or_ge i its.length with hlt | hge
    · rw [List.drop_eq_getElem_cons hlt, forL] at h3
      split at h3
      · rename_i hk
        obtain ⟨Γ3, q1, h3⟩ := bind_some h3
        obtain ⟨⟨o, Γ4, S4⟩, q2, h3⟩ := bind_some h3
        refine .inr ⟨it.go i H2 μ2 S2 hlt r2 x2 hk, fun σ' H' => ∃ Γ S μ2, RG X.K H' μ2 Γ σ' ∧ RS X.K H' μ2 S ∧ Ext X.K H1 μ1 H' μ2 ∧ forL t g lk (its.drop (i + 1)) Γ S = some r, fun σ' H' z => ⟨its.length - (i + 1), by omega, rfl, hlt, z⟩, fun x H3 y => ?_⟩
        obtain ⟨s3, d, y1, y2⟩ := it.yld i H2 μ2 S2 x H3 hlt r2 x2 hk y
        rw [List.getElem?_eq_getElem hlt] at y1
        cases y1
        have x3 : Ext X.K H2 μ2 H3 μ2 := .same s3
        refine ⟨_, Γ2, S2, μ2, Γ3, y2, G2.ext x3, r2.same s3, q1, fun σ' G3 _ => ⟨Γ3, S2, μ2, _, G3, r2.same s3, q2, ?_⟩⟩
        cases o with
        | nx => exact fun σ4 H4 μ4 G4 r4 x4 => ⟨Γ4, S4, μ4, G4, r4, (x2.trans x3).trans x4, h3⟩
        | ct => exact fun σ4 H4 μ4 G4 r4 x4 => ⟨Γ4, S4, μ4, G4, r4, (x2.trans x3).trans x4, h3⟩
        | bk =>
          cases h3
          exact fun σ4 H4 μ4 G4 r4 x4 => k σ4 H4 μ4 G4 r4 (((x1.trans x2).trans x3).trans x4)
        | rt d =>
          cases h3
          exact fun v H4 μ4 r4 x4 rv => k v H4 μ4 r4 (((x1.trans x2).trans x3).trans x4) rv
      · cases h3
    · have e : i = its.length := by omega
      subst e
      rw [List.drop_length, forL] at h3
      split at h3
      · rename_i hk
        cases h3
        exact .inl ⟨it.stop H2 μ2 _ r2 x2 hk, k σ2 H2 μ2 G2 r2 (x1.trans x2)⟩
      · cases h3
/-! ### while -/
def whL (c : FT) (body : FS) : Nat → FS
  | 0, _, _ => none
  | n + 1, Γ, S => (c Γ S).bind fun p => if p.1 = true then ((body Γ p.2).bind fun q => match q.1 with
      | .nx => whL c body n q.2.1 q.2.2
      | .ct => whL c body n q.2.1 q.2.2
      | .bk => some (.nx, q.2)
      | .rt d => some (.rt d, q.2)) else some (.nx, Γ, p.2)
theorem whL_mono {c : FT} {body : FS} : ∀ {n m : Nat} {Γ : Ctx} {S : Sto} {r : Out × Ctx × Sto}, n ≤ m → whL c body n Γ S = some r → whL c body m Γ S = some r
  | 0, _, _, _, _, _, h => by cases h
  | n + 1, 0, _, _, _, h, _ => absurd h (by omega)
  | n + 1, m + 1, Γ, S, r, hnm, h => by
    obtain ⟨⟨b, S1⟩, e1, h⟩ := bind_some h
    rw [whL, e1]
    cases b with
    | false => exact h
    | true =>
      rw [if_pos rfl] at h
      obtain ⟨⟨o, Γ2, S2⟩, e2, h⟩ := bind_some h
      show ((body Γ S1).bind _) = _
      rw [e2]
      cases o with
      | nx => exact whL_mono (Nat.le_of_succ_le_succ hnm) h
      | ct => exact whL_mono (Nat.le_of_succ_le_succ hnm) h
      | bk => exact h
      | rt d => exact h
open Classical in
noncomputable def qWhile (c : FT) (body : FS) : FS := fun Γ S => if h : ∃ n, (whL c body n Γ S).isSome = true then whL c body h.choose Γ S else none
theorem qWhile_of {c : FT} {body : FS} {n : Nat} {Γ : Ctx} {S : Sto} {r : Out × Ctx × Sto} (h : whL c body n Γ S = some r) : qWhile c body Γ S = some r := by
  have he : ∃ n, (whL c body n Γ S).isSome = true := ⟨n, by rw [h]; rfl⟩
  unfold qWhile
  rw [dif_pos he]
  obtain ⟨r', h'⟩ := Option.isSome_iff_exists.mp he.choose_spec
  have a := whL_mono (Nat.le_max_left n he.choose) h
  have b := whL_mono (Nat.le_max_right n he.choose) h'
  rw [h', ← a, ← b]
theorem qWhile_some {c : FT} {body : FS} {Γ : Ctx} {S : Sto} {r : Out × Ctx × Sto} (h : qWhile c body Γ S = some r) : ∃ n, whL c body n Γ S = some r := by
  unfold qWhile at h
  split at h
  · exact ⟨_, h⟩
  · cases h
theorem ss_while {tc : FT} (hp : PassesOwn (model X.prog X.w) X.A X.env X.xe) (hc : ST X c tc) (hb : SSs X body g) : SS X (.While c body [] pos) (qWhile tc g) :=
  SS.mk (ps_while hp hc hb) fun D σ H Γ S μ r h1 h2 h3 k => by
    obtain ⟨n, h3⟩ := qWhile_some h3
    refine ⟨fun m σ2 H2 => ∃ Γ S μ2, RG X.K H2 μ2 Γ σ2 ∧ RS X.K H2 μ2 S ∧ Ext X.K H μ H2 μ2 ∧ whL tc g m Γ S = some r, ⟨n, Γ, S, μ, h1, h2, .refl, h3⟩, ?_⟩
    rintro m σ2 H2 ⟨Γ2, S2, μ2, G2, r2, x2, h3⟩
    cases m with
    | zero => cases h3
    | succ m =>
      obtain ⟨⟨b, S3⟩, e1, h3⟩ := bind_some h3
      refine ⟨Γ2, S2, μ2, b, S3, G2, r2, e1, fun H3 μ3 r3 x3 => ?_⟩
      cases b with
      | false =>
        rw [if_neg Bool.false_ne_true] at h3 ⊢
        cases h3
        exact k σ2 H3 μ3 (G2.ext x3) r3 (x2.trans x3)
      | true =>
        rw [if_pos rfl] at h3 ⊢
        obtain ⟨⟨o, Γ4, S4⟩, e2, h3⟩ := bind_some h3
        refine ⟨fun σ' H' => ∃ Γ S μ2, RG X.K H' μ2 Γ σ' ∧ RS X.K H' μ2 S ∧ Ext X.K H μ H' μ2 ∧ whL tc g m Γ S = some r, fun σ' H' z => ⟨m, Nat.lt_succ_self m, z⟩, Γ2, S3, μ3, _, G2.ext x3, r3, e2, ?_⟩
        cases o with
        | nx => exact fun σ4 H4 μ4 G4 r4 x4 => ⟨Γ4, S4, μ4, G4, r4, (x2.trans x3).trans x4, h3⟩
        | ct => exact fun σ4 H4 μ4 G4 r4 x4 => ⟨Γ4, S4, μ4, G4, r4, (x2.trans x3).trans x4, h3⟩
        | bk =>
          cases h3
          exact fun σ4 H4 μ4 G4 r4 x4 => k σ4 H4 μ4 G4 r4 ((x2.trans x3).trans x4)
        | rt d =>
          cases h3
          exact fun v H4 μ4 r4 x4 rv => k v H4 μ4 r4 ((x2.trans x3).trans x4) rv
end
/-! ### name = [..] on one line -/
section
variable {X : Cx} {it : FI} {g : FG} {ts : FT} {el : FE} {is : List Nat} {elt tg iter : Expr} {ifs : List Expr} {scope : Scope} {own : List (Str × Nat)} {pos spos py : Pos} {i : Nat} {y : Str}
theorem ss_setLc (hc : X.calm = true) (hN : X.N.Nodup) (hy : X.N[i]? = some y) (hyl : X.env.scope.names.lookup y = some .local)
    (hsw : swapsWith (.ListComp elt [⟨tg, iter, ifs, 0⟩] scope pos) (some (.Name y py)) spos.line X.env = pure true) (hi : SI X tg iter it) (ok : BlkOk X.N X.env.scope scope own)
    (hg : ∀ (s : Shared) (H : Hp) (C : Addr) (cl : List (Str × Addr)) (fp : List Addr), SG (X.blk s H scope (compEnvC scope cl C X.env) fp) tg is g) (ht : ∀ (s : Shared) (H : Hp) (C : Addr) (cl : List (Str × Addr)) (fp : List Addr), STs (X.blk s H scope (compEnvC scope cl C X.env) fp) ifs ts)
    (he : ∀ (s : Shared) (H : Hp) (C : Addr) (cl : List (Str × Addr)) (fp : List Addr), SE (X.blk s H scope (compEnvC scope cl C X.env) fp) elt el) {vs : List Nat} (his : ∀ i ∈ is, i ∈ vs) (hvs : own.map (·.2) = vs := by rfl) (hs : ∀ x, foldedSetIterable iter X.env x = pure x := by intro _; rfl) :
    SS X (.Assign [.Name y py] (.ListComp elt [⟨tg, iter, ifs, 0⟩] scope pos) spos) (qSet i (eLc it g ts el vs)) := by
  subst hvs
  exact SS.mk (ps_setLc (g := tG X.K is g) (tt := tT X.K ts) (te := tD X.K el) hc hN hy hyl hsw hi ok hg ht he hs) fun D σ H Γ S μ r h1 h2 h3 k => by
    obtain ⟨⟨d, S1⟩, e1, e2⟩ := map_some h3
    cases e2
    exact lc_turns his h1 h2 e1 fun v H' μ' r' x rv => k _ H' μ' ((h1.ext x).set rv i) r' x
end
end Dl

/-! DlF: a def over data; the law's end -/
namespace Dl
open PySem PySem.Spec PyProof.Rows L2
/-- as fin; a new cell that is the result itself is kept, and stands first behind the old ones -/
def fin2 (b : Nat) (p : D × Sto) : D × Sto := if (p.2.take b).all (Cell.lo b) = true then (if p.1.lo b = true then (p.1, p.2.take b) else match p.1 with
    | .loc m => match p.2[m]? with
      | some c => if b ≤ m ∧ c.lo b = true then (.loc b, p.2.take b ++ [c]) else p
      | none => p
    | _ => p) else p
theorem RS.pick {K : PySem.W.Frag} {H : Hp} {μ : List Addr} {S : Sto} {b m : Nat} {a : Addr} {c : Cell} (r : RS K H μ S) (h : (S.take b).all (Cell.lo b) = true) (hm : μ[m]? = some a) (hS : S[m]? = some c) (hb : b ≤ m) (hc : c.lo b = true) :
    RS K H (μ.take b ++ [a]) (S.take b ++ [c]) := by
  have hlt : m < S.length := (List.getElem?_eq_some_iff.mp hS).1
  have l1 : (S.take b).length = b := by rw [List.length_take]; omega
  have l2 : (μ.take b).length = b := by rw [List.length_take, r.len]; omega
  have hs : ∀ x, x ∈ μ.take b ++ [a] → x ∈ μ := fun x q => (List.mem_append.mp q).elim List.mem_of_mem_take fun q => by rw [List.mem_singleton.mp q]; exact List.mem_of_getElem? hm
  have hg : ∀ k, k < b → (μ.take b ++ [a])[k]? = μ[k]? := fun k hk => by rw [List.getElem?_append_left (by omega), List.getElem?_take_of_lt hk]
  have low : ∀ {α : Type} {l : List α} {x y : α} {n : Nat}, (l.take b).length = b → (l.take b ++ [y])[n]? = some x → (n < b ∧ l[n]? = some x ∧ (l.take b)[n]? = some x) ∨ (n = b ∧ x = y) := fun {α l x y n} hl e => by
    by_cases hn : n < b
    · rw [List.getElem?_append_left (by omega)] at e
      exact .inl ⟨hn, by rw [← e, List.getElem?_take_of_lt hn], e⟩
    · rw [List.getElem?_append_right (by omega), hl] at e
      have : n - b = 0 := by
        have := (List.getElem?_eq_some_iff.mp e).1
        simp at this
        omega
      rw [this] at e
      exact .inr ⟨by omega, by simpa using e.symm⟩
  refine ⟨by simp [l1, l2], fun n k x c1 c2 h1 h2 i1 i2 e1 e2 => ?_, fun n c1 h1 => ?_⟩
  · rcases low l1 h1 with ⟨n1, n2, _⟩ | ⟨n1, n2⟩ <;> rcases low l1 h2 with ⟨k1, k2, _⟩ | ⟨k1, k2⟩ <;> rcases low l2 e1 with ⟨u1, u2, _⟩ | ⟨u1, u2⟩ <;> rcases low l2 e2 with ⟨w1, w2, _⟩ | ⟨w1, w2⟩ <;> first
      | exact r.inj n k x c1 c2 n2 k2 i1 i2 u2 w2
      | (exfalso; omega)
      | skip
    · subst k2 w2
      have := r.inj n m x c1 c2 n2 hS i1 i2 u2 hm
      omega
    · subst n2 u2
      have := r.inj m k x c1 c2 hS k2 i1 i2 hm w2
      omega
    · omega
  · rcases low l1 h1 with ⟨n1, n2, n3⟩ | ⟨n1, n2⟩
    · obtain ⟨x, q1, q2⟩ := r.cell n c1 n2
      exact ⟨x, by rw [hg n n1]; exact q1, q2.sub hs hg (List.all_eq_true.mp h c1 (List.mem_of_getElem? n3))⟩
    · subst n2
      refine ⟨a, by rw [List.getElem?_append_right (by omega), l2, n1]; simp, ?_⟩
      exact (r.atc hm hS).sub hs hg hc
theorem fin2_ok {K : PySem.W.Frag} {H0 H : Hp} {μ0 μ : List Addr} {S0 S : Sto} {d : D} {v : V} (r0 : RS K H0 μ0 S0) (r : RS K H μ S) (e : Ext K H0 μ0 H μ) (rv : RV K H μ d v) :
    ∃ μ', RS K H μ' (fin2 S0.length (d, S)).2 ∧ Ext K H0 μ0 H μ' ∧ RV K H μ' (fin2 S0.length (d, S)).1 v := by
  have em : μ.take S0.length = μ0 := by
    obtain ⟨t, ht⟩ := e.pre
    rw [← ht, ← r0.len, List.take_left]
  unfold fin2
  split
  · rename_i hc
    split
    · rename_i hd
      exact ⟨μ.take S0.length, r.trunc hc, by rw [em]; exact e.cut, rv.trunc hd⟩
    · split
      · rename_i m em'
        simp only at em'
        subst em'
        split
        · rename_i c hS
          split
          · rename_i hq
            cases rv with
            | @loc a _ q1 =>
              refine ⟨μ.take S0.length ++ [a], r.pick hc q1 hS hq.1 hq.2, by rw [em]; exact e.cutp (List.mem_of_getElem? q1), .loc ?_⟩
              rw [em, ← r0.len]
              simp
          · exact ⟨μ, r, e, rv⟩
        · exact ⟨μ, r, e, rv⟩
      · exact ⟨μ, r, e, rv⟩
  · exact ⟨μ, r, e, rv⟩
section
variable {X : Cx} {e : Expr} {f : FE} {g : FT}
def tidy2 (f : FE) : FE := fun Γ S => (f Γ S).map (fin2 S.length)
theorem se_tidy2 (h : SE X e f) : SE X e (tidy2 f) :=
  SE.mk h fun σ H Q Γ S μ d S' g r h k => by
    obtain ⟨⟨x, S1⟩, h1, h2⟩ := map_some h
    refine ⟨Γ, S, μ, x, S1, g, r, h1, fun v H' μ' r' e' rv => ?_⟩
    obtain ⟨μ2, a1, a2, a3⟩ := fin2_ok r r' e' rv
    rw [h2] at a1 a3
    exact k v H' μ2 a1 a2 a3
def tidyT (g : FT) : FT := fun Γ S => (g Γ S).map fun p => (p.1, (fin2 S.length (.non, p.2)).2)
theorem st_tidy (h : ST X e g) : ST X e (tidyT g) :=
  ST.mk h fun σ H Q Γ S μ d S' g r h k => by
    obtain ⟨⟨x, S1⟩, h1, h2⟩ := map_some h
    refine ⟨Γ, S, μ, x, S1, g, r, h1, fun H' μ' r' e' => ?_⟩
    obtain ⟨μ2, a1, a2, a3⟩ := fin2_ok r r' e' (.non : RV X.K H' μ' .non .non)
    cases h2
    exact k H' μ2 a1 a2
end
theorem _root_.L2.Room.u1 {k : Nat} {A : Around} (r : Room k A) : A.units + 1 < cLine := by have := r.un; omega
theorem _root_.L2.Room.u64 {k : Nat} {A : Around} (r : Room k A) : A.units + 64 < cLine := by have := r.un; omega
theorem _root_.L2.Room.u65 {k : Nat} {A : Around} (r : Room k A) : A.units + 65 < cLine := by have := r.un; omega
/-- np parameters, n slots -/
def runD (np n : Nat) (body : FS) : FF := fun ds S => if ds.length = np then (body (ds.map some ++ List.replicate (n - np) none) S).bind fun r => match r.1 with
  | .nx => some (fin2 S.length (.non, r.2.2))
  | .rt d => some (fin2 S.length (d, r.2.2))
  | _ => none else none
theorem RG.start {K : PySem.W.Frag} {H : Hp} {μ : List Addr} {ds : List D} {vs : List V} (h : RVs K H μ ds vs) (n : Nat) : RG K H μ (ds.map some ++ List.replicate n none) (vs.map some ++ List.replicate n none) := by
  refine ⟨by simp [h.length], fun i d e => ?_⟩
  by_cases hi : i < (ds.map (some (α := D))).length
  · rw [List.getElem?_append_left hi, List.getElem?_map] at e
    cases q : ds[i]? with
    | none => rw [q] at e; cases e
    | some d' =>
      rw [q] at e
      cases e
      obtain ⟨v, h1, h2⟩ := h.get q
      have hv : i < (vs.map (some (α := V))).length := by rw [List.length_map, ← h.length]; rw [List.length_map] at hi; exact hi
      exact ⟨v, by rw [List.getElem?_append_left hv, List.getElem?_map, h1]; rfl, h2⟩
  · rw [List.getElem?_append_right (by omega)] at e
    rw [List.getElem?_replicate] at e
    split at e <;> cases e
section
variable {P : Program} {w : World} {K : PySem.W.Frag} {mg : Str → Option Value} {base : Heap}
/-- the context of a def's body -/
abbrev CxD (P : Program) (w : World) (K : PySem.W.Frag) (mg : Str → Option Value) (base : Heap) (N : List Str) (qual : Str) (scope : Scope) (f : Addr) (cdv : Value) (A : Around) (outer : List Env) (s : Shared) (H : Hp) (E : XK) : Cx := (cxOf CX0 P w K mg base N qual scope f cdv A outer s H E).nox
theorem fn_d {x qual : Str} {st : Stmt} {f : Addr} {fd : FuncData} {N ps : List Str} {k : Nat} {body : FS} (F : Fun K x qual st f fd) (S : FnScope N ps (defScope st))
    (hb : ∀ (cdv : Value) (A : Around) (outer : List Env) (s : Shared) (H : Hp) (E : XK), Room k (A.deeper (envOfC qual (defScope st) s.heap.objs.size f cdv)) → SSs (CxD P w K mg base N qual (defScope st) f cdv A outer s H E) (defBody st) body) :
    FnOk P w K mg base CX0 (k + 1) f fd ps (spD K (runD ps.length N.length body)) := by
  refine F.ok S (fun vs H Q E h => ?_) (fun cdv A outer s H vs Q E hr h => ⟨_, hb cdv A outer s H E hr, ?_⟩)
  · obtain ⟨ds, S, μ, d, S', h1, h2, h3, k⟩ := h
    unfold runD at h3
    split at h3
    · rename_i hl
      rw [← h1.length, hl]
    · cases h3
  · obtain ⟨ds, S, μ, d, S', h1, h2, h3, k⟩ := h
    unfold runD at h3
    split at h3
    · rename_i hl
      obtain ⟨⟨o, Γ1, S1⟩, e1, e2⟩ := bind_some h3
      have hv : N.length - vs.length = N.length - ps.length := by rw [← h1.length, hl]
      refine ⟨_, S, μ, _, ?_, h2, e1, ?_⟩
      · unfold L2.start
        rw [hv]
        exact RG.start h1 _
      · cases o with
        | nx =>
          intro σ' H' μ' g' r' x'
          obtain ⟨μ2, a1, a2, a3⟩ := fin2_ok h2 r' x' (.non : RV K H' μ' .non .non)
          have e3 := Option.some.inj e2
          simp only at e3
          rw [e3] at a1 a3
          exact k _ H' μ2 a1 a2 a3
        | rt d' =>
          intro v H' μ' r' x' rv
          obtain ⟨μ2, a1, a2, a3⟩ := fin2_ok h2 r' x' rv
          have e3 := Option.some.inj e2
          simp only at e3
          rw [e3] at a1 a3
          exact k _ H' μ2 a1 a2 a3
        | bk => cases e2
        | ct => cases e2
    · cases h3
theorem fn_e {x qual : Str} {st : Stmt} {f : Addr} {fd : FuncData} {N ps : List Str} {k np n : Nat} {body : FS} {FF0 : FF} (hF : FF0 = runD np n body) (hp : ps.length = np) (hn : N.length = n) (F : Fun K x qual st f fd) (S : FnScope N ps (defScope st))
    (hb : ∀ (cdv : Value) (A : Around) (outer : List Env) (s : Shared) (H : Hp) (E : XK), Room k (A.deeper (envOfC qual (defScope st) s.heap.objs.size f cdv)) → SSs (CxD P w K mg base N qual (defScope st) f cdv A outer s H E) (defBody st) body) :
    FnOk P w K mg base CX0 (k + 1) f fd ps (spD K FF0) := by
  subst hF hp hn
  exact fn_d F S hb
/-- a def of the top, by its facts -/
theorem Fn.of {x : Str} {F : FF} {f : Addr} {fd : FuncData} {ps : List Str} {k : Nat} (a : FnOk P w K mg base CX0 k f fd ps (spD K F)) (m : mg x = some (.ref f)) (c : PySem.W.keepIn K (.ref f) = true) (b : Binds K fd ps []) : Fn P w K mg base k x F := ⟨f, fd, ps, a, m, c, b⟩
/-- a promise that is all one needs -/
theorem Fn.mono {x : Str} {F : FF} {j k : Nat} (a : Fn P w K mg base j x F) (h : j ≤ k) : Fn P w K mg base k x F := by
  obtain ⟨f, fd, ps, a1, a2, a3, a4⟩ := a.ex
  exact ⟨f, fd, ps, a1.mono h, a2, a3, a4⟩
theorem Fn.eq {x : Str} {F F' : FF} {k : Nat} (a : Fn P w K mg base k x F) (h : F = F') : Fn P w K mg base k x F' := h ▸ a
end
/-- the script's list as data -/
theorem rv_script {K : PySem.W.Frag} {H : Hp} {a : Addr} {ns : List Int} (o : Only H) (h : SqL K H a (ns.map V.int)) : RV K H [] (.rov (ns.map D.int)) (.ref a) := by
  have rv : ∀ ns : List Int, RVs K H [] (ns.map D.int) (ns.map V.int) := fun ns => by
    induction ns with
    | nil => exact .nil
    | cons i r ih => exact .cons (.int i) ih
  exact .rov (RoL.of h o) (rv ns)
theorem walk_d {l : PySem.W.OpenLaw} {n k : Nat} {q : Program} {loose : List Str} {XP : (Str → Option Value) → Heap → Prop} {YP : World → Heap → Prop} {d : DefRec} {K : Params → PySem.W.Frag} {x : Str} (F : FF)
    (hn : l.most = some n) (hn2 : n ≤ sizeLine) (hdf : d.params.defaults = []) (hr : Room k callerA) (hY : ∀ (w : World) (h : Heap), YP w h → (K w.params).In h)
    (hF : ∀ (w : World) (mg : Str → Option Value) (fa : Addr) (h : Heap), (K w.params).In h → h.Ns mainGlobals mg → mg d.name = some (.ref fa) →
      ∃ fd : FuncData, (∀ (s : Shared) (u : Value), BindsTo s fd ⟨[u], []⟩ [(x, u)]) ∧ ∀ base : Heap, (K w.params).In base → base.Ns mainGlobals mg → FnOk l.prog w (K w.params) mg base CX0 k fa fd [x] (spD (K w.params) F))
    (law : ∀ ns : List Int, ns.length ≤ n → ∃ S', F [.rov (ns.map D.int)] [] = some (.bl true, S')) : PySem.W.WalkO q loose XP YP l.row.toRowW d [] (fun f vs => PySem.call f vs) :=
  L2.walk_of (n := n) (k := k) (x := x) (CX := fun _ => CX0) (sp := fun w => spD (K w.params) F) hn hn2 hdf hr hY hF (fun w H a ns hl ho hS => by
    obtain ⟨S', e⟩ := law ns hl
    exact ⟨[.rov (ns.map D.int)], [], [], .bl true, S', .cons (rv_script ho hS) .nil, ⟨rfl, fun n m a c c' h => by simp at h, fun n c h => by simp at h⟩, e, fun v H' μ' r x rv => by cases rv; rfl⟩) fun _ _ _ _ _ z => z
end Dl

/-! DlY: t[::-1] of a tuple, {}, item stores by op= -/
namespace Dl
open PySem PySem.Spec PyProof.Rows L2
section
variable {prog : Program} {w : World} {A : Around} {E : Value → Shared → Prop} {s : Shared}
theorem rev_places (n : Nat) : Builtin.Slice.slicePlaces ((n : Int) - 1) (-1) (-1) = n := by
  unfold Builtin.Slice.slicePlaces
  rw [if_neg (by decide)]
  split
  · rw [show (-(-1 : Int)) = 1 by decide, Int.ediv_one]
    omega
  · omega
theorem sliced_back {sl : Addr} {vs : Value} {n : Nat} {Q : Int × Int × Nat → Shared → Prop} (hs : s.heap.IsSliceOf sl .none .none vs) (ps : IsPart vs (some (-1))) (h : Q ((n : Int) - 1, -1, n) s) :
    wpAny (model prog w) A (Builtin.Slice.sliceApplied (.ref sl) (pure (n : Int))) Q E s := by
  obtain ⟨os, hos, hcs, hds⟩ := id hs
  unfold Builtin.Slice.sliceApplied Builtin.Slice.sliceFields
  refine wpAny_bind (wpAny_bind (wpAny_field hos hds (x := .none) rfl (wpAny_bind (wpAny_field hos hds (x := .none) rfl (wpAny_bind (wpAny_field hos hds (x := vs) rfl (wpAny_pure ?_)))))))
  refine wpAny_bind (HT.slicePart_ ps ?_)
  show wpAny _ _ (if ((-1 : Int) == 0) = true then _ else _) _ _ s
  rw [if_neg (by decide)]
  refine wpAny_bind (slicePart_none (wpAny_bind (slicePart_none (wpAny_bind (wpAny_pure ?_)))))
  show wpAny _ _ (pure ((n : Int) - 1, (-1 : Int), Builtin.Slice.slicePlaces ((n : Int) - 1) (-1) (-1))) _ _ s
  rw [rev_places]
  exact wpAny_pure h
theorem back_pick (xs : Array Value) : ((List.range xs.size).filterMap fun (m : Nat) => xs[(((xs.size : Int) - 1) + (m : Int) * (-1)).toNat]?).toArray = xs.toList.reverse.toArray := by
  have e : (fun (m : Nat) => xs[(((xs.size : Int) - 1) + (m : Int) * (-1)).toNat]?) = fun m => xs[xs.size - 1 - m]? := by
    funext m
    have : (((xs.size : Int) - 1) + (m : Int) * (-1)).toNat = xs.size - 1 - m := by omega
    rw [this]
  rw [e, ← PySem.W.krv_pick]
  unfold slicePick
  rw [PySem.W.krv_bounds]
  show _ = ((sliceRange ((xs.size : Int) - 1) (-1) (-1)).filterMap (xs[·]?)).toArray
  rw [PySem.W.krv_sliceRange, List.filterMap_map]
  rfl
theorem item_back {t sl : Addr} {items : Array Value} {vs : Value} {Q : Value → Shared → Prop} (ht : IsTup s.heap t items) (hs : s.heap.IsSliceOf sl .none .none vs) (ps : IsPart vs (some (-1)))
    (h : Q (.ref s.heap.objs.size) { s with heap := s.heap.push { cls := .type "tuple", data := .seq items.toList.reverse.toArray } }) (hsz : items.size ≤ sizeLine) : wpAny (model prog w) A (getItem (.ref t) (.ref sl)) Q E s := by
  have hok : sizeOk (.seq items.toList.reverse.toArray) := by
    show items.toList.reverse.toArray.size ≤ sizeLine
    rw [List.size_toArray, List.length_reverse, Array.length_toList]
    exact hsz
  obtain ⟨os, hos, hcs, hds⟩ := id hs
  have hTs : s.TypeIs (.ref sl) "slice" := ⟨os, hos, hcs⟩
  unfold getItem
  try with_reducible refine wpAny_holding ?_
  first | refine wpAny_bind (wpAny_pure ?_) | skip
  refine wpAny_bind (wpAny_sequenceKey ht.typeIs (by decide) ?_)
  refine wpAny_bind (wpAny_callSpecial?_slot (name := Str.ofString "__getitem__") ht.typeIs PyProof.Rows.slot_tuple_getitem
    (wpAny_call_entry PyProof.Rows.slot_tuple_getitem ht.typeIs PyProof.Rows.entry_tuple_getitem ?_ (PyProof.Rows.args_tuple_getitem _ _)))
  show wpAny _ _ (Builtin.Tuple.tupleItemsOf (.ref t) >>= _) _ _ s
  refine wpAny_bind (tupleItemsOf_ ht ?_)
  refine wpAny_bind (wpAny_typeOf hTs ?_)
  rw [if_pos (by decide)]
  refine wpAny_bind (sliced_back hs ps ?_)
  have hno : ¬ ((((items.size : Int) - 1) == 0 && (-1 : Int) == 1 && items.size == items.size) = true) := by
    rw [show ((-1 : Int) == 1) = false by decide, Bool.and_false, Bool.false_and]
    exact Bool.false_ne_true
  show wpAny _ _ (if ((((items.size : Int) - 1) == 0 && (-1 : Int) == 1 && items.size == items.size) = true) then _ else _) _ _ s
  rw [if_neg hno, back_pick]
  first
    | exact wpAny_bind (m := Builtin.Tuple.tupleExact _) (wpAny_newObj_type (wpAny_pure ⟨_, rfl, wpAny_pure h⟩) hok)
    | exact wpAny_bind (m := Builtin.Tuple.tupleExact _) (wpAny_newObj_type (wpAny_bind (wpAny_pure (wpAny_pure ⟨_, rfl, wpAny_pure h⟩))) hok)
    | exact wpAny_bind (wpAny_bind (m := Builtin.Tuple.tupleExact _) (wpAny_newObj_type (wpAny_pure (wpAny_pure ⟨_, rfl, wpAny_pure h⟩)) hok))
    | exact wpAny_bind (wpAny_bind (m := Builtin.Tuple.tupleExact _) (wpAny_newObj_type (wpAny_pure ⟨_, rfl, wpAny_pure h⟩) hok))
end
section
variable {X : Cx} {e : Expr} {fa : FE} {pos : Pos}
def tRevT (K : PySem.W.Frag) (te : TE) : TE := fun σ H Q => te σ H fun x H1 => ∃ a xs, x = .ref a ∧ SqT K H1 a xs ∧ ∀ p, H1 p = none → Q (.ref p) (upd H1 p (.tup xs.reverse))
theorem pe_revT {te : TE} {k : Nat} {p1 p2 p3 : Pos} (he : PE X e te) : PE X (.Subscript e (.Slice none none (some (.UnaryOp .USub (.Constant (.int 1) k p1) p2)) p3) pos) (tRevT X.K te) := by
  refine ⟨fun pins s σ H Q I h => ?_⟩
  refine Subscript_ (thn (he.run pins s σ H _ I h) fun v s1 ⟨x, H1, I1, r1, q1⟩ => ?_)
  obtain ⟨a, xs, ex, hx, q⟩ := q1
  subst ex
  cases r1
  have hst : PO X (some (.UnaryOp .USub (.Constant (.int 1) k p1) p2)) (tPart (tUn (rU fun i => .int (-i)) (tC (.int 1)))) := po_some (pe_un un_neg pe_int)
  refine wpAny_Slice (thn (po_none.run pins s1 σ H1 (fun o H2 => o = none ∧ H2 = H1) I1 ⟨rfl, rfl⟩) fun vl s2 ⟨l, H2, I2, pl, el, e2⟩ => ?_)
  subst el e2
  refine thn (po_none.run pins s2 σ H2 (fun o H3 => o = none ∧ H3 = H2) I2 ⟨rfl, rfl⟩) fun vu s3 ⟨u, H3, I3, pu, eu, e3⟩ => ?_
  subst eu e3
  refine thn (hst.run pins s3 σ H3 (fun o H4 => o = some (-1) ∧ H4 = H3) I3 ⟨1, rfl, -1, rfl, rfl, rfl⟩) fun vs s4 ⟨o, H4, I4, ps, eo, e4⟩ => ?_
  subst eo e4
  have I5 : Inv X pins σ H4 { s4 with heap := s4.heap.push { cls := .type "slice", data := .fields #[vl, vu, vs] } } := I4.kept (t' := s4.toks) fun b ob q => Heap.get?_push_of_some _ q
  obtain ⟨its, r, ht, hz⟩ := I5.tuple hx
  have hlen := r.length
  cases pl
  cases pu
  show wpAny (model X.prog X.w) X.A (subscriptTail e (.Slice none none (some (.UnaryOp .USub (.Constant (.int 1) k p1) p2)) p3) (.ref a) (.ref s4.heap.objs.size)) (EP X pins σ Q) X.xe { s4 with heap := s4.heap.push { cls := .type "slice", data := .fields #[.none, .none, vs] } }
  refine tail_any (ops := [.ref a, .ref s4.heap.objs.size]) ht.typeIs (PyProof.Rows.slot_tuple_getitem.lookup) ?_ (by with_unfolding_all rfl)
  refine item_back ht (Heap.IsSliceOf.new _ .none .none vs) ps ?_ (by rw [List.size_toArray]; omega)
  refine ⟨.ref _, _, I5.laid (t' := s4.toks) (o := .tup xs.reverse) (fun b ob q => Heap.get?_push_of_some _ q) (Nat.le_refl _) ?_, rfl, q _ (I5.hok.fresh (Nat.le_refl _))⟩
  exact ⟨by rw [List.length_reverse]; exact hz, _, r.reverse, IsTup.new _ _⟩
/-- [::-1] -/
def eRev (fa : FE) : FE := fun Γ S => (fa Γ S).bind fun p => match p.1 with
  | .tup l => some (.tup l.reverse, p.2)
  | .loc n => match p.2[n]? with
    | some (.lst l) => some (.loc p.2.length, p.2 ++ [.lst l.reverse])
    | _ => none
  | _ => none
theorem pe_either {t t' : TE} (a : PE X e t) (b : PE X e t') : PE X e (fun σ H Q => t σ H Q ∨ t' σ H Q) := ⟨fun pins s σ H Q I q => by
  rcases q with q | q
  · exact a.run pins s σ H Q I q
  · exact b.run pins s σ H Q I q⟩
theorem se_rev {k : Nat} {p1 p2 p3 : Pos} (a : SE X e fa) : SE X (.Subscript e (.Slice none none (some (.UnaryOp .USub (.Constant (.int 1) k p1) p2)) p3) pos) (eRev fa) :=
  SE.mk (pe_either (pe_revT a) (pe_revL a)) fun σ H Q Γ S μ d S' g r h k => by
    obtain ⟨⟨x, S1⟩, e1, h⟩ := bind_some h
    cases x with
    | tup l =>
      cases h
      refine .inl ⟨Γ, S, μ, _, _, g, r, e1, fun v H' μ' r' x rv => ?_⟩
      cases rv with
      | @tup a vs _ q1 q2 =>
        refine ⟨a, vs, rfl, SqT.of q1, fun p hp => ?_⟩
        have s := same_upd (o := .tup vs.reverse) hp
        exact k _ _ μ' (r'.same s) (x.trans (.same s)) (.tup upd_same (q2.reverse.ext (.same s)))
    | loc n =>
      simp only at h
      split at h
      · rename_i l el
        cases h
        refine .inr ⟨Γ, S, μ, _, _, g, r, e1, fun v H' μ' r' x rv => ?_⟩
        cases rv with
        | @loc a _ q1 =>
          obtain ⟨vs, z1, z2⟩ := r'.atc q1 el
          refine ⟨a, vs, rfl, SqL.of z1, fun p hp => ?_⟩
          obtain ⟨a1, a2, a3⟩ := r'.newL z2.reverse hp
          exact k _ _ _ a1 (x.trans a2) a3
      · cases h
    | _ => cases h
/-! ### {} -/
def eDk : FE := fun _ S => some (.loc S.length, S ++ [.dk []])
def eDt : FE := fun _ S => some (.loc S.length, S ++ [.dt []])
theorem RS.newT {K : PySem.W.Frag} {H : Hp} {μ : List Addr} {S : Sto} {p : Addr} (r : RS K H μ S) (hp : H p = none) :
    RS K (upd H p (.dT [])) (μ ++ [p]) (S ++ [.dt []]) ∧ Ext K H μ (upd H p (.dT [])) (μ ++ [p]) ∧ RV K (upd H p (.dT [])) (μ ++ [p]) (.loc S.length) (.ref p) := by
  have e : Ext K H μ (upd H p (.dT [])) (μ ++ [p]) := .grow1 (same_upd hp) hp
  exact ⟨r.alloc hp ⟨[], upd_same, rfl, .nil⟩, e, .loc (by rw [← r.len]; simp)⟩
theorem se_dk : SE X (.Dict [] [] pos) eDk := SE.mk pe_dnewK fun σ H Q Γ S μ d S' g r h k => by
  cases h
  intro p hp
  obtain ⟨a1, a2, a3⟩ := r.newD hp
  exact k _ _ _ a1 a2 a3
theorem se_dt : SE X (.Dict [] [] pos) eDt := SE.mk pe_dnewT fun σ H Q Γ S μ d S' g r h k => by
  cases h
  intro p hp
  obtain ⟨a1, a2, a3⟩ := r.newT hp
  exact k _ _ _ a1 a2 a3
end
end Dl

/-! DlG: new lists and dicts become values; names that are not read any more are forgotten; keys of a dict walked; t.index(x) -/
namespace Dl
open PySem PySem.Spec PyProof.Rows L2

/-! ### a value read out: cells from b on become values -/
def mapO {α β : Type} (f : α → Option β) : List α → Option (List β)
  | [] => some []
  | x :: l => (f x).bind fun y => (mapO f l).map fun r => y :: r
def rdo (b : Nat) (S : Sto) : Nat → D → Option D
  | 0, _ => none
  | k + 1, d => if d.lo b = true then some d else match d with
    | .loc m => match S[m]? with
      | some (.lst l) => (mapO (rdo b S k) l).map .lst
      | some (.dk l) => (mapO (rdo b S k) (l.map (·.2))).map (.dkv (l.map (·.1)))
      | some (.dt l) => (mapO (rdo b S k) (l.map (·.2))).map (.dtv (l.map (·.1)))
      | _ => none
    | .tup l => (mapO (rdo b S k) l).map .tup
    | .tpu l => (mapO (rdo b S k) l).map .tpu
    | .lst l => (mapO (rdo b S k) l).map .lst
    | .dkv ks l => (mapO (rdo b S k) l).map (.dkv ks)
    | .dtv ks l => (mapO (rdo b S k) l).map (.dtv ks)
    | _ => none
def noRo (b : Nat) (S : Sto) : Bool := (S.take b).all fun c => !c.isRo
section
variable {K : PySem.W.Frag} {H : Hp} {μ : List Addr} {S : Sto} {b : Nat}
theorem mapO_ok {f : D → Option D} {μ2 : List Addr} (h : ∀ d v d', RV K H μ d v → f d = some d' → RV K H μ2 d' v) : ∀ {l : List D} {vs : List V} {l' : List D}, RVs K H μ l vs → mapO f l = some l' → RVs K H μ2 l' vs
  | _, _, _, .nil, e => by cases e; exact .nil
  | _, _, _, .cons r t, e => by
    obtain ⟨y, e1, e2⟩ := bind_some e
    obtain ⟨r', e3, e4⟩ := map_some e2
    subst e4
    exact .cons (h _ _ _ r e1) (mapO_ok h t e3)
/-- the address of a cell from b on is none of the first b -/
theorem new_out (r : RS K H μ S) (hro : noRo b S = true) {m : Nat} {a : Addr} {c : Cell} (hb : b ≤ m) (hm : μ[m]? = some a) (hS : S[m]? = some c) (hc : c.isRo = false) : a ∉ μ.take b := fun h => by
  obtain ⟨i, hi, e⟩ := List.mem_iff_getElem.mp h
  rw [List.length_take] at hi
  have e2 : μ[i]? = some a := by
    rw [← e, List.getElem_take]
    exact List.getElem?_eq_getElem (by omega)
  obtain ⟨c', q1, _⟩ := r.at e2
  have hr : c'.isRo = false := by
    have := List.all_eq_true.mp hro c' (List.mem_of_getElem? (i := i) (by rw [List.getElem?_take_of_lt (by omega)]; exact q1))
    simpa using this
  have := r.inj i m a c' c q1 hS hr hc e2 hm
  omega
theorem rdo_ok (r : RS K H μ S) (hro : noRo b S = true) : ∀ (k : Nat) (d : D) (v : V) (d' : D), RV K H μ d v → rdo b S k d = some d' → RV K H (μ.take b) d' v := by
  intro k
  induction k with
  | zero => intro d v d' _ e; cases e
  | succ k ih =>
    intro d v d' rv e
    unfold rdo at e
    split at e
    · rename_i hl; cases e; exact rv.trunc hl
    · rename_i hl
      have rl := fun {l : List D} {vs : List V} {l' : List D} (h1 : RVs K H μ l vs) (h2 : mapO (rdo b S k) l = some l') => mapO_ok (μ2 := μ.take b) ih h1 h2
      split at e
      · rename_i m
        have hb : b ≤ m := by
          rw [D.lo] at hl
          exact Nat.le_of_not_lt fun q => hl (decide_eq_true q)
        cases rv with
        | @loc a _ q1 =>
          split at e
          · rename_i l hS
            obtain ⟨l', e1, e2⟩ := map_some e
            subst e2
            obtain ⟨vs, z1, z2⟩ := r.atc q1 hS
            exact .lst z1 (new_out r hro hb q1 hS rfl) (rl z2 e1)
          · rename_i l hS
            obtain ⟨l', e1, e2⟩ := map_some e
            subst e2
            obtain ⟨ws, z1, z2, z3⟩ := r.atc q1 hS
            exact .dkv (.inl z1) (new_out r hro hb q1 hS rfl) z2 (rl z3 e1)
          · rename_i l hS
            obtain ⟨l', e1, e2⟩ := map_some e
            subst e2
            obtain ⟨ws, z1, z2, z3⟩ := r.atc q1 hS
            exact .dtv (.inl z1) (new_out r hro hb q1 hS rfl) z2 (rl z3 e1)
          · cases e
      · obtain ⟨l', e1, e2⟩ := map_some e
        subst e2
        cases rv with
        | tup z1 z2 => exact .tup z1 (rl z2 e1)
      · obtain ⟨l', e1, e2⟩ := map_some e
        subst e2
        cases rv with
        | tpu z1 z3 z2 => exact .tpu z1 z3 (rl z2 e1)
      · obtain ⟨l', e1, e2⟩ := map_some e
        subst e2
        cases rv with
        | lst z1 z3 z2 => exact .lst z1 (fun q => z3 (List.mem_of_mem_take q)) (rl z2 e1)
      · obtain ⟨l', e1, e2⟩ := map_some e
        subst e2
        cases rv with
        | dkv z1 z3 z4 z2 => exact .dkv z1 (fun q => z3 (List.mem_of_mem_take q)) z4 (rl z2 e1)
      · obtain ⟨l', e1, e2⟩ := map_some e
        subst e2
        cases rv with
        | dtv z1 z3 z4 z2 => exact .dtv z1 (fun q => z3 (List.mem_of_mem_take q)) z4 (rl z2 e1)
      · cases e
/-- a cell read out -/
def rdc (b : Nat) (S : Sto) (k : Nat) : Cell → Option Cell
  | .lst l => (mapO (rdo b S k) l).map .lst
  | .dk l => (mapO (rdo b S k) (l.map (·.2))).map fun m => .dk ((l.map (·.1)).zip m)
  | .dt l => (mapO (rdo b S k) (l.map (·.2))).map fun m => .dt ((l.map (·.1)).zip m)
  | _ => none
theorem mapO_len {α β : Type} {f : α → Option β} : ∀ {l : List α} {l' : List β}, mapO f l = some l' → l'.length = l.length
  | [], _, e => by cases e; rfl
  | x :: l, _, e => by
    obtain ⟨y, e1, e2⟩ := bind_some e
    obtain ⟨r', e3, e4⟩ := map_some e2
    subst e4
    simp [mapO_len e3]
theorem rdc_ok (r : RS K H μ S) (hro : noRo b S = true) {k : Nat} {a : Addr} {c c' : Cell} (h : RC K H μ a c) (e : rdc b S k c = some c') : RC K H (μ.take b) a c' ∧ c'.isRo = false ∧ c.isRo = false := by
  have rl := fun {l : List D} {vs : List V} {l' : List D} (h1 : RVs K H μ l vs) (h2 : mapO (rdo b S k) l = some l') => mapO_ok (μ2 := μ.take b) (rdo_ok r hro k) h1 h2
  unfold rdc at e
  split at e
  · obtain ⟨l', e1, e2⟩ := map_some e
    subst e2
    obtain ⟨vs, z1, z2⟩ := h
    exact ⟨⟨vs, z1, rl z2 e1⟩, rfl, rfl⟩
  · obtain ⟨l', e1, e2⟩ := map_some e
    subst e2
    obtain ⟨ws, z1, z2, z3⟩ := h
    have := mapO_len e1
    exact ⟨⟨ws, z1, RK.zip z2 (rl z3 e1)⟩, rfl, rfl⟩
  · obtain ⟨l', e1, e2⟩ := map_some e
    subst e2
    obtain ⟨ws, z1, z2, z3⟩ := h
    exact ⟨⟨ws, z1, RK.zip z2 (rl z3 e1)⟩, rfl, rfl⟩
  · cases e
theorem mapO_get {α β : Type} {f : α → Option β} : ∀ {l : List α} {l' : List β} {i : Nat} {y : β}, mapO f l = some l' → l'[i]? = some y → ∃ x, l[i]? = some x ∧ f x = some y
  | [], _, i, y, e, h => by cases e; simp at h
  | x :: l, _, i, y, e, h => by
    obtain ⟨z, e1, e2⟩ := bind_some e
    obtain ⟨r', e3, e4⟩ := map_some e2
    subst e4
    cases i with
    | zero => simp at h; subst h; exact ⟨x, rfl, e1⟩
    | succ i =>
      obtain ⟨w, w1, w2⟩ := mapO_get e3 (by simpa using h)
      exact ⟨w, by simpa using w1, w2⟩
/-- the first b cells, read out -/
def rds (b : Nat) (S : Sto) : Option Sto := if (S.take b).all (Cell.lo b) = true then some (S.take b) else mapO (rdc b S 5) (S.take b)
theorem rds_ok (r : RS K H μ S) (hro : noRo b S = true) {S' : Sto} (e : rds b S = some S') : RS K H (μ.take b) S' := by
  unfold rds at e
  split at e
  · rename_i h; cases e; exact r.trunc h
  · have hl := mapO_len e
    have cut : ∀ {α : Type} (l : List α) (m : Nat) (x : α), (l.take b)[m]? = some x → l[m]? = some x := fun l m x h => by
      by_cases hm : m < b
      · rw [List.getElem?_take_of_lt hm] at h; exact h
      · rw [List.getElem?_eq_none (by rw [List.length_take]; omega)] at h; cases h
    have old : ∀ {n : Nat} {c : Cell}, S'[n]? = some c → ∃ c0 a, S[n]? = some c0 ∧ μ[n]? = some a ∧ n < b ∧ c0.isRo = false ∧ RC K H (μ.take b) a c := fun {n c} h => by
      obtain ⟨c0, q1, q2⟩ := mapO_get e h
      have hn : n < b := by
        have := (List.getElem?_eq_some_iff.mp q1).1
        rw [List.length_take] at this; omega
      have q1 := cut _ _ _ q1
      obtain ⟨a, w1, w2⟩ := r.cell n c0 q1
      obtain ⟨x1, _, x2⟩ := rdc_ok r hro w2 q2
      exact ⟨c0, a, q1, w1, hn, x2, x1⟩
    refine ⟨by rw [hl, List.length_take, List.length_take, r.len], fun n m a c1 c2 h1 h2 i1 i2 e1 e2 => ?_, fun n c h => ?_⟩
    · obtain ⟨d1, _, a1, _, _, a2, _⟩ := old h1
      obtain ⟨d2, _, b1, _, _, b2, _⟩ := old h2
      exact r.inj n m a d1 d2 a1 b1 a2 b2 (cut _ _ _ e1) (cut _ _ _ e2)
    · obtain ⟨_, a, _, w1, hn, _, w2⟩ := old h
      exact ⟨a, by rw [List.getElem?_take_of_lt hn]; exact w1, w2⟩
/-- a result and its store, read out -/
def fin3 (b : Nat) (p : D × Sto) : D × Sto := if noRo b p.2 = true then match rds b p.2, rdo b p.2 5 p.1 with
  | some S', some d' => (d', S')
  | _, _ => p else p
theorem fin3_ok {H0 : Hp} {μ0 : List Addr} {S0 S : Sto} {d : D} {v : V} (r0 : RS K H0 μ0 S0) (r : RS K H μ S) (e : Ext K H0 μ0 H μ) (rv : RV K H μ d v) :
    ∃ μ', RS K H μ' (fin3 S0.length (d, S)).2 ∧ Ext K H0 μ0 H μ' ∧ RV K H μ' (fin3 S0.length (d, S)).1 v := by
  have em : μ.take S0.length = μ0 := by
    obtain ⟨t, ht⟩ := e.pre
    rw [← ht, ← r0.len, List.take_left]
  unfold fin3
  split
  · rename_i hro
    split
    · rename_i S' d' e1 e2
      exact ⟨μ.take S0.length, rds_ok r hro e1, by rw [em]; exact e.cut, rdo_ok r hro _ _ _ _ rv e2⟩
    · exact ⟨μ, r, e, rv⟩
  · exact ⟨μ, r, e, rv⟩
end
section
variable {X : Cx} {e : Expr} {f : FE} {g : FT} {st : Stmt} {sts : List Stmt} {q h : FS}
def tidy3 (f : FE) : FE := fun Γ S => (f Γ S).map (fin3 S.length)
theorem se_tidy3 (h : SE X e f) : SE X e (tidy3 f) :=
  SE.mk h fun σ H Q Γ S μ d S' g r h k => by
    obtain ⟨⟨x, S1⟩, h1, h2⟩ := map_some h
    refine ⟨Γ, S, μ, x, S1, g, r, h1, fun v H' μ' r' e' rv => ?_⟩
    obtain ⟨μ2, a1, a2, a3⟩ := fin3_ok r r' e' rv
    rw [h2] at a1 a3
    exact k v H' μ2 a1 a2 a3
def tidyT3 (g : FT) : FT := fun Γ S => (g Γ S).map fun p => (p.1, (fin3 S.length (.non, p.2)).2)
theorem st_tidy3 (h : ST X e g) : ST X e (tidyT3 g) :=
  ST.mk h fun σ H Q Γ S μ d S' g r h k => by
    obtain ⟨⟨x, S1⟩, h1, h2⟩ := map_some h
    refine ⟨Γ, S, μ, x, S1, g, r, h1, fun H' μ' r' e' => ?_⟩
    obtain ⟨μ2, a1, a2, a3⟩ := fin3_ok r r' e' (.non : RV X.K H' μ' .non .non)
    cases h2
    exact k H' μ2 a1 a2
/-! ### names forgotten -/
/-- ahead of a statement -/
def qPre (vs : List Nat) (q : FS) : FS := fun Γ S => q (wipeD Γ vs) S
theorem RG.drop {K : PySem.W.Frag} {H : Hp} {μ : List Addr} {Γ : Ctx} {σ : L2.St} (g : RG K H μ Γ σ) (vs : List Nat) : RG K H μ (wipeD Γ vs) σ := ⟨by rw [wipeD_length, g.len], fun i d h => g.slot i d (wipeD_some h).1⟩
theorem ss_pre (vs : List Nat) (a : SS X st q) : SS X st (qPre vs q) := SS.mk a fun D σ H Γ S μ r h1 h2 h3 k => ⟨wipeD Γ vs, S, μ, r, h1.drop vs, h2, h3, k⟩
/-- the names read out -/
def rdg (b : Nat) (S : Sto) (Γ : Ctx) : Ctx := Γ.map fun o => o.bind fun d => rdo b S 5 d
theorem rdg_ok {K : PySem.W.Frag} {H : Hp} {μ : List Addr} {S : Sto} {b : Nat} {Γ : Ctx} {σ : L2.St} (r : RS K H μ S) (hro : noRo b S = true) (g : RG K H μ Γ σ) : RG K H (μ.take b) (rdg b S Γ) σ := by
  refine ⟨by rw [rdg, List.length_map, g.len], fun i d' h => ?_⟩
  rw [rdg, List.getElem?_map] at h
  obtain ⟨o, e1, e2⟩ := map_some h
  cases o with
  | none => cases e2
  | some d =>
    obtain ⟨v, w1, w2⟩ := g.slot i d e1
    exact ⟨v, w1, rdo_ok r hro _ _ _ _ w2 e2⟩
def trimR (b : Nat) (vs : List Nat) (p : Ctx × Sto) : Ctx × Sto := if noRo b p.2 = true then match rds b p.2 with
  | some S' => (rdg b p.2 (wipeD p.1 vs), S')
  | none => p else p
/-- behind a block: the names in vs are forgotten, what is new becomes values -/
def qTr (vs : List Nat) (q : FS) : FS := fun Γ S => (q Γ S).map fun p => match p.1 with
  | .rt d => (.rt d, p.2)
  | o => (o, trimR S.length vs p.2)
theorem trim_ok {K : PySem.W.Frag} {H0 H : Hp} {μ0 μ : List Addr} {S0 S : Sto} {Γ : Ctx} {σ : L2.St} (vs : List Nat) (r0 : RS K H0 μ0 S0) (r : RS K H μ S) (e : Ext K H0 μ0 H μ) (g : RG K H μ Γ σ) :
    ∃ μ', RG K H μ' (trimR S0.length vs (Γ, S)).1 σ ∧ RS K H μ' (trimR S0.length vs (Γ, S)).2 ∧ Ext K H0 μ0 H μ' := by
  have em : μ.take S0.length = μ0 := by
    obtain ⟨t, ht⟩ := e.pre
    rw [← ht, ← r0.len, List.take_left]
  unfold trimR
  split
  · rename_i hro
    split
    · rename_i S' e1
      exact ⟨μ.take S0.length, rdg_ok r hro (g.drop vs), rds_ok r hro e1, by rw [em]; exact e.cut⟩
    · exact ⟨μ, g, r, e⟩
  · exact ⟨μ, g, r, e⟩
theorem post_tr {K : PySem.W.Frag} {H : Hp} {μ : List Addr} {S : Sto} {vs : List Nat} {p : Out × Ctx × Sto} {D : Ends} (h2 : RS K H μ S) (k : Post K H μ (match p.1 with
  | .rt d => (.rt d, p.2)
  | o => (o, trimR S.length vs p.2)) D) : Post K H μ p D := by
  obtain ⟨o, Γ1, S1⟩ := p
  cases o with
  | rt d => exact k
  | nx =>
    intro σ' H' μ' g r x
    obtain ⟨μ2, a1, a2, a3⟩ := trim_ok vs h2 r x g
    exact k σ' H' μ2 a1 a2 a3
  | bk =>
    intro σ' H' μ' g r x
    obtain ⟨μ2, a1, a2, a3⟩ := trim_ok vs h2 r x g
    exact k σ' H' μ2 a1 a2 a3
  | ct =>
    intro σ' H' μ' g r x
    obtain ⟨μ2, a1, a2, a3⟩ := trim_ok vs h2 r x g
    exact k σ' H' μ2 a1 a2 a3
theorem ss_tr (vs : List Nat) (a : SS X st q) : SS X st (qTr vs q) := SS.mk a fun D σ H Γ S μ r h1 h2 h3 k => by
  obtain ⟨p, e1, e2⟩ := map_some h3
  subst e2
  exact ⟨Γ, S, μ, p, h1, h2, e1, post_tr h2 k⟩
theorem sss_tr (vs : List Nat) (a : SSs X sts q) : SSs X sts (qTr vs q) := SSs.mk a fun D σ H Γ S μ r h1 h2 h3 k => by
  obtain ⟨p, e1, e2⟩ := map_some h3
  subst e2
  exact ⟨Γ, S, μ, p, h1, h2, e1, post_tr h2 k⟩
/-- only forgetting -/
def qTw (vs : List Nat) (q : FS) : FS := fun Γ S => (q Γ S).map fun p => match p.1 with
  | .rt d => (.rt d, p.2)
  | o => (o, wipeD p.2.1 vs, p.2.2)
theorem post_tw {K : PySem.W.Frag} {H : Hp} {μ : List Addr} {vs : List Nat} {p : Out × Ctx × Sto} {D : Ends} (k : Post K H μ (match p.1 with
  | .rt d => (.rt d, p.2)
  | o => (o, wipeD p.2.1 vs, p.2.2)) D) : Post K H μ p D := by
  obtain ⟨o, Γ1, S1⟩ := p
  cases o with
  | rt d => exact k
  | nx => exact fun σ' H' μ' g r x => k σ' H' μ' (g.drop vs) r x
  | bk => exact fun σ' H' μ' g r x => k σ' H' μ' (g.drop vs) r x
  | ct => exact fun σ' H' μ' g r x => k σ' H' μ' (g.drop vs) r x
theorem ss_tw (vs : List Nat) (a : SS X st q) : SS X st (qTw vs q) := SS.mk a fun D σ H Γ S μ r h1 h2 h3 k => by
  obtain ⟨p, e1, e2⟩ := map_some h3
  subst e2
  exact ⟨Γ, S, μ, p, h1, h2, e1, post_tw k⟩
theorem sss_tw (vs : List Nat) (a : SSs X sts q) : SSs X sts (qTw vs q) := SSs.mk a fun D σ H Γ S μ r h1 h2 h3 k => by
  obtain ⟨p, e1, e2⟩ := map_some h3
  subst e2
  exact ⟨Γ, S, μ, p, h1, h2, e1, post_tw k⟩
/-- for, the names in vs forgotten behind the iterable -/
noncomputable def qForW (it : FI) (vs : List Nat) (t : FG) (body : FS) : FS := fun Γ S => (it Γ S).bind fun p => forL t body p.1.2 p.1.1 (wipeD Γ vs) p.2
section
variable {tg iter c : Expr} {body : List Stmt} {it : FI} {t : FG} {is : List Nat} {g : FS} {pos : Pos}
theorem ss_forW (vs : List Nat) (hp : PassesOwn (model X.prog X.w) X.A X.env X.xe) (hc : X.calm = true) (hi : SI X tg iter it) (hg : SG X tg is t) (hb : SSs X body g) (hs : ∀ x, foldedSetIterable iter X.env x = pure x := by intro _; rfl) : SS X (.For tg iter body [] pos) (qForW it vs t g) :=
  SS.mk (ps_for hp hc hi hg hb hs) fun D σ H Γ S μ r h1 h2 h3 k => by
    obtain ⟨⟨⟨its, lk⟩, S1⟩, e1, h3⟩ := bind_some h3
    refine ⟨Γ, S, μ, _, S1, h1, h2, e1, fun J H1 μ1 r1 x1 it => ?_⟩
    refine ⟨fun i m σ H2 => m = its.length - i ∧ i ≤ its.length ∧ ∃ Γ S μ2, RG X.K H2 μ2 Γ σ ∧ RS X.K H2 μ2 S ∧ Ext X.K H1 μ1 H2 μ2 ∧ forL t g lk (its.drop i) Γ S = some r, ⟨_, rfl, Nat.zero_le _, wipeD Γ vs, S1, μ1, (h1.ext x1).drop vs, r1, .refl, h3⟩, ?_⟩
    rintro i m σ2 H2 ⟨rfl, hle, Γ2, S2, μ2, G2, r2, x2, h3⟩
    rcases Nat.lt_or_ge i its.length with hlt | hge
    · rw [List.drop_eq_getElem_cons hlt, forL] at h3
      split at h3
      · rename_i hk
        obtain ⟨Γ3, q1, h3⟩ := bind_some h3
        obtain ⟨⟨o, Γ4, S4⟩, q2, h3⟩ := bind_some h3
        refine .inr ⟨it.go i H2 μ2 S2 hlt r2 x2 hk, fun σ' H' => ∃ Γ S μ2, RG X.K H' μ2 Γ σ' ∧ RS X.K H' μ2 S ∧ Ext X.K H1 μ1 H' μ2 ∧ forL t g lk (its.drop (i + 1)) Γ S = some r, fun σ' H' z => ⟨its.length - (i + 1), by omega, rfl, hlt, z⟩, fun x H3 y => ?_⟩
        obtain ⟨s3, d, y1, y2⟩ := it.yld i H2 μ2 S2 x H3 hlt r2 x2 hk y
        rw [List.getElem?_eq_getElem hlt] at y1
        cases y1
        have x3 : Ext X.K H2 μ2 H3 μ2 := .same s3
        refine ⟨_, Γ2, S2, μ2, Γ3, y2, G2.ext x3, r2.same s3, q1, fun σ' G3 _ => ⟨Γ3, S2, μ2, _, G3, r2.same s3, q2, ?_⟩⟩
        cases o with
        | nx => exact fun σ4 H4 μ4 G4 r4 x4 => ⟨Γ4, S4, μ4, G4, r4, (x2.trans x3).trans x4, h3⟩
        | ct => exact fun σ4 H4 μ4 G4 r4 x4 => ⟨Γ4, S4, μ4, G4, r4, (x2.trans x3).trans x4, h3⟩
        | bk =>
          cases h3
          exact fun σ4 H4 μ4 G4 r4 x4 => k σ4 H4 μ4 G4 r4 (((x1.trans x2).trans x3).trans x4)
        | rt d =>
          cases h3
          exact fun v H4 μ4 r4 x4 rv => k v H4 μ4 r4 (((x1.trans x2).trans x3).trans x4) rv
      · cases h3
    · have e : i = its.length := by omega
      subst e
      rw [List.drop_length, forL] at h3
      split at h3
      · rename_i hk
        cases h3
        exact .inl ⟨it.stop H2 μ2 _ r2 x2 hk, k σ2 H2 μ2 G2 r2 (x1.trans x2)⟩
      · cases h3
end
/-! ### two blocks in a row -/
theorem execs_app_wp {M : PySem.Model} {Γ : PySem.Ctx} {env : Env} {b : List Stmt} {Q : Flow → Pos → Shared → Prop} {E : Value → Pos → Shared → Prop} : ∀ (a : List Stmt) (p : Pos) (s : Shared),
    Sem.wp M Γ (execs a env) (fun f p' s' => match f with | .next => Sem.wp M Γ (execs b env) Q E p' s' | f => Q f p' s') E p s → Sem.wp M Γ (execs (a ++ b) env) Q E p s
  | [], p, s, h => h
  | st :: a, p, s, h => by
    rw [execs_cons, Sem.wp_bind'] at h
    rw [List.cons_append, execs_cons, Sem.wp_bind']
    refine Sem.wp_mono M Γ _ (fun f p' s' h' => ?_) (fun _ _ _ h' => h') _ _ h
    cases f with
    | next => exact execs_app_wp a p' s' h'
    | ret v => exact h'
    | brk => exact h'
    | cont => exact h'
theorem pss_app {a b : List Stmt} {t u : TS} (h1 : PSs X a t) (h2 : PSs X b u) : PSs X (a ++ b) (tSeq t u) := by
  refine ⟨fun pins s σ H D I h => ?_⟩
  intro Γ p hΓ
  refine execs_app_wp a p s ?_
  refine Sem.wp_mono _ Γ _ (fun f p' s1 q => ?_) (fun _ _ _ h' => h') _ _ (h1.run pins s σ H { D with nx := u D } I h Γ p hΓ)
  cases f with
  | next =>
    obtain ⟨σ', H', I', q⟩ := q
    exact h2.run pins s1 σ' H' D I' q Γ p' hΓ
  | ret v => exact q
  | brk => exact q
  | cont => exact q
theorem ss_app {a b : List Stmt} {ab : List Stmt} (e : ab = a ++ b) (h1 : SSs X a q) (h2 : SSs X b h) : SSs X ab (qSeq q h) := by
  subst e
  exact SSs.mk (pss_app h1 h2) fun D σ H Γ S μ r h1 h2 h3 k => by
    obtain ⟨⟨o, Γ1, S1⟩, e1, e2⟩ := bind_some h3
    refine ⟨Γ, S, μ, _, h1, h2, e1, ?_⟩
    cases o with
    | nx => exact fun σ' H' μ' g' r' x => ⟨Γ1, S1, μ', r, g', r', e2, k.after x⟩
    | bk => cases e2; exact k
    | ct => cases e2; exact k
    | rt d => cases e2; exact k
end
/-! ### the keys of a dict that nobody changes any more -/
def iKeysL (td : TE) : TI := fun σ H R => td σ H fun x H1 => ∃ d, x = .ref d ∧ ((∃ kvs, Rd H1 d (.dK kvs) ∧ ∀ o H2, (H2 = H1 ∨ (H1 d = some (.dK kvs) ∧ H2 = upd H1 d (.frz o (.dK kvs)))) → H2 d = some (.frz o (.dK kvs)) → R (Itk d o kvs) H2) ∨
  ∃ kvs, Rd H1 d (.dT kvs) ∧ ∀ o H2, (H2 = H1 ∨ (H1 d = some (.dT kvs) ∧ H2 = upd H1 d (.frz o (.dT kvs)))) → H2 d = some (.frz o (.dT kvs)) → R (Itkt d o kvs) H2)
section
variable {X : Cx} {tg e : Expr} {td : TE} {fa : FE}
theorem pi_keysL (he : PE X e td) : PI X tg e (iKeysL td) := by
  refine ⟨fun pins s σ H R I h => ?_⟩
  refine thn (he.run pins s σ H _ I h) fun u s1 ⟨x, H1, I1, rx, d, ex, q⟩ => ?_
  subst ex
  obtain rfl : u = Value.ref d := rx
  rcases q with ⟨kvs, hd, q⟩ | ⟨kvs, hd, q⟩
  · have lk : ∃ o H2, Inv X pins σ H2 s1 ∧ H2 d = some (.frz o (.dK kvs)) ∧ (H2 = H1 ∨ (H1 d = some (.dK kvs) ∧ H2 = upd H1 d (.frz o (.dK kvs)))) := by
      rcases hd with hd | ⟨o, hd⟩
      · obtain ⟨o, I2⟩ := I1.lock hd trivial
        exact ⟨o, _, I2, upd_same, .inr ⟨hd, rfl⟩⟩
      · exact ⟨o, H1, I1, hd, .inl rfl⟩
    obtain ⟨o, H2, I2, h2, h3⟩ := lk
    obtain ⟨hs, hgd, hx, es, ep, vs, hdt, hsz, kv, hm⟩ := I2.frzK h2
    refine iter_keys hs hgd hx hdt (pi_one (tk := s1.toks) I2 _ (turn_keys _ hdt) ⟨_, Heap.get?_push_size _ rfl, rfl, ?_⟩ (q o H2 h3 h2))
    rw [hsz] <;> rfl
  · have lk : ∃ o H2, Inv X pins σ H2 s1 ∧ H2 d = some (.frz o (.dT kvs)) ∧ (H2 = H1 ∨ (H1 d = some (.dT kvs) ∧ H2 = upd H1 d (.frz o (.dT kvs)))) := by
      rcases hd with hd | ⟨o, hd⟩
      · obtain ⟨o, I2⟩ := I1.lock hd trivial
        exact ⟨o, _, I2, upd_same, .inr ⟨hd, rfl⟩⟩
      · exact ⟨o, H1, I1, hd, .inl rfl⟩
    obtain ⟨o, H2, I2, h2, h3⟩ := lk
    obtain ⟨hs, hgd, hx, es, ep, hdt, hsz, ent⟩ := I2.frzT h2
    refine iter_keys hs hgd hx hdt (pi_one (tk := s1.toks) I2 _ (turn_keysT _ hdt) ⟨_, Heap.get?_push_size _ rfl, rfl, ?_⟩ (q o H2 h3 h2))
    rw [hsz] <;> rfl
/-- the keys, as data -/
def keysD : D → Option (List D)
  | .dkv ks _ => some (ks.map Key.d)
  | .dtv ks _ => some (ks.map fun k => .tup (k.map Key.d))
  | _ => none
def iKey (fa : FE) : FI := fun Γ S => (fa Γ S).bind fun p => (keysD p.1).map fun l => ((l, []), p.2)
theorem si_key (ha : SE X e fa) : SI X tg e (iKey fa) :=
  SI.mk (pi_keysL ha) fun σ H R Γ S μ il S1 g r h k => by
    obtain ⟨⟨d, S2⟩, h1, h2⟩ := bind_some h
    obtain ⟨l, h3, h4⟩ := map_some h2
    cases h4
    refine ⟨Γ, S, μ, d, S2, g, r, h1, fun v H1 μ1 r1 e1 rv => ?_⟩
    have fin : ∀ {a : Addr} {u : HO} {o : Obj} {H2 : Hp}, a ∉ μ1 → ((∃ ws, u = .dK ws) ∨ ∃ ws, u = .dT ws) → (H2 = H1 ∨ (H1 a = some u ∧ H2 = upd H1 a (.frz o u))) → RS X.K H2 μ1 S2 ∧ Ext X.K H1 μ1 H2 μ1 := fun {a u o H2} n hu hh => by
      rcases hh with rfl | ⟨hh, rfl⟩
      · exact ⟨r1, .refl⟩
      · exact relock o r1 n hh hu
    cases rv with
    | @dkv a ws ks vs z1 z2 z3 z4 =>
      cases h3
      refine ⟨a, rfl, .inl ⟨ws, z1, fun o H2 hh hf => ?_⟩⟩
      obtain ⟨rr, ee⟩ := fin z2 (.inl ⟨ws, rfl⟩) hh
      have hn : a ∉ μ1 := z2
      have le : (ks.map Key.d).length = ws.length := by rw [List.length_map, z3, List.length_map]
      refine k _ H2 μ1 rr (e1.trans ee) ⟨fun i H μ S hi r' e' _ => ⟨e'.fz _ _ _ hn hf, by rw [← le]; exact hi⟩, fun i H μ S x H' hi r' e' _ y => ?_, fun H μ S r' e' _ => ⟨e'.fz _ _ _ hn hf, by rw [le]; exact Nat.le_refl _⟩⟩
      obtain ⟨rfl, kk, vv, y1, rfl⟩ := y
      refine ⟨Same.refl _, Key.d kk, ?_, RV_key kk⟩
      rw [z3, List.map_map, List.getElem?_map, y1]
      rfl
    | @dtv a ws ks vs z1 z2 z3 z4 =>
      cases h3
      refine ⟨a, rfl, .inr ⟨ws, z1, fun o H2 hh hf => ?_⟩⟩
      obtain ⟨rr, ee⟩ := fin z2 (.inr ⟨ws, rfl⟩) hh
      have hn : a ∉ μ1 := z2
      have le : (ks.map fun k => D.tup (k.map Key.d)).length = ws.length := by rw [List.length_map, z3, List.length_map]
      refine k _ H2 μ1 rr (e1.trans ee) ⟨fun i H μ S hi r' e' _ => ⟨e'.fz _ _ _ hn hf, by rw [← le]; exact hi⟩, fun i H μ S x H' hi r' e' _ y => ?_, fun H μ S r' e' _ => ⟨e'.fz _ _ _ hn hf, by rw [le]; exact Nat.le_refl _⟩⟩
      obtain ⟨rfl, kk, vv, q, y1, rfl, y2⟩ := y
      refine ⟨Same.refl _, .tup (kk.map Key.d), ?_, .tup y2 (RVs_keys _)⟩
      rw [z3, List.map_map, List.getElem?_map, y1]
      rfl
    | _ => cases h3
end
/-! ### t.index(x) -/
def tBMU (r : V → List V → Hp → VK → Prop) (to : TE) (t : TA) : TE := fun σ H Q => to σ H fun x H1 => (∃ p o vs, x = .ref p ∧ o.dict = none ∧ H1 p = some (.frz o (.tup vs))) ∧ t σ H1 fun xs H2 => r x xs H2 Q
section
variable {X : Cx} {o e : Expr} {es : List Expr} {to : TE} {t : TA} {name : Str} {apos cpos : Pos} {id : String} {r : V → List V → Hp → VK → Prop} {fo : FE} {fs : List FE}
theorem tpu_is {pins : List (Addr × Obj)} {σ : L2.St} {H : Hp} {s : Shared} {p : Addr} {o : Obj} {vs : List V} (I : Inv X pins σ H s) (h : H p = some (.frz o (.tup vs))) (hd : o.dict = none) :
    s.TypeIs (.ref p) "tuple" ∧ ∀ a, Value.ref p = .ref a → ∃ ob, s.heap.get? a = some ob ∧ ob.dict = none := by
  obtain ⟨e1, _, its, _, ob, e2, c, _⟩ := (show ObjOk X.prog X.w H s.heap p (.frz o (.tup vs)) from I.hok p _ h)
  rw [e1] at e2
  cases e2
  exact ⟨⟨o, e1, c⟩, fun a e => by cases e; exact ⟨o, e1, hd⟩⟩
theorem pe_bmU (pa : PlainAttrs "tuple") (slot : Slot "tuple" name id) (hty : typeOf (.builtin id) = pure (.type "method_descriptor")) (hm : MtR X id r) (ho : PE X o to) (ha : PA X (e :: es) t)
    (hbase : attributeBase o name X.env (eval o X.env) = eval o X.env := by rfl)
    (hfew : ((backTo cpos (starEach (e :: es) X.env)).all (fun x => !x.1) && (backToKw cpos (keywordEach [] X.env)).all (fun x => x.1.isSome)
      && decide ((e :: es).length + ([] : List Keyword).length + (if ([] : List Keyword).isEmpty then 0 else 1) < 30)) = true := by rfl)
    (hline : (apos.endLine == cpos.line) = true := by rfl) (hs : starEach (e :: es) X.env = (false, eval e X.env) :: starEach es X.env := by rfl) (hplain : (backTo cpos (starEach es X.env)).any (·.1) = false := by rfl) :
    PE X (.Call (.Attribute o name apos) (e :: es) [] cpos) (tBMU r to t) := by
  refine ⟨fun pins s σ H Q I h => ?_⟩
  refine wpAny_Call_method_late hbase hfew hline rfl (thn (ho.run pins s σ H _ I h) fun v s1 ⟨x, H1, I1, r1, ty, q1⟩ => ?_)
  obtain ⟨p, ob, vs, rfl, hd, hp⟩ := ty
  cases r1
  obtain ⟨h1, h2⟩ := tpu_is I1 hp hd
  refine ⟨"tuple", id, pa, slot, hty, h1, h2, ?_⟩
  have hA := ha.run cpos pins s1 σ H1 _ I1 q1
  rw [hs] at hA ⊢
  refine Calls.callWith_builtin (by show (false || (backTo cpos (starEach es X.env)).any (·.1)) = false; rw [hplain] <;> rfl) (Calls.evalArgs_plain ?_)
  exact thn hA fun us s2 ⟨vs', H2, I2, r2, q2⟩ => hm pins s2 σ H2 (.ref p) vs' (.ref p) us Q I2 rfl r2 q2
def isTpu : D → Bool
  | .tpu _ => true
  | _ => false
def eMethU (F : FM) (fo : FE) (fs : List FE) : FE := fun Γ S => (fo Γ S).bind fun p => if isTpu p.1 = true then (args fs Γ p.2).bind fun q => F p.1 q.1 q.2 else none
theorem se_bmU {F : FM} (pa : PlainAttrs "tuple") (slot : Slot "tuple" name id) (hty : typeOf (.builtin id) = pure (.type "method_descriptor")) (hm : MtR X id r) (hf : MD X.K r F) (ho : SE X o fo) (ha : SA X (e :: es) (args fs))
    (hbase : attributeBase o name X.env (eval o X.env) = eval o X.env := by rfl)
    (hfew : ((backTo cpos (starEach (e :: es) X.env)).all (fun x => !x.1) && (backToKw cpos (keywordEach [] X.env)).all (fun x => x.1.isSome)
      && decide ((e :: es).length + ([] : List Keyword).length + (if ([] : List Keyword).isEmpty then 0 else 1) < 30)) = true := by rfl)
    (hline : (apos.endLine == cpos.line) = true := by rfl) (hs : starEach (e :: es) X.env = (false, eval e X.env) :: starEach es X.env := by rfl) (hplain : (backTo cpos (starEach es X.env)).any (·.1) = false := by rfl) :
    SE X (.Call (.Attribute o name apos) (e :: es) [] cpos) (eMethU F fo fs) :=
  SE.mk (pe_bmU pa slot hty hm ho ha hbase hfew hline hs hplain) fun σ H Q Γ S μ d S' g r h k => by
    obtain ⟨⟨y, S1⟩, h1, h2⟩ := bind_some h
    simp only at h2
    split at h2
    · rename_i hc
      obtain ⟨⟨ys, S2⟩, h3, h4⟩ := bind_some h2
      refine ⟨Γ, S, μ, y, S1, g, r, h1, fun v H' μ' r' e' rv => ⟨?_, Γ, S1, μ', ys, S2, g.ext e', r', h3, fun vs H2 μ2 r2 e2 rvs => hf H2 S2 μ2 v y vs ys d S' Q r2 (rv.ext e2) rvs h4 (k.after (e'.trans e2))⟩⟩
      cases rv with
      | tpu z1 z2 z3 => exact ⟨_, _, _, rfl, z2, z1⟩
      | _ => cases hc
    · cases h2
def allStr : List D → Option (List Str)
  | [] => some []
  | .str z :: r => (allStr r).map (z :: ·)
  | _ :: _ => none
def idxS (z : Str) : List Str → Nat → Option Nat
  | [], _ => none
  | y :: r, j => if y = z then some j else idxS z r (j + 1)
theorem idxS_spec (z : Str) : ∀ (l : List Str) (i j : Nat), idxS z l i = some j → i ≤ j ∧ l[j - i]? = some z ∧ ∀ m, m < j - i → l[m]? ≠ some z
  | [], _, _, h => by cases h
  | y :: r, i, j, h => by
    unfold idxS at h
    split at h
    · rename_i hc
      cases h
      refine ⟨Nat.le_refl _, by simp [hc], fun m hm => absurd hm (by omega)⟩
    · rename_i hc
      obtain ⟨h1, h2, h3⟩ := idxS_spec z r (i + 1) j h
      have e : j - i = (j - (i + 1)) + 1 := by omega
      refine ⟨by omega, by rw [e]; simpa using h2, fun m hm => ?_⟩
      cases m with
      | zero => simpa using hc
      | succ m => simpa using h3 m (by omega)
theorem RVs.strs {K : PySem.W.Frag} {H : Hp} {μ : List Addr} : ∀ {ds : List D} {vs : List V} {ys : List Str}, RVs K H μ ds vs → allStr ds = some ys → vs = ys.map V.str := by
  intro ds
  induction ds with
  | nil => intro vs ys r h; cases r; cases h; rfl
  | cons d ds ih =>
    intro vs ys r h
    cases r with
    | cons rv rr =>
      cases d with
      | str z =>
        simp only [allStr] at h
        obtain ⟨y, h1, h2⟩ := map_some h
        cases h2
        cases rv
        rw [ih rr h1]; rfl
      | _ => simp only [allStr] at h; cases h
def mIndexT : FM := fun x ds S => match rdT x, ds with
  | some l, [.str z] => (allStr l).bind fun ys => (idxS z ys 0).map fun j => (.int (j : Nat), S)
  | _, _ => none
theorem md_indexT {K : PySem.W.Frag} : MD K (fun x xs H Q => ∃ p, ∃ ys : List Str, ∃ z j, x = .ref p ∧ xs = [.str z] ∧ SqT K H p (ys.map V.str) ∧ ys[j]? = some z ∧ (∀ m, m < j → ys[m]? ≠ some z) ∧ Q (.int (j : Nat)) H) mIndexT := by
  intro H S μ x dx xs ds d S' Q r rv rvs h k
  unfold mIndexT at h
  split at h
  · rename_i l z hl
    obtain ⟨ys, h1, h2⟩ := bind_some h
    obtain ⟨j, h3, h4⟩ := map_some h2
    cases h4
    obtain ⟨_, i2, i3⟩ := idxS_spec z ys 0 j h3
    obtain ⟨v, rfl, ry⟩ := rvs.one
    cases ry
    obtain ⟨a, vs, rfl, q1, q2⟩ := rdT_of rv hl
    have e := q2.strs h1
    subst e
    exact ⟨a, ys, z, j, rfl, rfl, q1, by simpa using i2, fun m hm => i3 m (by simpa using hm), k _ H μ r .refl (.int _)⟩
  · cases h
end
/-! ### a def: its result read out -/
def runE (np n : Nat) (body : FS) : FF := fun ds S => if ds.length = np then (body (ds.map some ++ List.replicate (n - np) none) S).bind fun r => match r.1 with
  | .nx => some (fin3 S.length (.non, r.2.2))
  | .rt d => some (fin3 S.length (d, r.2.2))
  | _ => none else none
section
variable {P : Program} {w : World} {K : PySem.W.Frag} {mg : Str → Option Value} {base : Heap}
theorem fn_g {x qual : Str} {st : Stmt} {f : Addr} {fd : FuncData} {N ps : List Str} {k : Nat} {body : FS} (F : Fun K x qual st f fd) (S : FnScope N ps (defScope st))
    (hb : ∀ (cdv : Value) (A : Around) (outer : List Env) (s : Shared) (H : Hp) (E : XK), Room k (A.deeper (envOfC qual (defScope st) s.heap.objs.size f cdv)) → SSs (CxD P w K mg base N qual (defScope st) f cdv A outer s H E) (defBody st) body) :
    FnOk P w K mg base CX0 (k + 1) f fd ps (spD K (runE ps.length N.length body)) := by
  refine F.ok S (fun vs H Q E h => ?_) (fun cdv A outer s H vs Q E hr h => ⟨_, hb cdv A outer s H E hr, ?_⟩)
  · obtain ⟨ds, S, μ, d, S', h1, h2, h3, k⟩ := h
    unfold runE at h3
    split at h3
    · rename_i hl
      rw [← h1.length, hl]
    · cases h3
  · obtain ⟨ds, S, μ, d, S', h1, h2, h3, k⟩ := h
    unfold runE at h3
    split at h3
    · rename_i hl
      obtain ⟨⟨o, Γ1, S1⟩, e1, e2⟩ := bind_some h3
      have hv : N.length - vs.length = N.length - ps.length := by rw [← h1.length, hl]
      refine ⟨_, S, μ, _, ?_, h2, e1, ?_⟩
      · unfold L2.start
        rw [hv]
        exact RG.start h1 _
      · cases o with
        | nx =>
          intro σ' H' μ' g' r' x'
          obtain ⟨μ2, a1, a2, a3⟩ := fin3_ok h2 r' x' (.non : RV K H' μ' .non .non)
          have e3 := Option.some.inj e2
          simp only at e3
          rw [e3] at a1 a3
          exact k _ H' μ2 a1 a2 a3
        | rt d' =>
          intro v H' μ' r' x' rv
          obtain ⟨μ2, a1, a2, a3⟩ := fin3_ok h2 r' x' rv
          have e3 := Option.some.inj e2
          simp only at e3
          rw [e3] at a1 a3
          exact k _ H' μ2 a1 a2 a3
        | bk => cases e2
        | ct => cases e2
    · cases h3
theorem fn_h {x qual : Str} {st : Stmt} {f : Addr} {fd : FuncData} {N ps : List Str} {k np n : Nat} {body : FS} {FF0 : FF} (hF : FF0 = runE np n body) (hp : ps.length = np) (hn : N.length = n) (F : Fun K x qual st f fd) (S : FnScope N ps (defScope st))
    (hb : ∀ (cdv : Value) (A : Around) (outer : List Env) (s : Shared) (H : Hp) (E : XK), Room k (A.deeper (envOfC qual (defScope st) s.heap.objs.size f cdv)) → SSs (CxD P w K mg base N qual (defScope st) f cdv A outer s H E) (defBody st) body) :
    FnOk P w K mg base CX0 (k + 1) f fd ps (spD K FF0) := by
  subst hF hp hn
  exact fn_g F S hb
end
end Dl

/-! DlM: reading programs on data -/
namespace Dl
open PySem PySem.Spec PyProof.Rows L2
/-! ### data without cells -/
mutual
def D.nc : D → Bool
  | .tup l => D.ncs l
  | .lst l => D.ncs l
  | .tpu l => D.ncs l
  | .rov l => D.ncs l
  | .dkv _ l => D.ncs l
  | .dtv _ l => D.ncs l
  | .loc _ => false
  | .non => true
  | .bl _ => true
  | .int _ => true
  | .str _ => true
def D.ncs : List D → Bool
  | [] => true
  | d :: r => D.nc d && D.ncs r
end
mutual
theorem nc_lo (n : Nat) : ∀ d : D, d.nc = true → d.lo n = true
  | .non, _ => by rw [D.lo]
  | .bl _, _ => by rw [D.lo]
  | .int _, _ => by rw [D.lo]
  | .str _, _ => by rw [D.lo]
  | .loc _, h => by rw [D.nc] at h; cases h
  | .tup l, h => by rw [D.nc] at h; rw [D.lo]; exact ncs_lo n l h
  | .lst l, h => by rw [D.nc] at h; rw [D.lo]; exact ncs_lo n l h
  | .tpu l, h => by rw [D.nc] at h; rw [D.lo]; exact ncs_lo n l h
  | .rov l, h => by rw [D.nc] at h; rw [D.lo]; exact ncs_lo n l h
  | .dkv _ l, h => by rw [D.nc] at h; rw [D.lo]; exact ncs_lo n l h
  | .dtv _ l, h => by rw [D.nc] at h; rw [D.lo]; exact ncs_lo n l h
theorem ncs_lo (n : Nat) : ∀ l : List D, D.ncs l = true → D.los n l = true
  | [], _ => by rw [D.los]
  | d :: r, h => by
    rw [D.ncs, Bool.and_eq_true] at h
    rw [D.los, nc_lo n d h.1, ncs_lo n r h.2]
    rfl
end
theorem ncs_all : ∀ l : List D, D.ncs l = l.all D.nc
  | [] => rfl
  | d :: r => by rw [D.ncs, ncs_all r, List.all_cons]
theorem ncs_map {α : Type} (f : α → D) (h : ∀ x, (f x).nc = true) (l : List α) : D.ncs (l.map f) = true := by
  rw [ncs_all, List.all_map]
  exact List.all_eq_true.mpr fun x _ => h x
def Cell.flat : Cell → Bool
  | .lst l => D.ncs l
  | .ro _ => false
  | .dk l => D.ncs (l.map (·.2))
  | .dt l => D.ncs (l.map (·.2))
  | .dkf _ => false
  | .dtf _ => false
theorem flat_lo {c : Cell} (n : Nat) (h : c.flat = true) : c.lo n = true := by
  cases c with
  | lst l => exact ncs_lo n _ h
  | dk l => exact ncs_lo n _ h
  | dt l => exact ncs_lo n _ h
  | ro l => cases h
  | dkf l => cases h
  | dtf l => cases h
/-- a store whose cells hold nothing that is new behind it -/
def Cls (n : Nat) (S : Sto) : Prop := ∀ c ∈ S, c.isRo = false ∧ c.lo n = true
abbrev Flat (S : Sto) : Prop := Cls S.length S
theorem cl_flat {c : Cell} (n : Nat) (h : c.flat = true) : c.isRo = false ∧ c.lo n = true := ⟨by (cases c <;> first | rfl | cases h), flat_lo n h⟩
theorem Cls.set {n : Nat} {S : Sto} (h : Cls n S) (k : Nat) {c : Cell} (hc : c.flat = true) : Cls n (S.set k c) := fun x hx => by
  rcases List.mem_or_eq_of_mem_set hx with q | q
  · exact h x q
  · rw [q]; exact cl_flat n hc
theorem Cls.setF {S : Sto} (h : Flat S) (k : Nat) {c : Cell} (hc : c.flat = true) : Flat (S.set k c) := by
  unfold Flat
  rw [List.length_set]
  exact h.set k hc
mutual
theorem lo_mono {n m : Nat} (h : n ≤ m) : ∀ d : D, d.lo n = true → d.lo m = true
  | .non, _ => by rw [D.lo]
  | .bl _, _ => by rw [D.lo]
  | .int _, _ => by rw [D.lo]
  | .str _, _ => by rw [D.lo]
  | .loc k, q => by rw [D.lo] at q ⊢; exact decide_eq_true (Nat.lt_of_lt_of_le (of_decide_eq_true q) h)
  | .tup l, q => by rw [D.lo] at q ⊢; exact los_mono h l q
  | .lst l, q => by rw [D.lo] at q ⊢; exact los_mono h l q
  | .tpu l, q => by rw [D.lo] at q ⊢; exact los_mono h l q
  | .rov l, q => by rw [D.lo] at q ⊢; exact los_mono h l q
  | .dkv _ l, q => by rw [D.lo] at q ⊢; exact los_mono h l q
  | .dtv _ l, q => by rw [D.lo] at q ⊢; exact los_mono h l q
theorem los_mono {n m : Nat} (h : n ≤ m) : ∀ l : List D, D.los n l = true → D.los m l = true
  | [], _ => by rw [D.los]
  | d :: r, q => by
    rw [D.los, Bool.and_eq_true] at q ⊢
    exact ⟨lo_mono h d q.1, los_mono h r q.2⟩
end
theorem clo_mono {n m : Nat} (h : n ≤ m) {c : Cell} (q : c.lo n = true) : c.lo m = true := by cases c <;> exact los_mono h _ q
theorem Cls.mono {n m : Nat} {S : Sto} (h : Cls n S) (k : n ≤ m) : Cls m S := fun c hc => ⟨(h c hc).1, clo_mono k (h c hc).2⟩
theorem Cls.app {S : Sto} (h : Flat S) {c : Cell} (hc : c.flat = true) : Flat (S ++ [c]) := fun x hx => by
  rcases List.mem_append.mp hx with q | q
  · exact (h.mono (by simp)) x q
  · rw [List.mem_singleton.mp q]; exact cl_flat _ hc
theorem Cls.ro {n : Nat} {S : Sto} (h : Cls n S) (b : Nat) (T : Sto) (hb : b = S.length) : noRo b (S ++ T) = true := by
  subst hb
  unfold noRo
  rw [List.take_left]
  exact List.all_eq_true.mpr fun c hc => by simp [(h c hc).1]
theorem Cls.rd {S : Sto} {b : Nat} (h : Cls b S) (hb : b = S.length) (T : Sto) : rds b (S ++ T) = some S := by
  unfold rds
  have e : (S ++ T).take b = S := by rw [hb, List.take_left]
  rw [e, if_pos (List.all_eq_true.mpr fun c hc => (h c hc).2)]
theorem rdo_lo {b : Nat} {S : Sto} {k : Nat} {d : D} (h : d.lo b = true) : rdo b S (k + 1) d = some d := by unfold rdo; rw [if_pos h]
theorem mapO_lo {b : Nat} {S : Sto} {k : Nat} : ∀ {l : List D}, D.los b l = true → mapO (rdo b S (k + 1)) l = some l
  | [], _ => rfl
  | d :: l, h => by
    rw [D.los, Bool.and_eq_true] at h
    rw [mapO, rdo_lo h.1, Option.bind_some, mapO_lo h.2]
    rfl
theorem rdo_tup {b : Nat} {S : Sto} {k : Nat} {l l' : List D} (h : mapO (rdo b S (k + 1)) l = some l') : rdo b S (k + 2) (.tup l) = some (.tup l') := by
  unfold rdo
  by_cases q : D.lo b (.tup l) = true
  · rw [if_pos q]
    rw [D.lo] at q
    rw [mapO_lo q] at h
    cases h
    rfl
  · rw [if_neg q]
    simp only [h]
    rfl
theorem rdo_lst {b : Nat} {S : Sto} {k m : Nat} {l l' : List D} (hm : b ≤ m) (hS : S[m]? = some (.lst l)) (h : mapO (rdo b S k) l = some l') : rdo b S (k + 1) (.loc m) = some (.lst l') := by
  unfold rdo
  rw [if_neg (by rw [D.lo]; simpa using hm)]
  simp only [hS, h]
  rfl
theorem rdo_dt {b : Nat} {S : Sto} {k m : Nat} {l : List (List Key × D)} {l' : List D} (hm : b ≤ m) (hS : S[m]? = some (.dt l)) (h : mapO (rdo b S k) (l.map (·.2)) = some l') : rdo b S (k + 1) (.loc m) = some (.dtv (l.map (·.1)) l') := by
  unfold rdo
  rw [if_neg (by rw [D.lo]; simpa using hm)]
  simp only [hS, h]
  rfl
theorem rdo_dk {b : Nat} {S : Sto} {k m : Nat} {l : List (Key × D)} {l' : List D} (hm : b ≤ m) (hS : S[m]? = some (.dk l)) (h : mapO (rdo b S k) (l.map (·.2)) = some l') : rdo b S (k + 1) (.loc m) = some (.dkv (l.map (·.1)) l') := by
  unfold rdo
  rw [if_neg (by rw [D.lo]; simpa using hm)]
  simp only [hS, h]
  rfl
/-- the general form: the base S as it stands behind, T new -/
theorem fin3_of {b : Nat} {S T : Sto} {d d' : D} (hS : Cls b S) (hb : b = S.length) (h : rdo b (S ++ T) 5 d = some d') : fin3 b (d, S ++ T) = (d', S) := by
  unfold fin3
  rw [if_pos (hS.ro b T hb)]
  simp only [hS.rd hb T, h]
theorem fin3_lo {b : Nat} {S T : Sto} {d : D} (hS : Cls b S) (hb : b = S.length) (h : d.lo b = true) : fin3 b (d, S ++ T) = (d, S) := fin3_of hS hb (rdo_lo h)
theorem fin3_same {b : Nat} {S : Sto} {d : D} (hS : Cls b S) (hb : b = S.length) (h : d.lo b = true) : fin3 b (d, S) = (d, S) := by
  have := fin3_lo (T := []) hS hb h
  rwa [List.append_nil] at this
theorem fin3_lst {b j : Nat} {S T : Sto} {l : List D} (hS : Cls b S) (hb : b = S.length) (hT : T[j]? = some (.lst l)) (h : D.los b l = true) : fin3 b (.loc (b + j), S ++ T) = (.lst l, S) :=
  fin3_of hS hb (rdo_lst (by omega) (by rw [List.getElem?_append_right (by omega), ← hT]; congr 1; omega) (mapO_lo h))
theorem fin3_new {b : Nat} {S : Sto} {l : List D} (hS : Cls b S) (hb : b = S.length) (h : D.los b l = true) : fin3 b (.loc S.length, S ++ [.lst l]) = (.lst l, S) := by
  have := fin3_lst (T := [.lst l]) (j := 0) hS hb rfl h
  rw [Nat.add_zero] at this
  rw [← hb]
  exact this
theorem fin3_dkn {b : Nat} {S : Sto} {l : List (Key × D)} (hS : Cls b S) (hb : b = S.length) (h : D.los b (l.map (·.2)) = true) : fin3 b (.loc S.length, S ++ [.dk l]) = (.dkv (l.map (·.1)) (l.map (·.2)), S) :=
  fin3_of hS hb (by rw [hb]; exact rdo_dk (by omega) (by simp) (mapO_lo (by rw [← hb]; exact h)))
theorem fin3_dtn {b : Nat} {S : Sto} {l : List (List Key × D)} (hS : Cls b S) (hb : b = S.length) (h : D.los b (l.map (·.2)) = true) : fin3 b (.loc S.length, S ++ [.dt l]) = (.dtv (l.map (·.1)) (l.map (·.2)), S) :=
  fin3_of hS hb (by rw [hb]; exact rdo_dt (by omega) (by simp) (mapO_lo (by rw [← hb]; exact h)))
/-! ### the store -/
theorem get_app {S : Sto} {n : Nat} {c : Cell} (T : Sto) (h : S[n]? = some c) : (S ++ T)[n]? = some c := by
  rw [List.getElem?_append_left (List.getElem?_eq_some_iff.mp h).1]; exact h
theorem get_end (S T : Sto) (c : Cell) : (S ++ c :: T)[S.length]? = some c := by simp
theorem set_end (S T : Sto) (c c' : Cell) : (S ++ c :: T).set S.length c' = S ++ c' :: T := by
  rw [List.set_append_right _ _ (Nat.le_refl _), Nat.sub_self]; rfl
theorem set_app {S : Sto} {n : Nat} (T : Sto) (c : Cell) (h : n < S.length) : (S ++ T).set n c = S.set n c ++ T := List.set_append_left _ _ h
theorem lt_get {S : Sto} {n : Nat} {c : Cell} (h : S[n]? = some c) : n < S.length := (List.getElem?_eq_some_iff.mp h).1
theorem get_set {S : Sto} {n : Nat} {c : Cell} (c' : Cell) (h : S[n]? = some c) : (S.set n c')[n]? = some c' := List.getElem?_set_self (lt_get h)
/-! ### sizes -/
theorem log_of {x k : Nat} (h : x < 2 ^ (k + 1)) : x.log2 ≤ k := by
  rcases Nat.eq_zero_or_pos x with e | e
  · subst e; simp
  · exact Nat.le_of_lt_succ ((Nat.log2_lt (by omega)).mpr h)
def Big (x : Int) : Prop := x.natAbs < 2 ^ 250
theorem mul_big {i j : Int} (h : Big i) (h' : Big j) : mulOk i j = true := by
  have a := log_of (k := 249) h
  have b := log_of (k := 249) h'
  have : i.natAbs.log2 + j.natAbs.log2 < 1000000 := by omega
  unfold mulOk
  rw [decide_eq_true this, Bool.or_true]
theorem fdv_big {j : Int} (h : Big j) : j.natAbs.log2 < 9000 := by
  have a := log_of (k := 249) h
  omega
theorem big_of {x : Int} {k : Nat} (h : x.natAbs < 2 ^ k) (hk : k ≤ 250) : Big x := Nat.lt_of_lt_of_le h (Nat.pow_le_pow_right (by decide) hk)
theorem small_of {x : Int} (h1 : 0 ≤ x) (h2 : x < 2 ^ 249) : Big x := by
  have : x.natAbs < 2 ^ 249 := by omega
  exact big_of this (by decide)
/-! ### loops -/
/-- a for loop that runs to its end -/
theorem forL_inv {t : FG} {body : FS} {lk : Lk} (its : List D) (I : Nat → Ctx → Sto → Prop) (hl : ∀ i Γ S, i ≤ its.length → I i Γ S → Lkd lk S)
    (hs : ∀ i d Γ S, its[i]? = some d → I i Γ S → ∃ Γ1, t d Γ S = some Γ1 ∧ ∃ Γ2 S2, body Γ1 S = some (.nx, Γ2, S2) ∧ I (i + 1) Γ2 S2) {Γ : Ctx} {S : Sto} (h0 : I 0 Γ S) :
    ∃ Γ' S', forL t body lk its Γ S = some (.nx, Γ', S') ∧ I its.length Γ' S' := by
  induction its generalizing I Γ S with
  | nil =>
    refine ⟨Γ, S, ?_, h0⟩
    rw [forL, if_pos (hl 0 Γ S (Nat.le_refl _) h0)]
  | cons d r ih =>
    obtain ⟨Γ1, e1, Γ2, S2, e2, h2⟩ := hs 0 d Γ S rfl h0
    obtain ⟨Γ', S', e3, h3⟩ := ih (fun i Γ S => I (i + 1) Γ S) (fun i Γ S hi h => hl (i + 1) Γ S (by simpa using hi) h) (fun i d Γ S hd h => hs (i + 1) d Γ S (by simpa using hd) h) h2
    refine ⟨Γ', S', ?_, h3⟩
    rw [forL, if_pos (hl 0 Γ S (Nat.zero_le _) h0), e1, Option.bind_some, e2, Option.bind_some]
    exact e3
/-- a for loop that may be broken off -/
theorem forL_brk {t : FG} {body : FS} {lk : Lk} (its : List D) (I : Nat → Ctx → Sto → Prop) (Q : Ctx → Sto → Prop) (hl : ∀ i Γ S, i ≤ its.length → I i Γ S → Lkd lk S)
    (hs : ∀ i d Γ S, its[i]? = some d → I i Γ S → ∃ Γ1, t d Γ S = some Γ1 ∧ ∃ Γ2 S2, (body Γ1 S = some (.nx, Γ2, S2) ∧ I (i + 1) Γ2 S2) ∨ (body Γ1 S = some (.bk, Γ2, S2) ∧ Q Γ2 S2))
    (hq : ∀ Γ S, I its.length Γ S → Q Γ S) {Γ : Ctx} {S : Sto} (h0 : I 0 Γ S) :
    ∃ Γ' S', forL t body lk its Γ S = some (.nx, Γ', S') ∧ Q Γ' S' := by
  induction its generalizing I Γ S with
  | nil =>
    refine ⟨Γ, S, ?_, hq Γ S h0⟩
    rw [forL, if_pos (hl 0 Γ S (Nat.le_refl _) h0)]
  | cons d r ih =>
    obtain ⟨Γ1, e1, Γ2, S2, h2⟩ := hs 0 d Γ S rfl h0
    rcases h2 with ⟨e2, h2⟩ | ⟨e2, h2⟩
    · obtain ⟨Γ', S', e3, h3⟩ := ih (fun i Γ S => I (i + 1) Γ S) (fun i Γ S hi h => hl (i + 1) Γ S (by simpa using hi) h) (fun i d Γ S hd h => hs (i + 1) d Γ S (by simpa using hd) h) (fun Γ S h => hq Γ S h) h2
      refine ⟨Γ', S', ?_, h3⟩
      rw [forL, if_pos (hl 0 Γ S (Nat.zero_le _) h0), e1, Option.bind_some, e2, Option.bind_some]
      exact e3
    · refine ⟨Γ2, S2, ?_, h2⟩
      rw [forL, if_pos (hl 0 Γ S (Nat.zero_le _) h0), e1, Option.bind_some, e2, Option.bind_some]
theorem lkd_nil (S : Sto) : Lkd [] S := fun p hp => absurd hp (by simp)
theorem lkd_one {S : Sto} {n : Nat} {c : Cell} (h : S[n]? = some c) : Lkd [(n, c)] S := fun p hp => by
  rw [List.mem_singleton.mp hp]
  exact h
/-- a list comprehension whose element and tests leave the store alone -/
theorem lc_pure {it : FI} {g : FG} {ts : FT} {el : FE} {vs : List Nat} {Γ : Ctx} {S S1 : Sto} {its : List D} {lk : Lk} (f : D → Option D) (h1 : it Γ S = some ((its, lk), S1)) (hlk : Lkd lk S1) (hz : its.length < sizeLine)
    (h : ∀ d ∈ its, ∀ acc, ∃ Γ1, g d (wipeD Γ vs) (S1 ++ [.lst acc]) = some Γ1 ∧ ((f d = none ∧ ts Γ1 (S1 ++ [.lst acc]) = some (false, S1 ++ [.lst acc])) ∨ (∃ y, f d = some y ∧ ts Γ1 (S1 ++ [.lst acc]) = some (true, S1 ++ [.lst acc]) ∧ el Γ1 (S1 ++ [.lst acc]) = some (y, S1 ++ [.lst acc])))) :
    eLc it g ts el vs Γ S = some (.loc S1.length, S1 ++ [.lst (its.filterMap f)]) := by
  have key : ∀ (r : List D) (acc : List D), (∀ d ∈ r, d ∈ its) → acc.length + r.length < sizeLine + 0 → lcL g ts el vs S1.length lk r Γ (S1 ++ [.lst acc]) = some (S1 ++ [.lst (acc ++ r.filterMap f)]) := by
    intro r
    induction r with
    | nil =>
      intro acc _ _
      have : Lkd lk (S1 ++ [.lst acc]) := fun p hp => get_app _ (hlk p hp)
      rw [lcL, if_pos this]
      simp
    | cons d r ih =>
      intro acc hm hz'
      have hL : Lkd lk (S1 ++ [.lst acc]) := fun p hp => get_app _ (hlk p hp)
      obtain ⟨Γ1, e1, h2⟩ := h d (hm d (by simp)) acc
      rw [lcL, if_pos hL, e1, Option.bind_some]
      rcases h2 with ⟨e2, e3⟩ | ⟨y, e2, e3, e4⟩
      · rw [e3, Option.bind_some, if_neg Bool.false_ne_true, ih acc (fun d hd => hm d (by simp [hd])) (by simp only [List.length_cons] at hz'; omega), List.filterMap_cons, e2]
      · rw [e3, Option.bind_some, if_pos rfl, e4, Option.bind_some]
        simp only [get_end, set_end]
        rw [if_pos (by simp only [List.length_cons] at hz'; omega), ih (acc ++ [y]) (fun d hd => hm d (by simp [hd])) (by simp only [List.length_cons, List.length_append, List.length_nil] at hz' ⊢; omega), List.filterMap_cons, e2]
        simp
  unfold eLc
  rw [h1, Option.bind_some]
  simp only
  rw [key its [] (fun _ h => h) (by simpa using hz)]
  rfl
/-! ### equality of atoms -/
theorem eq_int (a b : Int) (S : Sto) : oEq (.int a) (.int b) S = some (.bl (a == b), S) := by
  simp [oEq, eqB, py1, D.pure, D.py, SeqAt.shaped, PyData.canLay0, PyData.depth, PyData.eqv]
theorem ne_int (a b : Int) (S : Sto) : oNe (.int a) (.int b) S = some (.bl (!(a == b)), S) := by
  simp [oNe, eqB, py1, D.pure, D.py, SeqAt.shaped, PyData.canLay0, PyData.depth, PyData.eqv]
theorem eq_str {a b : Str} (ha : PyData.strOk a = true) (hb : PyData.strOk b = true) (S : Sto) : oEq (.str a) (.str b) S = some (.bl (a == b), S) := by
  simp [oEq, eqB, py1, D.pure, D.py, SeqAt.shaped, PyData.canLay0, PyData.depth, PyData.eqv, ha, hb]
theorem ne_str {a b : Str} (ha : PyData.strOk a = true) (hb : PyData.strOk b = true) (S : Sto) : oNe (.str a) (.str b) S = some (.bl (!(a == b)), S) := by
  simp [oNe, eqB, py1, D.pure, D.py, SeqAt.shaped, PyData.canLay0, PyData.depth, PyData.eqv, ha, hb]
end Dl

/-! DlN: steps of a program on data -/
namespace Dl
open PySem PySem.Spec PyProof.Rows L2
section
variable {Γ Γ1 Γ2 : Ctx} {S S1 S2 S3 : Sto} {fa fb fc fo fi f : FE} {fs : List FE} {x y z d : D} {ds : List D} {i n : Nat} {g h : FT} {b : Bool} {o : O2} {F : FF} {s t : FS} {r : Option (Out × Ctx × Sto)}
theorem ev_c : eC d Γ S = some (d, S) := rfl
theorem ev_v (h : Γ[i]? = some (some d)) : eVar i Γ S = some (d, S) := by rw [eVar, h]
theorem ev_b (h1 : fa Γ S = some (x, S1)) (h2 : fb Γ S1 = some (y, S2)) (h3 : o x y S2 = some (z, S3)) : eBin o fa fb Γ S = some (z, S3) := by
  rw [eBin, h1, Option.bind_some, h2, Option.bind_some, h3]
theorem ev_u {o : D → Option D} (h1 : fa Γ S = some (x, S1)) (h2 : o x = some z) : eUn o fa Γ S = some (z, S1) := by
  rw [eUn, h1, Option.bind_some, h2]; rfl
theorem ar_0 : args [] Γ S = some ([], S) := rfl
theorem ar_1 (h1 : f Γ S = some (d, S1)) (h2 : args fs Γ S1 = some (ds, S2)) : args (f :: fs) Γ S = some (d :: ds, S2) := by
  rw [args, h1, Option.bind_some, h2]; rfl
theorem ev_f (h1 : args fs Γ S = some (ds, S1)) (h2 : F ds S1 = some (z, S2)) : eCall F fs Γ S = some (z, S2) := by
  rw [eCall, h1, Option.bind_some, h2]
theorem ev_t (h1 : args fs Γ S = some (ds, S1)) : eTup fs Γ S = some (.tup ds, S1) := by rw [eTup, h1]; rfl
theorem ev_l (h1 : args fs Γ S = some (ds, S1)) : eLst fs Γ S = some (.loc S1.length, S1 ++ [.lst ds]) := by rw [eLst, h1]; rfl
theorem ev_iT (h1 : g Γ S = some (true, S1)) (h2 : fa Γ S1 = some (z, S2)) : eIf g fa fb Γ S = some (z, S2) := by
  rw [eIf, h1, Option.bind_some, if_pos rfl, h2]
theorem ev_iF (h1 : g Γ S = some (false, S1)) (h2 : fb Γ S1 = some (z, S2)) : eIf g fa fb Γ S = some (z, S2) := by
  rw [eIf, h1, Option.bind_some, if_neg Bool.false_ne_true, h2]
theorem ev_m {T : String} {F : FM} (h1 : fo Γ S = some (x, S1)) (h2 : tyD T S1 x = true) (h3 : args fs Γ S1 = some (ds, S2)) (h4 : F x ds S2 = some (z, S3)) : eMeth T F fo fs Γ S = some (z, S3) := by
  rw [eMeth, h1, Option.bind_some]
  simp only
  rw [if_pos h2, h3, Option.bind_some, h4]
theorem ev_s {lo hi : FO} {l u : Option Int} (h1 : fa Γ S = some (x, S1)) (h2 : lo Γ S1 = some (l, S2)) (h3 : hi Γ S2 = some (u, S3)) {p : D × Sto} (h4 : oSl x l u S3 = some p) : eSl fa lo hi Γ S = some p := by
  rw [eSl, h1, Option.bind_some, h2, Option.bind_some, h3, Option.bind_some, h4]
theorem ev_p {k : Int} (h : fa Γ S = some (.int k, S1)) : oPart fa Γ S = some (some k, S1) := by rw [oPart, h]; rfl
theorem ev_n : oNo Γ S = some (none, S) := rfl
theorem ev_andT (h1 : fa Γ S = some (.bl true, S1)) (h2 : fb Γ S1 = some (z, S2)) : eAnd fa fb Γ S = some (z, S2) := by
  rw [eAnd, h1, Option.bind_some]; exact h2
theorem ev_andF (h1 : fa Γ S = some (.bl false, S1)) : eAnd fa fb Γ S = some (.bl false, S1) := by
  rw [eAnd, h1, Option.bind_some]
theorem ch_T {o o' : O2} {w : D} {S4 S5 : Sto} (h1 : fa Γ S = some (x, S1)) (h2 : fb Γ S1 = some (y, S2)) (h3 : o x y S2 = some (.bl true, S3)) (h4 : fc Γ S3 = some (z, S4)) (h5 : o' y z S4 = some (w, S5)) : eChain o o' fa fb fc Γ S = some (w, S5) := by
  rw [eChain, h1, Option.bind_some, h2, Option.bind_some, h3, Option.bind_some]
  simp only
  rw [h4, Option.bind_some, h5]
theorem ch_F {o o' : O2} (h1 : fa Γ S = some (x, S1)) (h2 : fb Γ S1 = some (y, S2)) (h3 : o x y S2 = some (.bl false, S3)) : eChain o o' fa fb fc Γ S = some (.bl false, S3) := by
  rw [eChain, h1, Option.bind_some, h2, Option.bind_some, h3, Option.bind_some]
theorem ev_tidy3 {p : D × Sto} (h : fa Γ S = some (d, S1)) (h2 : fin3 S.length (d, S1) = p) : tidy3 fa Γ S = some p := by
  rw [tidy3, h, Option.map_some, h2]
/-- a new list that is a value from now on -/
theorem ev_new {l : List D} (h : fa Γ S = some (.loc S1.length, S1 ++ [.lst l])) (hS : Flat S1) (hl : S1.length = S.length) (hp : D.ncs l = true) : tidy3 fa Γ S = some (.lst l, S1) :=
  ev_tidy3 h (fin3_new (by rw [← hl]; exact hS) hl.symm (ncs_lo _ _ hp))
theorem ev_newk {l : List (Key × D)} (h : fa Γ S = some (.loc S1.length, S1 ++ [.dk l])) (hS : Flat S1) (hl : S1.length = S.length) (hp : D.ncs (l.map (·.2)) = true) : tidy3 fa Γ S = some (.dkv (l.map (·.1)) (l.map (·.2)), S1) :=
  ev_tidy3 h (fin3_dkn (by rw [← hl]; exact hS) hl.symm (ncs_lo _ _ hp))
theorem ev_tidy {p : D × Sto} (h : fa Γ S = some (d, S1)) (h2 : fin2 S.length (d, S1) = p) : tidy2 fa Γ S = some p := by
  rw [tidy2, h, Option.map_some, h2]
theorem te_s (h : f Γ S = some (.bl b, S1)) : tst f Γ S = some (b, S1) := by rw [tst, h]; rfl
theorem te_t (h : f Γ S = some (d, S1)) (h2 : dTru S1 d = some b) : tru f Γ S = some (b, S1) := by
  rw [tru, h, Option.bind_some]; simp only; rw [h2]; rfl
theorem te_n (h1 : g Γ S = some (b, S1)) : tNo g Γ S = some (!b, S1) := by rw [tNo, h1]; rfl
theorem te_nT (h1 : g Γ S = some (true, S1)) : tNo g Γ S = some (false, S1) := te_n h1
theorem te_nF (h1 : g Γ S = some (false, S1)) : tNo g Γ S = some (true, S1) := te_n h1
theorem te_a (h1 : g Γ S = some (true, S1)) (h2 : h Γ S1 = some (b, S2)) : tAnd2 g h Γ S = some (b, S2) := by rw [tAnd2, h1, Option.bind_some, if_pos rfl, h2]
theorem te_aF (h1 : g Γ S = some (false, S1)) : tAnd2 g h Γ S = some (false, S1) := by rw [tAnd2, h1, Option.bind_some, if_neg Bool.false_ne_true]
theorem te_o (h1 : g Γ S = some (false, S1)) (h2 : h Γ S1 = some (b, S2)) : tOr2 g h Γ S = some (b, S2) := by rw [tOr2, h1, Option.bind_some, if_neg Bool.false_ne_true, h2]
theorem te_oT (h1 : g Γ S = some (true, S1)) : tOr2 g h Γ S = some (true, S1) := by rw [tOr2, h1, Option.bind_some, if_pos rfl]
/-! statements -/
theorem st_q (h1 : s Γ S = some (.nx, Γ1, S1)) (h2 : t Γ1 S1 = r) : qSeq s t Γ S = r := by rw [qSeq, h1, Option.bind_some]; exact h2
theorem st_qr (h1 : s Γ S = some (.rt d, Γ1, S1)) : qSeq s t Γ S = some (.rt d, Γ1, S1) := by rw [qSeq, h1, Option.bind_some]
theorem st_qb (h1 : s Γ S = some (.bk, Γ1, S1)) : qSeq s t Γ S = some (.bk, Γ1, S1) := by rw [qSeq, h1, Option.bind_some]
theorem st_s (h1 : fa Γ S = some (d, S1)) : qSet n fa Γ S = some (.nx, Γ.set n (some d), S1) := by rw [qSet, h1]; rfl
theorem st_p (h1 : fa Γ S = some (d, S1)) (h2 : fo Γ S1 = some (x, S2)) (h3 : fi Γ S2 = some (y, S3)) {S4 : Sto} (h4 : setIt x y d S3 = some S4) : qPut fa fo fi Γ S = some (.nx, Γ, S4) := by
  rw [qPut, h1, Option.bind_some, h2, Option.bind_some, h3, Option.bind_some]; simp only; rw [h4]; rfl
theorem st_i (h1 : g Γ S = some (b, S1)) (h2 : (if b = true then s Γ S1 else t Γ S1) = r) : qIf g s t Γ S = r := by rw [qIf, h1, Option.bind_some]; exact h2
theorem st_iT (h1 : g Γ S = some (true, S1)) (h2 : s Γ S1 = r) : qIf g s t Γ S = r := by rw [qIf, h1, Option.bind_some, if_pos rfl, h2]
theorem st_iF (h1 : g Γ S = some (false, S1)) (h2 : t Γ S1 = r) : qIf g s t Γ S = r := by rw [qIf, h1, Option.bind_some, if_neg Bool.false_ne_true, h2]
theorem st_r (h1 : fa Γ S = some (d, S1)) : qRet fa Γ S = some (.rt d, Γ, S1) := by rw [qRet, h1]; rfl
theorem st_d (h1 : fa Γ S = some (d, S1)) : qDrop fa Γ S = some (.nx, Γ, S1) := by rw [qDrop, h1]; rfl
theorem st_n : qNx Γ S = some (.nx, Γ, S) := rfl
theorem st_b : qBk Γ S = some (.bk, Γ, S) := rfl
theorem st_a {tg : FG} (h1 : fa Γ S = some (d, S1)) (h2 : tg d Γ S1 = some Γ1) : qAsg tg fa Γ S = some (.nx, Γ1, S1) := by rw [qAsg, h1, Option.bind_some]; simp only; rw [h2]; rfl
theorem st_2 {is : List Nat} (h1 : args fs Γ S = some (ds, S1)) : qPar is fs Γ S = some (.nx, setsD is ds Γ, S1) := by rw [qPar, h1]; rfl
theorem st_g {o : O2} (h0 : Γ[n]? = some (some x)) (h1 : fa Γ S = some (y, S1)) (h2 : o x y S1 = some (z, S2)) : qAug n o fa Γ S = some (.nx, Γ.set n (some z), S2) := by
  rw [qAug, h0]; simp only; rw [h1, Option.bind_some]; simp only; rw [h2]; rfl
theorem st_f {it : FI} {tg : FG} {its : List D} {lk : Lk} (h1 : it Γ S = some ((its, lk), S1)) (h2 : forL tg s lk its Γ S1 = r) : qFor it tg s Γ S = r := by rw [qFor, h1, Option.bind_some]; exact h2
theorem it_v {l : List D} (h1 : fa Γ S = some (.tup l, S1)) : iVal fa Γ S = some ((l, []), S1) := by rw [iVal, h1]; rfl
theorem it_l {l : List D} {m : Nat} (h1 : fa Γ S = some (.loc m, S1)) (h2 : S1[m]? = some (.lst l)) : iVal fa Γ S = some ((l, [(m, .lst l)]), S1) := by
  rw [iVal, h1, Option.bind_some]; simp only [srcD]; rw [h2]; rfl
theorem it_r {l : List D} (h1 : args fs Γ S = some (ds, S1)) (h2 : rngOf ds = some l) : iRng fs Γ S = some ((l, []), S1) := by
  rw [iRng, h1, Option.bind_some]; simp only; rw [h2]; rfl
theorem rg_1 {k : Int} (h1 : 0 ≤ k) (h2 : k < 2 ^ 62) : rngOf [.int k] = some (rgD 0 1 k.toNat) := by
  rw [rngOf, if_pos ⟨by omega, h2⟩]
theorem run_r {np n : Nat} {body : FS} {p : D × Sto} (hl : ds.length = np) (h : body (ds.map some ++ List.replicate (n - np) none) S = some (.rt d, Γ1, S1)) (h2 : fin2 S.length (d, S1) = p) : runD np n body ds S = some p := by
  rw [runD, if_pos hl, h, Option.bind_some]; simp only; rw [h2]
theorem run_n {np n : Nat} {body : FS} {p : D × Sto} (hl : ds.length = np) (h : body (ds.map some ++ List.replicate (n - np) none) S = some (.nx, Γ1, S1)) (h2 : fin2 S.length (.non, S1) = p) : runD np n body ds S = some p := by
  rw [runD, if_pos hl, h, Option.bind_some]; simp only; rw [h2]
theorem rune_r {np n : Nat} {body : FS} {p : D × Sto} (hl : ds.length = np) (h : body (ds.map some ++ List.replicate (n - np) none) S = some (.rt d, Γ1, S1)) (h2 : fin3 S.length (d, S1) = p) : runE np n body ds S = some p := by
  rw [runE, if_pos hl, h, Option.bind_some]; simp only; rw [h2]
theorem rune_n {np n : Nat} {body : FS} {p : D × Sto} (hl : ds.length = np) (h : body (ds.map some ++ List.replicate (n - np) none) S = some (.nx, Γ1, S1)) (h2 : fin3 S.length (.non, S1) = p) : runE np n body ds S = some p := by
  rw [runE, if_pos hl, h, Option.bind_some]; simp only; rw [h2]
/-- the block returns -/
def Rt (s : FS) (Γ : Ctx) (S : Sto) (d : D) (S1 : Sto) : Prop := ∃ Γ1, s Γ S = some (.rt d, Γ1, S1)
theorem rt_q (h1 : s Γ S = some (.nx, Γ1, S1)) (h2 : Rt t Γ1 S1 d S2) : Rt (qSeq s t) Γ S d S2 := by
  obtain ⟨Γ2, e⟩ := h2
  exact ⟨Γ2, st_q h1 e⟩
theorem rt_q1 (h1 : Rt s Γ S d S1) : Rt (qSeq s t) Γ S d S1 := by
  obtain ⟨Γ2, e⟩ := h1
  exact ⟨Γ2, st_qr e⟩
theorem rt_r (h1 : fa Γ S = some (d, S1)) : Rt (qRet fa) Γ S d S1 := ⟨Γ, st_r h1⟩
theorem rt_iT (h1 : g Γ S = some (true, S1)) (h2 : Rt s Γ S1 d S2) : Rt (qIf g s t) Γ S d S2 := by
  obtain ⟨Γ2, e⟩ := h2
  exact ⟨Γ2, st_iT h1 e⟩
theorem rt_iF (h1 : g Γ S = some (false, S1)) (h2 : Rt t Γ S1 d S2) : Rt (qIf g s t) Γ S d S2 := by
  obtain ⟨Γ2, e⟩ := h2
  exact ⟨Γ2, st_iF h1 e⟩
theorem run_t {np n : Nat} {body : FS} {p : D × Sto} (hl : ds.length = np) (h : Rt body (ds.map some ++ List.replicate (n - np) none) S d S1) (h2 : fin2 S.length (d, S1) = p) : runD np n body ds S = some p := by
  obtain ⟨Γ2, e⟩ := h
  exact run_r hl e h2
theorem rune_t {np n : Nat} {body : FS} {p : D × Sto} (hl : ds.length = np) (h : Rt body (ds.map some ++ List.replicate (n - np) none) S d S1) (h2 : fin3 S.length (d, S1) = p) : runE np n body ds S = some p := by
  obtain ⟨Γ2, e⟩ := h
  exact rune_r hl e h2
/-! wipes, blocks -/
theorem st_pre {vs : List Nat} (h : s (wipeD Γ vs) S = r) : qPre vs s Γ S = r := h
theorem rt_pre {vs : List Nat} (h : Rt s (wipeD Γ vs) S d S1) : Rt (qPre vs s) Γ S d S1 := h
theorem rt_tr {vs : List Nat} (h : Rt s Γ S d S1) : Rt (qTr vs s) Γ S d S1 := by
  obtain ⟨Γ2, e⟩ := h
  exact ⟨Γ2, by rw [qTr, e]; rfl⟩
/-- behind a block: what is new has become values -/
theorem st_tr {vs : List Nat} {T : Sto} (h : s Γ S = some (.nx, Γ1, S1 ++ T)) (hS : Flat S1) (hl : S1.length = S.length) (h2 : rdg S.length (S1 ++ T) (wipeD Γ1 vs) = Γ2) : qTr vs s Γ S = some (.nx, Γ2, S1) := by
  rw [qTr, h, Option.map_some]
  simp only [trimR, (show Cls S.length S1 by rw [← hl]; exact hS).ro S.length T hl.symm, (show Cls S.length S1 by rw [← hl]; exact hS).rd hl.symm T, if_true, h2]
theorem st_tr0 {vs : List Nat} (h : s Γ S = some (.nx, Γ1, S1)) (hS : Flat S1) (hl : S1.length = S.length) (h2 : rdg S.length S1 (wipeD Γ1 vs) = Γ2) : qTr vs s Γ S = some (.nx, Γ2, S1) := by
  have e : S1 = S1 ++ [] := (List.append_nil _).symm
  rw [e] at h h2
  exact st_tr h hS hl h2
theorem st_tw {vs : List Nat} (h : s Γ S = some (.nx, Γ1, S1)) : qTw vs s Γ S = some (.nx, wipeD Γ1 vs, S1) := by rw [qTw, h]; rfl
theorem st_twb {vs : List Nat} (h : s Γ S = some (.bk, Γ1, S1)) : qTw vs s Γ S = some (.bk, wipeD Γ1 vs, S1) := by rw [qTw, h]; rfl
theorem rt_tw {vs : List Nat} (h : Rt s Γ S d S1) : Rt (qTw vs s) Γ S d S1 := by
  obtain ⟨Γ2, e⟩ := h
  exact ⟨Γ2, by rw [qTw, e]; rfl⟩
theorem st_fw {it : FI} {tg : FG} {its : List D} {lk : Lk} {vs : List Nat} (h1 : it Γ S = some ((its, lk), S1)) (h2 : forL tg s lk its (wipeD Γ vs) S1 = r) : qForW it vs tg s Γ S = r := by rw [qForW, h1, Option.bind_some]; exact h2
theorem rdg_cons {b : Nat} {S : Sto} {o : Option D} {Γ : Ctx} : rdg b S (o :: Γ) = (o.bind fun d => rdo b S 5 d) :: rdg b S Γ := rfl
theorem rdg_nil {b : Nat} {S : Sto} : rdg b S [] = [] := rfl
theorem rdo_nc {b : Nat} {S : Sto} {d : D} (h : d.nc = true) : rdo b S 5 d = some d := rdo_lo (nc_lo _ _ h)
/-! operations -/
theorem o_mul {i j : Int} (h : mulOk i j = true) : oMul (.int i) (.int j) S = some (.int (i * j), S) := by rw [oMul, if_pos h]
theorem o_mulr {i j : Int} (h : j.natAbs < 2 ^ 64) : oMul (.int i) (.int j) S = some (.int (i * j), S) := o_mul (by unfold mulOk; rw [decide_eq_true h, Bool.or_true, Bool.true_or])
theorem o_mull {i j : Int} (h : i.natAbs < 2 ^ 64) : oMul (.int i) (.int j) S = some (.int (i * j), S) := o_mul (by unfold mulOk; rw [decide_eq_true h, Bool.true_or, Bool.true_or])
theorem o_fdv {i j : Int} (h : 0 < j) (h2 : j.natAbs.log2 < 9000) : oFdiv (.int i) (.int j) S = some (.int (i / j), S) := by rw [oFdiv, if_pos ⟨h, h2⟩]
theorem o_fdvs {i j : Int} (h : 0 < j) (h2 : j < 2 ^ 249) : oFdiv (.int i) (.int j) S = some (.int (i / j), S) := o_fdv h (fdv_big (small_of (by omega) h2))
theorem o_mod {i j : Int} (h : 0 < j) : oMod (.int i) (.int j) S = some (.int (i % j), S) := by rw [oMod, if_pos h]
theorem o_ixl {l : List D} {k : Int} (h : S[n]? = some (.lst l)) (h2 : atI l k = some d) : oIx (.loc n) (.int k) S = some (d, S) := by
  simp only [oIx, h, h2]; rfl
theorem o_ixt {l : List D} {k : Int} (h2 : atI l k = some d) : oIx (.tup l) (.int k) S = some (d, S) := by
  simp only [oIx, h2]; rfl
theorem b_lenl {l : List D} (h : S[n]? = some (.lst l)) : bLen [.loc n] S = some (.int l.length, S) := by
  simp only [bLen, lenD, h]; rfl
theorem b_abs {i : Int} : bAbs [.int i] S = some (.int (if i < 0 then -i else i), S) := rfl
theorem s_l {l : List D} {k : Int} {j : Nat} (h : S[n]? = some (.lst l)) (h2 : ixN l.length k = some j) : setIt (.loc n) (.int k) d S = some (S.set n (.lst (l.set j d))) := by
  simp only [setIt, h, h2]; rfl
theorem s_e {l : List D} {k : Int} {j : Nat} {c : Cell} (h : S[n]? = some (.lst l)) (h2 : ixN l.length k = some j) (h3 : Cell.lst (l.set j d) = c) : setIt (.loc n) (.int k) d S = some (S.set n c) := by
  rw [← h3]
  exact s_l h h2
theorem m_app {l : List D} (h : S[n]? = some (.lst l)) (h2 : l.length < sizeLine) : mAppend (.loc n) [d] S = some (.non, S.set n (.lst (l ++ [d]))) := by
  simp only [mAppend, h, if_pos h2]
theorem m_pop {l : List D} (h : S[n]? = some (.lst l)) (h2 : l[l.length - 1]? = some d) : mPop (.loc n) [] S = some (d, S.set n (.lst l.dropLast)) := by
  simp only [mPop, h, h2]; rfl
theorem m_pope {l : List D} {c : Cell} (h : S[n]? = some (.lst l)) (h2 : l[l.length - 1]? = some d) (h3 : Cell.lst l.dropLast = c) : mPop (.loc n) [] S = some (d, S.set n c) := by
  rw [← h3]
  exact m_pop h h2
theorem m_appe {l : List D} {c : Cell} (h : S[n]? = some (.lst l)) (h2 : l.length < sizeLine) (h3 : Cell.lst (l ++ [d]) = c) : mAppend (.loc n) [d] S = some (.non, S.set n c) := by
  rw [← h3]
  exact m_app h h2
theorem ty_l {l : List D} (h : S[n]? = some (.lst l)) : tyD "list" S (.loc n) = true := by
  simp only [tyD, h]; rfl
end
theorem ne_int_s (a : Int) (S : Sto) : oNe (.int a) (.int a) S = some (.bl false, S) := by rw [ne_int]; simp
theorem ne_str_s {a : Str} (h : PyData.strOk a = true) (S : Sto) : oNe (.str a) (.str a) S = some (.bl false, S) := by rw [ne_str h h]; simp
theorem ne_bl_s (a : Bool) (S : Sto) : oNe (.bl a) (.bl a) S = some (.bl false, S) := by
  simp [oNe, eqB, py1, D.pure, D.py, SeqAt.shaped, PyData.canLay0, PyData.depth, PyData.eqv]
theorem b_tup {S : Sto} {n : Nat} {l : List D} (h : S[n]? = some (.lst l)) : bTup [.loc n] S = some (.tup l, S) := by
  show (rdL S (.loc n)).map _ = _
  simp only [rdL, h]
  rfl
theorem rdL_loc {S : Sto} {n : Nat} {l : List D} (h : S[n]? = some (.lst l)) : rdL S (.loc n) = some l := by simp only [rdL, h]
theorem b_tpu {S : Sto} {d : D} {l : List D} (h : rdL S d = some l) : bTpu [d] S = some (.tpu l, S) := by
  show (rdL S d).map _ = _
  rw [h]
  rfl
theorem app_end {S T : Sto} {l : List D} {d : D} {c : Cell} (h : l.length < sizeLine) (h2 : Cell.lst (l ++ [d]) = c) : mAppend (.loc S.length) [d] (S ++ .lst l :: T) = some (.non, S ++ c :: T) := by
  rw [m_app (get_end S T _) h, set_end, h2]
/-! ### places -/
theorem ix_nat {n k : Nat} (h : k < n) : ixN n (k : Int) = some k := by
  unfold ixN
  rw [if_pos (by omega), if_pos (by omega)]
  congr 1
theorem at_nat {α : Type} {l : List α} {k : Nat} (h : k < l.length) : atI l (k : Int) = some (l[k]) := by
  unfold atI
  rw [ix_nat h]
  exact List.getElem?_eq_getElem h
theorem at_get {α : Type} {l : List α} {k : Nat} {x : α} (h : l[k]? = some x) : atI l (k : Int) = some x := by
  have hk := (List.getElem?_eq_some_iff.mp h).1
  rw [at_nat hk, ← h, List.getElem?_eq_getElem hk]
theorem ix_0 {n : Nat} (h : 0 < n) : ixN n 0 = some 0 := ix_nat (k := 0) h
theorem ix_1 {n : Nat} (h : 1 < n) : ixN n 1 = some 1 := ix_nat (k := 1) h
theorem at_0 {α : Type} (x : α) (l : List α) : atI (x :: l) 0 = some x := at_get (k := 0) rfl
theorem at_1 {α : Type} (x y : α) (l : List α) : atI (x :: y :: l) 1 = some y := at_get (k := 1) rfl
theorem ix_neg {n : Nat} (h : 0 < n) : ixN n (-1) = some (n - 1) := by
  unfold ixN
  rw [if_neg (by omega), if_pos (by omega)]
  congr 1
  omega
theorem at_last {α : Type} {l : List α} {x : α} (h : l[l.length - 1]? = some x) : atI l (-1) = some x := by
  have hk := (List.getElem?_eq_some_iff.mp h).1
  unfold atI
  rw [ix_neg (by omega)]
  exact h
end Dl

/-! DlZ: o[i] op= e -/
namespace Dl
open PySem PySem.Spec PyProof.Rows L2
section
variable {X : Cx} {o i e : Expr} {fo fi fa : FE} {pos tpos : Pos}
theorem get_lst : PGet X (rIxL X.K) := by
  intro pins s σ H x y v u Q I rx ry h
  obtain ⟨p, xs, k, z, rfl, rfl, hq, he, q⟩ := h
  cases rx
  obtain ⟨t, rfl⟩ := ry
  obtain ⟨its, r, pl, hz⟩ := I.list hq
  obtain ⟨j, h1, h2, h3, h4, h5⟩ := atI_get he
  obtain ⟨w, ew, rw'⟩ := r.get h2
  have hl := r.length
  have hn := line63
  have fin : EP X pins σ Q w s := ⟨z, H, I, rw', q⟩
  by_cases h0 : 0 ≤ k
  · have hj : k.toNat = j := by
      rw [seqIndex_of h0 h5] at h1
      exact Option.some.inj h1
    exact wpAny_getItem_list pl.isList h0 (by omega) (by rw [hj]; simpa using ew) fin
  · have hj : (k + (its.toArray.size : Int)).toNat = j := by
      rw [seqIndex_neg (by omega) h4] at h1
      rw [List.size_toArray, ← hl]
      exact Option.some.inj h1
    exact wpAny_getItem_list_neg pl.isList (by omega) (by rw [List.size_toArray] <;> omega) (by omega) (by rw [hj]; simpa using ew) fin
theorem get_dct (hu : X.A.units + 1 < cLine) : PGet X rDIx := by
  intro pins s σ H x y v u Q I rx ry h
  obtain ⟨a, z, rfl, g, q⟩ := h
  cases rx
  exact d_getItem hu I g ry fun w' s3 I3 rw' => ⟨z, H, I3, rw', q⟩
def rGetA (K : PySem.W.Frag) : V → V → Hp → VK → Prop := fun x y H Q => rIxL K x y H Q ∨ rDIx x y H Q
theorem get_any (hu : X.A.units + 1 < cLine) : PGet X (rGetA X.K) := fun pins s σ H x y v u Q I rx ry h => h.elim (get_lst pins s σ H x y v u Q I rx ry) (get_dct hu pins s σ H x y v u Q I rx ry)
/-- what stands at an item that may be stored -/
def itemD (S : Sto) (o i : D) : Option D := match o with
  | .loc n => match S[n]? with
    | some (.lst l) => match i with
      | .int k => atI l k
      | _ => none
    | some (.dk _) => (dGet S o i).bind id
    | some (.dt _) => (dGet S o i).bind id
    | _ => none
  | _ => none
theorem itemD_of {K : PySem.W.Frag} {H : Hp} {μ : List Addr} {S : Sto} {o i d : D} {ov iv : V} {Q : VK} (r : RS K H μ S) (ro : RV K H μ o ov) (ri : RV K H μ i iv) (h : itemD S o i = some d) (k : ∀ v, RV K H μ d v → Q v H) : rGetA K ov iv H Q := by
  have dict : (dGet S o i).bind id = some d → rGetA K ov iv H Q := fun h => by
    obtain ⟨w, h1, h2⟩ := bind_some h
    have h2 : w = some d := h2
    obtain ⟨a, o', e1, g, h3⟩ := dget_of r ro ri h1
    rcases h3 with ⟨z, _⟩ | ⟨x, z, q1, q2, q3⟩
    · rw [z] at h2; cases h2
    · rw [q1] at h2
      cases h2
      subst q2
      exact .inr ⟨a, z, e1, g, k z q3⟩
  cases o with
  | loc n =>
    cases ro with
    | @loc a _ q1 =>
      simp only [itemD] at h
      split at h
      · rename_i l e
        split at h
        · rename_i m
          cases ri
          obtain ⟨vs, z1, z2⟩ := r.atc q1 e
          obtain ⟨v, w1, w2⟩ := z2.atI h
          exact .inl ⟨a, vs, m, v, rfl, rfl, SqL.of z1, w1, k v w2⟩
        · cases h
      · exact dict h
      · exact dict h
      · cases h
  | _ => simp only [itemD] at h; cases h
def qAugI (op : O2) (fo fi fa : FE) : FS := fun Γ S => (fo Γ S).bind fun p => (fi Γ p.2).bind fun q => (itemD q.2 p.1 q.1).bind fun x => (fa Γ q.2).bind fun y => (op x y.1 y.2).bind fun z => (setIt p.1 q.1 z.1 z.2).map fun S' => (.nx, Γ, S')
theorem ss_augI {op : Operator} {ti : TIp} {oo : O2} (hu : X.A.units + 1 < cLine) (ho : SE X o fo) (hi : SE X i fi) (ha : SE X e fa) (hp : PIp X op ti) (hr : RD X.K ti oo)
    (hs : ∀ ov iv new, augStore i ov iv new = (do holding [new, ov, iv] (setItem ov iv new); release [new, ov, iv] []; pure .next) := by intros; rfl) : SS X (.AugAssign (.Subscript o i tpos) op e pos) (qAugI oo fo fi fa) :=
  SS.mk (ps_augS ho hi (get_any hu) ha hp (set_any hu) hs) fun D σ H Γ S μ r h1 h2 h3 k => by
    obtain ⟨⟨d, S1⟩, e1, h3⟩ := bind_some h3
    obtain ⟨⟨d2, S2⟩, e2, h3⟩ := bind_some h3
    obtain ⟨x, e3, h3⟩ := bind_some h3
    obtain ⟨⟨d4, S4⟩, e4, h3⟩ := bind_some h3
    obtain ⟨⟨d5, S5⟩, e5, h3⟩ := bind_some h3
    obtain ⟨S6, e6, e7⟩ := map_some h3
    cases e7
    refine ⟨Γ, S, μ, d, S1, h1, h2, e1, fun v1 H1 μ1 r1 x1 rv1 => ⟨Γ, S1, μ1, d2, S2, h1.ext x1, r1, e2, fun v2 H2 μ2 r2 x2 rv2 => ?_⟩⟩
    refine itemD_of r2 (rv1.ext x2) rv2 e3 fun v3 rv3 => ⟨Γ, S2, μ2, d4, S4, (h1.ext x1).ext x2, r2, e4, fun v4 H4 μ4 r4 x4 rv4 => ?_⟩
    refine hr H4 S4 μ4 v3 v4 x d4 d5 S5 _ r4 (rv3.ext x4) rv4 e5 fun v5 H5 μ5 r5 x5 rv5 => ?_
    exact setIt_of r5 (((rv1.ext x2).ext x4).ext x5) ((rv2.ext x4).ext x5) rv5 e6 fun H6 r6 x6 => k σ H6 μ5 ((((h1.ext x1).ext x2).ext x4).ext x5 |>.ext x6) r6 ((((x1.trans x2).trans x4).trans x5).trans x6)
end
/-! ### name = {..} on one line -/
section
variable {X : Cx}
theorem ps_setDc {i : Nat} {y : Str} {py : Pos} {kx vx tg iter : Expr} {ifs : List Expr} {scope : Scope} {own : List (Str × Nat)} {pos spos : Pos} {wi : TI} {g : TG} {tt : TT} {tk tv : TE} (hc : X.calm = true) (hN : X.N.Nodup) (hy : X.N[i]? = some y) (hyl : X.env.scope.names.lookup y = some .local)
    (hsw : swapsWith (.DictComp kx vx [⟨tg, iter, ifs, 0⟩] scope pos) (some (.Name y py)) spos.line X.env = pure true) (hi : PI X tg iter wi) (ok : BlkOk X.N X.env.scope scope own)
    (hg : ∀ (s : Shared) (H : Hp) (C : Addr) (cl : List (Str × Addr)) (fp : List Addr), PG (X.blk s H scope (compEnvC scope cl C X.env) fp) tg g) (ht : ∀ (s : Shared) (H : Hp) (C : Addr) (cl : List (Str × Addr)) (fp : List Addr), PTs (X.blk s H scope (compEnvC scope cl C X.env) fp) ifs tt)
    (hk : ∀ (s : Shared) (H : Hp) (C : Addr) (cl : List (Str × Addr)) (fp : List Addr), PE (X.blk s H scope (compEnvC scope cl C X.env) fp) kx tk)
    (he : ∀ (s : Shared) (H : Hp) (C : Addr) (cl : List (Str × Addr)) (fp : List Addr), PE (X.blk s H scope (compEnvC scope cl C X.env) fp) vx tv) (hs : ∀ x, foldedSetIterable iter X.env x = pure x := by intro _; rfl) :
    PS X (.Assign [.Name y py] (.DictComp kx vx [⟨tg, iter, ifs, 0⟩] scope pos) spos) (tAsg (tDc wi g tt tk tv (own.map (·.2))) (gName i)) := by
  refine ⟨fun pins s σ H D I h => ?_⟩
  rw [exec_Assign_Name_used _ _ _ _ hsw]
  refine wpAny_bind (wpAny_standAt (wpAny_bind ?_))
  show wpAny _ X.A (do let _ ← comprehension (.DictComp kx vx [⟨tg, iter, ifs, 0⟩] scope pos) scope X.env (firstIterPos [⟨tg, iter, ifs, 0⟩] pos) newDict false (eval iter X.env) (some (assign (.Name y py) X.env))) _ _ s
  have h : tDc wi g tt tk tv (own.map (·.2)) σ H (fun x H1 => gName i x σ H1 D.nx) := h
  refine wpAny_bind (thn (dc_core (Qf := fun _ s' => SP X pins D .next s') hc hN I hi ok hg ht hk he hs h fun L C s' m H' I' q hn f => ?_) fun _ s' hq => wpAny_pure (wpAny_pure hq))
  show wpAny _ _ (assign (.Name y py) X.env (.ref L)) _ _ _
  refine wpAny_assign_Name (store_ok2 (v := V.ref L) I' hN hy (.inl hyl) rfl (fun s2 I2 ⟨a, sb, ha⟩ => ?_) (.inr hyl))
  obtain ⟨f0, f1, f2, f3, f4, f5⟩ := f
  have haC : C ≠ a := by
    rcases ha with z | z
    · rw [z]; exact f1
    · exact fun e => f4 y a z e.symm
  refine ⟨m, hn.sameBut sb haC, fun h3 sb3 => ?_⟩
  exact ⟨_, H', I2.turned (t' := s2.toks) (fun b o hb e => (sb3.2 b hb).trans e) f0 f1 f3 f4 f5, q⟩
theorem sw_trueD {kx vx : Expr} {gs : List Comprehension} {scope : Scope} {pos py : Pos} {y : Str} {l : Nat} {env : Env} (hk : env.scope.kind = .function) (hy : env.scope.names.lookup y = some .local) (hl : (py.line == pos.line) = true)
    (ha : (scope.names.any fun (n, k) => n == y && (k == .local || k == .cell)) = false) : swapsWith (.DictComp kx vx gs scope pos) (some (.Name y py)) l env = pure true := by
  have ky : env.kindOf y = some .local := hy
  have hb : env.blockKind = .function := by unfold Env.blockKind; rw [hk]; rfl
  unfold swapsWith
  simp only [hb, ky, ha, Expr.pos, hl]
  rfl
variable {it : FI} {g : FG} {ts : FT} {ek ev : FE} {is : List Nat} {kx vx tg iter : Expr} {ifs : List Expr} {scope : Scope} {own : List (Str × Nat)} {pos spos py : Pos} {i : Nat} {y : Str}
theorem ss_setDc (hc : X.calm = true) (hN : X.N.Nodup) (hy : X.N[i]? = some y) (hyl : X.env.scope.names.lookup y = some .local)
    (hsw : swapsWith (.DictComp kx vx [⟨tg, iter, ifs, 0⟩] scope pos) (some (.Name y py)) spos.line X.env = pure true) (hi : SI X tg iter it) (ok : BlkOk X.N X.env.scope scope own)
    (hg : ∀ (s : Shared) (H : Hp) (C : Addr) (cl : List (Str × Addr)) (fp : List Addr), SG (X.blk s H scope (compEnvC scope cl C X.env) fp) tg is g) (ht : ∀ (s : Shared) (H : Hp) (C : Addr) (cl : List (Str × Addr)) (fp : List Addr), STs (X.blk s H scope (compEnvC scope cl C X.env) fp) ifs ts)
    (hk : ∀ (s : Shared) (H : Hp) (C : Addr) (cl : List (Str × Addr)) (fp : List Addr), SE (X.blk s H scope (compEnvC scope cl C X.env) fp) kx ek)
    (he : ∀ (s : Shared) (H : Hp) (C : Addr) (cl : List (Str × Addr)) (fp : List Addr), SE (X.blk s H scope (compEnvC scope cl C X.env) fp) vx ev) {vs : List Nat} (his : ∀ i ∈ is, i ∈ vs) (hvs : own.map (·.2) = vs := by rfl) (hs : ∀ x, foldedSetIterable iter X.env x = pure x := by intro _; rfl) :
    SS X (.Assign [.Name y py] (.DictComp kx vx [⟨tg, iter, ifs, 0⟩] scope pos) spos) (qSet i (eDc it g ts ek ev vs)) := by
  subst hvs
  exact SS.mk (ps_setDc (g := tG X.K is g) (tt := tT X.K ts) (tk := tD X.K ek) (tv := tD X.K ev) hc hN hy hyl hsw hi ok hg ht hk he hs) fun D σ H Γ S μ r h1 h2 h3 k => by
    obtain ⟨⟨d, S1⟩, e1, e2⟩ := map_some h3
    cases e2
    exact dc_turns his h1 h2 e1 fun v H' μ' r' x rv => k _ H' μ' ((h1.ext x).set rv i) r' x
end
end Dl

/-! DlW0: what a program on data brings about, by what is wanted behind -/
namespace Dl
open PySem PySem.Spec PyProof.Rows L2
abbrev QE := D → Sto → Prop
abbrev QS := Out → Ctx → Sto → Prop
def We (f : FE) (Γ : Ctx) (S : Sto) (Q : QE) : Prop := ∃ d S1, f Γ S = some (d, S1) ∧ Q d S1
def Wt (f : FT) (Γ : Ctx) (S : Sto) (Q : Bool → Sto → Prop) : Prop := ∃ d S1, f Γ S = some (d, S1) ∧ Q d S1
def Wa (f : List FE) (Γ : Ctx) (S : Sto) (Q : List D → Sto → Prop) : Prop := ∃ d S1, args f Γ S = some (d, S1) ∧ Q d S1
def WF (F : FF) (ds : List D) (S : Sto) (Q : QE) : Prop := ∃ d S1, F ds S = some (d, S1) ∧ Q d S1
def WO (o : O2) (x y : D) (S : Sto) (Q : QE) : Prop := ∃ d S1, o x y S = some (d, S1) ∧ Q d S1
def WM (F : FM) (x : D) (ds : List D) (S : Sto) (Q : QE) : Prop := ∃ d S1, F x ds S = some (d, S1) ∧ Q d S1
def WU (o : D → Option D) (x : D) (Q : D → Prop) : Prop := ∃ d, o x = some d ∧ Q d
def Wp (f : FO) (Γ : Ctx) (S : Sto) (Q : Option Int → Sto → Prop) : Prop := ∃ d S1, f Γ S = some (d, S1) ∧ Q d S1
def WL (x : D) (l u : Option Int) (S : Sto) (Q : QE) : Prop := ∃ d S1, oSl x l u S = some (d, S1) ∧ Q d S1
def WI (f : FI) (Γ : Ctx) (S : Sto) (Q : List D → Lk → Sto → Prop) : Prop := ∃ l lk S1, f Γ S = some ((l, lk), S1) ∧ Q l lk S1
def Ws (s : FS) (Γ : Ctx) (S : Sto) (Q : QS) : Prop := ∃ o Γ1 S1, s Γ S = some (o, Γ1, S1) ∧ Q o Γ1 S1
section
variable {Γ Γ1 Γ2 : Ctx} {S S1 S2 S3 : Sto} {fa fb fc fo fi f : FE} {fs : List FE} {x y z d : D} {ds : List D} {i n : Nat} {g h : FT} {b : Bool} {o : O2} {F : FF} {s t : FS} {Q : QE} {R : QS} {vs : List Nat}
theorem We.run (h : fa Γ S = some (d, S1)) (q : Q d S1) : We fa Γ S Q := ⟨d, S1, h, q⟩
theorem we_v (h : Γ[i]? = some (some d)) (q : Q d S) : We (eVar i) Γ S Q := ⟨d, S, ev_v h, q⟩
theorem we_c (q : Q d S) : We (eC d) Γ S Q := ⟨d, S, rfl, q⟩
theorem we_b (w : We fa Γ S fun x S1 => We fb Γ S1 fun y S2 => WO o x y S2 Q) : We (eBin o fa fb) Γ S Q := by
  obtain ⟨x, S1, h1, y, S2, h2, z, S3, h3, q⟩ := w
  exact ⟨z, S3, ev_b h1 h2 h3, q⟩
theorem we_u {o : D → Option D} (w : We fa Γ S fun x S1 => WU o x fun z => Q z S1) : We (eUn o fa) Γ S Q := by
  obtain ⟨x, S1, h1, z, h2, q⟩ := w
  exact ⟨z, S1, ev_u h1 h2, q⟩
theorem wu {o : D → Option D} {P : D → Prop} (h : o x = some z) (q : P z) : WU o x P := ⟨z, h, q⟩
theorem wa_0 {P : List D → Sto → Prop} (q : P [] S) : Wa [] Γ S P := ⟨[], S, rfl, q⟩
theorem wa_1 {P : List D → Sto → Prop} (w : We f Γ S fun x S1 => Wa fs Γ S1 fun xs S2 => P (x :: xs) S2) : Wa (f :: fs) Γ S P := by
  obtain ⟨x, S1, h1, xs, S2, h2, q⟩ := w
  exact ⟨_, _, ar_1 h1 h2, q⟩
theorem we_f (w : Wa fs Γ S fun ds S1 => WF F ds S1 Q) : We (eCall F fs) Γ S Q := by
  obtain ⟨xs, S1, h1, z, S2, h2, q⟩ := w
  exact ⟨_, _, ev_f h1 h2, q⟩
theorem wf {P : QE} (h : F ds S = some (z, S1)) (q : P z S1) : WF F ds S P := ⟨_, _, h, q⟩
theorem wo {P : QE} (h : o x y S = some (z, S1)) (q : P z S1) : WO o x y S P := ⟨_, _, h, q⟩
theorem we_t (w : Wa fs Γ S fun ds S1 => Q (.tup ds) S1) : We (eTup fs) Γ S Q := by
  obtain ⟨xs, S1, h1, q⟩ := w
  exact ⟨_, _, ev_t h1, q⟩
theorem we_l (w : Wa fs Γ S fun ds S1 => Q (.loc S1.length) (S1 ++ [.lst ds])) : We (eLst fs) Γ S Q := by
  obtain ⟨xs, S1, h1, q⟩ := w
  exact ⟨_, _, ev_l h1, q⟩
/-- a written list that is only read -/
theorem we_tl (w : Wa fs Γ S fun ds S1 => Flat S1 ∧ S1.length = S.length ∧ D.ncs ds = true ∧ Q (.lst ds) S1) : We (tidy3 (eLst fs)) Γ S Q := by
  obtain ⟨xs, S1, h1, h2, h3, h4, q⟩ := w
  exact ⟨_, _, ev_new (ev_l h1) h2 h3 h4, q⟩
/-- a new list that is only read -/
theorem we_tn (w : We f Γ S fun d S1 => ∃ S2 l, d = .loc S2.length ∧ S1 = S2 ++ [.lst l] ∧ Flat S2 ∧ S2.length = S.length ∧ D.ncs l = true ∧ Q (.lst l) S2) : We (tidy3 f) Γ S Q := by
  obtain ⟨d, S1, h1, S2, l, rfl, rfl, h2, h3, h4, q⟩ := w
  exact ⟨_, _, ev_new h1 h2 h3 h4, q⟩
theorem we_if (w : Wt g Γ S fun b S1 => if b = true then We fa Γ S1 Q else We fb Γ S1 Q) : We (eIf g fa fb) Γ S Q := by
  obtain ⟨b, S1, h1, w⟩ := w
  cases b with
  | true => rw [if_pos rfl] at w; obtain ⟨z, S2, h2, q⟩ := w; exact ⟨z, S2, ev_iT h1 h2, q⟩
  | false => rw [if_neg Bool.false_ne_true] at w; obtain ⟨z, S2, h2, q⟩ := w; exact ⟨z, S2, ev_iF h1 h2, q⟩
theorem we_m {T : String} {F : FM} (w : We fo Γ S fun x S1 => tyD T S1 x = true ∧ Wa fs Γ S1 fun ds S2 => WM F x ds S2 Q) : We (eMeth T F fo fs) Γ S Q := by
  obtain ⟨x, S1, h1, h2, ds, S2, h3, z, S3, h4, q⟩ := w
  exact ⟨z, S3, ev_m h1 h2 h3 h4, q⟩
theorem we_mU {F : FM} (w : We fo Γ S fun x S1 => isTpu x = true ∧ Wa fs Γ S1 fun ds S2 => WM F x ds S2 Q) : We (eMethU F fo fs) Γ S Q := by
  obtain ⟨x, S1, h1, h2, ds, S2, h3, z, S3, h4, q⟩ := w
  refine ⟨z, S3, ?_, q⟩
  rw [eMethU, h1, Option.bind_some]
  simp only
  rw [if_pos h2, h3, Option.bind_some, h4]
theorem wm {F : FM} (h : F x ds S = some (z, S1)) (q : Q z S1) : WM F x ds S Q := ⟨_, _, h, q⟩
theorem we_s {lo hi : FO} (w : We fa Γ S fun x S1 => Wp lo Γ S1 fun l S2 => Wp hi Γ S2 fun u S3 => WL x l u S3 Q) : We (eSl fa lo hi) Γ S Q := by
  obtain ⟨x, S1, h1, l, S2, h2, u, S3, h3, z, S4, h4, q⟩ := w
  exact ⟨z, S4, ev_s h1 h2 h3 h4, q⟩
theorem wp_n {P : Option Int → Sto → Prop} (q : P none S) : Wp oNo Γ S P := ⟨_, _, rfl, q⟩
theorem wp_p {P : Option Int → Sto → Prop} (w : We fa Γ S fun d S1 => ∃ k, d = .int k ∧ P (some k) S1) : Wp (oPart fa) Γ S P := by
  obtain ⟨x, S1, h1, k, rfl, q⟩ := w
  exact ⟨_, _, ev_p h1, q⟩
theorem wl {l u : Option Int} (h : oSl x l u S = some (z, S1)) (q : Q z S1) : WL x l u S Q := ⟨_, _, h, q⟩
theorem we_and (w : We fa Γ S fun d S1 => ∃ b, d = .bl b ∧ if b = true then We fb Γ S1 Q else Q (.bl false) S1) : We (eAnd fa fb) Γ S Q := by
  obtain ⟨x, S1, h1, b, rfl, w⟩ := w
  cases b with
  | true => rw [if_pos rfl] at w; obtain ⟨z, S2, h2, q⟩ := w; exact ⟨z, S2, ev_andT h1 h2, q⟩
  | false => rw [if_neg Bool.false_ne_true] at w; exact ⟨_, _, ev_andF h1, w⟩
theorem we_or (w : We fa Γ S fun d S1 => ∃ b, d = .bl b ∧ if b = true then Q (.bl true) S1 else We fb Γ S1 Q) : We (eOr fa fb) Γ S Q := by
  obtain ⟨x, S1, h1, b, rfl, w⟩ := w
  cases b with
  | true => rw [if_pos rfl] at w; exact ⟨_, _, by rw [eOr, h1, Option.bind_some], w⟩
  | false => rw [if_neg Bool.false_ne_true] at w; obtain ⟨z, S2, h2, q⟩ := w; exact ⟨z, S2, by rw [eOr, h1, Option.bind_some]; exact h2, q⟩
theorem we_not (w : We fa Γ S fun d S1 => ∃ b, d = .bl b ∧ Q (.bl (!b)) S1) : We (eNot fa) Γ S Q := by
  obtain ⟨x, S1, h1, b, rfl, w⟩ := w
  exact ⟨_, _, by rw [eNot, h1, Option.bind_some], w⟩
theorem we_ch {o o' : O2} (w : We fa Γ S fun x S1 => We fb Γ S1 fun y S2 => WO o x y S2 fun t S3 => ∃ b, t = .bl b ∧ if b = true then We fc Γ S3 fun w S4 => WO o' y w S4 Q else Q (.bl false) S3) : We (eChain o o' fa fb fc) Γ S Q := by
  obtain ⟨x, S1, h1, y, S2, h2, t, S3, h3, b, rfl, w⟩ := w
  cases b with
  | true => rw [if_pos rfl] at w; obtain ⟨w, S4, h4, z, S5, h5, q⟩ := w; exact ⟨z, S5, ch_T h1 h2 h3 h4 h5, q⟩
  | false => rw [if_neg Bool.false_ne_true] at w; exact ⟨_, _, ch_F h1 h2 h3, w⟩
theorem we_isi {T : String} (w : We fa Γ S fun x S1 => ∃ t b, tyN S1 x = some t ∧ kitB t T = some b ∧ Q (.bl b) S1) : We (eIsi T fa) Γ S Q := by
  obtain ⟨x, S1, h1, t, b, h2, h3, q⟩ := w
  refine ⟨_, _, ?_, q⟩
  rw [eIsi, h1, Option.bind_some]
  simp only
  rw [h2, Option.bind_some, h3]
  rfl
theorem we_get2 (w : We fo Γ S fun x S1 => isDict S1 x = true ∧ We fa Γ S1 fun y S2 => We fb Γ S2 fun z S3 => ∃ u, dGet S3 x y = some u ∧ Q (u.getD z) S3) : We (eGet2 fo fa fb) Γ S Q := by
  obtain ⟨x, S1, h1, h2, y, S2, h3, z, S3, h4, u, h5, q⟩ := w
  refine ⟨_, _, ?_, q⟩
  rw [eGet2, h1, Option.bind_some]
  simp only
  rw [if_pos h2, h3, Option.bind_some, h4, Option.bind_some, h5]
  rfl
/-! tests -/
theorem wt_s {P : Bool → Sto → Prop} (w : We f Γ S fun d S1 => ∃ b, d = .bl b ∧ P b S1) : Wt (tst f) Γ S P := by
  obtain ⟨x, S1, h1, b, rfl, w⟩ := w
  exact ⟨_, _, te_s h1, w⟩
theorem wt_t {P : Bool → Sto → Prop} (w : We f Γ S fun d S1 => ∃ b, dTru S1 d = some b ∧ P b S1) : Wt (tru f) Γ S P := by
  obtain ⟨x, S1, h1, b, h2, w⟩ := w
  exact ⟨_, _, te_t h1 h2, w⟩
theorem wt_n {P : Bool → Sto → Prop} (w : Wt g Γ S fun b S1 => P (!b) S1) : Wt (tNo g) Γ S P := by
  obtain ⟨b, S1, h1, w⟩ := w
  exact ⟨_, _, te_n h1, w⟩
theorem wt_a {P : Bool → Sto → Prop} (w : Wt g Γ S fun b S1 => if b = true then Wt h Γ S1 P else P false S1) : Wt (tAnd2 g h) Γ S P := by
  obtain ⟨b, S1, h1, w⟩ := w
  cases b with
  | true => rw [if_pos rfl] at w; obtain ⟨z, S2, h2, q⟩ := w; exact ⟨z, S2, te_a h1 h2, q⟩
  | false => rw [if_neg Bool.false_ne_true] at w; exact ⟨_, _, te_aF h1, w⟩
theorem wt_o {P : Bool → Sto → Prop} (w : Wt g Γ S fun b S1 => if b = true then P true S1 else Wt h Γ S1 P) : Wt (tOr2 g h) Γ S P := by
  obtain ⟨b, S1, h1, w⟩ := w
  cases b with
  | true => rw [if_pos rfl] at w; exact ⟨_, _, te_oT h1, w⟩
  | false => rw [if_neg Bool.false_ne_true] at w; obtain ⟨z, S2, h2, q⟩ := w; exact ⟨z, S2, te_o h1 h2, q⟩
theorem wt_y {P : Bool → Sto → Prop} (q : P true S) : Wt tYs Γ S P := ⟨_, _, rfl, q⟩
theorem isT {b : Bool} {P : Bool → Prop} (q : P b) : ∃ b', D.bl b = .bl b' ∧ P b' := ⟨b, rfl, q⟩
theorem ifT {P R : Prop} (h : P) : (if true = true then P else R) := by rw [if_pos rfl]; exact h
theorem ifF {P R : Prop} (h : R) : (if false = true then P else R) := by rw [if_neg Bool.false_ne_true]; exact h
theorem ifB {b : Bool} {P R : Prop} (h1 : b = true → P) (h2 : b = false → R) : (if b = true then P else R) := by
  cases b with
  | true => exact ifT (h1 rfl)
  | false => exact ifF (h2 rfl)
/-! iterables -/
theorem wi_r {P : List D → Lk → Sto → Prop} (w : Wa fs Γ S fun ds S1 => ∃ l, rngOf ds = some l ∧ P l [] S1) : WI (iRng fs) Γ S P := by
  obtain ⟨ds, S1, h1, l, h2, w⟩ := w
  exact ⟨_, _, _, it_r h1 h2, w⟩
theorem wi_v {P : List D → Lk → Sto → Prop} (w : We fa Γ S fun d S1 => (∀ z, d ≠ .str z) ∧ ∃ l lk, srcD S1 d = some (l, lk) ∧ P l lk S1) : WI (iVal fa) Γ S P := by
  obtain ⟨d, S1, h1, hn, l, lk, h2, w⟩ := w
  refine ⟨_, _, _, ?_, w⟩
  rw [iVal, h1, Option.bind_some]
  cases d with
  | str z => exact absurd rfl (hn z)
  | _ => simp only [h2]; rfl
theorem wi_k {P : List D → Lk → Sto → Prop} (w : We fa Γ S fun d S1 => ∃ l, keysD d = some l ∧ P l [] S1) : WI (iKey fa) Γ S P := by
  obtain ⟨d, S1, h1, l, h2, w⟩ := w
  refine ⟨_, _, _, ?_, w⟩
  rw [iKey, h1, Option.bind_some, h2]
  rfl
theorem wi_e {P : List D → Lk → Sto → Prop} (w : Wa fs Γ S fun ds S1 => ∃ d l lk, ds = [d] ∧ srcD S1 d = some (l, lk) ∧ P (enD l) lk S1) : WI (iEnum fs) Γ S P := by
  obtain ⟨ds, S1, h1, d, l, lk, rfl, h2, w⟩ := w
  refine ⟨_, _, _, ?_, w⟩
  rw [iEnum, h1, Option.bind_some]
  simp only [h2]
  rfl
theorem wi_z {P : List D → Lk → Sto → Prop} (w : Wa fs Γ S fun ds S1 => ∃ d d' l lk l' lk', ds = [d, d'] ∧ srcD S1 d = some (l, lk) ∧ srcD S1 d' = some (l', lk') ∧ P (zp2 l l') (lk ++ lk') S1) : WI (iZip fs) Γ S P := by
  obtain ⟨ds, S1, h1, d, d', l, lk, l', lk', rfl, h2, h3, w⟩ := w
  refine ⟨_, _, _, ?_, w⟩
  rw [iZip, h1, Option.bind_some]
  simp only [h2, h3]
  rfl
/-! statements -/
def Kq (t : FS) (R : QS) : QS := fun o Γ S => match o with
  | .nx => Ws t Γ S R
  | o => R o Γ S
theorem ws_q (w : Ws s Γ S (Kq t R)) : Ws (qSeq s t) Γ S R := by
  obtain ⟨o, Γ1, S1, h1, w⟩ := w
  cases o with
  | nx => obtain ⟨o2, Γ2, S2, h2, w⟩ := w; exact ⟨_, _, _, st_q h1 h2, w⟩
  | rt d => exact ⟨_, _, _, st_qr h1, w⟩
  | bk => exact ⟨_, _, _, st_qb h1, w⟩
  | ct => exact ⟨_, _, _, by rw [qSeq, h1, Option.bind_some], w⟩
theorem kq_n (w : Ws t Γ S R) : Kq t R .nx Γ S := w
theorem kq_r (w : R (.rt d) Γ S) : Kq t R (.rt d) Γ S := w
theorem kq_b (w : R .bk Γ S) : Kq t R .bk Γ S := w
theorem kq_c (w : R .ct Γ S) : Kq t R .ct Γ S := w
theorem ws_n (w : R .nx Γ S) : Ws qNx Γ S R := ⟨_, _, _, rfl, w⟩
theorem ws_b (w : R .bk Γ S) : Ws qBk Γ S R := ⟨_, _, _, rfl, w⟩
theorem ws_c (w : R .ct Γ S) : Ws qCt Γ S R := ⟨_, _, _, rfl, w⟩
theorem ws_s (w : We fa Γ S fun d S1 => R .nx (Γ.set n (some d)) S1) : Ws (qSet n fa) Γ S R := by
  obtain ⟨d, S1, h1, w⟩ := w
  exact ⟨_, _, _, st_s h1, w⟩
theorem ws_p (w : We fa Γ S fun d S1 => We fo Γ S1 fun x S2 => We fi Γ S2 fun y S3 => ∃ S4, setIt x y d S3 = some S4 ∧ R .nx Γ S4) : Ws (qPut fa fo fi) Γ S R := by
  obtain ⟨d, S1, h1, x, S2, h2, y, S3, h3, S4, h4, w⟩ := w
  exact ⟨_, _, _, st_p h1 h2 h3 h4, w⟩
theorem ws_if (w : Wt g Γ S fun b S1 => if b = true then Ws s Γ S1 R else Ws t Γ S1 R) : Ws (qIf g s t) Γ S R := by
  obtain ⟨b, S1, h1, w⟩ := w
  cases b with
  | true => rw [if_pos rfl] at w; obtain ⟨o, Γ1, S2, h2, w⟩ := w; exact ⟨_, _, _, st_iT h1 h2, w⟩
  | false => rw [if_neg Bool.false_ne_true] at w; obtain ⟨o, Γ1, S2, h2, w⟩ := w; exact ⟨_, _, _, st_iF h1 h2, w⟩
theorem ws_r (w : We fa Γ S fun d S1 => R (.rt d) Γ S1) : Ws (qRet fa) Γ S R := by
  obtain ⟨d, S1, h1, w⟩ := w
  exact ⟨_, _, _, st_r h1, w⟩
theorem ws_d (w : We fa Γ S fun d S1 => R .nx Γ S1) : Ws (qDrop fa) Γ S R := by
  obtain ⟨d, S1, h1, w⟩ := w
  exact ⟨_, _, _, st_d h1, w⟩
theorem ws_a {tg : FG} (w : We fa Γ S fun d S1 => ∃ Γ1, tg d Γ S1 = some Γ1 ∧ R .nx Γ1 S1) : Ws (qAsg tg fa) Γ S R := by
  obtain ⟨d, S1, h1, Γ1, h2, w⟩ := w
  exact ⟨_, _, _, st_a h1 h2, w⟩
theorem ws_2 {is : List Nat} (w : Wa fs Γ S fun ds S1 => R .nx (setsD is ds Γ) S1) : Ws (qPar is fs) Γ S R := by
  obtain ⟨d, S1, h1, w⟩ := w
  exact ⟨_, _, _, st_2 h1, w⟩
theorem ws_g {o : O2} (w : ∃ x, Γ[n]? = some (some x) ∧ We fa Γ S fun y S1 => WO o x y S1 fun z S2 => R .nx (Γ.set n (some z)) S2) : Ws (qAug n o fa) Γ S R := by
  obtain ⟨x, h0, y, S1, h1, z, S2, h2, w⟩ := w
  exact ⟨_, _, _, st_g h0 h1 h2, w⟩
theorem ws_gI {o : O2} (w : We fo Γ S fun x S1 => We fi Γ S1 fun y S2 => ∃ u, itemD S2 x y = some u ∧ We fa Γ S2 fun v S3 => WO o u v S3 fun z S4 => ∃ S5, setIt x y z S4 = some S5 ∧ R .nx Γ S5) : Ws (qAugI o fo fi fa) Γ S R := by
  obtain ⟨x, S1, h1, y, S2, h2, u, h3, v, S3, h4, z, S4, h5, S5, h6, w⟩ := w
  refine ⟨_, _, _, ?_, w⟩
  rw [qAugI, h1, Option.bind_some, h2, Option.bind_some]
  simp only
  rw [h3, Option.bind_some, h4, Option.bind_some, h5, Option.bind_some]
  simp only
  rw [h6]
  rfl
theorem ws_pre (w : Ws s (wipeD Γ vs) S R) : Ws (qPre vs s) Γ S R := w
def Kw (vs : List Nat) (R : QS) : QS := fun o Γ S => match o with
  | .rt d => R (.rt d) Γ S
  | o => R o (wipeD Γ vs) S
theorem ws_tw (w : Ws s Γ S (Kw vs R)) : Ws (qTw vs s) Γ S R := by
  obtain ⟨o, Γ1, S1, h1, w⟩ := w
  cases o <;> exact ⟨_, _, _, by rw [qTw, h1]; rfl, w⟩
theorem kw_n (w : R .nx (wipeD Γ vs) S) : Kw vs R .nx Γ S := w
theorem kw_r (w : R (.rt d) Γ S) : Kw vs R (.rt d) Γ S := w
theorem kw_b (w : R .bk (wipeD Γ vs) S) : Kw vs R .bk Γ S := w
theorem kw_c (w : R .ct (wipeD Γ vs) S) : Kw vs R .ct Γ S := w
def Kr (b : Nat) (vs : List Nat) (R : QS) : QS := fun o Γ S => match o with
  | .rt d => R (.rt d) Γ S
  | o => R o (trimR b vs (Γ, S)).1 (trimR b vs (Γ, S)).2
theorem ws_tr (w : Ws s Γ S (Kr S.length vs R)) : Ws (qTr vs s) Γ S R := by
  obtain ⟨o, Γ1, S1, h1, w⟩ := w
  cases o <;> exact ⟨_, _, _, by rw [qTr, h1]; rfl, w⟩
theorem kr_r {b : Nat} (w : R (.rt d) Γ S) : Kr b vs R (.rt d) Γ S := w
/-- behind a block: what is new has become values -/
theorem kr_n {b : Nat} {T : Sto} (hS : Cls b S) (hl : b = S.length) (h2 : rdg b (S ++ T) (wipeD Γ vs) = Γ1) (w : R .nx Γ1 S) : Kr b vs R .nx Γ (S ++ T) := by
  show R .nx (trimR b vs (Γ, S ++ T)).1 (trimR b vs (Γ, S ++ T)).2
  simp only [trimR, hS.ro b T hl, hS.rd hl T, if_true, h2]
  exact w
def Wl (t : FG) (body : FS) (lk : Lk) (its : List D) (Γ : Ctx) (S : Sto) (R : QS) : Prop := ∃ o Γ1 S1, forL t body lk its Γ S = some (o, Γ1, S1) ∧ R o Γ1 S1
theorem ws_f {it : FI} {t : FG} {body : FS} (w : WI it Γ S fun l lk S1 => Wl t body lk l (wipeD Γ vs) S1 R) : Ws (qForW it vs t body) Γ S R := by
  obtain ⟨l, lk, S1, h1, o, Γ1, S2, h2, w⟩ := w
  exact ⟨_, _, _, st_fw h1 h2, w⟩
/-- behind a turn -/
def Kl (I : Ctx → Sto → Prop) (R : QS) : QS := fun o Γ S => match o with
  | .nx => I Γ S
  | .ct => I Γ S
  | .bk => R .nx Γ S
  | .rt d => R (.rt d) Γ S
theorem wl_inv {t : FG} {body : FS} {lk : Lk} {its : List D} (I : Nat → Ctx → Sto → Prop) (hl : ∀ i Γ S, i ≤ its.length → I i Γ S → Lkd lk S)
    (hs : ∀ i d Γ S, its[i]? = some d → I i Γ S → ∃ Γ1, t d Γ S = some Γ1 ∧ Ws body Γ1 S (Kl (I (i + 1)) R)) (h0 : I 0 Γ S) (hq : ∀ Γ S, I its.length Γ S → R .nx Γ S) : Wl t body lk its Γ S R := by
  induction its generalizing I Γ S with
  | nil => exact ⟨.nx, Γ, S, by rw [forL, if_pos (hl 0 Γ S (Nat.le_refl _) h0)], hq Γ S h0⟩
  | cons d r ih =>
    obtain ⟨Γ1, e1, o, Γ2, S2, e2, k⟩ := hs 0 d Γ S rfl h0
    have hlk := hl 0 Γ S (Nat.zero_le _) h0
    have go : I 1 Γ2 S2 → Wl t body lk r Γ2 S2 R := fun h => ih (fun i => I (i + 1)) (fun i Γ S hi h => hl (i + 1) Γ S (by simpa using hi) h) (fun i d Γ S hd h => hs (i + 1) d Γ S (by simpa using hd) h) h hq
    cases o with
    | nx =>
      obtain ⟨o, Γ3, S3, e3, q⟩ := go k
      exact ⟨o, Γ3, S3, by rw [forL, if_pos hlk, e1, Option.bind_some, e2, Option.bind_some]; exact e3, q⟩
    | ct =>
      obtain ⟨o, Γ3, S3, e3, q⟩ := go k
      exact ⟨o, Γ3, S3, by rw [forL, if_pos hlk, e1, Option.bind_some, e2, Option.bind_some]; exact e3, q⟩
    | bk => exact ⟨_, _, _, by rw [forL, if_pos hlk, e1, Option.bind_some, e2, Option.bind_some], k⟩
    | rt d => exact ⟨_, _, _, by rw [forL, if_pos hlk, e1, Option.bind_some, e2, Option.bind_some], k⟩
/-- over xs: the state is a plain thing -/
theorem wl_fold {α σ : Type} {t : FG} {body : FS} {xs : List α} {enc : α → D} (E : σ → Ctx) (Z : σ → Sto) (step : σ → α → σ) (I : List α → σ → Prop) {st : σ}
    (hs : ∀ p x q s, xs = p ++ x :: q → I p s → ∃ Γ1, t (enc x) (E s) (Z s) = some Γ1 ∧ Ws body Γ1 (Z s) (Kl (fun Γ S => Γ = E (step s x) ∧ S = Z (step s x) ∧ I (p ++ [x]) (step s x)) R))
    (h0 : I [] st) (hΓ : Γ = E st) (hS : S = Z st) (hq : I xs (xs.foldl step st) → R .nx (E (xs.foldl step st)) (Z (xs.foldl step st))) : Wl t body [] (xs.map enc) Γ S R := by
  refine wl_inv (fun i Γ S => ∃ s, Γ = E s ∧ S = Z s ∧ s = (xs.take i).foldl step st ∧ I (xs.take i) s) (fun i Γ S _ _ => lkd_nil S) (fun i d Γ S hd h => ?_) ⟨st, hΓ, hS, rfl, h0⟩ (fun Γ S h => ?_)
  · obtain ⟨s, rfl, rfl, e, hI⟩ := h
    rw [List.getElem?_map] at hd
    obtain ⟨x, hx, rfl⟩ := map_some hd
    obtain ⟨hi, ex⟩ := List.getElem?_eq_some_iff.mp hx
    have exs : xs = xs.take i ++ x :: xs.drop (i + 1) := by
      rw [← ex, List.getElem_cons_drop, List.take_append_drop]
    have et : xs.take (i + 1) = xs.take i ++ [x] := by rw [List.take_succ, hx]; rfl
    obtain ⟨Γ1, e1, o, Γ2, S2, e2, k⟩ := hs _ x _ s exs hI
    refine ⟨Γ1, e1, o, Γ2, S2, e2, ?_⟩
    have go : (Γ2 = E (step s x) ∧ S2 = Z (step s x) ∧ I (xs.take i ++ [x]) (step s x)) → ∃ s, Γ2 = E s ∧ S2 = Z s ∧ s = (xs.take (i + 1)).foldl step st ∧ I (xs.take (i + 1)) s := fun ⟨a, b, c⟩ => ⟨step s x, a, b, by rw [et, List.foldl_append, ← e]; rfl, by rw [et]; exact c⟩
    cases o with
    | nx => exact go k
    | ct => exact go k
    | bk => exact k
    | rt d => exact k
  · obtain ⟨s, rfl, rfl, e, hI⟩ := h
    rw [List.length_map, List.take_length] at e hI
    subst e
    exact hq hI
theorem ws_while {c : FT} {body : FS} (I : Nat → Ctx → Sto → Prop) (hs : ∀ m Γ S, I m Γ S → Wt c Γ S fun b S1 => if b = true then Ws body Γ S1 (Kl (fun Γ2 S2 => ∃ m', m' < m ∧ I m' Γ2 S2) R) else R .nx Γ S1) {m : Nat} (h0 : I m Γ S) : Ws (qWhile c body) Γ S R := by
  have key : ∀ m Γ S, I m Γ S → ∃ k o Γ1 S1, whL c body k Γ S = some (o, Γ1, S1) ∧ R o Γ1 S1 := by
    intro m
    induction m using Nat.strongRecOn with
    | ind m ih =>
      intro Γ S h
      obtain ⟨b, S1, h1, w⟩ := hs m Γ S h
      cases b with
      | false => rw [if_neg Bool.false_ne_true] at w; exact ⟨1, .nx, Γ, S1, by rw [whL, h1, Option.bind_some, if_neg Bool.false_ne_true], w⟩
      | true =>
        rw [if_pos rfl] at w
        obtain ⟨o, Γ2, S2, h2, k⟩ := w
        have go : (∃ m', m' < m ∧ I m' Γ2 S2) → ∃ k o Γ1 S1, whL c body k Γ2 S2 = some (o, Γ1, S1) ∧ R o Γ1 S1 := fun ⟨m', hm, h'⟩ => ih m' hm Γ2 S2 h'
        cases o with
        | nx =>
          obtain ⟨k, o, Γ3, S3, h3, q⟩ := go k
          exact ⟨k + 1, o, Γ3, S3, by rw [whL, h1, Option.bind_some, if_pos rfl, h2, Option.bind_some]; exact h3, q⟩
        | ct =>
          obtain ⟨k, o, Γ3, S3, h3, q⟩ := go k
          exact ⟨k + 1, o, Γ3, S3, by rw [whL, h1, Option.bind_some, if_pos rfl, h2, Option.bind_some]; exact h3, q⟩
        | bk => exact ⟨1, .nx, Γ2, S2, by rw [whL, h1, Option.bind_some, if_pos rfl, h2, Option.bind_some], k⟩
        | rt d => exact ⟨1, .rt d, Γ2, S2, by rw [whL, h1, Option.bind_some, if_pos rfl, h2, Option.bind_some], k⟩
  obtain ⟨k, o, Γ1, S1, h, q⟩ := key m Γ S h0
  exact ⟨o, Γ1, S1, qWhile_of h, q⟩
/-! a def -/
def Kf (b : Nat) (Q : QE) : QS := fun o Γ S => match o with
  | .rt d => Q (fin3 b (d, S)).1 (fin3 b (d, S)).2
  | .nx => Q (fin3 b (.non, S)).1 (fin3 b (.non, S)).2
  | _ => False
theorem wf_e {np n : Nat} {body : FS} (hl : ds.length = np) (w : Ws body (ds.map some ++ List.replicate (n - np) none) S (Kf S.length Q)) : WF (runE np n body) ds S Q := by
  obtain ⟨o, Γ1, S1, h1, w⟩ := w
  cases o with
  | rt d => exact ⟨_, _, rune_r hl h1 rfl, w⟩
  | nx => exact ⟨_, _, rune_n hl h1 rfl, w⟩
  | bk => exact w.elim
  | ct => exact w.elim
theorem kf_r {b : Nat} {d' : D} (h : fin3 b (d, S) = (d', S1)) (q : Q d' S1) : Kf b Q (.rt d) Γ S := by
  show Q (fin3 b (d, S)).1 (fin3 b (d, S)).2
  rw [h]
  exact q
/-- what is handed back holds no cell, and none was made -/
theorem kf_v (hS : Flat S) {b : Nat} (hb : b = S.length) (h : d.nc = true) (q : Q d S) : Kf b Q (.rt d) Γ S := by
  subst hb
  exact kf_r (fin3_same hS rfl (nc_lo _ _ h)) q
/-- .. whatever was made -/
theorem kf_w {T : Sto} {b : Nat} (hS : Cls b S) (hb : b = S.length) (h : d.nc = true) (q : Q d S) : Kf b Q (.rt d) Γ (S ++ T) := kf_r (fin3_lo hS hb (nc_lo _ _ h)) q
def Kd (b : Nat) (Q : QE) : QS := fun o Γ S => match o with
  | .rt d => Q (fin2 b (d, S)).1 (fin2 b (d, S)).2
  | .nx => Q (fin2 b (.non, S)).1 (fin2 b (.non, S)).2
  | _ => False
theorem wf_d {np n : Nat} {body : FS} (hl : ds.length = np) (w : Ws body (ds.map some ++ List.replicate (n - np) none) S (Kd S.length Q)) : WF (runD np n body) ds S Q := by
  obtain ⟨o, Γ1, S1, h1, w⟩ := w
  cases o with
  | rt d => exact ⟨_, _, run_r hl h1 rfl, w⟩
  | nx => exact ⟨_, _, run_n hl h1 rfl, w⟩
  | bk => exact w.elim
  | ct => exact w.elim
theorem kd_r {b : Nat} {d' : D} (h : fin2 b (d, S) = (d', S1)) (q : Q d' S1) : Kd b Q (.rt d) Γ S := by
  show Q (fin2 b (d, S)).1 (fin2 b (d, S)).2
  rw [h]
  exact q
theorem WF.eq (w : WF F ds S fun d' S' => d' = d ∧ S' = S1) : F ds S = some (d, S1) := by
  obtain ⟨d', S', h, rfl, rfl⟩ := w
  exact h
theorem WF.mono {Q' : QE} (w : WF F ds S Q) (h : ∀ d S, Q d S → Q' d S) : WF F ds S Q' := by
  obtain ⟨d', S', e, q⟩ := w
  exact ⟨d', S', e, h _ _ q⟩
/-! operations -/
theorem wo_mulr {i j : Int} {P : QE} (h : j.natAbs < 2 ^ 64) (q : P (.int (i * j)) S) : WO oMul (.int i) (.int j) S P := ⟨_, _, o_mulr h, q⟩
theorem wo_mull {i j : Int} {P : QE} (h : i.natAbs < 2 ^ 64) (q : P (.int (i * j)) S) : WO oMul (.int i) (.int j) S P := ⟨_, _, o_mull h, q⟩
theorem wo_mul {i j : Int} {P : QE} (h : mulOk i j = true) (q : P (.int (i * j)) S) : WO oMul (.int i) (.int j) S P := ⟨_, _, o_mul h, q⟩
theorem wo_fdv {i j : Int} {P : QE} (h : 0 < j) (h2 : j < 2 ^ 249) (q : P (.int (i / j)) S) : WO oFdiv (.int i) (.int j) S P := ⟨_, _, o_fdvs h h2, q⟩
theorem wo_mod {i j : Int} {P : QE} (h : 0 < j) (q : P (.int (i % j)) S) : WO oMod (.int i) (.int j) S P := ⟨_, _, o_mod h, q⟩
theorem isI {i : Int} {P : Int → Prop} (q : P i) : ∃ k, D.int i = .int k ∧ P k := ⟨i, rfl, q⟩
theorem wf_int {i : Int} {P : QE} (q : P (.int i) S) : WF bInt [.int i] S P := ⟨_, _, rfl, q⟩
theorem wf_abs {i : Int} {P : QE} (q : P (.int (if i < 0 then -i else i)) S) : WF bAbs [.int i] S P := ⟨_, _, rfl, q⟩
theorem wf_lenT {l : List D} {P : QE} (q : P (.int (l.length : Nat)) S) : WF bLen [.tup l] S P := ⟨_, _, rfl, q⟩
theorem wf_lenU {l : List D} {P : QE} (q : P (.int (l.length : Nat)) S) : WF bLen [.tpu l] S P := ⟨_, _, rfl, q⟩
theorem wf_lenL {l : List D} {P : QE} (q : P (.int (l.length : Nat)) S) : WF bLen [.lst l] S P := ⟨_, _, rfl, q⟩
theorem wf_min {i j : Int} {P : QE} (q : P (.int (if j < i then j else i)) S) : WF bMin2 [.int i, .int j] S P := ⟨_, _, rfl, q⟩
theorem wf_max {i j : Int} {P : QE} (q : P (.int (if j > i then j else i)) S) : WF bMax2 [.int i, .int j] S P := ⟨_, _, rfl, q⟩
theorem wf_gcd {i j : Int} {P : QE} (q : P (.int ((Nat.gcd i.natAbs j.natAbs : Nat) : Int)) S) : WF bGcd [.int i, .int j] S P := ⟨_, _, rfl, q⟩
theorem wf_tupL {l : List D} {P : QE} (q : P (.tup l) S) : WF bTup [.lst l] S P := ⟨_, _, rfl, q⟩
theorem wf_tupT {l : List D} {P : QE} (q : P (.tup l) S) : WF bTup [.tup l] S P := ⟨_, _, rfl, q⟩
theorem wf_tpuL {l : List D} {P : QE} (q : P (.tpu l) S) : WF bTpu [.lst l] S P := ⟨_, _, rfl, q⟩
theorem wo_addi {i j : Int} {P : QE} (q : P (.int (i + j)) S) : WO oAdd (.int i) (.int j) S P := ⟨_, _, rfl, q⟩
theorem wo_subi {i j : Int} {P : QE} (q : P (.int (i - j)) S) : WO oSub (.int i) (.int j) S P := ⟨_, _, rfl, q⟩
theorem wo_lti {i j : Int} {P : QE} (q : P (.bl (decide (i < j))) S) : WO oLt (.int i) (.int j) S P := ⟨_, _, rfl, q⟩
theorem wo_lei {i j : Int} {P : QE} (q : P (.bl (decide (i ≤ j))) S) : WO oLe (.int i) (.int j) S P := ⟨_, _, rfl, q⟩
theorem wo_gti {i j : Int} {P : QE} (q : P (.bl (decide (j < i))) S) : WO oGt (.int i) (.int j) S P := ⟨_, _, rfl, q⟩
theorem wo_gei {i j : Int} {P : QE} (q : P (.bl (decide (j ≤ i))) S) : WO oGe (.int i) (.int j) S P := ⟨_, _, rfl, q⟩
theorem wo_ix {P : QE} (h : oIx x y S = some (z, S1)) (q : P z S1) : WO oIx x y S P := ⟨_, _, h, q⟩
theorem wo_oI {i j : Int} {f : Int → Int → Int} {P : QE} (q : P (.int (f i j)) S) : WO (oI f) (.int i) (.int j) S P := ⟨_, _, rfl, q⟩
theorem wo_isn {P : QE} (q : P (.bl (isNon x)) S) : WO oIsN x .non S P := ⟨_, _, rfl, q⟩
theorem wo_notn {P : QE} (q : P (.bl (!isNon x)) S) : WO oNotN x .non S P := ⟨_, _, rfl, q⟩
theorem wo_addT {l m : List D} {P : QE} (h : l.length + m.length ≤ 16777216) (q : P (.tup (l ++ m)) S) : WO oAdd (.tup l) (.tup m) S P := ⟨_, _, by rw [oAdd, if_pos (by rw [sizeLine_eq]; exact h)], q⟩
theorem wo_mulL {l : List D} {k : Nat} {P : QE} (h : l.length * k ≤ 16777216) (hk : k < 2 ^ 62) (q : P (.loc S.length) (S ++ [.lst (List.replicate k l).flatten])) : WO oMul (.lst l) (.int (k : Nat)) S P := by
  refine ⟨_, _, ?_, q⟩
  have e : oMul (.lst l) (.int (k : Nat)) S = (match rdX S (.lst l) with
    | some l => if -(2 ^ 63) ≤ (k : Int) ∧ (k : Int) < 2 ^ 63 ∧ l.length * (k : Int).toNat ≤ sizeLine then some (.loc S.length, S ++ [.lst (List.replicate (k : Int).toNat l).flatten]) else none
    | _ => none) := by unfold oMul; rfl
  rw [e]
  simp only [rdX]
  rw [if_pos ⟨by omega, by omega, by rw [sizeLine_eq]; simpa using h⟩]
  simp
theorem rep_flat {α : Type} (f : α → D) (d : D) : ∀ {l : List α}, (∀ x, f x = d) → (List.replicate l.length [d]).flatten = l.map f
  | [], _ => rfl
  | x :: l, h => by rw [List.length_cons, List.replicate_succ, List.flatten_cons, rep_flat f d h, List.map_cons, h x]; rfl
theorem wl_t {l : List D} {lo hi : Option Int} {P : QE} (q : P (.tup (cut l lo hi)) S) : WL (.tup l) lo hi S P := ⟨_, _, rfl, q⟩
theorem wl_l {l : List D} {lo hi : Option Int} {P : QE} (q : P (.loc S.length) (S ++ [.lst (cut l lo hi)])) : WL (.lst l) lo hi S P := ⟨_, _, rfl, q⟩
theorem wl_r {l : List D} {lo hi : Option Int} {P : QE} (q : P (.loc S.length) (S ++ [.lst (cut l lo hi)])) : WL (.rov l) lo hi S P := ⟨_, _, rfl, q⟩
theorem wo_eqi {i j : Int} {P : QE} (q : P (.bl (i == j)) S) : WO oEq (.int i) (.int j) S P := ⟨_, _, eq_int _ _ _, q⟩
theorem wo_nei {i j : Int} {P : QE} (q : P (.bl (!(i == j))) S) : WO oNe (.int i) (.int j) S P := ⟨_, _, ne_int _ _ _, q⟩
theorem wo_eqs {i j : Str} {P : QE} (h : PyData.strOk i = true) (h2 : PyData.strOk j = true) (q : P (.bl (i == j)) S) : WO oEq (.str i) (.str j) S P := ⟨_, _, eq_str h h2 _, q⟩
theorem wo_nes {i j : Str} {P : QE} (h : PyData.strOk i = true) (h2 : PyData.strOk j = true) (q : P (.bl (!(i == j))) S) : WO oNe (.str i) (.str j) S P := ⟨_, _, ne_str h h2 _, q⟩
end
end Dl

open PySem L2 Dl in
local macro_rules | `(tactic| walk_at "st") => `(tactic| (repeat (first
  | ((with_reducible refine' we_v ?hh ?_); (case hh => exact rfl))
  | with_reducible refine' we_c ?_ | with_reducible refine' we_b ?_ | with_reducible refine' we_u ?_ | ((with_reducible refine' wu ?hh ?_); (case hh => exact rfl))
  | with_reducible refine' wa_1 ?_ | with_reducible refine' wa_0 ?_ | with_reducible refine' we_f ?_ | with_reducible refine' we_t ?_ | with_reducible refine' we_l ?_ | with_reducible refine' we_tl ?_ | with_reducible refine' we_if ?_ | with_reducible refine' we_m ?_ | with_reducible refine' we_mU ?_
  | with_reducible refine' we_s ?_ | with_reducible refine' wp_n ?_ | with_reducible refine' wp_p ?_ | with_reducible refine' we_and ?_ | with_reducible refine' we_or ?_ | with_reducible refine' we_not ?_ | with_reducible refine' we_ch ?_ | with_reducible refine' we_isi ?_ | with_reducible refine' we_get2 ?_
  | with_reducible refine' wt_s ?_ | with_reducible refine' wt_t ?_ | with_reducible refine' wt_n ?_ | with_reducible refine' wt_a ?_ | with_reducible refine' wt_o ?_ | with_reducible refine' wt_y ?_ | with_reducible refine' isT ?_ | with_reducible refine' isI ?_ | with_reducible refine' wf_int ?_ | with_reducible refine' wf_abs ?_ | with_reducible refine' wf_lenT ?_ | with_reducible refine' wf_lenU ?_ | with_reducible refine' wf_lenL ?_ | with_reducible refine' wf_min ?_ | with_reducible refine' wf_max ?_ | with_reducible refine' wf_gcd ?_ | with_reducible refine' wf_tupL ?_ | with_reducible refine' wf_tupT ?_ | with_reducible refine' wf_tpuL ?_ | with_reducible refine' ifT ?_ | with_reducible refine' ifF ?_
  | with_reducible refine' wi_r ?_ | with_reducible refine' wi_k ?_ | with_reducible refine' wi_e ?_ | with_reducible refine' wi_z ?_
  | with_reducible refine' ws_q ?_ | with_reducible refine' kq_n ?_ | with_reducible refine' kq_r ?_ | with_reducible refine' kq_b ?_ | with_reducible refine' kq_c ?_ | with_reducible refine' ws_n ?_ | with_reducible refine' ws_b ?_ | with_reducible refine' ws_c ?_ | with_reducible refine' ws_s ?_ | with_reducible refine' ws_p ?_ | with_reducible refine' ws_if ?_ | with_reducible refine' ws_r ?_ | with_reducible refine' ws_d ?_
  | with_reducible refine' ws_a ?_ | with_reducible refine' ws_2 ?_ | with_reducible refine' ws_g ?_ | with_reducible refine' ws_gI ?_ | with_reducible refine' ws_pre ?_ | with_reducible refine' ws_tw ?_ | with_reducible refine' kw_n ?_ | with_reducible refine' kw_r ?_ | with_reducible refine' kw_b ?_ | with_reducible refine' kw_c ?_ | with_reducible refine' ws_tr ?_ | with_reducible refine' kr_r ?_ | with_reducible refine' ws_f ?_
  | with_reducible refine' wo_eqi ?_ | with_reducible refine' wo_nei ?_
  | ((with_reducible refine' wo_mulr ?hh ?_); (case hh => decide)) | ((with_reducible refine' wo_mull ?hh ?_); (case hh => decide))
  | with_reducible refine' wo_addi ?_ | with_reducible refine' wo_subi ?_ | with_reducible refine' wo_lti ?_ | with_reducible refine' wo_lei ?_ | with_reducible refine' wo_gti ?_ | with_reducible refine' wo_gei ?_ | with_reducible refine' wo_isn ?_ | with_reducible refine' wo_notn ?_ | with_reducible refine' wo_oI ?_
  | with_reducible refine' wl_t ?_ | with_reducible refine' wl_l ?_ | with_reducible refine' wl_r ?_
  | ((with_reducible refine' wo_ix ?hh ?_); (case hh => exact rfl)))))

namespace PL
open PySem L2 Dl
/-! ### a ledger of draws: two numbers, then great ones -/
def enL (a b : Int) (r : List Int) : Cell := .lst (.int a :: .int b :: r.map D.int)
structure LedOk (r : List Int) : Prop where
  len : r.length ≤ 60
  pos : ∀ x ∈ r, 0 ≤ x
def Led (S : Sto) (n : Nat) : Prop := ∃ a b r, S[n]? = some (enL a b r) ∧ LedOk r
theorem set_set {S : Sto} {n : Nat} {c c' : Cell} : (S.set n c).set n c' = S.set n c' := List.set_set ..
/-- the store after draws -/
def Up (n : Nat) (S S' : Sto) : Prop := ∃ c, S' = S.set n c ∧ c.flat = true ∧ Led S' n
theorem Up.led {n : Nat} {S S' : Sto} (u : Up n S S') : Led S' n := by obtain ⟨c, _, _, h⟩ := u; exact h
theorem Up.len {n : Nat} {S S' : Sto} (u : Up n S S') : S'.length = S.length := by obtain ⟨c, e, _, _⟩ := u; rw [e, List.length_set]
theorem Up.flat {n : Nat} {S S' : Sto} (u : Up n S S') (h : Flat S) : Flat S' := by obtain ⟨c, e, f, _⟩ := u; rw [e]; exact h.setF n f
theorem Up.get {n m : Nat} {S S' : Sto} (u : Up n S S') (h : m ≠ n) : S'[m]? = S[m]? := by obtain ⟨c, e, _, _⟩ := u; rw [e, List.getElem?_set_ne (Ne.symm h)]
theorem Up.trans {n : Nat} {S S' S2 : Sto} (u : Up n S S') (v : Up n S' S2) : Up n S S2 := by
  obtain ⟨c, e, f, h⟩ := u
  obtain ⟨c', e', f', h'⟩ := v
  exact ⟨c', by rw [e', e, set_set], f', h'⟩
theorem Led.lt {n : Nat} {S : Sto} (h : Led S n) : n < S.length := by obtain ⟨a, b, r, e, _⟩ := h; exact lt_get e
theorem Led.app {n : Nat} {S : Sto} (h : Led S n) (T : Sto) : Led (S ++ T) n := by
  obtain ⟨a, b, r, e, ok⟩ := h
  exact ⟨a, b, r, get_app T e, ok⟩
theorem Up.app {n : Nat} {S S' T : Sto} (h : n < S.length) (u : Up n (S ++ T) S') : ∃ S2, S' = S2 ++ T ∧ Up n S S2 := by
  obtain ⟨c, e, f, a, b, r, g, ok⟩ := u
  rw [set_app _ _ h] at e
  refine ⟨S.set n c, e, c, rfl, f, a, b, r, ?_, ok⟩
  rw [e, List.getElem?_append_left (by rw [List.length_set]; exact h)] at g
  exact g
theorem enL_flat (a b : Int) (r : List Int) : (enL a b r).flat = true := by
  have : D.ncs (r.map D.int) = true := ncs_map _ (fun _ => by rw [D.nc]) r
  simp [enL, Cell.flat, D.ncs, D.nc, this]
/-- the draw: the numbers of the law -/
noncomputable def mouldM (k1 k2 k3 m v : Int) : FS :=
    (qSeq (qPut (eBin oAdd (eBin oIx (eVar 0) (eC (.int 1))) (eC (.int 1))) (eVar 0) (eC (.int 1)))
    (qSeq (qIf (tst (eBin oGt (eCall bLen [(eVar 0)]) (eC (.int 2))))
    (qSeq (qSet 2 (eCall bInt [(eBin oIx (eVar 0) (eUn oNeg (eC (.int 1))))]))
    (qSeq (qPut (eBin oFdiv (eVar 2) (eVar 1)) (eVar 0) (eUn oNeg (eC (.int 1))))
    (qSeq (qIf (tst (eBin oEq (eBin oIx (eVar 0) (eUn oNeg (eC (.int 1)))) (eC (.int 0))))
    (qDrop (eMeth "list" mPop (eVar 0) []))
    qNx)
    (qRet (eBin oMod (eCall bInt [(eVar 2)]) (eVar 1))))))
    qNx)
    (qSeq (qPut (eBin oMod (eCall bInt [(eBin oAdd (eBin oAdd (eBin oMul (eBin oIx (eVar 0) (eC (.int 0))) (eC (.int k1))) (eBin oMul (eBin oIx (eVar 0) (eC (.int 1))) (eC (.int k2)))) (eC (.int k3)))]) (eC (.int m))) (eVar 0) (eC (.int 0)))
    (qRet (eBin oMod (eCall bInt [(eBin oFdiv (eBin oIx (eVar 0) (eC (.int 0))) (eC (.int v)))]) (eVar 1))))))
structure MouldOk (k1 k2 m v : Int) : Prop where
  h1 : k1.natAbs < 2 ^ 64
  h2 : k2.natAbs < 2 ^ 64
  h3 : 0 < m
  h4 : 0 < v
  h5 : v < 2 ^ 249
theorem last_get (a b : Int) (q : List Int) (x : Int) : (D.int a :: D.int b :: (q ++ [x]).map D.int)[(D.int a :: D.int b :: (q ++ [x]).map D.int).length - 1]? = some (.int x) := by
  simp
theorem last_set (a b : Int) (q : List Int) (x y : Int) : (D.int a :: D.int b :: (q ++ [x]).map D.int).set ((D.int a :: D.int b :: (q ++ [x]).map D.int).length - 1) (.int y) = D.int a :: D.int b :: (q ++ [y]).map D.int := by
  simp
theorem last_drop (a b : Int) (q : List Int) (x : Int) : (D.int a :: D.int b :: (q ++ [x]).map D.int).dropLast = D.int a :: D.int b :: q.map D.int := by
  rw [show (D.int a :: D.int b :: (q ++ [x]).map D.int) = (D.int a :: D.int b :: q.map D.int) ++ [.int x] by simp, List.dropLast_concat]
theorem s_l' {S : Sto} {n : Nat} {l : List D} {k : Int} {j : Nat} {d : D} {c : Cell} (h : S[n]? = some (.lst l)) (h2 : ixN l.length k = some j) (h3 : Cell.lst (l.set j d) = c) : setIt (.loc n) (.int k) d S = some (S.set n c) := s_e h h2 h3
section
variable {S : Sto} {n : Nat} {m : Int} {k1 k2 k3 md v : Int} {Q : QE}
theorem mould (ok : MouldOk k1 k2 md v) (h : Led S n) (hf : Flat S) (hm : 0 < m) (hm2 : m < 2 ^ 249) (q : ∀ (w : Nat) (S' : Sto), (w : Int) < m → Up n S S' → Q (.int w) S') : WF (runE 2 3 (mouldM k1 k2 k3 md v)) [.loc n, .int m] S Q := by
  obtain ⟨a, b, r, hS, lok⟩ := h
  have g : ∀ a b r, (S.set n (enL a b r))[n]? = some (enL a b r) := fun a b r => get_set _ hS
  have up : ∀ a b r, LedOk r → Up n S (S.set n (enL a b r)) := fun a b r ok => ⟨_, rfl, enL_flat _ _ _, a, b, r, g _ _ _, ok⟩
  have fin : ∀ a b r (x : Int), LedOk r → Kf S.length Q (.rt (.int (x % m))) [some (.loc n), some (.int m), none] (S.set n (enL a b r)) := fun a b r x ok => by
    refine kf_v ((up a b r ok).flat hf) (by simp) (by rw [D.nc]) ?_
    have h0 := Int.emod_nonneg x (show m ≠ 0 by omega)
    have h1 := Int.emod_lt_of_pos x hm
    have e : x % m = ((x % m).toNat : Int) := by omega
    rw [e]
    exact q _ _ (by omega) (up a b r ok)
  refine wf_e rfl ?_
  show Ws (mouldM k1 k2 k3 md v) [some (.loc n), some (.int m), none] S _
  unfold mouldM
  walk_at "st"
  refine wo (o_ixl hS (at_1 _ _ _)) ?_
  walk_at "st"
  refine ⟨S.set n (enL a (b + 1) r), s_e hS (ix_1 (by simp)) rfl, ?_⟩
  walk_at "st"
  refine wf (b_lenl (g _ _ _)) ?_
  walk_at "st"
  rcases List.eq_nil_or_concat r with e | ⟨p, x, e⟩
  · subst e
    refine ifB (fun hc => absurd hc (by simp)) fun _ => ?_
    walk_at "st"
    refine wo (o_ixl (g _ _ _) rfl) ?_
    walk_at "st"
    refine wo_mulr ok.h1 ?_
    walk_at "st"
    refine wo (o_ixl (g _ _ _) rfl) ?_
    walk_at "st"
    refine wo_mulr ok.h2 ?_
    walk_at "st"
    refine wo_mod ok.h3 ?_
    walk_at "st"
    refine ⟨S.set n (enL ((a * k1 + (b + 1) * k2 + k3) % md) (b + 1) []), by rw [s_e (c := enL _ _ []) (g _ _ _) rfl rfl, set_set], ?_⟩
    walk_at "st"
    refine wo (o_ixl (g _ _ _) rfl) ?_
    walk_at "st"
    refine wo_fdv ok.h4 ok.h5 ?_
    walk_at "st"
    refine wo_mod hm ?_
    walk_at "st"
    exact fin _ _ _ _ lok
  · rw [List.concat_eq_append] at e
    subst e
    have hx : 0 ≤ x := lok.pos x (by simp)
    refine ifB (fun _ => ?_) fun hc => absurd hc (by simp; omega)
    walk_at "st"
    refine wo (o_ixl (g _ _ _) (at_last (last_get a (b + 1) p x))) ?_
    walk_at "st"
    have g2 := last_set a (b + 1) p x (x / m)
    walk_at "st"
    refine wo_fdv hm hm2 ?_
    walk_at "st"
    refine ⟨S.set n (enL a (b + 1) (p ++ [x / m])), by rw [s_e (c := enL _ _ _) (g _ _ _) (ix_neg (by simp)) (congrArg Cell.lst g2), set_set], ?_⟩
    have rok : LedOk (p ++ [x / m]) := ⟨by have := lok.len; simpa using this, fun y hy => by
      rcases List.mem_append.mp hy with h | h
      · exact lok.pos y (by simp [h])
      · rw [List.mem_singleton.mp h]
        exact Int.ediv_nonneg hx (by omega)⟩
    walk_at "st"
    refine wo (o_ixl (g _ _ _) (at_last (last_get a (b + 1) p (x / m)))) ?_
    walk_at "st"
    refine ifB (fun hc => ?_) fun hc => ?_
    · walk_at "st"
      refine ⟨ty_l (g _ _ _), ?_⟩
      walk_at "st"
      refine wm (m_pop (g _ _ _) (last_get a (b + 1) p (x / m))) ?_
      walk_at "st"
      refine wo_mod hm ?_
      walk_at "st"
      rw [set_set, last_drop]
      exact fin a (b + 1) p x ⟨by have := lok.len; simp at this; omega, fun y hy => lok.pos y (by simp [hy])⟩
    · walk_at "st"
      refine wo_mod hm ?_
      walk_at "st"
      exact fin _ _ _ _ rok
end
end PL

namespace PL
open PySem L2 Dl
theorem line : sizeLine = 16777216 := sizeLine_eq
/-! ### what a draw promises -/
def Draw (F : FF) : Prop := ∀ (S : Sto) (n : Nat) (m : Int) (Q : QE), Led S n → Flat S → 0 < m → m < 2 ^ 249 → (∀ (w : Nat) (S' : Sto), (w : Int) < m → Up n S S' → Q (.int w) S') → WF F [.loc n, .int m] S Q
theorem mould_draw {k1 k2 k3 md v : Int} (ok : MouldOk k1 k2 md v) : Draw (runE 2 3 (mouldM k1 k2 k3 md v)) := fun _ _ _ _ h hf hm hm2 q => mould ok h hf hm hm2 q
noncomputable def ofM (F : FF) : FS := (qRet (eBin oIx (eVar 1) (eCall F [(eVar 0), (eCall bLen [(eVar 1)])])))
def OfOk (F : FF) : Prop := ∀ (S : Sto) (n : Nat) (ds : List D) (Q : QE), Led S n → Flat S → 0 < ds.length → ds.length < 1000 → D.ncs ds = true → (∀ d ∈ ds, ∀ S' : Sto, Up n S S' → Q d S') → WF F [.loc n, .lst ds] S Q ∧ WF F [.loc n, .tup ds] S Q
theorem of_ok {F : FF} (hd : Draw F) : OfOk (runE 2 2 (ofM F)) := by
  intro S n ds Q h hf h0 hl hp q
  have nc : ∀ d ∈ ds, d.nc = true := fun d hd => by
    rw [ncs_all] at hp
    exact List.all_eq_true.mp hp d hd
  constructor
  · refine wf_e rfl ?_
    show Ws (ofM F) [some (.loc n), some (.lst ds)] S _
    unfold ofM
    walk_at "st"
    refine hd S n _ _ h hf (by omega) (by omega) fun w S' hw u => ?_
    have hw' : w < ds.length := by omega
    refine wo (by show (atI ds (w : Int)).map _ = _; rw [at_nat hw']; rfl) ?_
    have hm : ds[w] ∈ ds := List.getElem_mem hw'
    exact kf_v (u.flat hf) u.len.symm (nc _ hm) (q _ hm S' u)
  · refine wf_e rfl ?_
    show Ws (ofM F) [some (.loc n), some (.tup ds)] S _
    unfold ofM
    walk_at "st"
    refine hd S n _ _ h hf (by omega) (by omega) fun w S' hw u => ?_
    have hw' : w < ds.length := by omega
    refine wo (by show (atI ds (w : Int)).map _ = _; rw [at_nat hw']; rfl) ?_
    have hm : ds[w] ∈ ds := List.getElem_mem hw'
    exact kf_v (u.flat hf) u.len.symm (nc _ hm) (q _ hm S' u)
/-! ### the ledger made -/
noncomputable def castB (k m1 c md : Int) (ge : FE) : FS :=
    (qTw [0, 2, 3] (qSeq (qSet 3 (eCall bAbs [(eCall bInt [(eVar 2)])]))
    (qSeq (qPut (eBin oMod (eCall bInt [(eBin oAdd (eBin oAdd (eBin oMul (eBin oIx (eVar 1) (eC (.int 0))) (eC (.int k))) (eBin oMod (eCall bInt [(eVar 3)]) (eC (.int m1)))) (eC (.int c)))]) (eC (.int md))) (eVar 1) (eC (.int 0)))
    (qIf (tst (eBin oGe (eVar 3) ge))
    (qDrop (eMeth "list" mInsert (eVar 1) [(eC (.int 2)), (eVar 3)]))
    qNx))))
noncomputable def castM (a0 b0 k m1 c md : Int) (ge : FE) : FS :=
    (qSeq (qSet 1 (eLst [(eC (.int a0)), (eC (.int b0))]))
    (qSeq (qForW (iVal (tidy3 (eSl (eVar 0) oNo (oPart (eC (.int 60)))))) [0] (gN 2) (castB k m1 c md ge))
    (qRet (eVar 1))))
structure CastOk (k m1 md : Int) (ge : FE) : Prop where
  h1 : k.natAbs < 2 ^ 64
  h2 : 0 < m1
  h3 : 0 < md
  h4 : ∃ t : Int, ∀ Γ S (Q : QE), Q (.int t) S → We ge Γ S Q
theorem ints_nc (l : List Int) : D.ncs (l.map D.int) = true := ncs_map _ (fun _ => by rw [D.nc]) l
theorem strs_nc (l : List Str) : D.ncs (l.map D.str) = true := ncs_map _ (fun _ => by rw [D.nc]) l
theorem cut_to {α : Type} (xs : List α) (n : Nat) : cut xs none (some (n : Int)) = xs.take n := by
  unfold cut
  have e1 : HT.sIx xs.length 0 none = 0 := rfl
  have e2 : HT.sIx xs.length xs.length (some (n : Int)) = min n xs.length := by
    simp [HT.sIx]
    try omega
  rw [e1, e2, List.drop_zero, Nat.sub_zero]
  by_cases h : n ≤ xs.length
  · rw [Nat.min_eq_left h]
  · rw [Nat.min_eq_right (by omega), List.take_length, List.take_of_length_le (by omega)]
theorem m_ins {S : Sto} {n : Nat} {l : List D} {i : Int} {y : D} (h : S[n]? = some (.lst l)) (hl : l.length < sizeLine) (h0 : 0 ≤ i) (h1 : i < 2 ^ 63) : mInsert (.loc n) [.int i, y] S = some (.non, S.set n (.lst (l.take i.toNat ++ [y] ++ l.drop i.toNat))) := by
  simp only [mInsert, h]
  rw [if_pos ⟨hl, h0, h1⟩]
theorem cast_ok {S : Sto} {a0 b0 k m1 c md : Int} {ge : FE} {ns : List Int} {Q : QE} (ok : CastOk k m1 md ge) (hf : Flat S) (hn : ns.length ≤ 63) (q : ∀ c' : Cell, c'.flat = true → Led (S ++ [c']) S.length → Q (.loc S.length) (S ++ [c'])) :
    WF (runD 1 4 (castM a0 b0 k m1 c md ge)) [.rov (ns.map D.int)] S Q := by
  obtain ⟨t, ht⟩ := ok.h4
  refine wf_d rfl ?_
  show Ws (castM a0 b0 k m1 c md ge) [some (.rov (ns.map D.int)), none, none, none] S _
  unfold castM
  walk_at "st"
  refine wi_v (we_tn ?_)
  walk_at "st"
  have hfl : Flat (S ++ [enL a0 b0 []]) := hf.app (enL_flat _ _ _)
  refine ⟨S ++ [enL a0 b0 []], (ns.take 60).map D.int, rfl, ?_, hfl, rfl, ints_nc _, fun z e => by simp at e, _, _, rfl, ?_⟩
  · have := cut_to (ns.map D.int) 60
    rw [← List.map_take] at this
    rw [← this]
    rfl
  refine wl_fold (σ := Int × List Int) (fun s => [none, some (.loc S.length), none, none]) (fun s => S ++ [enL s.1 b0 s.2]) (fun s x => ((s.1 * k + (if x < 0 then -x else x) % m1 + c) % md, if decide (t ≤ (if x < 0 then -x else x)) = true then (if x < 0 then -x else x) :: s.2 else s.2)) (fun p s => s.2.length ≤ p.length ∧ ∀ y ∈ s.2, 0 ≤ y) (st := (a0, [])) ?_ ⟨Nat.le_refl _, fun y hy => by simp at hy⟩ rfl rfl ?_
  · intro p x q' s ex hI
    refine ⟨_, rfl, ?_⟩
    have hlen : p.length < 60 := by
      have := congrArg List.length ex
      rw [List.length_take, List.length_append, List.length_cons] at this
      omega
    have g : ∀ a r, (S ++ [enL a b0 r])[S.length]? = some (enL a b0 r) := fun a r => get_end S [] _
    have st : ∀ a r c, (S ++ [enL a b0 r]).set S.length c = S ++ [c] := fun a r c => set_end S [] _ _
    unfold castB
    have hy0 : 0 ≤ (if x < 0 then -x else x) := by split <;> omega
    generalize hy : (if x < 0 then -x else x) = y at hy0
    walk_at "st"
    rw [hy]
    refine wo (o_ixl (g _ _) (at_0 _ _)) ?_
    walk_at "st"
    refine wo_mulr ok.h1 ?_
    walk_at "st"
    refine wo_mod ok.h2 ?_
    walk_at "st"
    refine wo_mod ok.h3 ?_
    walk_at "st"
    refine ⟨_, s_e (g _ _) (ix_0 (by simp)) (c := enL ((s.1 * k + y % m1 + c) % md) b0 s.2) rfl, ?_⟩
    rw [st]
    walk_at "st"
    refine ht _ _ _ ?_
    walk_at "st"
    refine ifB (fun hc => ?_) fun hc => ?_
    · walk_at "st"
      refine ⟨ty_l (g _ _), ?_⟩
      walk_at "st"
      refine wm (m_ins (g _ _) (by rw [line]; simp; omega) (by decide) (by decide)) ?_
      rw [st]
      walk_at "st"
      simp only [hc, if_true, hy]
      refine ⟨rfl, rfl, by simp; omega, fun z hz => ?_⟩
      rcases List.mem_cons.mp hz with e | e
      · rw [e]; exact hy0
      · exact hI.2 z e
    · walk_at "st"
      simp only [hc, hy, Bool.false_eq_true, if_false]
      exact ⟨rfl, rfl, by rw [List.length_append]; omega, hI.2⟩
  · intro hI
    generalize hs : List.foldl _ _ _ = s at hI
    walk_at "st"
    have lo : LedOk s.2 := ⟨by have := hI.1; rw [List.length_take] at this; omega, hI.2⟩
    have g : (S ++ [enL s.1 b0 s.2])[S.length]? = some (enL s.1 b0 s.2) := get_end S [] _
    have e : fin2 S.length (.loc S.length, S ++ [enL s.1 b0 s.2]) = (.loc S.length, S ++ [enL s.1 b0 s.2]) := by
      unfold fin2
      have ht : (S ++ [enL s.1 b0 s.2]).take S.length = S := List.take_left
      have hlo : (D.loc S.length).lo S.length = false := by rw [D.lo]; exact decide_eq_false (by omega)
      simp only [ht, hlo, g]
      rw [if_pos (List.all_eq_true.mpr fun c hc => (hf c hc).2), if_neg Bool.false_ne_true, if_pos ⟨Nat.le_refl _, flat_lo _ (enL_flat _ _ _)⟩]
    exact kd_r e (q _ (enL_flat _ _ _) ⟨_, _, _, g, lo⟩)
end PL

namespace PL
open PySem L2 Dl
mutual
/-- what can be compared part by part -/
def good : D → Bool
  | .tup l => goods l
  | .str x => PyData.strOk x
  | .int _ => true
  | .bl _ => true
  | .non => false
  | .loc _ => false
  | .lst _ => false
  | .tpu _ => false
  | .rov _ => false
  | .dkv _ _ => false
  | .dtv _ _ => false
def goods : List D → Bool
  | [] => true
  | d :: r => good d && goods r
end
mutual
def sz : D → Nat
  | .tup l => szs l + 1
  | .str _ => 1
  | .int _ => 1
  | .bl _ => 1
  | .non => 1
  | .loc _ => 1
  | .lst _ => 1
  | .tpu _ => 1
  | .rov _ => 1
  | .dkv _ _ => 1
  | .dtv _ _ => 1
def szs : List D → Nat
  | [] => 0
  | d :: r => sz d + szs r
end
theorem goods_all : ∀ l : List D, goods l = l.all good
  | [] => rfl
  | d :: r => by rw [goods, goods_all r, List.all_cons]
theorem szs_app : ∀ l m : List D, szs (l ++ m) = szs l + szs m
  | [], m => by rw [List.nil_append, szs, Nat.zero_add]
  | d :: r, m => by rw [List.cons_append, szs, szs_app r m, szs, Nat.add_assoc]
theorem sz_pos (d : D) : 1 ≤ sz d := by cases d <;> simp [sz]
theorem len_szs : ∀ l : List D, l.length ≤ szs l
  | [] => Nat.zero_le _
  | d :: r => by
    have := sz_pos d
    have := len_szs r
    rw [szs, List.length_cons]
    omega
mutual
theorem good_nc : ∀ d : D, good d = true → d.nc = true
  | .tup l, h => by rw [good] at h; rw [D.nc]; exact goods_nc l h
  | .str _, _ => by rw [D.nc]
  | .int _, _ => by rw [D.nc]
  | .bl _, _ => by rw [D.nc]
  | .non, _ => by rw [D.nc]
  | .loc _, h => by rw [good] at h; cases h
  | .lst _, h => by rw [good] at h; cases h
  | .tpu _, h => by rw [good] at h; cases h
  | .rov _, h => by rw [good] at h; cases h
  | .dkv _ _, h => by rw [good] at h; cases h
  | .dtv _ _, h => by rw [good] at h; cases h
theorem goods_nc : ∀ l : List D, goods l = true → D.ncs l = true
  | [], _ => by rw [D.ncs]
  | d :: r, h => by
    rw [goods, Bool.and_eq_true] at h
    rw [D.ncs, good_nc d h.1, goods_nc r h.2]
    rfl
end
def dup (d : D) : D := .tup [d, d]
theorem dup_nc (l : List D) (h : goods l = true) : D.ncs (l.map dup) = true := by
  rw [ncs_all, List.all_map]
  rw [goods_all] at h
  exact List.all_eq_true.mpr fun d hd => by
    have := good_nc d (List.all_eq_true.mp h d hd)
    simp [dup, D.nc, D.ncs, this]
noncomputable def sameB1 : FS :=
    (qTw [0, 1, 5] (qDrop (eMeth "list" mAppend (eVar 2) [(eTup [(eBin oIx (eVar 3) (eVar 5)), (eBin oIx (eVar 4) (eVar 5))])])))
noncomputable def sameB2 : FS :=
    (qTw [0, 1, 3, 4, 5] (qSeq (qAsg (gT [(gN 3), (gN 4)]) (eMeth "list" mPop (eVar 2) []))
    (qTw [5] (qIf (tru (eIsi "tuple" (eVar 4)))
    (qSeq (qIf (tOr2 (tNo (tru (eIsi "tuple" (eVar 3)))) (tst (eBin oNe (eCall bLen [(eVar 3)]) (eCall bLen [(eVar 4)]))))
    (qRet (eC (.bl false)))
    qNx)
    (qForW (iRng [(eCall bLen [(eVar 4)])]) [0, 1] (gN 5) sameB1))
    (qIf (tru (eIsi "str" (eVar 4)))
    (qIf (tOr2 (tNo (tru (eIsi "str" (eVar 3)))) (tst (eBin oNe (eVar 3) (eVar 4))))
    (qRet (eC (.bl false)))
    qNx)
    (qIf (tOr2 (tru (eIsi "bool" (eVar 4))) (tru (eIsi "bool" (eVar 3))))
    (qIf (tOr2 (tNo (tru (eIsi "bool" (eVar 4)))) (tOr2 (tNo (tru (eIsi "bool" (eVar 3)))) (tst (eBin oNe (eVar 3) (eVar 4)))))
    (qRet (eC (.bl false)))
    qNx)
    (qIf (tOr2 (tNo (tru (eIsi "int" (eVar 3)))) (tst (eBin oNe (eVar 3) (eVar 4))))
    (qRet (eC (.bl false)))
    qNx)))))))
noncomputable def sameM : FS :=
    (qSeq (qSet 2 (eLst [(eTup [(eVar 0), (eVar 1)])]))
    (qSeq (qPre [0, 1] (qWhile (tru (eVar 2)) sameB2))
    (qRet (eC (.bl true)))))
theorem isx {S : Sto} {d : D} {T t : String} (b : Bool) {P : Bool → Prop} (h1 : tyN S d = some t) (h2 : kitB t T = some b) (q : P b) : ∃ t b, tyN S d = some t ∧ kitB t T = some b ∧ ∃ b', dTru S (.bl b) = some b' ∧ P b' := ⟨t, b, h1, h2, b, rfl, q⟩
theorem same {S : Sto} {d : D} {Q : QE} (hf : Flat S) (hd : good d = true) (hz : sz d < 16777216) (q : Q (.bl true) S) : WF (runE 2 6 sameM) [d, d] S Q := by
  refine wf_e rfl ?_
  show Ws sameM [some d, some d, none, none, none, none] S _
  unfold sameM
  walk_at "st"
  have g : ∀ l : List D, (S ++ [Cell.lst (l.map dup)])[S.length]? = some (.lst (l.map dup)) := fun l => get_end S [] _
  refine ws_while (fun m Γ T => ∃ l : List D, Γ = [none, none, some (.loc S.length), none, none, none] ∧ T = S ++ [.lst (l.map dup)] ∧ goods l = true ∧ szs l ≤ m ∧ szs l < sizeLine) (m := szs [d]) ?_ ⟨[d], rfl, rfl, by simp [goods, hd], Nat.le_refl _, by rw [line]; simp [szs]; omega⟩
  rintro m Γ T ⟨l, rfl, rfl, hg, hm, hs⟩
  refine wt_t (we_v rfl ?_)
  rcases List.eq_nil_or_concat l with e | ⟨p, x, e⟩
  · subst e
    refine ⟨false, by show dTru _ (.loc S.length) = _; simp only [dTru, g]; rfl, ifF ?_⟩
    walk_at "st"
    exact kf_w hf rfl (by rw [D.nc]) q
  rw [List.concat_eq_append] at e
  subst e
  refine ⟨true, by show dTru _ (.loc S.length) = _; simp only [dTru, g]; simp, ifT ?_⟩
  rw [goods_all, List.all_append, Bool.and_eq_true, ← goods_all] at hg
  have hx : good x = true := by simpa using hg.2
  rw [szs_app] at hm hs
  have hpx : szs [x] = sz x := by simp [szs]
  have hp1 := sz_pos x
  have st : ∀ l : List D, ∀ c, (S ++ [Cell.lst (l.map dup)]).set S.length c = S ++ [c] := fun l c => set_end S [] _ _
  unfold sameB2
  walk_at "st"
  refine ⟨ty_l (g _), ?_⟩
  walk_at "st"
  refine wm (m_pope (g _) (d := dup x) (by simp) (c := .lst (p.map dup)) (by rw [List.map_append, List.map_singleton, List.dropLast_concat])) ?_
  rw [st]
  refine ⟨_, rfl, ?_⟩
  walk_at "st"
  have done : ∃ m' < m, ∃ l : List D, ([none, none, some (.loc S.length), none, none, none] : Dl.Ctx) = [none, none, some (.loc S.length), none, none, none] ∧ S ++ [.lst (p.map dup)] = S ++ [Cell.lst (l.map dup)] ∧ goods l = true ∧ szs l ≤ m' ∧ szs l < sizeLine := ⟨szs p, by omega, p, rfl, rfl, hg.1, Nat.le_refl _, by omega⟩
  cases x with
  | tup xs =>
    have hlx := len_szs xs
    rw [sz] at hpx
    refine isx true rfl (by decide) (ifT ?_)
    walk_at "st"
    refine isx true rfl (by decide) (ifF ?_)
    walk_at "st"
    rw [beq_self_eq_true]
    refine ifF ?_
    walk_at "st"
    refine ⟨_, rg_1 (by omega) (by rw [line] at hs; omega), ?_⟩
    have e : (Int.toNat (xs.length : Nat)) = xs.length := by omega
    rw [e]
    refine wl_inv (fun i Γ T => Γ = [none, none, some (.loc S.length), some (.tup xs), some (.tup xs), none] ∧ T = S ++ [.lst ((p ++ xs.take i).map dup)]) (fun i Γ T _ _ => lkd_nil T) ?_ ⟨rfl, by simp⟩ ?_
    · rintro i d' Γ T hd' ⟨rfl, rfl⟩
      have hil := (List.getElem?_eq_some_iff.mp hd').1
      rw [rgD_len] at hil
      have ed : d' = .int (i : Nat) := by
        rw [rgD_get _ _ _ _ hil] at hd'
        cases hd'
        congr 1
        omega
      subst ed
      refine ⟨_, rfl, ?_⟩
      unfold sameB1
      walk_at "st"
      refine ⟨ty_l (g _), ?_⟩
      walk_at "st"
      refine wo (o_ixt (at_nat hil)) ?_
      walk_at "st"
      refine wo (o_ixt (at_nat hil)) ?_
      walk_at "st"
      refine wm (m_app (g _) (by rw [List.length_map, List.length_append, List.length_take]; have := len_szs p; omega)) ?_
      walk_at "st"
      refine ⟨rfl, ?_⟩
      rw [st]
      have ee : (p ++ xs.take (i + 1)).map dup = (p ++ xs.take i).map dup ++ [dup xs[i]] := by
        rw [← List.take_append_getElem hil, ← List.append_assoc, List.map_append]
        rfl
      rw [ee]
      rfl
    · rintro Γ T ⟨rfl, rfl⟩
      rw [rgD_len, List.take_length]
      walk_at "st"
      refine ⟨szs (p ++ xs), by rw [szs_app]; omega, p ++ xs, rfl, rfl, ?_, Nat.le_refl _, by rw [szs_app]; omega⟩
      rw [good] at hx
      have hg1 := hg.1
      rw [goods_all] at hx hg1 ⊢
      rw [List.all_append, hg1, hx]
      rfl
  | str z =>
    rw [good] at hx
    refine isx false rfl (by decide) (ifF ?_)
    walk_at "st"
    refine isx true rfl (by decide) (ifT ?_)
    walk_at "st"
    refine isx true rfl (by decide) (ifF ?_)
    walk_at "st"
    refine wo (ne_str_s hx _) ?_
    walk_at "st"
    exact done
  | int z =>
    refine isx false rfl (by decide) (ifF ?_)
    walk_at "st"
    refine isx false rfl (by decide) (ifF ?_)
    walk_at "st"
    refine isx false rfl (by decide) (ifF ?_)
    walk_at "st"
    refine isx false rfl (by decide) (ifF ?_)
    walk_at "st"
    refine isx true rfl (by decide) (ifF ?_)
    walk_at "st"
    rw [beq_self_eq_true]
    refine ifF ?_
    walk_at "st"
    exact done
  | bl z =>
    refine isx false rfl (by decide) (ifF ?_)
    walk_at "st"
    refine isx false rfl (by decide) (ifF ?_)
    walk_at "st"
    refine isx true rfl (by decide) (ifT ?_)
    walk_at "st"
    refine isx true rfl (by decide) (ifF ?_)
    walk_at "st"
    refine isx true rfl (by decide) (ifF ?_)
    walk_at "st"
    refine wo (ne_bl_s _ _) ?_
    walk_at "st"
    exact done
  | _ => rw [good] at hx; cases hx
end PL

namespace PL
open PySem L2 Dl
/-! ### Euclid -/
theorem euclid_step {x y : Nat} (h : y ≤ x) (hy : 0 < y) : y * (x % y) * 2 ≤ x * y := by
  have h1 : x % y < y := Nat.mod_lt _ hy
  have h2 : y + x % y ≤ x := by
    have := Nat.div_add_mod x y
    have h3 : 1 ≤ x / y := (Nat.le_div_iff_mul_le hy).mpr (by omega)
    have h4 : y * 1 ≤ y * (x / y) := Nat.mul_le_mul_left _ h3
    omega
  calc y * (x % y) * 2 = (x % y + x % y) * y := by rw [Nat.mul_assoc, Nat.mul_comm]; congr 1; omega
    _ ≤ x * y := Nat.mul_le_mul_right _ (by omega)
theorem abs_nat (a : Int) : (if a < 0 then -a else a) = (a.natAbs : Int) := by split <;> omega
theorem max_nat (x y : Nat) : (if (y : Int) > (x : Int) then (y : Int) else (x : Int)) = ((max x y : Nat) : Int) := by split <;> omega
theorem bits_lt (x : Nat) : x < 2 ^ Builtin.Int.intBits (x : Int) := by
  unfold Builtin.Int.intBits
  split
  · rename_i h
    have : x = 0 := by simpa using h
    subst this
    decide
  · rw [Int.natAbs_natCast]
    exact Nat.lt_log2_self
theorem bits_le {x k : Nat} (h : x < 2 ^ (k + 1)) : Builtin.Int.intBits (x : Int) ≤ k + 1 := by
  unfold Builtin.Int.intBits
  split
  · omega
  · rw [Int.natAbs_natCast]
    have := log_of h
    omega
/-- where the loop of divisor stands at turn i -/
def Euc (g B : Nat) (i : Nat) (x y : Nat) : Prop := Nat.gcd x y = g ∧ ((i = 0 ∧ x < 2 ^ B ∧ y < 2 ^ B) ∨ (1 ≤ i ∧ y < x ∧ x * y * 2 ^ (i - 1) < 2 ^ (2 * B)))
theorem Euc.next {g B i x y : Nat} (h : Euc g B i x y) (hy : 0 < y) : Euc g B (i + 1) y (x % y) := by
  obtain ⟨h1, h2⟩ := h
  refine ⟨by rw [Nat.gcd_comm, ← Nat.gcd_rec, Nat.gcd_comm]; exact h1, .inr ⟨by omega, Nat.mod_lt _ hy, ?_⟩⟩
  rcases h2 with ⟨rfl, a, b⟩ | ⟨hi, a, b⟩
  · have c : x % y ≤ x := Nat.mod_le _ _
    have d : y * (x % y) ≤ y * x := Nat.mul_le_mul_left _ c
    have e : y * x < 2 ^ B * 2 ^ B := Nat.mul_lt_mul'' b a
    have f : 2 ^ (2 * B) = 2 ^ B * 2 ^ B := by rw [← Nat.pow_add]; congr 1; omega
    simp only [Nat.zero_add, Nat.sub_self, Nat.pow_zero, Nat.mul_one]
    omega
  · have c := euclid_step (Nat.le_of_lt a) hy
    have e : 2 ^ (i + 1 - 1) = 2 * 2 ^ (i - 1) := by
      rw [show i + 1 - 1 = (i - 1) + 1 by omega, Nat.pow_succ, Nat.mul_comm]
    rw [e, ← Nat.mul_assoc]
    exact Nat.lt_of_le_of_lt (Nat.mul_le_mul_right _ c) b
theorem Euc.done {g B x y : Nat} (h : Euc g B (2 * B + 1) x y) : y = 0 := by
  obtain ⟨h1, h2⟩ := h
  rcases h2 with ⟨e, _⟩ | ⟨_, a, b⟩
  · omega
  · rw [show 2 * B + 1 - 1 = 2 * B by omega] at b
    rcases Nat.eq_zero_or_pos y with z | z
    · exact z
    · have h3 : 1 ≤ x * y := Nat.mul_pos (by omega) z
      have h4 : 1 * 2 ^ (2 * B) ≤ x * y * 2 ^ (2 * B) := Nat.mul_le_mul_right _ h3
      omega

noncomputable def divB : FS :=
    (qTw [2] (qSeq (qIf (tst (eBin oEq (eVar 1) (eC (.int 0))))
    qBk
    qNx)
    (qPar [0, 1] [(eVar 1), (eBin oMod (eCall bInt [(eVar 0)]) (eVar 1))])))
noncomputable def divM : FS :=
    (qSeq (qPar [0, 1] [(eCall bAbs [(eVar 0)]), (eCall bAbs [(eVar 1)])])
    (qSeq (qForW (iRng [(eBin oAdd (eBin oMul (eC (.int 2)) (eUn oBits (eCall bMax2 [(eVar 0), (eVar 1)]))) (eC (.int 2)))]) [] (gN 2) divB)
    (qRet (eVar 0))))
theorem divisor {a b : Int} {S : Sto} {Q : QE} (ha : Big a) (hb : Big b) (hf : Flat S) (q : Q (.int ((Nat.gcd a.natAbs b.natAbs : Nat) : Int)) S) : WF (runE 2 3 divM) [.int a, .int b] S Q := by
  have hB : Builtin.Int.intBits ((max a.natAbs b.natAbs : Nat) : Int) ≤ 250 := bits_le (k := 249) (Nat.max_lt.mpr ⟨ha, hb⟩)
  have hM := bits_lt (max a.natAbs b.natAbs)
  generalize hBe : Builtin.Int.intBits ((max a.natAbs b.natAbs : Nat) : Int) = B at hB hM
  have hx : a.natAbs < 2 ^ B := Nat.lt_of_le_of_lt (Nat.le_max_left _ _) hM
  have hy : b.natAbs < 2 ^ B := Nat.lt_of_le_of_lt (Nat.le_max_right _ _) hM
  refine wf_e rfl ?_
  show Ws divM [some (.int a), some (.int b), none] S _
  unfold divM
  walk_at "st"
  rw [abs_nat, abs_nat, max_nat, hBe]
  refine ⟨_, rg_1 (by omega) (by omega), ?_⟩
  rw [show (2 * (B : Int) + 2).toNat = 2 * B + 2 by omega]
  have stop : ∀ Γ T, (∃ (x y : Nat) (i : Nat), Γ = [some (.int x), some (.int y), none] ∧ T = S ∧ Euc (Nat.gcd a.natAbs b.natAbs) B i x y ∧ y = 0) → Kq (qRet (eVar 0)) (Kf S.length Q) .nx Γ T := by
    rintro Γ T ⟨x, y, i, rfl, rfl, h, rfl⟩
    have hg : x = Nat.gcd a.natAbs b.natAbs := by have := h.1; rw [Nat.gcd_zero_right] at this; exact this
    subst hg
    walk_at "st"
    exact kf_v hf rfl (by rw [D.nc]) q
  refine wl_inv (fun i Γ T => T = S ∧ ∃ (x y : Nat), Γ = [some (.int x), some (.int y), none] ∧ Euc (Nat.gcd a.natAbs b.natAbs) B i x y ∧ i ≤ 2 * B + 1) (fun i Γ T _ _ => lkd_nil T) ?_ ⟨rfl, _, _, rfl, ⟨rfl, .inl ⟨rfl, hx, hy⟩⟩, by omega⟩ ?_
  · rintro i d Γ T hd ⟨rfl, x, y, rfl, h, hi⟩
    have hil := (List.getElem?_eq_some_iff.mp hd).1
    rw [rgD_len] at hil
    refine ⟨_, rfl, ?_⟩
    unfold divB
    walk_at "st"
    refine ifB (fun hc => ?_) fun hc => ?_
    · walk_at "st"
      exact stop _ _ ⟨x, y, i, rfl, rfl, h, by have : (y : Int) = 0 := beq_iff_eq.mp hc; omega⟩
    · have hy0 : 0 < y := by
        have : ¬ ((y : Int) = 0) := fun e => by rw [e] at hc; cases hc
        omega
      have hlt : i < 2 * B + 1 := by
        rcases Nat.lt_or_ge i (2 * B + 1) with q | q
        · exact q
        · have : i = 2 * B + 1 := by omega
          subst this
          exact absurd h.done (by omega)
      walk_at "st"
      refine wo_mod (by omega) ?_
      walk_at "st"
      exact ⟨rfl, y, x % y, rfl, h.next hy0, by omega⟩
  · rintro Γ T ⟨rfl, x, y, rfl, h, hi⟩
    rw [rgD_len] at hi
    omega
/-! ### comprehensions -/
section
variable {it : FI} {g : FG} {ts : FT} {el : FE} {vs : List Nat} {Γ : Dl.Ctx} {S : Sto}
/-- over xs: the element and the tests leave the store alone -/
theorem lc_map {α : Type} {S1 : Sto} {xs : List α} {enc : α → D} {lk : Lk} (p : α → Bool) (f : α → D) (h1 : it Γ S = some ((xs.map enc, lk), S1)) (hlk : Lkd lk S1) (hz : xs.length < sizeLine)
    (h : ∀ x ∈ xs, ∀ T : Sto, ∃ Γ1, g (enc x) (wipeD Γ vs) (S1 ++ T) = some Γ1 ∧ Wt ts Γ1 (S1 ++ T) fun b S2 => S2 = S1 ++ T ∧ b = p x ∧ (b = true → We el Γ1 (S1 ++ T) fun d S3 => d = f x ∧ S3 = S1 ++ T)) :
    eLc it g ts el vs Γ S = some (.loc S1.length, S1 ++ [.lst ((xs.filter p).map f)]) := by
  have key : ∀ (r : List α) (acc : List D), (∀ d ∈ r, d ∈ xs) → acc.length + r.length < sizeLine → lcL g ts el vs S1.length lk (r.map enc) Γ (S1 ++ [.lst acc]) = some (S1 ++ [.lst (acc ++ (r.filter p).map f)]) := by
    intro r
    induction r with
    | nil =>
      intro acc _ _
      have : Lkd lk (S1 ++ [.lst acc]) := fun p hp => get_app _ (hlk p hp)
      rw [List.map_nil, lcL, if_pos this]
      simp
    | cons x r ih =>
      intro acc hm hz'
      have hL : Lkd lk (S1 ++ [.lst acc]) := fun p hp => get_app _ (hlk p hp)
      obtain ⟨Γ1, e1, b, S2, e2, rfl, eb, e3⟩ := h x (hm x (by simp)) [.lst acc]
      rw [List.map_cons, lcL, if_pos hL, e1, Option.bind_some, e2, Option.bind_some]
      cases b with
      | false =>
        rw [if_neg Bool.false_ne_true, ih acc (fun d hd => hm d (by simp [hd])) (by simp only [List.length_cons] at hz'; omega), List.filter_cons_of_neg (by rw [← eb]; exact Bool.false_ne_true)]
      | true =>
        obtain ⟨d, S3, e4, rfl, rfl⟩ := e3 rfl
        rw [if_pos rfl, e4, Option.bind_some]
        simp only [get_end, set_end]
        rw [if_pos (by simp only [List.length_cons] at hz'; omega), ih (acc ++ [f x]) (fun d hd => hm d (by simp [hd])) (by simp only [List.length_cons, List.length_append, List.length_nil] at hz' ⊢; omega), List.filter_cons_of_pos eb.symm]
        simp
  unfold eLc
  rw [h1, Option.bind_some]
  simp only
  rw [key xs [] (fun _ h => h) (by simpa using hz)]
  simp
/-- .. as a value -/
theorem we_lc {α : Type} {S1 : Sto} {xs : List α} {enc : α → D} {lk : Lk} {Q : QE} (p : α → Bool) (f : α → D) (h1 : it Γ S = some ((xs.map enc, lk), S1)) (hlk : Lkd lk S1) (hz : xs.length < sizeLine) (hf : Flat S1) (hl : S1.length = S.length) (hp : ∀ x ∈ xs, (f x).nc = true)
    (h : ∀ x ∈ xs, ∀ T : Sto, ∃ Γ1, g (enc x) (wipeD Γ vs) (S1 ++ T) = some Γ1 ∧ Wt ts Γ1 (S1 ++ T) fun b S2 => S2 = S1 ++ T ∧ b = p x ∧ (b = true → We el Γ1 (S1 ++ T) fun d S3 => d = f x ∧ S3 = S1 ++ T))
    (q : Q (.lst ((xs.filter p).map f)) S1) : We (tidy3 (eLc it g ts el vs)) Γ S Q := by
  refine ⟨_, _, ev_new (lc_map p f h1 hlk hz h) hf hl ?_, q⟩
  rw [ncs_all, List.all_map]
  exact List.all_eq_true.mpr fun x hx => hp x (List.mem_filter.mp hx).1
/-- the element may change the store -/
theorem lc_st {S1 : Sto} {its : List D} (I : Nat → List D → Sto → Prop) (h1 : it Γ S = some ((its, []), S1)) (hz : its.length < sizeLine) (h0 : I 0 [] S1)
    (h : ∀ i d acc T, its[i]? = some d → T.length = S1.length → I i acc T → ∃ Γ1, g d (wipeD Γ vs) (T ++ [.lst acc]) = some Γ1 ∧ ts Γ1 (T ++ [.lst acc]) = some (true, T ++ [.lst acc]) ∧ We el Γ1 (T ++ [.lst acc]) fun y T2 => ∃ T', T2 = T' ++ [.lst acc] ∧ T'.length = S1.length ∧ I (i + 1) (acc ++ [y]) T') :
    ∃ acc T, eLc it g ts el vs Γ S = some (.loc S1.length, T ++ [.lst acc]) ∧ T.length = S1.length ∧ acc.length = its.length ∧ I its.length acc T := by
  have key : ∀ (r : List D) (i : Nat) (acc : List D) (T : Sto), its.drop i = r → i ≤ its.length → acc.length = i → T.length = S1.length → I i acc T → ∃ acc' T', lcL g ts el vs S1.length [] r Γ (T ++ [.lst acc]) = some (T' ++ [.lst acc']) ∧ T'.length = S1.length ∧ acc'.length = its.length ∧ I its.length acc' T' := by
    intro r
    induction r with
    | nil =>
      intro i acc T hd hi ha hT hI
      have : i = its.length := by
        have := congrArg List.length hd
        rw [List.length_drop, List.length_nil] at this
        omega
      subst this
      exact ⟨acc, T, by rw [lcL, if_pos (lkd_nil _)], hT, ha, hI⟩
    | cons d r ih =>
      intro i acc T hd hi ha hT hI
      have hil : i < its.length := by
        have := congrArg List.length hd
        rw [List.length_drop, List.length_cons] at this
        omega
      have hdi : its[i]? = some d := by
        have := List.getElem?_drop (xs := its) (i := i) (j := 0)
        rw [hd] at this
        simpa using this.symm
      obtain ⟨Γ1, e1, e2, y, T2, e3, T', rfl, hT', hI'⟩ := h i d acc T hdi hT hI
      obtain ⟨acc', T3, e4, h3, h4, h5⟩ := ih (i + 1) (acc ++ [y]) T' (by rw [← List.drop_drop, hd]; rfl) hil (by simp [ha]) hT' hI'
      refine ⟨acc', T3, ?_, h3, h4, h5⟩
      rw [lcL, if_pos (lkd_nil _), e1, Option.bind_some, e2, Option.bind_some, if_pos rfl, e3, Option.bind_some]
      have g1 : (T' ++ [Cell.lst acc])[S1.length]? = some (.lst acc) := by rw [← hT']; exact get_end _ [] _
      have g2 : (T' ++ [Cell.lst acc]).set S1.length (.lst (acc ++ [y])) = T' ++ [.lst (acc ++ [y])] := by rw [← hT']; exact set_end _ [] _ _
      simp only [g1, g2]
      rw [if_pos (by omega)]
      exact e4
  obtain ⟨acc, T, e, a, b, c⟩ := key its 0 [] S1 rfl (Nat.zero_le _) rfl rfl h0
  refine ⟨acc, T, ?_, a, b, c⟩
  unfold eLc
  rw [h1, Option.bind_some]
  simp only
  rw [e]
  rfl
end
end PL

namespace PL
open PySem L2 Dl
/-! ### rows of whole numbers sorted -/
def encT (r : List Int) : D := .tup (r.map D.int)
theorem encT_py (r : List Int) : (encT r).py = .tuple (r.map .int) := by
  rw [encT, D.py, pys_map, List.map_map]
  congr 1
theorem encT_nc (r : List Int) : (encT r).nc = true := by rw [encT, D.nc]; exact ints_nc r
theorem encT_nol (r : List Int) : (encT r).nol = true := by
  rw [encT, D.nol, nols_all, List.all_map]
  exact List.all_eq_true.mpr fun i _ => by simp only [Function.comp]; rw [D.nol]
theorem encT_inj {a b : List Int} (h : encT a = encT b) : a = b := by
  injection h with h
  exact List.map_inj_right (fun x y e => by injection e) |>.mp h
def rle (a b : List Int) : Bool := decide (a ≤ b)
theorem rle_data (a b : List Int) : PySem.W.dataLe false D.py (encT a) (encT b) = rle a b := by
  have h := congrFun (congrFun (PySem.W.dataLe_rows (fun x : List Int => x)) a) b
  have e1 : PySem.W.dataLe false D.py (encT a) (encT b) = (!PySem.W.dataLt (encT b).py (encT a).py) := rfl
  rw [e1, encT_py, encT_py]
  first | done | exact h
def srt (l : List (List Int)) : List (List Int) := l.mergeSort rle
theorem srt_perm (l : List (List Int)) : (srt l).Perm l := List.mergeSort_perm _ _
theorem srt_sorted (l : List (List Int)) : (srt l).Pairwise fun a b => rle a b = true :=
  List.pairwise_mergeSort (le := rle) (fun a b c h1 h2 => decide_eq_true (List.le_trans (of_decide_eq_true h1) (of_decide_eq_true h2))) (fun a b => by
    rcases List.le_total a b with h | h
    · simp [rle, h]
    · simp [rle, h]) l
theorem srt_congr {l l' : List (List Int)} (h : l.Perm l') : srt l = srt l' :=
  List.Perm.eq_of_pairwise (le := fun a b => rle a b = true) (fun a b _ _ h1 h2 => List.le_antisymm (of_decide_eq_true h1) (of_decide_eq_true h2)) (srt_sorted l) (srt_sorted l') ((srt_perm l).trans (h.trans (srt_perm l').symm))
theorem srt_srt (l : List (List Int)) : srt (srt l) = srt l := srt_congr (srt_perm l)
theorem sortD_T (l : List (List Int)) : sortD (l.map encT) = (srt l).map encT := (List.map_mergeSort (f := encT) (s := PySem.W.dataLe false D.py) fun a _ b _ => (rle_data a b).symm).symm
theorem alike_rows : ∀ (a b : List Int), a.length = b.length → PySem.W.alike (.tuple (a.map .int)) (.tuple (b.map .int)) = true := by
  have key : ∀ (a b : List Int), a.length = b.length → PySem.W.alikeAll (a.map .int) (b.map .int) = true := by
    intro a
    induction a with
    | nil => intro b h; cases b with
      | nil => rfl
      | cons => simp at h
    | cons x a ih => intro b h; cases b with
      | nil => simp at h
      | cons y b => simp [PySem.W.alikeAll, PySem.W.alike, ih b (by simpa using h)]
  intro a b h
  simp [PySem.W.alike, key a b h]
theorem sortOk_T {l : List (List Int)} {n : Nat} (hn : 0 < n) (h : ∀ r ∈ l, r.length = n) (hl : l.length ≤ 1000) : SortOk (l.map encT) where
  pure := by
    rw [List.all_map]
    exact List.all_eq_true.mpr fun r _ => encT_nol r
  al := fun d hd d' hd' => by
    rw [List.map_map] at hd hd'
    obtain ⟨a, ha, rfl⟩ := List.mem_map.mp hd
    obtain ⟨b, hb, rfl⟩ := List.mem_map.mp hd'
    simp only [Function.comp, encT_py]
    exact alike_rows a b (by rw [h a ha, h b hb])
  so := .inl fun d hd => by
    rw [List.map_map] at hd
    obtain ⟨a, ha, rfl⟩ := List.mem_map.mp hd
    simp only [Function.comp, encT_py]
    have := h a ha
    cases a with
    | nil => simp at this; omega
    | cons x a => exact ⟨_, _, rfl⟩
  few := by rw [List.length_map, line]; omega
  deep := fun d hd => by
    obtain ⟨a, _, rfl⟩ := List.mem_map.mp hd
    rw [encT_py]
    have : ∀ r : List Int, PyData.depthAll (r.map .int) ≤ 1 := fun r => by
      induction r with
      | nil => simp [PyData.depthAll]
      | cons x r ih => simp [PyData.depthAll, PyData.depth]; try omega
    have := this a
    simp only [PyData.depth]
    omega
theorem wf_sortT {S : Sto} {l : List (List Int)} {n : Nat} {Q : QE} (hn : 0 < n) (h : ∀ r ∈ l, r.length = n) (hl : l.length ≤ 1000) (q : Q (.loc S.length) (S ++ [.lst ((srt l).map encT)])) : WF bSorted [.lst (l.map encT)] S Q := by
  refine ⟨_, _, ?_, q⟩
  rw [bSorted]
  simp only [iterD]
  rw [if_pos (sortOk_T hn h hl), sortD_T]
/-! ### a tally: pairs of whole numbers to sums -/
abbrev Tal := List ((Int × Int) × Int)
def tkey (k : Int × Int) : List Key := [.inl k.1, .inl k.2]
theorem tkey_inj {a b : Int × Int} (h : tkey a = tkey b) : a = b := by
  simp only [tkey, List.cons.injEq, Sum.inl.injEq, and_true] at h
  exact Prod.ext h.1 h.2
def encTal (d : Tal) : List (List Key × D) := d.map fun p => (tkey p.1, .int p.2)
def tget (d : Tal) (k : Int × Int) : Int := match d.find? fun p => decide (p.1 = k) with
  | some p => p.2
  | none => 0
def tput (d : Tal) (k : Int × Int) (v : Int) : Tal := if (d.any fun p => decide (p.1 = k)) = true then d.map fun p => if p.1 = k then (p.1, v) else p else d ++ [(k, v)]
def tadd (d : Tal) (e : (Int × Int) × Int) : Tal := tput d e.1 (tget d e.1 + e.2)
def tally (es : Tal) : Tal := es.foldl tadd []
theorem valD_tal (d : Tal) (k : Int × Int) : ((valD (encTal d) (tkey k)).getD (.int 0)) = .int (tget d k) := by
  unfold valD tget encTal
  induction d with
  | nil => rfl
  | cons p d ih =>
    rw [List.map_cons, List.find?_cons, List.find?_cons]
    by_cases h : p.1 = k
    · simp [h]
    · have h' : ¬ tkey p.1 = tkey k := fun e => h (tkey_inj e)
      simp only [h, h', decide_false]
      exact ih
theorem putD_tal (d : Tal) (k : Int × Int) (v : Int) : putD (encTal d) (tkey k) (.int v) = encTal (tput d k v) := by
  unfold putD tput encTal
  have e : ((d.map fun p => (tkey p.1, D.int p.2)).any fun kv => decide (kv.1 = tkey k)) = d.any fun p => decide (p.1 = k) := by
    rw [List.any_map]
    congr 1
    funext p
    simp only [Function.comp]
    exact decide_eq_decide.mpr ⟨fun h => tkey_inj h, fun h => by rw [h]⟩
  rw [e]
  split
  · rw [List.map_map, List.map_map]
    refine List.map_congr_left fun p _ => ?_
    simp only [Function.comp]
    by_cases h : p.1 = k
    · simp [h]
    · have h' : ¬ tkey p.1 = tkey k := fun e => h (tkey_inj e)
      rw [if_neg h, if_neg h']
  · rw [List.map_append]
    rfl
def tsum (es : Tal) (k : Int × Int) : Int := match es with
  | [] => 0
  | e :: r => (if e.1 = k then e.2 else 0) + tsum r k
theorem tsum_app : ∀ (a b : Tal) (k : Int × Int), tsum (a ++ b) k = tsum a k + tsum b k
  | [], b, k => by simp [tsum]
  | e :: a, b, k => by simp only [List.cons_append, tsum, tsum_app a b k]; omega
theorem tget_put (d : Tal) (k k' : Int × Int) (v : Int) : tget (tput d k v) k' = if k' = k then v else tget d k' := by
  unfold tput
  split
  · rename_i h
    unfold tget
    induction d with
    | nil => simp at h
    | cons p d ih =>
      rw [List.map_cons, List.find?_cons, List.find?_cons]
      by_cases hp : p.1 = k
      · by_cases hk : k' = k
        · simp [hp, hk]
        · have : ¬ p.1 = k' := fun e => hk (by rw [← e, hp])
          have h2 : ¬ k = k' := fun e => hk e.symm
          by_cases ha : (d.any fun p => decide (p.1 = k)) = true
          · have := ih ha
            simp only [hp, if_true, h2, decide_false, hk, if_false] at this ⊢
            exact this
          · have hm : d.map (fun p => if p.1 = k then (p.1, v) else p) = d := by
              have : ∀ p ∈ d, (if p.1 = k then (p.1, v) else p) = p := fun p hpd => by
                rw [if_neg]
                intro e
                exact ha (List.any_eq_true.mpr ⟨p, hpd, decide_eq_true e⟩)
              rw [List.map_congr_left this, List.map_id']
            simp [hp, h2, hk, hm]
      · have ha : (d.any fun p => decide (p.1 = k)) = true := by
          rw [List.any_cons] at h
          simpa [hp] using h
        have := ih ha
        rw [if_neg hp]
        by_cases hk' : p.1 = k'
        · have : ¬ k' = k := fun e => hp (by rw [hk', e])
          simp [hk', this]
        · simp only [hk', decide_false]
          exact this
  · rename_i h
    unfold tget
    have hn : ∀ p ∈ d, ¬ p.1 = k := fun p hp e => h (List.any_eq_true.mpr ⟨p, hp, decide_eq_true e⟩)
    rw [List.find?_append]
    by_cases hk : k' = k
    · have : d.find? (fun p => decide (p.1 = k')) = none := by
        rw [List.find?_eq_none]
        intro p hp
        simpa [hk] using hn p hp
      rw [this]
      simp [hk]
    · have : ¬ k = k' := fun e => hk e.symm
      cases hf : d.find? (fun p => decide (p.1 = k')) with
      | none => simp [hk, this]
      | some p => simp [hk]
theorem keys_put (d : Tal) (k : Int × Int) (v : Int) : (tput d k v).map (·.1) = if k ∈ d.map (·.1) then d.map (·.1) else d.map (·.1) ++ [k] := by
  unfold tput
  have e : ((d.any fun p => decide (p.1 = k)) = true) ↔ k ∈ d.map (·.1) := by
    rw [List.any_eq_true, List.mem_map]
    exact ⟨fun ⟨p, h1, h2⟩ => ⟨p, h1, of_decide_eq_true h2⟩, fun ⟨p, h1, h2⟩ => ⟨p, h1, decide_eq_true h2⟩⟩
  by_cases h : k ∈ d.map (·.1)
  · rw [if_pos (e.mpr h), if_pos h, List.map_map]
    refine List.map_congr_left fun p _ => ?_
    simp only [Function.comp]
    split <;> rfl
  · rw [if_neg (fun q => h (e.mp q)), if_neg h, List.map_append]
    rfl
/-- what a tally is -/
theorem tally_ok (es : Tal) : ((tally es).map (·.1)).Nodup ∧ (∀ k, k ∈ (tally es).map (·.1) ↔ k ∈ es.map (·.1)) ∧ ∀ k, tget (tally es) k = tsum es k := by
  have key : ∀ (es d : Tal), (d.map (·.1)).Nodup → ((es.foldl tadd d).map (·.1)).Nodup ∧ (∀ k, k ∈ (es.foldl tadd d).map (·.1) ↔ k ∈ d.map (·.1) ∨ k ∈ es.map (·.1)) ∧ ∀ k, tget (es.foldl tadd d) k = tget d k + tsum es k := by
    intro es
    induction es with
    | nil => intro d hd; exact ⟨hd, fun k => by simp, fun k => by simp [tsum]⟩
    | cons e es ih =>
      intro d hd
      have hk := keys_put d e.1 (tget d e.1 + e.2)
      have nd : ((tadd d e).map (·.1)).Nodup := by
        unfold tadd
        rw [hk]
        split
        · exact hd
        · rename_i hn
          exact List.nodup_append.mpr ⟨hd, by simp, fun a ha b hb => by rw [List.mem_singleton.mp hb]; exact fun q => hn (q ▸ ha)⟩
      obtain ⟨a, b, c⟩ := ih (tadd d e) nd
      refine ⟨a, fun k => ?_, fun k => ?_⟩
      · rw [List.foldl_cons, b k]
        unfold tadd
        rw [hk, List.map_cons, List.mem_cons]
        split
        · rename_i hm
          constructor
          · rintro (h | h)
            · exact .inl h
            · exact .inr (.inr h)
          · rintro (h | h | h)
            · exact .inl h
            · rw [h]; exact .inl hm
            · exact .inr h
        · rw [List.mem_append, List.mem_singleton, or_assoc]
      · rw [List.foldl_cons, c k]
        unfold tadd
        rw [tget_put, tsum]
        by_cases h : k = e.1
        · subst h
          simp
          omega
        · have : ¬ e.1 = k := fun q => h q.symm
          simp [h, this]
  obtain ⟨a, b, c⟩ := key es [] (by simp)
  exact ⟨a, fun k => by rw [tally, b k]; simp, fun k => by rw [tally, c k]; simp [tget]⟩
theorem tget_mem {d : Tal} (nd : (d.map (·.1)).Nodup) : ∀ p ∈ d, tget d p.1 = p.2 := by
  induction d with
  | nil => intro p hp; simp at hp
  | cons q d ih =>
    intro p hp
    rw [List.map_cons, List.nodup_cons] at nd
    rcases List.mem_cons.mp hp with e | e
    · subst e
      simp [tget]
    · have : ¬ q.1 = p.1 := fun e2 => nd.1 (by rw [e2]; exact List.mem_map_of_mem e)
      have := ih nd.2 p e
      simp only [tget, List.find?_cons, *, decide_false] at this ⊢
      exact this
end PL

namespace PL
open PySem L2 Dl
/-! ### forms: an under, nets, ties in lowest terms -/
def gcdL (u : Nat) (l : List Int) : Nat := l.foldl (fun g x => Nat.gcd g x.natAbs) u
theorem gcdL_dvd (u : Nat) (l : List Int) (d : Nat) : d ∣ gcdL u l ↔ d ∣ u ∧ ∀ x ∈ l, (d : Int) ∣ x := by
  induction l generalizing u with
  | nil => simp [gcdL]
  | cons x l ih =>
    show d ∣ gcdL (Nat.gcd u x.natAbs) l ↔ _
    rw [ih, Nat.dvd_gcd_iff]
    constructor
    · rintro ⟨⟨a, b⟩, c⟩
      refine ⟨a, fun y hy => ?_⟩
      rcases List.mem_cons.mp hy with e | e
      · rw [e]; exact Int.ofNat_dvd_left.mpr b
      · exact c y e
    · rintro ⟨a, b⟩
      exact ⟨⟨a, Int.ofNat_dvd_left.mp (b x (by simp))⟩, fun y hy => b y (by simp [hy])⟩
theorem gcdL_eq {u u' : Nat} {l l' : List Int} (h : ∀ d : Nat, (d ∣ u ∧ ∀ x ∈ l, (d : Int) ∣ x) ↔ (d ∣ u' ∧ ∀ x ∈ l', (d : Int) ∣ x)) : gcdL u l = gcdL u' l' :=
  Nat.dvd_antisymm ((gcdL_dvd u' l' _).mpr ((h _).mp ((gcdL_dvd u l _).mp (Nat.dvd_refl _)))) ((gcdL_dvd u l _).mpr ((h _).mpr ((gcdL_dvd u' l' _).mp (Nat.dvd_refl _))))
theorem gcdL_mul (k u : Nat) (l : List Int) : gcdL (k * u) (l.map ((k : Int) * ·)) = k * gcdL u l := by
  induction l generalizing u with
  | nil => rfl
  | cons x l ih =>
    show gcdL (Nat.gcd (k * u) ((k : Int) * x).natAbs) (l.map _) = k * gcdL (Nat.gcd u x.natAbs) l
    rw [Int.natAbs_mul, Int.natAbs_natCast, Nat.gcd_mul_left, ih]
theorem gcdL_pos {u : Nat} (l : List Int) (h : 0 < u) : 0 < gcdL u l := Nat.pos_of_dvd_of_pos ((gcdL_dvd u l _).mp (Nat.dvd_refl _)).1 h
theorem gcdL_le {u : Nat} (l : List Int) (h : 0 < u) : gcdL u l ≤ u := Nat.le_of_dvd h ((gcdL_dvd u l _).mp (Nat.dvd_refl _)).1
theorem gcdL_app (u : Nat) (a b : List Int) : gcdL u (a ++ b) = gcdL (gcdL u a) b := by rw [gcdL, List.foldl_append]; rfl
/-- raw: an under, nets, the pairs that have ties, the ties -/
structure Raw where
  u : Int
  N : List Int
  ks : List (Int × Int)
  t : Int × Int → Int
def Raw.c (r : Raw) : Int := (gcdL r.u.natAbs (r.N ++ r.ks.map r.t) : Nat)
def row3 (t : Int × Int → Int) (k : Int × Int) : List Int := [k.1, k.2, t k]
/-- the form as a datum -/
def encF (U : Int) (N : List Int) (T : List (List Int)) : D := .tup [.int U, .tup (N.map .int), .tup (T.map encT)]
def Raw.form (r : Raw) : D := encF (r.u / r.c) (r.N.map (· / r.c)) (srt (r.ks.map (row3 fun k => r.t k / r.c)))
def Raw.mul (q : Int) (r : Raw) : Raw := ⟨q * r.u, r.N.map (q * ·), r.ks, fun k => q * r.t k⟩
structure Raw.Ok (r : Raw) : Prop where
  pos : 0 < r.u
  nd : r.ks.Nodup
  sup : ∀ k, k ∈ r.ks ↔ r.t k ≠ 0
theorem Raw.c_pos {r : Raw} (h : r.Ok) : 0 < r.c := by
  have := gcdL_pos (u := r.u.natAbs) (r.N ++ r.ks.map r.t) (by have := h.pos; omega)
  unfold Raw.c
  omega
theorem Raw.c_dvd (r : Raw) : r.c ∣ r.u ∧ (∀ x ∈ r.N, r.c ∣ x) ∧ ∀ k ∈ r.ks, r.c ∣ r.t k := by
  obtain ⟨a, b⟩ := (gcdL_dvd r.u.natAbs (r.N ++ r.ks.map r.t) _).mp (Nat.dvd_refl _)
  exact ⟨Int.ofNat_dvd_left.mpr a, fun x hx => b x (by simp [hx]), fun k hk => b _ (by simp only [List.mem_append, List.mem_map]; exact .inr ⟨k, hk, rfl⟩)⟩
theorem Raw.mul_ok {r : Raw} {q : Int} (h : r.Ok) (hq : 0 < q) : (r.mul q).Ok := ⟨Int.mul_pos hq h.pos, h.nd, fun k => by
  rw [show (r.mul q).ks = r.ks from rfl, h.sup k]
  show r.t k ≠ 0 ↔ q * r.t k ≠ 0
  have : q * r.t k = 0 ↔ r.t k = 0 := by rw [Int.mul_eq_zero]; constructor <;> intro h <;> omega
  rw [ne_eq, ne_eq, this]⟩
theorem Raw.mul_c {r : Raw} {q : Int} (hq : 0 < q) : (r.mul q).c = q * r.c := by
  obtain ⟨k, rfl⟩ : ∃ k : Nat, q = k := ⟨q.toNat, by omega⟩
  unfold Raw.c Raw.mul
  have e : (r.N.map ((k : Int) * ·) ++ r.ks.map fun x => (k : Int) * r.t x) = (r.N ++ r.ks.map r.t).map ((k : Int) * ·) := by
    rw [List.map_append, List.map_map]
    rfl
  simp only [e]
  rw [Int.natAbs_mul, Int.natAbs_natCast, gcdL_mul]
  simp
theorem Raw.mul_form {r : Raw} {q : Int} (h : r.Ok) (hq : 0 < q) : (r.mul q).form = r.form := by
  have hd : ∀ x, q * x / (q * r.c) = x / r.c := fun x => Int.mul_ediv_mul_of_pos _ _ hq
  unfold Raw.form
  rw [Raw.mul_c hq]
  show encF (q * r.u / (q * r.c)) ((r.N.map (q * ·)).map _) (srt (r.ks.map (row3 fun k => q * r.t k / (q * r.c)))) = _
  simp only [List.map_map, hd]
  congr 1
  exact List.map_congr_left fun x _ => hd x
theorem Raw.perm_form {r s : Raw} (hr : r.Ok) (hs : s.Ok) (h1 : r.u = s.u) (h2 : r.N = s.N) (h3 : r.t = s.t) : r.form = s.form := by
  have hp : r.ks.Perm s.ks := (List.perm_ext_iff_of_nodup hr.nd hs.nd).mpr fun k => by rw [hr.sup, hs.sup, h3]
  have hc : r.c = s.c := by
    unfold Raw.c
    congr 1
    refine gcdL_eq fun d => ?_
    rw [h1, h2, h3]
    have : ∀ x, x ∈ s.N ++ r.ks.map s.t ↔ x ∈ s.N ++ s.ks.map s.t := fun x => by
      simp only [List.mem_append, List.mem_map, hp.mem_iff]
    simp only [this]
  unfold Raw.form
  rw [hc, h1, h2, h3]
  congr 1
  exact srt_congr (hp.map _)
/-- proportional ones have one form -/
theorem Raw.prop_form {r s : Raw} (hr : r.Ok) (hs : s.Ok) (h2 : r.N.map (s.u * ·) = s.N.map (r.u * ·)) (h3 : ∀ k, s.u * r.t k = r.u * s.t k) : r.form = s.form := by
  rw [← Raw.mul_form hr hs.pos, ← Raw.mul_form hs hr.pos]
  exact Raw.perm_form (Raw.mul_ok hr hs.pos) (Raw.mul_ok hs hr.pos) (Int.mul_comm _ _) h2 (funext h3)
theorem row3_inj {t t' : Int × Int → Int} {k k' : Int × Int} (h : row3 t k = row3 t' k') : k = k' ∧ t k = t' k' := by
  simp only [row3, List.cons.injEq, and_true] at h
  exact ⟨Prod.ext h.1 h.2.1, h.2.2⟩
theorem encF_inj {U U' : Int} {N N' : List Int} {T T' : List (List Int)} (h : encF U N T = encF U' N' T') : U = U' ∧ N = N' ∧ T = T' := by
  injection h with h
  injection h with h1 h
  injection h with h2 h
  injection h with h3 _
  injection h1 with h1
  injection h2 with h2
  injection h3 with h3
  exact ⟨h1, List.map_inj_right (fun x y e => by injection e) |>.mp h2, List.map_inj_right (fun x y e => encT_inj e) |>.mp h3⟩
/-- ones of one form are proportional -/
theorem Raw.form_prop {r s : Raw} (hr : r.Ok) (hs : s.Ok) (h : r.form = s.form) : r.N.map (s.u * ·) = s.N.map (r.u * ·) ∧ ∀ k, s.u * r.t k = r.u * s.t k := by
  obtain ⟨e1, e2, e3⟩ := encF_inj h
  have cr := Raw.c_pos hr
  have cs := Raw.c_pos hs
  obtain ⟨dr1, dr2, dr3⟩ := r.c_dvd
  obtain ⟨ds1, ds2, ds3⟩ := s.c_dvd
  have ur : r.u = r.c * (r.u / r.c) := (Int.mul_ediv_cancel' dr1).symm
  have us : s.u = s.c * (s.u / s.c) := (Int.mul_ediv_cancel' ds1).symm
  constructor
  · have a : r.N = (r.N.map (· / r.c)).map (r.c * ·) := by
      rw [List.map_map]
      exact (List.map_congr_left fun x hx => by simp only [Function.comp]; exact Int.mul_ediv_cancel' (dr2 x hx)).trans (List.map_id _) |>.symm
    have b : s.N = (s.N.map (· / s.c)).map (s.c * ·) := by
      rw [List.map_map]
      exact (List.map_congr_left fun x hx => by simp only [Function.comp]; exact Int.mul_ediv_cancel' (ds2 x hx)).trans (List.map_id _) |>.symm
    rw [a, b, ← e2]
    simp only [List.map_map]
    refine List.map_congr_left fun x _ => ?_
    simp only [Function.comp]
    rw [us, ur, ← e1]
    generalize r.u / r.c = p
    generalize x / r.c = q
    generalize r.c = c
    generalize s.c = d
    grind
  · have mem : ∀ {r s : Raw}, r.Ok → s.Ok → 0 < r.c → 0 < s.c → (∀ k ∈ r.ks, r.c ∣ r.t k) → (∀ k ∈ s.ks, s.c ∣ s.t k) → r.u = r.c * (r.u / r.c) → s.u = s.c * (s.u / s.c) → r.u / r.c = s.u / s.c → srt (r.ks.map (row3 fun k => r.t k / r.c)) = srt (s.ks.map (row3 fun k => s.t k / s.c)) → ∀ k, r.t k ≠ 0 → s.u * r.t k = r.u * s.t k := by
      intro r s hr hs cr cs dr3 ds3 ur us e1 e3 k hk
      have hm : row3 (fun k => r.t k / r.c) k ∈ srt (r.ks.map (row3 fun k => r.t k / r.c)) := (srt_perm _).mem_iff.mpr (List.mem_map_of_mem ((hr.sup k).mpr hk))
      rw [e3] at hm
      obtain ⟨k', hk', e⟩ := List.mem_map.mp ((srt_perm _).mem_iff.mp hm)
      obtain ⟨rfl, e⟩ := row3_inj e
      have a : r.t k' = r.c * (r.t k' / r.c) := (Int.mul_ediv_cancel' (dr3 _ ((hr.sup _).mpr hk))).symm
      have b : s.t k' = s.c * (s.t k' / s.c) := (Int.mul_ediv_cancel' (ds3 _ hk')).symm
      rw [a, b, us, ur, e1, e]
      generalize s.u / s.c = p
      generalize s.t k' / s.c = q
      grind
    intro k
    by_cases h1 : r.t k = 0
    · by_cases h2 : s.t k = 0
      · rw [h1, h2, Int.mul_zero, Int.mul_zero]
      · exact (mem hs hr cs cr ds3 dr3 us ur e1.symm e3.symm k h2).symm
    · exact mem hr hs cr cs dr3 ds3 ur us e1 e3 k h1
/-- in lowest terms -/
def Raw.low (r : Raw) : Raw := ⟨r.u / r.c, r.N.map (· / r.c), r.ks, fun k => r.t k / r.c⟩
theorem Raw.low_mul {r : Raw} (h : r.Ok) : r.low.mul r.c = r := by
  obtain ⟨d1, d2, d3⟩ := r.c_dvd
  unfold Raw.low Raw.mul
  obtain ⟨u, N, ks, t⟩ := r
  simp only [Raw.mk.injEq, true_and]
  refine ⟨Int.mul_ediv_cancel' d1, ?_, funext fun k => ?_⟩
  · rw [List.map_map]
    exact (List.map_congr_left fun x hx => by simp only [Function.comp]; exact Int.mul_ediv_cancel' (d2 x hx)).trans (List.map_id _)
  · by_cases hk : t k = 0
    · rw [hk, Int.zero_ediv, Int.mul_zero]
    · exact Int.mul_ediv_cancel' (d3 k ((h.sup k).mpr hk))
theorem Raw.low_ok {r : Raw} (h : r.Ok) : r.low.Ok := by
  have hc := Raw.c_pos h
  have e := Raw.low_mul h
  refine ⟨?_, h.nd, fun k => ?_⟩
  · have : r.c * r.low.u = r.u := congrArg Raw.u e
    have hp := h.pos
    rcases Int.lt_trichotomy r.low.u 0 with q | q | q
    · have := Int.mul_neg_of_pos_of_neg hc q; omega
    · rw [q, Int.mul_zero] at this; omega
    · exact q
  · show k ∈ r.ks ↔ r.low.t k ≠ 0
    rw [h.sup k]
    have : r.c * r.low.t k = r.t k := congrFun (congrArg Raw.t e) k
    constructor
    · intro q z; rw [z, Int.mul_zero] at this; exact q this.symm
    · intro q z
      rw [z, Int.mul_eq_zero] at this
      omega
theorem Raw.low_c {r : Raw} (h : r.Ok) : r.low.c = 1 := by
  have hc := Raw.c_pos h
  have := Raw.mul_c (r := r.low) hc
  rw [Raw.low_mul h] at this
  have h2 : r.c * 1 = r.c * r.low.c := by rw [Int.mul_one]; exact this
  exact (Int.eq_of_mul_eq_mul_left (by omega) h2).symm
theorem Raw.low_form {r : Raw} (h : r.Ok) : r.low.form = r.form := by
  rw [← Raw.mul_form (Raw.low_ok h) (Raw.c_pos h), Raw.low_mul h]
theorem Raw.form_low {r : Raw} (h : r.c = 1) : r.form = encF r.u r.N (srt (r.ks.map (row3 r.t))) := by
  unfold Raw.form
  rw [h]
  simp only [Int.ediv_one]
  congr 1
  exact List.map_id _
end PL

namespace PL
open PySem L2 Dl
/-! ### books -/
def must : Str := "must"
def may : Str := "may"
theorem must_ok : PyData.strOk must = true := by decide +kernel
theorem may_ok : PyData.strOk may = true := by decide +kernel
theorem must_may : must ≠ may := by decide +kernel
structure Rg where
  h : Str
  k : Str
  a : Str
  b : Str
  n : Int
def encR (r : Rg) : D := .tup [.str r.h, .str r.k, .str r.a, .str r.b, .int r.n]
def encRs (rs : List Rg) : D := .tup (rs.map encR)
def encB (u : Int) (rs : List Rg) : D := .tup [.int u, encRs rs]
abbrev encP (ps : List Str) : D := .tpu (ps.map D.str)
/-- a right between places, of a size -/
structure RgOk (ps : List Str) (j : Nat) (r : Rg) : Prop where
  sh : PyData.strOk r.h = true
  kk : r.k = must ∨ r.k = may
  ma : r.a ∈ ps
  mb : r.b ∈ ps
  ab : r.a ≠ r.b
  pos : 0 < r.n
  lt : r.n < 2 ^ j
theorem RgOk.sk {ps : List Str} {j : Nat} {r : Rg} (h : RgOk ps j r) : PyData.strOk r.k = true := by
  rcases h.kk with e | e <;> rw [e]
  · exact must_ok
  · exact may_ok
structure PsOk (ps : List Str) : Prop where
  nd : ps.Nodup
  ok : ∀ x ∈ ps, PyData.strOk x = true
  l2 : 2 ≤ ps.length
  l9 : ps.length ≤ 9
structure BkOk (ps : List Str) (j : Nat) (u : Int) (rs : List Rg) : Prop where
  pos : 0 < u
  lt : u < 2 ^ 64
  few : rs.length ≤ 100
  all : ∀ r ∈ rs, RgOk ps j r
theorem BkOk.big {ps : List Str} {j : Nat} {u : Int} {rs : List Rg} (h : BkOk ps j u rs) : Big u := small_of (by have := h.pos; omega) (by have := h.lt; omega)
theorem encR_nc (r : Rg) : (encR r).nc = true := by simp [encR, D.nc, D.ncs]
theorem encRs_ncs (rs : List Rg) : D.ncs (rs.map encR) = true := ncs_map _ encR_nc rs
theorem encRs_nc (rs : List Rg) : (encRs rs).nc = true := by rw [encRs, D.nc]; exact encRs_ncs rs
theorem encB_nc (u : Int) (rs : List Rg) : (encB u rs).nc = true := by simp [encB, D.nc, D.ncs, encRs_nc]
theorem encP_nc (ps : List Str) : (encP ps).nc = true := by rw [encP, D.nc]; exact strs_nc ps
theorem good_R {ps : List Str} {j : Nat} {r : Rg} (hp : PsOk ps) (h : RgOk ps j r) : good (encR r) = true := by simp [encR, good, goods, h.sh, h.sk, hp.ok _ h.ma, hp.ok _ h.mb]
theorem good_Rs {ps : List Str} {j : Nat} {rs : List Rg} (hp : PsOk ps) (h : ∀ r ∈ rs, RgOk ps j r) : good (encRs rs) = true := by
  rw [encRs, good, goods_all]
  exact List.all_eq_true.mpr fun d hd => by
    obtain ⟨r, hr, e⟩ := List.mem_map.mp hd
    rw [← e]
    exact good_R hp (h r hr)
theorem good_B {ps : List Str} {j : Nat} {u : Int} {rs : List Rg} (hp : PsOk ps) (h : BkOk ps j u rs) : good (encB u rs) = true := by simp [encB, good, goods, good_Rs hp h.all]
theorem sz_Rs : ∀ rs : List Rg, szs (rs.map encR) = 6 * rs.length
  | [] => rfl
  | r :: rs => by
    have := sz_Rs rs
    simp only [List.map_cons, szs, List.length_cons, this, encR, sz]
    omega
theorem sz_B {u : Int} {rs : List Rg} (h : rs.length ≤ 1000) : sz (encB u rs) < 16777216 := by
  simp only [encB, encRs, sz, szs, sz_Rs]
  omega
/-! places -/
def ix (ps : List Str) (x : Str) : Nat := ps.idxOf x
theorem ix_lt {ps : List Str} {x : Str} (h : x ∈ ps) : ix ps x < ps.length := List.idxOf_lt_length_iff.mpr h
theorem ix_get {ps : List Str} {x : Str} (h : x ∈ ps) : ps[ix ps x]? = some x := by
  rw [List.getElem?_eq_getElem (ix_lt h)]
  exact congrArg some (List.getElem_idxOf (ix_lt h))
theorem ix_of {ps : List Str} (nd : ps.Nodup) {i : Nat} {x : Str} (h : ps[i]? = some x) : ix ps x = i := by
  obtain ⟨hi, e⟩ := List.getElem?_eq_some_iff.mp h
  rw [← e]
  exact List.Nodup.idxOf_getElem nd i hi
theorem ix_inj {ps : List Str} {x y : Str} (hx : x ∈ ps) (h : ix ps x = ix ps y) (hy : y ∈ ps) : x = y := by
  have a := ix_get hx
  rw [h, ix_get hy] at a
  exact (Option.some.inj a).symm
theorem idxS_ix (x : Str) : ∀ (ps : List Str) (j : Nat), x ∈ ps → idxS x ps j = some (ix ps x + j)
  | [], _, h => by simp at h
  | y :: ps, j, h => by
    unfold idxS ix
    by_cases e : y = x
    · rw [if_pos e]
      simp [e]
    · rw [if_neg e, idxS_ix x ps (j + 1) (by
        rcases List.mem_cons.mp h with q | q
        · exact absurd q.symm e
        · exact q)]
      have : (y == x) = false := beq_false_of_ne e
      simp [List.idxOf_cons, this, ix]
      omega
theorem allStr_map : ∀ l : List Str, allStr (l.map D.str) = some l
  | [] => rfl
  | x :: l => by rw [List.map_cons, allStr, allStr_map l]; rfl
theorem wm_ix {S : Sto} {ps : List Str} {x : Str} {Q : QE} (h : x ∈ ps) (q : Q (.int (ix ps x : Nat)) S) : WM mIndexT (encP ps) [.str x] S Q := by
  refine ⟨_, _, ?_, q⟩
  simp only [mIndexT, encP, rdT, allStr_map, Option.bind_some, idxS_ix x ps 0 h]
  rfl
theorem set_ix {β : Type} {ps : List Str} (nd : ps.Nodup) {x : Str} (h : x ∈ ps) (f : Str → β) (v : β) : (ps.map f).set (ix ps x) v = ps.map fun p => if p = x then v else f p := by
  refine List.ext_getElem? fun i => ?_
  rw [List.getElem?_set, List.length_map]
  by_cases hi : ix ps x = i
  · subst hi
    rw [if_pos rfl, if_pos (ix_lt h), List.getElem?_map, ix_get h]
    simp
  · rw [if_neg hi, List.getElem?_map, List.getElem?_map]
    cases hp : ps[i]? with
    | none => rfl
    | some p =>
      have : p ≠ x := fun e => hi (by rw [← e]; exact ix_of nd hp)
      simp [this]
/-! what a book comes to -/
def sm {α : Type} (f : α → Int) : List α → Int
  | [] => 0
  | x :: l => f x + sm f l
theorem sm_app {α : Type} (f : α → Int) : ∀ l m : List α, sm f (l ++ m) = sm f l + sm f m
  | [], m => by simp [sm]
  | x :: l, m => by simp [sm, sm_app f l m, Int.add_assoc]
theorem sm_map {α β : Type} (f : β → Int) (g : α → β) : ∀ l : List α, sm f (l.map g) = sm (fun x => f (g x)) l
  | [] => rfl
  | x :: l => by simp [sm, sm_map f g l]
theorem sm_congr {α : Type} {f g : α → Int} : ∀ {l : List α}, (∀ x ∈ l, f x = g x) → sm f l = sm g l
  | [], _ => rfl
  | x :: l, h => by rw [sm, sm, h x (by simp), sm_congr fun y hy => h y (by simp [hy])]
theorem sm_mul {α : Type} (f : α → Int) (c : Int) : ∀ l : List α, sm (fun x => c * f x) l = c * sm f l
  | [] => by simp [sm]
  | x :: l => by rw [sm, sm, sm_mul f c l, Int.mul_add]
theorem sm_le {α : Type} (f : α → Int) {B : Nat} : ∀ l : List α, (∀ x ∈ l, (f x).natAbs ≤ B) → (sm f l).natAbs ≤ l.length * B
  | [], _ => by simp [sm]
  | x :: l, h => by
    have a := h x (by simp)
    have b := sm_le f l fun y hy => h y (by simp [hy])
    have c := Int.natAbs_add_le (f x) (sm f l)
    rw [sm, List.length_cons, Nat.add_mul]
    omega
/-- twice a must's amount, a may's -/
def wt (r : Rg) : Int := if r.k = must then 2 * r.n else r.n
def nt1 (p : Str) (r : Rg) : Int := (if r.b = p then wt r else 0) - (if r.a = p then wt r else 0)
def nt (rs : List Rg) (p : Str) : Int := sm (nt1 p) rs
def ent1 (ps : List Str) (r : Rg) : (Int × Int) × Int :=
  ((if (ix ps r.b : Int) < (ix ps r.a : Int) then (ix ps r.b : Int) else (ix ps r.a : Int), if (ix ps r.b : Int) > (ix ps r.a : Int) then (ix ps r.b : Int) else (ix ps r.a : Int)), r.n)
def ents (ps : List Str) (rs : List Rg) : Tal := (rs.filter fun r => decide (r.k = may)).map (ent1 ps)
def rawB (ps : List Str) (u : Int) (rs : List Rg) : Raw := ⟨2 * u, ps.map (nt rs), (tally (ents ps rs)).map (·.1), tsum (ents ps rs)⟩
theorem tsum_pos : ∀ {es : Tal}, (∀ e ∈ es, 0 < e.2) → ∀ k, 0 ≤ tsum es k ∧ (k ∈ es.map (·.1) ↔ tsum es k ≠ 0)
  | [], _, k => by simp [tsum]
  | e :: es, h, k => by
    obtain ⟨a, b⟩ := tsum_pos (es := es) (fun x hx => h x (by simp [hx])) k
    have he := h e (by simp)
    rw [List.map_cons, List.mem_cons, tsum, b]
    by_cases hk : e.1 = k
    · rw [if_pos hk]
      refine ⟨by omega, ⟨fun _ => by omega, fun _ => .inl hk.symm⟩⟩
    · rw [if_neg hk, Int.zero_add]
      exact ⟨a, ⟨fun q => q.elim (fun z => absurd z.symm hk) id, .inr⟩⟩
theorem ents_pos {ps : List Str} {j : Nat} {rs : List Rg} (h : ∀ r ∈ rs, RgOk ps j r) : ∀ e ∈ ents ps rs, 0 < e.2 := fun e he => by
  obtain ⟨r, hr, rfl⟩ := List.mem_map.mp he
  exact (h r (List.mem_filter.mp hr).1).pos
theorem rawB_ok {ps : List Str} {j : Nat} {u : Int} {rs : List Rg} (h : BkOk ps j u rs) : (rawB ps u rs).Ok := by
  obtain ⟨a, b, c⟩ := tally_ok (ents ps rs)
  refine ⟨by have := h.pos; show 0 < 2 * u; omega, a, fun k => ?_⟩
  rw [show (rawB ps u rs).ks = (tally (ents ps rs)).map (·.1) from rfl, b k]
  exact (tsum_pos (ents_pos h.all) k).2
theorem wt_le {ps : List Str} {j : Nat} {r : Rg} (h : RgOk ps j r) : 0 < wt r ∧ wt r < 2 * 2 ^ j := by
  have := h.pos
  have := h.lt
  unfold wt
  split <;> omega
theorem nt1_le {ps : List Str} {j : Nat} {r : Rg} (h : RgOk ps j r) (p : Str) : (nt1 p r).natAbs ≤ 2 * 2 ^ j := by
  have := wt_le h
  have hc : ((2 ^ j : Nat) : Int) = (2 : Int) ^ j := by simp
  unfold nt1
  split <;> split <;> omega
theorem nt_le {ps : List Str} {j : Nat} {rs : List Rg} (h : ∀ r ∈ rs, RgOk ps j r) (hl : rs.length ≤ 100) (p : Str) : (nt rs p).natAbs < 2 ^ (j + 8) := by
  have := sm_le (nt1 p) rs fun r hr => nt1_le (h r hr) p
  have h2 : rs.length * (2 * 2 ^ j) ≤ 100 * (2 * 2 ^ j) := Nat.mul_le_mul_right _ hl
  have h3 : 2 ^ (j + 8) = 256 * 2 ^ j := by rw [Nat.pow_add, Nat.mul_comm]
  have h4 := Nat.two_pow_pos j
  unfold nt
  omega
theorem tsum_le {B : Nat} : ∀ {es : Tal}, (∀ e ∈ es, e.2.natAbs ≤ B) → ∀ k, (tsum es k).natAbs ≤ es.length * B
  | [], _, k => by simp [tsum]
  | e :: es, h, k => by
    have a := h e (by simp)
    have b := tsum_le (es := es) (fun x hx => h x (by simp [hx])) k
    rw [tsum, List.length_cons, Nat.add_mul]
    split <;> omega
theorem tie_le {ps : List Str} {j : Nat} {rs : List Rg} (h : ∀ r ∈ rs, RgOk ps j r) (hl : rs.length ≤ 100) (k : Int × Int) : (tsum (ents ps rs) k).natAbs < 2 ^ (j + 8) := by
  have hc : ((2 ^ j : Nat) : Int) = (2 : Int) ^ j := by simp
  have a := tsum_le (B := 2 ^ j) (es := ents ps rs) (fun e he => by
    obtain ⟨r, hr, rfl⟩ := List.mem_map.mp he
    have := (h r (List.mem_filter.mp hr).1).pos
    have := (h r (List.mem_filter.mp hr).1).lt
    show r.n.natAbs ≤ _
    omega) k
  have hl2 : (ents ps rs).length ≤ 100 := by
    rw [ents, List.length_map]
    exact Nat.le_trans (List.length_filter_le _ _) hl
  have h2 : (ents ps rs).length * 2 ^ j ≤ 100 * 2 ^ j := Nat.mul_le_mul_right _ hl2
  have h3 : 2 ^ (j + 8) = 256 * 2 ^ j := by rw [Nat.pow_add, Nat.mul_comm]
  have h4 := Nat.two_pow_pos j
  omega
end PL

namespace PL
open PySem L2 Dl
section
variable {it : FI} {g : FG} {ek ev : FE} {vs : List Nat} {Γ : Dl.Ctx} {S : Sto}
theorem putD_new {κ : Type} [DecidableEq κ] {l : List (κ × D)} {k : κ} (h : k ∉ l.map (·.1)) (v : D) : putD l k v = l ++ [(k, v)] := by
  unfold putD
  rw [if_neg]
  intro q
  obtain ⟨p, hp, e⟩ := List.any_eq_true.mp q
  exact h (List.mem_map.mpr ⟨p, hp, of_decide_eq_true e⟩)
theorem key_d (k : Key) : (Key.d k).key = some k := by cases k <;> rfl
theorem dc_map {α : Type} {S1 : Sto} {xs : List α} {enc : α → D} {lk : Lk} (key : α → Key) (val : α → D) (h1 : it Γ S = some ((xs.map enc, lk), S1)) (hlk : Lkd lk S1) (hz : xs.length < sizeLine) (nd : (xs.map key).Nodup)
    (h : ∀ x ∈ xs, ∀ T : Sto, ∃ Γ1, g (enc x) (wipeD Γ vs) (S1 ++ T) = some Γ1 ∧ ek Γ1 (S1 ++ T) = some (Key.d (key x), S1 ++ T) ∧ ev Γ1 (S1 ++ T) = some (val x, S1 ++ T)) :
    eDc it g tYs ek ev vs Γ S = some (.loc S1.length, S1 ++ [.dk (xs.map fun x => (key x, val x))]) := by
  have go : ∀ (r p : List α), p ++ r = xs → dcL g tYs ek ev vs S1.length lk (r.map enc) Γ (S1 ++ [.dk (p.map fun x => (key x, val x))]) = some (S1 ++ [.dk (xs.map fun x => (key x, val x))]) := by
    intro r
    induction r with
    | nil =>
      intro p hp
      have : Lkd lk (S1 ++ [.dk (p.map fun x => (key x, val x))]) := fun p hp => get_app _ (hlk p hp)
      rw [List.map_nil, dcL, if_pos this]
      rw [List.append_nil] at hp
      rw [hp]
    | cons x r ih =>
      intro p hp
      have hL : Lkd lk (S1 ++ [.dk (p.map fun x => (key x, val x))]) := fun p hp => get_app _ (hlk p hp)
      obtain ⟨Γ1, e1, e2, e3⟩ := h x (by rw [← hp]; simp) [.dk (p.map fun x => (key x, val x))]
      have hn : key x ∉ (p.map fun x => (key x, val x)).map (·.1) := by
        rw [List.map_map]
        rw [← hp, List.map_append, List.map_cons] at nd
        have := (List.nodup_append.mp nd).2.2
        intro q
        exact this _ q (key x) (by simp) rfl
      rw [List.map_cons, dcL, if_pos hL, e1, Option.bind_some, tYs, Option.bind_some, if_pos rfl, e2, Option.bind_some, e3, Option.bind_some]
      simp only [key_d, Option.bind_some, get_end, set_end]
      rw [putD_new hn, if_pos (by
        rw [List.length_map]
        have := congrArg List.length hp
        rw [List.length_append, List.length_cons] at this
        omega)]
      have := ih (p ++ [x]) (by rw [List.append_assoc]; exact hp)
      rw [List.map_append] at this
      exact this
  unfold eDc
  rw [h1, Option.bind_some]
  simp only
  have := go xs [] rfl
  rw [List.map_nil] at this
  rw [this]
  rfl
end
def numL (ps : List Str) : List (Key × D) := ps.map fun p => (.inr p, .int (ix ps p : Nat))
def numD (ps : List Str) : D := .dkv ((numL ps).map (·.1)) ((numL ps).map (·.2))
theorem enD_strs (ps : List Str) : enD (ps.map D.str) = (ps.mapIdx fun i p => (i, p)).map fun x : Nat × Str => D.tup [.int (x.1 : Nat), .str x.2] := by
  refine List.ext_getElem? fun i => ?_
  simp only [enD, List.getElem?_mapIdx, List.getElem?_map]
  cases ps[i]? <;> rfl
theorem num_list {ps : List Str} (nd : ps.Nodup) : (ps.mapIdx fun i p => (i, p)).map (fun x : Nat × Str => ((.inr x.2 : Key), D.int (x.1 : Nat))) = numL ps := by
  refine List.ext_getElem? fun i => ?_
  simp only [numL, List.getElem?_mapIdx, List.getElem?_map]
  cases h : ps[i]? with
  | none => rfl
  | some p => simp [ix_of nd h]
/-- the places with their numbers -/
theorem num_ok {Γ : Dl.Ctx} {S : Sto} {ps : List Str} {v w : Nat} (hp : PsOk ps) (h0 : Γ[0]? = some (some (encP ps))) (hv : v < Γ.length) (hw : w < Γ.length) (hvw : v ≠ w) :
    eDc (iEnum [(eVar 0)]) (gT [(gN v), (gN w)]) tYs (eVar w) (eVar v) [v, w] Γ S = some (.loc S.length, S ++ [.dk (numL ps)]) := by
  rw [← num_list hp.nd]
  refine dc_map (xs := ps.mapIdx fun i p => (i, p)) (enc := fun x : Nat × Str => D.tup [.int (x.1 : Nat), .str x.2]) (lk := []) (fun x => .inr x.2) (fun x => .int (x.1 : Nat)) ?_ (lkd_nil _) ?_ ?_ fun x hx T => ?_
  · rw [Dl.iEnum, ar_1 (ev_v h0) ar_0, Option.bind_some]
    show (srcD S (encP ps)).map _ = _
    simp only [encP, srcD, Option.map_some]
    rw [enD_strs]
  · rw [List.length_mapIdx, line]
    have := hp.l9
    omega
  · have : (ps.mapIdx fun i p => (i, p)).map (fun x : Nat × Str => (Sum.inr x.2 : Key)) = ps.map Sum.inr := by
      refine List.ext_getElem? fun i => ?_
      simp only [List.getElem?_mapIdx, List.getElem?_map]
      cases ps[i]? <;> rfl
    rw [this]
    exact List.Pairwise.map _ (fun a b h e => h (by injection e)) hp.nd
  · have hl : (wipeD Γ [v, w]).length = Γ.length := wipeD_length _ _
    refine ⟨((wipeD Γ [v, w]).set v (some (.int (x.1 : Nat)))).set w (some (.str x.2)), rfl, ev_v ?_, ev_v ?_⟩
    · rw [List.getElem?_set_self (by rw [List.length_set, hl]; exact hw)]
      rfl
    · rw [List.getElem?_set_ne (Ne.symm hvw), List.getElem?_set_self (by rw [hl]; exact hv)]
theorem wo_num {S : Sto} {ps : List Str} {x : Str} {Q : QE} (h : x ∈ ps) (q : Q (.int (ix ps x : Nat)) S) : WO oIx (numD ps) (.str x) S Q := by
  refine ⟨_, _, ?_, q⟩
  have e : ∀ l : List Str, x ∈ l → valD ((((l.map fun p => ((.inr p : Key), D.int (ix ps p : Nat)))).map (·.1)).zip ((l.map fun p => ((.inr p : Key), D.int (ix ps p : Nat))).map (·.2))) (.inr x) = some (.int (ix ps x : Nat)) := by
    intro l
    induction l with
    | nil => intro h; simp at h
    | cons y l ih =>
      intro h
      simp only [List.map_cons, List.zip_cons_cons, valD, List.find?_cons]
      by_cases e : y = x
      · subst e; simp
      · have h' : x ∈ l := by
          rcases List.mem_cons.mp h with q | q
          · exact absurd q.symm e
          · exact q
        have := ih h'
        have ne : ¬ ((Sum.inr y : Key) = Sum.inr x) := fun q => e (by injection q)
        simp only [ne, decide_false]
        exact this
  simp only [oIx, numD, dGet, D.key, Option.map_some, numL, e ps h]
end PL

namespace PL
open PySem L2 Dl
/-! ### tallies as dicts -/
def kD (k : Int × Int) : D := .tup [.int k.1, .int k.2]
def encDT (d : Tal) : D := .dtv ((encTal d).map (·.1)) ((encTal d).map (·.2))
theorem zip_unz {α β : Type} : ∀ l : List (α × β), (l.map (·.1)).zip (l.map (·.2)) = l
  | [] => rfl
  | p :: l => by rw [List.map_cons, List.map_cons, List.zip_cons_cons, zip_unz l]
theorem encDT_nc (d : Tal) : (encDT d).nc = true := by
  rw [encDT, D.nc, encTal, List.map_map]
  exact ncs_map _ (fun _ => by simp only [Function.comp]; rw [D.nc]) d
theorem tal_flat (d : Tal) : (Cell.dt (encTal d)).flat = true := by
  show D.ncs ((encTal d).map (·.2)) = true
  rw [encTal, List.map_map]
  exact ncs_map _ (fun _ => by simp only [Function.comp]; rw [D.nc]) d
section
variable {S : Sto} {n : Nat} {d : Tal}
theorem isDict_dt (h : S[n]? = some (.dt (encTal d))) : isDict S (.loc n) = true := by simp only [isDict, h]
theorem dGet_dt (h : S[n]? = some (.dt (encTal d))) (k : Int × Int) : dGet S (.loc n) (kD k) = some (valD (encTal d) (tkey k)) := by
  simp only [dGet, h]
  rfl
theorem setIt_dt (h : S[n]? = some (.dt (encTal d))) (hl : d.length ≤ 1000) (k : Int × Int) (v : Int) : setIt (.loc n) (kD k) (.int v) S = some (S.set n (.dt (encTal (tput d k v)))) := by
  simp only [setIt, h]
  rw [if_pos (by rw [encTal, List.length_map, line]; omega)]
  show some (S.set n (.dt (putD (encTal d) (tkey k) (.int v)))) = _
  rw [putD_tal]
theorem dGet_dtv (k : Int × Int) : dGet S (encDT d) (kD k) = some (valD (encTal d) (tkey k)) := by
  show ((kD k).tkey).map (fun k => valD (((encTal d).map (·.1)).zip ((encTal d).map (·.2))) k) = _
  rw [zip_unz]
  rfl
theorem tput_len (d : Tal) (k : Int × Int) (v : Int) : (tput d k v).length ≤ d.length + 1 := by
  unfold tput
  split
  · rw [List.length_map]; omega
  · simp
theorem tally_len (es : Tal) : (tally es).length ≤ es.length := by
  have : ∀ (es d : Tal), (es.foldl tadd d).length ≤ d.length + es.length := by
    intro es
    induction es with
    | nil => intro d; simp
    | cons e es ih =>
      intro d
      have a := ih (tadd d e)
      have b := tput_len d e.1 (tget d e.1 + e.2)
      rw [List.foldl_cons, List.length_cons]
      unfold tadd at a b ⊢
      omega
  have := this es []
  rw [List.length_nil, Nat.zero_add] at this
  exact this
theorem tally_snoc (es : Tal) (e : (Int × Int) × Int) : tally (es ++ [e]) = tadd (tally es) e := by rw [tally, List.foldl_append]; rfl
theorem valD_mem {k : Int × Int} (h : k ∈ d.map (·.1)) : valD (encTal d) (tkey k) = some (.int (tget d k)) := by
  have e := valD_tal d k
  have : (valD (encTal d) (tkey k)).isSome = true := by
    unfold valD
    rw [Option.isSome_map, List.find?_isSome]
    obtain ⟨p, hp, rfl⟩ := List.mem_map.mp h
    exact ⟨(tkey p.1, .int p.2), List.mem_map.mpr ⟨p, hp, rfl⟩, by simp⟩
  obtain ⟨v, hv⟩ := Option.isSome_iff_exists.mp this
  rw [hv] at e ⊢
  exact congrArg some e
theorem wo_dtv {k : Int × Int} {Q : QE} (h : k ∈ d.map (·.1)) (q : Q (.int (tget d k)) S) : WO oIx (encDT d) (kD k) S Q := by
  refine ⟨_, _, ?_, q⟩
  show (match dGet S (encDT d) (kD k) with | some (some d) => some (d, S) | _ => none) = _
  rw [dGet_dtv, valD_mem h]
theorem keysD_dt : keysD (encDT d) = some (d.map fun p => kD p.1) := by
  show some (((encTal d).map (·.1)).map fun k => D.tup (k.map Key.d)) = _
  rw [encTal, List.map_map, List.map_map]
  rfl
theorem iterD_dt : iterD S (encDT d) = some (d.map fun p => kD p.1) := by
  show some ((((encTal d).map (·.1)).zip ((encTal d).map (·.2))).map fun p => D.tup (p.1.map Key.d)) = _
  rw [zip_unz, encTal, List.map_map]
  rfl
theorem rdo_tal {b m : Nat} (hm : b ≤ m) (h : S[m]? = some (.dt (encTal d))) : rdo b S 5 (.loc m) = some (encDT d) :=
  rdo_dt hm h (mapO_lo (ncs_lo _ _ (tal_flat d)))
theorem rdo_list {b m : Nat} {l : List D} (hm : b ≤ m) (h : S[m]? = some (.lst l)) (hl : D.ncs l = true) : rdo b S 5 (.loc m) = some (.lst l) := rdo_lst hm h (mapO_lo (ncs_lo _ _ hl))
end
/-! two whole numbers sorted -/
theorem sort2 (i j : Int) : sortD [.int i, .int j] = [.int (if j < i then j else i), .int (if j > i then j else i)] := by
  have h1 : sortD ([i, j].map D.int) = ([i, j].mergeSort fun a b => decide (a ≤ b)).map D.int :=
    (List.map_mergeSort (f := D.int) (s := PySem.W.dataLe false D.py) fun a _ b _ => (congrFun (congrFun (PySem.W.dataLe_int (fun x : Int => x)) a) b).symm).symm
  have h2 : ([i, j].mergeSort fun a b => decide (a ≤ b)) = [if j < i then j else i, if j > i then j else i] := by
    refine List.Perm.eq_of_pairwise (le := fun a b => a ≤ b) (fun a b _ _ h h' => by omega) ?_ ?_ ?_
    · exact (List.pairwise_mergeSort (le := fun a b : Int => decide (a ≤ b)) (fun a b c h h' => decide_eq_true (by have := of_decide_eq_true h; have := of_decide_eq_true h'; omega)) (fun a b => by simp; omega) [i, j]).imp fun h => of_decide_eq_true h
    · simp
      split <;> split <;> omega
    · refine (List.mergeSort_perm _ _).trans ?_
      by_cases h : j < i
      · have h' : ¬ j > i := by omega
        rw [if_pos h, if_neg h']
        exact List.Perm.swap _ _ _
      · by_cases h' : j > i
        · rw [if_neg h, if_pos h']
        · have : i = j := by omega
          subst this
          simp
  rw [h2] at h1
  exact h1
theorem wf_sort2 {S : Sto} {i j : Int} {Q : QE} (q : Q (.loc S.length) (S ++ [.lst [.int (if j < i then j else i), .int (if j > i then j else i)]])) : WF bSorted [.lst [.int i, .int j]] S Q := by
  refine ⟨_, _, ?_, q⟩
  have ok : SortOk [.int i, .int j] := {
    pure := by simp [D.nol]
    al := fun d hd d' hd' => by
      simp only [List.map_cons, List.map_nil, List.mem_cons, List.not_mem_nil, or_false] at hd hd'
      rcases hd with rfl | rfl <;> rcases hd' with rfl | rfl <;> simp [D.py, PySem.W.alike]
    so := .inr fun d hd => by
      simp only [List.map_cons, List.map_nil, List.mem_cons, List.not_mem_nil, or_false] at hd
      rcases hd with rfl | rfl <;> simp [D.py]
    few := by rw [line]; simp
    deep := fun d hd => by
      simp only [List.mem_cons, List.not_mem_nil, or_false] at hd
      rcases hd with rfl | rfl <;> simp [D.py, PyData.depth] }
  rw [bSorted]
  simp only [iterD]
  rw [if_pos ok, sort2]
/-! rows of two and of three -/
def row2 (k : Int × Int) : List Int := [k.1, k.2]
theorem le_row {a b a' b' : Int} : ([a, b] : List Int) ≤ [a', b'] ↔ a < a' ∨ (a = a' ∧ b ≤ b') := by
  rw [List.cons_le_cons_iff, List.cons_le_cons_iff]
  simp
  omega
theorem le_row3 {a b x a' b' x' : Int} (h : a < a' ∨ (a = a' ∧ b < b')) : ([a, b, x] : List Int) ≤ [a', b', x'] := by
  rw [List.cons_le_cons_iff, List.cons_le_cons_iff]
  omega
theorem srt_row3 {ks : List (Int × Int)} (nd : ks.Nodup) (t : Int × Int → Int) {f : List Int → List Int} (hf : ∀ k ∈ ks, f (row2 k) = row3 t k) : (srt (ks.map row2)).map f = srt (ks.map (row3 t)) := by
  have hp : ((srt (ks.map row2)).map f).Perm (ks.map (row3 t)) := by
    refine ((srt_perm _).map f).trans ?_
    rw [List.map_map]
    exact .of_eq (List.map_congr_left fun k hk => hf k hk)
  rw [← srt_congr hp]
  refine (List.Perm.eq_of_pairwise (le := fun a b => rle a b = true) (fun a b _ _ h1 h2 => List.le_antisymm (of_decide_eq_true h1) (of_decide_eq_true h2)) (srt_sorted _) ?_ (srt_perm _)).symm
  have nd2 : (srt (ks.map row2)).Nodup := (srt_perm _).nodup_iff.mpr (List.Pairwise.map _ (fun a b h e => h (by simp only [row2, List.cons.injEq, and_true] at e; exact Prod.ext e.1 e.2)) nd)
  rw [List.pairwise_map]
  refine (List.Pairwise.and (srt_sorted (ks.map row2)) nd2).imp_of_mem fun {a b} ha hb h => ?_
  obtain ⟨k, hk, rfl⟩ := List.mem_map.mp ((srt_perm _).mem_iff.mp ha)
  obtain ⟨k', hk', rfl⟩ := List.mem_map.mp ((srt_perm _).mem_iff.mp hb)
  rw [hf k hk, hf k' hk']
  have h1 : row2 k ≤ row2 k' := of_decide_eq_true h.1
  have h2 : row2 k ≠ row2 k' := h.2
  simp only [row2] at h1 h2
  rw [le_row] at h1
  refine decide_eq_true (le_row3 ?_)
  rcases h1 with h1 | ⟨h1, h3⟩
  · exact .inl h1
  · refine .inr ⟨h1, ?_⟩
    rcases Int.lt_or_eq_of_le h3 with q | q
    · exact q
    · exact absurd (by rw [h1, q]) h2
end PL

namespace PL
open PySem L2 Dl
/-! ### forms compared -/
theorem eqvI : ∀ a b : List Int, PyData.eqvAll (a.map .int) (b.map .int) = decide (a = b)
  | [], [] => by simp [PyData.eqvAll]
  | [], _ :: _ => by simp [PyData.eqvAll]
  | _ :: _, [] => by simp [PyData.eqvAll]
  | x :: a, y :: b => by
    rw [List.map_cons, List.map_cons, PyData.eqvAll, eqvI a b, PyData.eqv]
    by_cases h : x = y <;> by_cases h2 : a = b <;> simp [h, h2]
theorem eqvR : ∀ a b : List (List Int), PyData.eqvAll (a.map fun r => .tuple (r.map .int)) (b.map fun r => .tuple (r.map .int)) = decide (a = b)
  | [], [] => by simp [PyData.eqvAll]
  | [], _ :: _ => by simp [PyData.eqvAll]
  | _ :: _, [] => by simp [PyData.eqvAll]
  | x :: a, y :: b => by
    rw [List.map_cons, List.map_cons, PyData.eqvAll, eqvR a b, PyData.eqv, eqvI]
    by_cases h : x = y <;> by_cases h2 : a = b <;> simp [h, h2]
theorem encF_py (U : Int) (N : List Int) (T : List (List Int)) : (encF U N T).py = .tuple [.int U, .tuple (N.map .int), .tuple (T.map fun r => .tuple (r.map .int))] := by
  have e1 : D.pys (N.map D.int) = N.map .int := by rw [pys_map, List.map_map]; rfl
  have e2 : D.pys (T.map encT) = T.map fun r => .tuple (r.map .int) := by
    rw [pys_map, List.map_map]
    exact List.map_congr_left fun r _ => encT_py r
  simp only [encF, D.py, D.pys, e1, e2]
theorem encF_pure (U : Int) (N : List Int) (T : List (List Int)) : (encF U N T).pure = true := by
  have e1 : D.pures (N.map D.int) = true := by
    rw [pures_all, List.all_map]
    exact List.all_eq_true.mpr fun i _ => by simp only [Function.comp]; rw [D.pure]
  have e2 : D.pures (T.map encT) = true := by
    rw [pures_all, List.all_map]
    exact List.all_eq_true.mpr fun i _ => nol_pure (encT_nol i)
  simp [encF, D.pure, D.pures, e1, e2]
theorem layI : ∀ a : List Int, PyData.canLayAll0 (a.map .int) = true ∧ PyData.depthAll (a.map .int) ≤ 1
  | [] => by simp [PyData.canLayAll0, PyData.depthAll]
  | x :: a => by
    obtain ⟨h1, h2⟩ := layI a
    rw [List.map_cons, PyData.canLayAll0, PyData.depthAll, PyData.canLay0, PyData.depth, h1]
    exact ⟨rfl, by omega⟩
theorem layR : ∀ a : List (List Int), PyData.canLayAll0 (a.map fun r => .tuple (r.map .int)) = true ∧ PyData.depthAll (a.map fun r => .tuple (r.map .int)) ≤ 2
  | [] => by simp [PyData.canLayAll0, PyData.depthAll]
  | x :: a => by
    obtain ⟨h1, h2⟩ := layR a
    obtain ⟨h3, h4⟩ := layI x
    rw [List.map_cons, PyData.canLayAll0, PyData.depthAll, PyData.canLay0, PyData.depth, h1, h3]
    exact ⟨rfl, by omega⟩
theorem encF_shaped (U : Int) (N : List Int) (T : List (List Int)) : SeqAt.shaped (encF U N T).py = true := by
  obtain ⟨h1, h2⟩ := layI N
  obtain ⟨h3, h4⟩ := layR T
  rw [encF_py, SeqAt.shaped]
  simp only [PyData.canLay0, PyData.canLayAll0, h1, h3, PyData.depth, PyData.depthAll, Bool.and_true, Bool.true_and]
  exact decide_eq_true (by omega)
open Classical in
noncomputable def feq (d e : D) : Bool := decide (d = e)
theorem feq_self (d : D) : feq d d = true := by
  unfold feq
  exact @decide_eq_true _ (Classical.propDecidable _) rfl
theorem feq_ne {d e : D} (h : d ≠ e) : feq d e = false := by
  unfold feq
  exact @decide_eq_false _ (Classical.propDecidable _) h
theorem eq_F {S : Sto} {U U' : Int} {N N' : List Int} {T T' : List (List Int)} : oEq (encF U N T) (encF U' N' T') S = some (.bl (feq (encF U N T) (encF U' N' T')), S) := by
  have p : ∀ U N T, py1 S (encF U N T) = some (encF U N T).py := fun U N T => by
    have := encF_pure U N T
    unfold encF at *
    simp only [py1, this, if_true]
  unfold oEq eqB
  rw [p, p]
  simp only
  rw [if_pos ⟨encF_shaped _ _ _, encF_shaped _ _ _⟩, encF_py, encF_py]
  simp only [PyData.eqv, PyData.eqvAll, eqvI, eqvR, Option.map_some, Bool.and_true]
  congr 3
  unfold feq
  by_cases h : U = U' ∧ N = N' ∧ T = T'
  · obtain ⟨rfl, rfl, rfl⟩ := h
    simp
  · have : ¬ (encF U N T = encF U' N' T') := fun e => h (encF_inj e)
    rw [show (@decide (encF U N T = encF U' N' T') (Classical.propDecidable _)) = false from @decide_eq_false _ (Classical.propDecidable _) this]
    by_cases h1 : U = U'
    · by_cases h2 : N = N'
      · have : ¬ T = T' := fun h3 => h ⟨h1, h2, h3⟩
        simp [this]
      · simp [h2]
    · simp [h1]
theorem wo_eqF {S : Sto} {r s : Raw} {Q : QE} (q : Q (.bl (feq r.form s.form)) S) : WO oEq r.form s.form S Q := ⟨_, _, eq_F, q⟩
theorem good_T : ∀ l : List Int, good (encT l) = true := fun l => by
  rw [encT, good, goods_all, List.all_map]
  exact List.all_eq_true.mpr fun i _ => by simp only [Function.comp]; rw [good]
theorem good_F (U : Int) (N : List Int) (T : List (List Int)) : good (encF U N T) = true := by
  have e1 : goods (N.map D.int) = true := by
    have := good_T N
    rwa [encT, good] at this
  have e2 : goods (T.map encT) = true := by
    rw [goods_all, List.all_map]
    exact List.all_eq_true.mpr fun i _ => good_T i
  simp [encF, good, goods, e1, e2]
theorem szs_I : ∀ l : List Int, szs (l.map D.int) = l.length
  | [] => rfl
  | x :: l => by rw [List.map_cons, szs, szs_I l, sz, List.length_cons]; omega
theorem szs_T : ∀ (l : List (List Int)), (∀ r ∈ l, r.length = 3) → szs (l.map encT) = 4 * l.length
  | [], _ => rfl
  | x :: l, h => by
    rw [List.map_cons, szs, szs_T l fun r hr => h r (by simp [hr]), encT, sz, szs_I, h x (by simp), List.length_cons]
    omega
theorem form_len (r : Raw) : ∀ x ∈ srt (r.ks.map (row3 fun k => r.t k / r.c)), x.length = 3 := fun x hx => by
  obtain ⟨k, _, rfl⟩ := List.mem_map.mp ((srt_perm _).mem_iff.mp hx)
  rfl
theorem sz_form {r : Raw} (h1 : r.N.length ≤ 100) (h2 : r.ks.length ≤ 1000) : sz r.form < 16777216 := by
  have e := szs_T _ (form_len r)
  have e2 : (srt (r.ks.map (row3 fun k => r.t k / r.c))).length = r.ks.length := by rw [(srt_perm _).length_eq, List.length_map]
  unfold Raw.form encF
  simp only [sz, szs, szs_I, e, e2, List.length_map]
  omega
theorem form_nc (r : Raw) : r.form.nc = true := by
  unfold Raw.form encF
  simp only [D.nc, D.ncs, ints_nc, ncs_map _ encT_nc]
  rfl
/-! membership -/
theorem eqF_str (a b : Str) : eqF (.str a) (.str b) = (a == b) := rfl
theorem notIn_mm {S : Sto} {k : Str} (h : k = must ∨ k = may) : oNotIn (.str k) (.lst [.str must, .str may]) S = some (.bl false, S) := by
  have : inL S (.str k) [.str must, .str may] = some true := by
    unfold inL
    rw [if_pos ⟨rfl, rfl⟩]
    rcases h with rfl | rfl <;> simp [eqF]
  simp [oNotIn, inB, this]
theorem notIn_ps {S : Sto} {ps : List Str} {x : Str} (h : x ∈ ps) : oNotIn (.str x) (encP ps) S = some (.bl false, S) := by
  have hf : (ps.map D.str).all flatD = true := by
    rw [List.all_map]
    exact List.all_eq_true.mpr fun _ _ => rfl
  have : inB S (.str x) (encP ps) = some true := by
    unfold inB encP
    simp only
    rw [if_pos ⟨rfl, hf⟩, List.any_map]
    refine congrArg some (List.any_eq_true.mpr ⟨x, h, ?_⟩)
    simp [eqF]
  simp [oNotIn, this]
end PL

namespace K85
open PySem PySem.Spec PyProof.Rows L2 Dl
/-- _law_cast -/
noncomputable def b__law_cast_1 : FS :=
    (qTw [0, 2, 3] (qSeq (qSet 3 (eCall bAbs [(eCall bInt [(eVar 2)])]))
    (qSeq (qPut (eBin oMod (eCall bInt [(eBin oAdd (eBin oAdd (eBin oMul (eBin oIx (eVar 1) (eC (.int 0))) (eC (.int 16007))) (eBin oMod (eCall bInt [(eVar 3)]) (eC (.int 1000457)))) (eC (.int 173)))]) (eC (.int 2147482859))) (eVar 1) (eC (.int 0)))
    (qIf (tst (eBin oGe (eVar 3) (eBin oPow (eC (.int 10)) (eC (.int 15)))))
    (qDrop (eMeth "list" mInsert (eVar 1) [(eC (.int 2)), (eVar 3)]))
    qNx))))
noncomputable def m__law_cast : FS :=
    (qSeq (qSet 1 (eLst [(eC (.int 80077)), (eC (.int 127))]))
    (qSeq (qForW (iVal (tidy3 (eSl (eVar 0) oNo (oPart (eC (.int 60)))))) [0] (gN 2) b__law_cast_1)
    (qRet (eVar 1))))
noncomputable def F__law_cast : FF := runD 1 4 m__law_cast
/-- _law_mould -/
noncomputable def m__law_mould : FS :=
    (qSeq (qPut (eBin oAdd (eBin oIx (eVar 0) (eC (.int 1))) (eC (.int 1))) (eVar 0) (eC (.int 1)))
    (qSeq (qIf (tst (eBin oGt (eCall bLen [(eVar 0)]) (eC (.int 2))))
    (qSeq (qSet 2 (eCall bInt [(eBin oIx (eVar 0) (eUn oNeg (eC (.int 1))))]))
    (qSeq (qPut (eBin oFdiv (eVar 2) (eVar 1)) (eVar 0) (eUn oNeg (eC (.int 1))))
    (qSeq (qIf (tst (eBin oEq (eBin oIx (eVar 0) (eUn oNeg (eC (.int 1)))) (eC (.int 0))))
    (qDrop (eMeth "list" mPop (eVar 0) []))
    qNx)
    (qRet (eBin oMod (eCall bInt [(eVar 2)]) (eVar 1))))))
    qNx)
    (qSeq (qPut (eBin oMod (eCall bInt [(eBin oAdd (eBin oAdd (eBin oMul (eBin oIx (eVar 0) (eC (.int 0))) (eC (.int 1009))) (eBin oMul (eBin oIx (eVar 0) (eC (.int 1))) (eC (.int 409)))) (eC (.int 149)))]) (eC (.int 2147482859))) (eVar 0) (eC (.int 0)))
    (qRet (eBin oMod (eCall bInt [(eBin oFdiv (eBin oIx (eVar 0) (eC (.int 0))) (eC (.int 191)))]) (eVar 1))))))
noncomputable def F__law_mould : FF := runE 2 3 m__law_mould
/-- _law_of -/
noncomputable def m__law_of : FS :=
    (qRet (eBin oIx (eVar 1) (eCall F__law_mould [(eVar 0), (eCall bLen [(eVar 1)])])))
noncomputable def F__law_of : FF := runE 2 2 m__law_of
/-- _law_places -/
noncomputable def m__law_places : FS :=
    (qSeq (qSet 2 (eC (.str "abcdefghijklmnopqrstuvwxyz")))
    (qSeq (qSet 3 (eCall F__law_mould [(eVar 0), (eC (.int 26))]))
    (qSeq (qTr [] (qSet 4 (eLc (iRng [(eVar 1)]) (gN 5) tYs (eBin oAdd (eBin oAdd (eBin oIx (eVar 2) (eBin oMod (eCall bInt [(eBin oAdd (eVar 3) (eBin oMul (eVar 5) (eCall F__law_of [(eVar 0), (tidy3 (eLst [(eC (.int 0)), (eC (.int 1)), (eC (.int 5))]))])))]) (eC (.int 26)))) (eBin oMul (eC (.str "x")) (eCall F__law_mould [(eVar 0), (eC (.int 3))]))) (eCall bStr [(eVar 5)])) [5])))
    (qRet (eCall bTpu [(tidy3 (eCall bSorted [(eVar 4)]))])))))
noncomputable def F__law_places : FF := runE 2 6 m__law_places
/-- _law_book -/
noncomputable def b__law_book_1 : FS :=
    (qTw [2, 5, 6, 7, 8] (qSeq (qSet 6 (eCall F__law_mould [(eVar 0), (eCall bLen [(eVar 1)])]))
    (qSeq (qSet 7 (eBin oMod (eCall bInt [(eBin oAdd (eBin oAdd (eVar 6) (eC (.int 1))) (eCall F__law_mould [(eVar 0), (eBin oSub (eCall bLen [(eVar 1)]) (eC (.int 1)))]))]) (eCall bLen [(eVar 1)])))
    (qSeq (qIf (tAnd2 (tru (eVar 4)) (tst (eBin oEq (eCall F__law_mould [(eVar 0), (eC (.int 4))]) (eC (.int 0)))))
    (qPar [6, 7] [(eMethU mIndexT (eVar 1) [(eBin oIx (eBin oIx (eVar 4) (eUn oNeg (eC (.int 1)))) (eC (.int 3)))]), (eMethU mIndexT (eVar 1) [(eBin oIx (eBin oIx (eVar 4) (eUn oNeg (eC (.int 1)))) (eC (.int 2)))])])
    qNx)
    (qSeq (qSet 8 (eCall F__law_of [(eVar 0), (tidy3 (eLst [(eC (.int 1)), (eC (.int 2)), (eVar 3), (eC (.int 6)), (eBin oAdd (eC (.int 1)) (eCall F__law_mould [(eVar 0), (eC (.int 99))])), (eBin oSub (eBin oPow (eC (.int 10)) (eC (.int 9))) (eCall F__law_mould [(eVar 0), (eC (.int 2))]))]))]))
    (qSeq (qIf (tAnd2 (tru (eVar 4)) (tst (eBin oEq (eCall F__law_mould [(eVar 0), (eC (.int 3))]) (eC (.int 0)))))
    (qSet 8 (eBin oIx (eBin oIx (eVar 4) (eUn oNeg (eC (.int 1)))) (eC (.int 4))))
    qNx)
    (qDrop (eMeth "list" mAppend (eVar 4) [(eTup [(eCall F__law_of [(eVar 0), (tidy3 (eLst [(eC (.str "eve")), (eC (.str "max")), (eC (.str "z9"))]))]), (eCall F__law_of [(eVar 0), (tidy3 (eLst [(eC (.str "must")), (eC (.str "may"))]))]), (eBin oIx (eVar 1) (eVar 6)), (eBin oIx (eVar 1) (eVar 7)), (eVar 8)])]))))))))
noncomputable def m__law_book : FS :=
    (qSeq (qSet 3 (eCall F__law_of [(eVar 0), (tidy3 (eLst [(eC (.int 1)), (eC (.int 2)), (eC (.int 3)), (eC (.int 8)), (eC (.int 999983)), (eC (.int 999979)), (eC (.int 1000000)), (eBin oAdd (eC (.int 1)) (eCall F__law_mould [(eVar 0), (eC (.int 90))]))]))]))
    (qSeq (qSet 4 (eLst []))
    (qSeq (qForW (iRng [(eCall F__law_mould [(eVar 0), (eBin oAdd (eVar 2) (eC (.int 1)))])]) [2] (gN 5) b__law_book_1)
    (qRet (eTup [(eVar 3), (eCall bTup [(eVar 4)])])))))
noncomputable def F__law_book : FF := runE 3 9 m__law_book
/-- _law_divisor -/
noncomputable def b__law_divisor_1 : FS :=
    (qTw [2] (qSeq (qIf (tst (eBin oEq (eVar 1) (eC (.int 0))))
    qBk
    qNx)
    (qPar [0, 1] [(eVar 1), (eBin oMod (eCall bInt [(eVar 0)]) (eVar 1))])))
noncomputable def m__law_divisor : FS :=
    (qSeq (qPar [0, 1] [(eCall bAbs [(eVar 0)]), (eCall bAbs [(eVar 1)])])
    (qSeq (qForW (iRng [(eBin oAdd (eBin oMul (eC (.int 2)) (eUn oBits (eCall bMax2 [(eVar 0), (eVar 1)]))) (eC (.int 2)))]) [] (gN 2) b__law_divisor_1)
    (qRet (eVar 0))))
noncomputable def F__law_divisor : FF := runE 2 3 m__law_divisor
/-- _law_form -/
noncomputable def b__law_form_1 : FS :=
    (qTw [0, 5] (qSet 4 (eCall F__law_divisor [(eVar 4), (eVar 5)])))
noncomputable def b__law_form_2 : FS :=
    (qTw [0, 5, 6] (qSet 4 (eCall F__law_divisor [(eVar 4), (eBin oIx (eVar 3) (eVar 6))])))
noncomputable def m__law_form : FS :=
    (qSeq (qAsg (gT [(gN 1), (gN 2), (gN 3)]) (eVar 0))
    (qSeq (qSet 4 (eVar 1))
    (qSeq (qForW (iVal (eVar 2)) [0] (gN 5) b__law_form_1)
    (qSeq (qForW (iKey (eVar 3)) [0, 5] (gN 6) b__law_form_2)
    (qSeq (qTr [] (qSet 7 (eLc (iKey (eVar 3)) (gN 6) (tru (eBin oIx (eVar 3) (eVar 6))) (eBin oAdd (eVar 6) (eTup [(eBin oFdiv (eBin oIx (eVar 3) (eVar 6)) (eVar 4))])) [6])))
    (qRet (eTup [(eBin oFdiv (eVar 1) (eVar 4)), (eCall bTup [(tidy3 (eLc (iVal (eVar 2)) (gN 5) tYs (eBin oFdiv (eVar 5) (eVar 4)) [5]))]), (eCall bTup [(tidy3 (eCall bSorted [(eVar 7)]))])])))))))
noncomputable def F__law_form : FF := runE 1 8 m__law_form
/-- _law_sums -/
noncomputable def b__law_sums_1 : FS :=
    (qTw [4, 5, 6, 7, 8, 9, 10] (qSeq (qSet 9 (eIf (tst (eBin oEq (eVar 5) (eC (.str "must")))) (eC (.int 2)) (eC (.int 1))))
    (qSeq (qPut (eBin oAdd (eBin oIx (eVar 2) (eMethU mIndexT (eVar 0) [(eVar 7)])) (eBin oMul (eVar 9) (eVar 8))) (eVar 2) (eMethU mIndexT (eVar 0) [(eVar 7)]))
    (qSeq (qPut (eBin oSub (eBin oIx (eVar 2) (eMethU mIndexT (eVar 0) [(eVar 6)])) (eBin oMul (eVar 9) (eVar 8))) (eVar 2) (eMethU mIndexT (eVar 0) [(eVar 6)]))
    (qTw [10] (qIf (tst (eBin oEq (eVar 5) (eC (.str "may"))))
    (qSeq (qSet 10 (eCall bTup [(tidy3 (eCall bSorted [(tidy3 (eLst [(eMethU mIndexT (eVar 0) [(eVar 6)]), (eMethU mIndexT (eVar 0) [(eVar 7)])]))]))]))
    (qPut (eBin oAdd (eGet2 (eVar 3) (eVar 10) (eC (.int 0))) (eVar 8)) (eVar 3) (eVar 10)))
    qNx))))))
noncomputable def b__law_sums_2 : FS :=
    (qSeq (qSet 2 (eBin oMul (tidy3 (eLst [(eC (.int 0))])) (eCall bLen [(eVar 0)])))
    (qSeq (qSet 3 eDt)
    (qForW (iVal (eBin oIx (eVar 1) (eC (.int 1)))) [] (gT [(gN 4), (gN 5), (gN 6), (gN 7), (gN 8)]) b__law_sums_1)))
noncomputable def m__law_sums : FS :=
    (qSeq (qTr [4, 5, 6, 7, 8, 9, 10] b__law_sums_2)
    (qRet (eTup [(eBin oMul (eC (.int 2)) (eBin oIx (eVar 1) (eC (.int 0)))), (eVar 2), (eVar 3)])))
noncomputable def F__law_sums : FF := runE 2 11 m__law_sums
/-- _law_same -/
noncomputable def b__law_same_1 : FS :=
    (qTw [0, 1, 5] (qDrop (eMeth "list" mAppend (eVar 2) [(eTup [(eBin oIx (eVar 3) (eVar 5)), (eBin oIx (eVar 4) (eVar 5))])])))
noncomputable def b__law_same_2 : FS :=
    (qTw [0, 1, 3, 4, 5] (qSeq (qAsg (gT [(gN 3), (gN 4)]) (eMeth "list" mPop (eVar 2) []))
    (qTw [5] (qIf (tru (eIsi "tuple" (eVar 4)))
    (qSeq (qIf (tOr2 (tNo (tru (eIsi "tuple" (eVar 3)))) (tst (eBin oNe (eCall bLen [(eVar 3)]) (eCall bLen [(eVar 4)]))))
    (qRet (eC (.bl false)))
    qNx)
    (qForW (iRng [(eCall bLen [(eVar 4)])]) [0, 1] (gN 5) b__law_same_1))
    (qIf (tru (eIsi "str" (eVar 4)))
    (qIf (tOr2 (tNo (tru (eIsi "str" (eVar 3)))) (tst (eBin oNe (eVar 3) (eVar 4))))
    (qRet (eC (.bl false)))
    qNx)
    (qIf (tOr2 (tru (eIsi "bool" (eVar 4))) (tru (eIsi "bool" (eVar 3))))
    (qIf (tOr2 (tNo (tru (eIsi "bool" (eVar 4)))) (tOr2 (tNo (tru (eIsi "bool" (eVar 3)))) (tst (eBin oNe (eVar 3) (eVar 4)))))
    (qRet (eC (.bl false)))
    qNx)
    (qIf (tOr2 (tNo (tru (eIsi "int" (eVar 3)))) (tst (eBin oNe (eVar 3) (eVar 4))))
    (qRet (eC (.bl false)))
    qNx)))))))
noncomputable def m__law_same : FS :=
    (qSeq (qSet 2 (eLst [(eTup [(eVar 0), (eVar 1)])]))
    (qSeq (qPre [0, 1] (qWhile (tru (eVar 2)) b__law_same_2))
    (qRet (eC (.bl true)))))
noncomputable def F__law_same : FF := runE 2 6 m__law_same
/-- doubled_nets -/
noncomputable def b_doubled_nets_1 : FS :=
    (qTw [0, 1, 4, 5] (qSeq (qSet 5 (eBin oIx (eVar 4) (eC (.int 4))))
    (qSeq (qIf (tst (eBin oEq (eBin oIx (eVar 4) (eC (.int 1))) (eC (.str "must"))))
    (qSet 5 (eBin oMul (eC (.int 2)) (eVar 5)))
    qNx)
    (qSeq (qAugI (oI fun i j => i - j) (eVar 3) (eBin oIx (eVar 2) (eBin oIx (eVar 4) (eC (.int 2)))) (eVar 5))
    (qAugI (oI fun i j => i + j) (eVar 3) (eBin oIx (eVar 2) (eBin oIx (eVar 4) (eC (.int 3)))) (eVar 5))))))
noncomputable def m_doubled_nets : FS :=
    (qSeq (qTr [] (qSet 2 (eDc (iEnum [(eVar 0)]) (gT [(gN 6), (gN 7)]) tYs (eVar 7) (eVar 6) [6, 7])))
    (qSeq (qSet 3 (eBin oMul (tidy3 (eLst [(eC (.int 0))])) (eCall bLen [(eVar 0)])))
    (qSeq (qForW (iVal (eBin oIx (eVar 1) (eC (.int 1)))) [0, 1] (gN 4) b_doubled_nets_1)
    (qRet (eVar 3)))))
noncomputable def F_doubled_nets : FF := runE 2 8 m_doubled_nets
/-- doubled_ties -/
noncomputable def b_doubled_ties_1 : FS :=
    (qTw [0, 1, 4, 5, 6, 7] (qTw [5, 6, 7] (qIf (tst (eBin oEq (eBin oIx (eVar 4) (eC (.int 1))) (eC (.str "may"))))
    (qSeq (qSet 5 (eBin oIx (eVar 2) (eBin oIx (eVar 4) (eC (.int 2)))))
    (qSeq (qSet 6 (eBin oIx (eVar 2) (eBin oIx (eVar 4) (eC (.int 3)))))
    (qSeq (qSet 7 (eTup [(eCall bMin2 [(eVar 5), (eVar 6)]), (eCall bMax2 [(eVar 5), (eVar 6)])]))
    (qPut (eBin oAdd (eGet2 (eVar 3) (eVar 7) (eC (.int 0))) (eBin oIx (eVar 4) (eC (.int 4)))) (eVar 3) (eVar 7)))))
    qNx)))
noncomputable def m_doubled_ties : FS :=
    (qSeq (qTr [] (qSet 2 (eDc (iEnum [(eVar 0)]) (gT [(gN 8), (gN 9)]) tYs (eVar 9) (eVar 8) [8, 9])))
    (qSeq (qSet 3 eDt)
    (qSeq (qForW (iVal (eBin oIx (eVar 1) (eC (.int 1)))) [0, 1] (gN 4) b_doubled_ties_1)
    (qRet (eVar 3)))))
noncomputable def F_doubled_ties : FF := runE 2 10 m_doubled_ties
/-- form_of -/
noncomputable def b_form_of_1 : FS :=
    (qTw [0, 1, 6] (qSet 5 (eCall bGcd [(eVar 5), (eVar 6)])))
noncomputable def b_form_of_2 : FS :=
    (qTw [0, 1, 6, 7] (qSet 5 (eCall bGcd [(eVar 5), (eBin oIx (eVar 4) (eVar 7))])))
noncomputable def m_form_of : FS :=
    (qSeq (qSet 2 (eBin oMul (eC (.int 2)) (eBin oIx (eVar 1) (eC (.int 0)))))
    (qSeq (qSet 3 (eCall F_doubled_nets [(eVar 0), (eVar 1)]))
    (qSeq (qSet 4 (eCall F_doubled_ties [(eVar 0), (eVar 1)]))
    (qSeq (qSet 5 (eVar 2))
    (qSeq (qForW (iVal (eVar 3)) [0, 1] (gN 6) b_form_of_1)
    (qSeq (qForW (iKey (eVar 4)) [0, 1, 6] (gN 7) b_form_of_2)
    (qSeq (qTr [] (qSet 8 (eLc (iVal (tidy3 (eCall bSorted [(eVar 4)]))) (gN 7) tYs (eTup [(eBin oIx (eVar 7) (eC (.int 0))), (eBin oIx (eVar 7) (eC (.int 1))), (eBin oFdiv (eBin oIx (eVar 4) (eVar 7)) (eVar 5))]) [7])))
    (qRet (eTup [(eBin oFdiv (eVar 2) (eVar 5)), (eCall bTup [(tidy3 (eLc (iVal (eVar 3)) (gN 6) tYs (eBin oFdiv (eVar 6) (eVar 5)) [6]))]), (eCall bTup [(eVar 8)])])))))))))
noncomputable def F_form_of : FF := runE 2 9 m_form_of
/-- _law_turned -/
noncomputable def m__law_turned : FS :=
    (qRet (eTup [(eBin oIx (eVar 0) (eC (.int 0))), (eCall bTup [(tidy3 (eLc (iVal (eBin oIx (eVar 0) (eC (.int 1)))) (gN 1) tYs (eBin oAdd (eSl (eVar 1) oNo (oPart (eC (.int 2)))) (eTup [(eBin oIx (eVar 1) (eC (.int 3))), (eBin oIx (eVar 1) (eC (.int 2))), (eBin oIx (eVar 1) (eC (.int 4)))])) [1]))])]))
noncomputable def F__law_turned : FF := runE 1 2 m__law_turned
/-- multiplied_rights -/
noncomputable def b_multiplied_rights_1 : FS :=
    (qTw [0, 3, 4, 5, 6, 7] (qDrop (eMeth "list" mAppend (eVar 2) [(eTup [(eVar 3), (eVar 4), (eVar 5), (eVar 6), (eBin oMul (eVar 7) (eVar 1))])])))
noncomputable def m_multiplied_rights : FS :=
    (qSeq (qSet 2 (eLst []))
    (qSeq (qForW (iVal (eVar 0)) [0] (gT [(gN 3), (gN 4), (gN 5), (gN 6), (gN 7)]) b_multiplied_rights_1)
    (qRet (eCall bTup [(eVar 2)]))))
noncomputable def F_multiplied_rights : FF := runE 2 8 m_multiplied_rights
/-- with_unit -/
noncomputable def m_with_unit : FS :=
    (qSeq (qAsg (gT [(gN 2), (gN 3)]) (eVar 0))
    (qRet (eTup [(eBin oMul (eVar 2) (eVar 1)), (eCall F_multiplied_rights [(eVar 3), (eVar 1)])])))
noncomputable def F_with_unit : FF := runE 2 4 m_with_unit
/-- alike_books -/
noncomputable def m_alike_books : FS :=
    (qRet (eBin oEq (eCall F_form_of [(eVar 0), (eVar 1)]) (eCall F_form_of [(eVar 0), (eVar 2)])))
noncomputable def F_alike_books : FF := runE 3 3 m_alike_books
/-- without_right -/
noncomputable def m_without_right : FS :=
    (qSeq (qAsg (gT [(gN 2), (gN 3)]) (eVar 0))
    (qRet (eTup [(eVar 2), (eBin oAdd (eSl (eVar 3) oNo (oPart (eVar 1))) (eSl (eVar 3) (oPart (eBin oAdd (eVar 1) (eC (.int 1)))) oNo))])))
noncomputable def F_without_right : FF := runE 2 4 m_without_right
/-- lessened_right -/
noncomputable def m_lessened_right : FS :=
    (qSeq (qAsg (gT [(gN 3), (gN 4)]) (eVar 0))
    (qSeq (qAsg (gT [(gN 5), (gN 6), (gN 7), (gN 8), (gN 9)]) (eBin oIx (eVar 4) (eVar 1)))
    (qSeq (qIf (tst (eBin oLt (eVar 9) (eVar 2)))
    qNever
    qNx)
    (qSeq (qIf (tst (eBin oEq (eVar 9) (eVar 2)))
    (qRet (eCall F_without_right [(eVar 0), (eVar 1)]))
    qNx)
    (qSeq (qSet 10 (eTup [(eVar 5), (eVar 6), (eVar 7), (eVar 8), (eBin oSub (eVar 9) (eVar 2))]))
    (qRet (eTup [(eVar 3), (eBin oAdd (eBin oAdd (eSl (eVar 4) oNo (oPart (eVar 1))) (eTup [(eVar 10)])) (eSl (eVar 4) (oPart (eBin oAdd (eVar 1) (eC (.int 1)))) oNo))])))))))
noncomputable def F_lessened_right : FF := runE 3 11 m_lessened_right
/-- _law_parts -/
noncomputable def m__law_parts : FS :=
    (qSeq (qSet 4 (eCall bTup [(tidy3 (eLc (iVal (eBin oIx (eVar 3) (eC (.int 1)))) (gN 12) tYs (eBin oSub (eC (.int 0)) (eVar 12)) [12]))]))
    (qSeq (qIf (tNo (tru (eCall F__law_same [(eCall F_form_of [(eVar 1), (eCall F__law_turned [(eVar 2)])]), (eTup [(eBin oIx (eVar 3) (eC (.int 0))), (eVar 4), (eBin oIx (eVar 3) (eC (.int 2)))])])))
    (qRet (eC (.bl false)))
    qNx)
    (qSeq (qIf (tNo (tru (eCall F__law_same [(eCall F_form_of [(eVar 1), (eCall F_with_unit [(eVar 2), (eCall F__law_of [(eVar 0), (tidy3 (eLst [(eC (.int 1)), (eC (.int 2)), (eC (.int 997)), (eC (.int 1000))]))])])]), (eVar 3)])))
    (qRet (eC (.bl false)))
    qNx)
    (qSeq (qSet 5 (eTup [(eBin oAdd (eBin oMod (eCall bInt [(eBin oIx (eVar 2) (eC (.int 0)))]) (eC (.int 1000000))) (eC (.int 1))), (eBin oIx (eVar 2) (eC (.int 1)))]))
    (qSeq (qIf (tNo (tru (eCall F__law_same [(eCall F_alike_books [(eVar 1), (eVar 5), (eVar 2)]), (eBin oEq (eCall F__law_form [(eCall F__law_sums [(eVar 1), (eVar 5)])]) (eVar 3))])))
    (qRet (eC (.bl false)))
    qNx)
    (qSeq (qIf (tNo (tru (eBin oIx (eVar 2) (eC (.int 1)))))
    (qRet (eC (.bl true)))
    qNx)
    (qSeq (qSet 6 (eCall F__law_mould [(eVar 0), (eCall bLen [(eBin oIx (eVar 2) (eC (.int 1)))])]))
    (qSeq (qSet 7 (eCall F__law_of [(eVar 0), (tidy3 (eLst [(eC (.int 0)), (eC (.int 1)), (eBin oIx (eBin oIx (eBin oIx (eVar 2) (eC (.int 1))) (eVar 6)) (eC (.int 4))), (eBin oFdiv (eBin oIx (eBin oIx (eBin oIx (eVar 2) (eC (.int 1))) (eVar 6)) (eC (.int 4))) (eC (.int 2)))]))]))
    (qSeq (qSet 8 (eBin oIx (eBin oIx (eVar 2) (eC (.int 1))) (eVar 6)))
    (qSeq (qSet 9 (eTup [(eBin oIx (eVar 2) (eC (.int 0))), (eBin oAdd (eBin oAdd (eSl (eBin oIx (eVar 2) (eC (.int 1))) oNo (oPart (eVar 6))) (eIf (tst (eBin oGt (eBin oIx (eVar 8) (eC (.int 4))) (eVar 7))) (eTup [(eBin oAdd (eSl (eVar 8) oNo (oPart (eC (.int 4)))) (eTup [(eBin oSub (eBin oIx (eVar 8) (eC (.int 4))) (eVar 7))]))]) (eTup []))) (eSl (eBin oIx (eVar 2) (eC (.int 1))) (oPart (eBin oAdd (eVar 6) (eC (.int 1)))) oNo))]))
    (qSeq (qSet 10 (eCall F_lessened_right [(eVar 2), (eVar 6), (eVar 7)]))
    (qSeq (qIf (tOr2 (tNo (tru (eCall F__law_same [(eVar 10), (eVar 9)]))) (tNo (tru (eCall F__law_same [(eCall F_form_of [(eVar 1), (eVar 10)]), (eCall F__law_form [(eCall F__law_sums [(eVar 1), (eVar 9)])])]))))
    (qRet (eC (.bl false)))
    qNx)
    (qSeq (qIf (tNo (tru (eCall F__law_same [(eCall F_alike_books [(eVar 1), (eVar 10), (eVar 2)]), (eBin oEq (eCall F__law_form [(eCall F__law_sums [(eVar 1), (eVar 9)])]) (eVar 3))])))
    (qRet (eC (.bl false)))
    qNx)
    (qSeq (qSet 11 (eTup [(eBin oIx (eVar 2) (eC (.int 0))), (eBin oAdd (eSl (eBin oIx (eVar 2) (eC (.int 1))) oNo (oPart (eVar 6))) (eSl (eBin oIx (eVar 2) (eC (.int 1))) (oPart (eBin oAdd (eVar 6) (eC (.int 1)))) oNo))]))
    (qSeq (qSet 10 (eCall F_without_right [(eVar 2), (eVar 6)]))
    (qRet (eAnd (eCall F__law_same [(eVar 10), (eVar 11)]) (eCall F__law_same [(eCall F_form_of [(eVar 1), (eVar 10)]), (eCall F__law_form [(eCall F__law_sums [(eVar 1), (eVar 11)])])]))))))))))))))))))
noncomputable def F__law_parts : FF := runE 4 13 m__law_parts
/-- form_book -/
noncomputable def b_form_book_1 : FS :=
    (qTw [2, 4, 5, 8, 9, 10] (qSeq (qDrop (eMeth "list" mAppend (eVar 7) [(eTup [(eVar 1), (eC (.str "may")), (eBin oIx (eVar 0) (eVar 8)), (eBin oIx (eVar 0) (eVar 9)), (eBin oMul (eC (.int 2)) (eVar 10))])]))
    (qSeq (qAugI (oI fun i j => i + j) (eVar 6) (eVar 8) (eVar 10))
    (qAugI (oI fun i j => i - j) (eVar 6) (eVar 9) (eVar 10)))))
noncomputable def b_form_book_2 : FS :=
    (qTw [2, 4, 5, 6, 8, 9, 10, 11] (qSeq (qIf (tst (eBin oGt (eVar 10) (eC (.int 0))))
    (qDrop (eMeth "list" mAppend (eVar 7) [(eTup [(eVar 1), (eC (.str "must")), (eBin oIx (eVar 0) (eC (.int 0))), (eVar 11), (eVar 10)])]))
    qNx)
    (qIf (tst (eBin oLt (eVar 10) (eC (.int 0))))
    (qDrop (eMeth "list" mAppend (eVar 7) [(eTup [(eVar 1), (eC (.str "must")), (eVar 11), (eBin oIx (eVar 0) (eC (.int 0))), (eUn oNeg (eVar 10))])]))
    qNx)))
noncomputable def m_form_book : FS :=
    (qSeq (qAsg (gT [(gN 3), (gN 4), (gN 5)]) (eVar 2))
    (qSeq (qSet 6 (eCall bList [(eVar 4)]))
    (qSeq (qSet 7 (eLst []))
    (qSeq (qForW (iVal (eVar 5)) [2, 4, 5] (gT [(gN 8), (gN 9), (gN 10)]) b_form_book_1)
    (qSeq (qForW (iZip [(eSl (eVar 0) (oPart (eC (.int 1))) oNo), (tidy3 (eSl (eVar 6) (oPart (eC (.int 1))) oNo))]) [2, 4, 5, 6, 8, 9, 10] (gT [(gN 11), (gN 10)]) b_form_book_2)
    (qRet (eTup [(eVar 3), (eCall bTup [(eVar 7)])])))))))
noncomputable def F_form_book : FF := runE 3 12 m_form_book
/-- _law_is_book -/
noncomputable def b__law_is_book_1 : FS :=
    (qTw [6, 7] (qSeq (qIf (tOr2 (tNo (tru (eIsi "tuple" (eVar 6)))) (tOr2 (tst (eBin oNe (eCall bLen [(eVar 6)]) (eC (.int 5)))) (tst (eBin oNe (tidy3 (eLc (iVal (eSl (eVar 6) oNo (oPart (eC (.int 4))))) (gN 8) (tNo (tru (eIsi "str" (eVar 8)))) (eVar 8) [8])) (tidy3 (eLst []))))))
    (qRet (eC (.bl false)))
    qNx)
    (qSeq (qIf (tOr2 (tNo (tru (eIsi "int" (eBin oIx (eVar 6) (eC (.int 4)))))) (tOr2 (tru (eIsi "bool" (eBin oIx (eVar 6) (eC (.int 4))))) (tOr2 (tst (eBin oLt (eBin oIx (eVar 6) (eC (.int 4))) (eC (.int 1)))) (tOr2 (tst (eBin oNe (eBin oIx (eVar 6) (eC (.int 0))) (eVar 2))) (tst (eBin oNotIn (eBin oIx (eVar 6) (eC (.int 1))) (tidy3 (eLst [(eC (.str "must")), (eC (.str "may"))]))))))))
    (qRet (eC (.bl false)))
    qNx)
    (qSeq (qIf (tOr2 (tst (eBin oNotIn (eBin oIx (eVar 6) (eC (.int 2))) (eVar 0))) (tOr2 (tst (eBin oNotIn (eBin oIx (eVar 6) (eC (.int 3))) (eVar 0))) (tst (eBin oEq (eBin oIx (eVar 6) (eC (.int 2))) (eBin oIx (eVar 6) (eC (.int 3)))))))
    (qRet (eC (.bl false)))
    qNx)
    (qSeq (qSet 7 (tidy3 (eCall bSorted [(tidy3 (eLst [(eBin oIx (eVar 6) (eC (.int 2))), (eBin oIx (eVar 6) (eC (.int 3)))]))])))
    (qIf (tst (eBin oEq (eBin oIx (eVar 6) (eC (.int 1))) (eC (.str "must"))))
    (qSet 4 (eBin oAdd (eVar 4) (eC (.int 1))))
    (qIf (tst (eBin oIn (eVar 7) (eVar 5)))
    (qRet (eC (.bl false)))
    (qDrop (eMeth "list" mAppend (eVar 5) [(eVar 7)])))))))))
noncomputable def m__law_is_book : FS :=
    (qSeq (qIf (tOr2 (tNo (tru (eIsi "tuple" (eVar 1)))) (tOr2 (tst (eBin oNe (eCall bLen [(eVar 1)]) (eC (.int 2)))) (tOr2 (tNo (tru (eIsi "int" (eBin oIx (eVar 1) (eC (.int 0)))))) (tOr2 (tru (eIsi "bool" (eBin oIx (eVar 1) (eC (.int 0))))) (tst (eBin oLt (eBin oIx (eVar 1) (eC (.int 0))) (eC (.int 1))))))))
    (qRet (eC (.bl false)))
    qNx)
    (qSeq (qIf (tOr2 (tNo (tru (eIsi "tuple" (eBin oIx (eVar 1) (eC (.int 1)))))) (tst (eBin oGt (eCall bLen [(eBin oIx (eVar 1) (eC (.int 1)))]) (eBin oAdd (eCall bLen [(eVar 0)]) (eCall bLen [(eBin oIx (eVar 3) (eC (.int 2)))])))))
    (qRet (eC (.bl false)))
    qNx)
    (qSeq (qSet 4 (eC (.int 0)))
    (qSeq (qSet 5 (eLst []))
    (qSeq (qForW (iVal (eBin oIx (eVar 1) (eC (.int 1)))) [] (gN 6) b__law_is_book_1)
    (qRet (eAnd (eBin oLt (eVar 4) (eCall bLen [(eVar 0)])) (eBin oEq (eCall F__law_form [(eCall F__law_sums [(eVar 0), (eVar 1)])]) (eVar 3)))))))))
noncomputable def F__law_is_book : FF := runE 4 9 m__law_is_book
/-- both_books -/
noncomputable def m_both_books : FS :=
    (qSeq (qSet 2 (eCall bLcm [(eBin oIx (eVar 0) (eC (.int 0))), (eBin oIx (eVar 1) (eC (.int 0)))]))
    (qSeq (qSet 3 (eCall F_multiplied_rights [(eBin oIx (eVar 0) (eC (.int 1))), (eBin oFdiv (eVar 2) (eBin oIx (eVar 0) (eC (.int 0))))]))
    (qSeq (qSet 4 (eCall F_multiplied_rights [(eBin oIx (eVar 1) (eC (.int 1))), (eBin oFdiv (eVar 2) (eBin oIx (eVar 1) (eC (.int 0))))]))
    (qRet (eTup [(eVar 2), (eBin oAdd (eVar 3) (eVar 4))])))))
noncomputable def F_both_books : FF := runE 2 5 m_both_books
/-- _law_added -/
noncomputable def b__law_added_1 : FS :=
    (qTw [0, 1, 5, 7, 8, 9] (qPut (eBin oAdd (eGet2 (eVar 4) (eTup [(eVar 7), (eVar 8)]) (eC (.int 0))) (eBin oMul (eVar 9) (eVar 6))) (eVar 4) (eTup [(eVar 7), (eVar 8)])))
noncomputable def b__law_added_2 : FS :=
    (qTw [0, 1, 5, 6, 7, 8, 9] (qForW (iVal (eBin oIx (eVar 5) (eC (.int 2)))) [0, 1, 5] (gT [(gN 7), (gN 8), (gN 9)]) b__law_added_1))
noncomputable def b__law_added_3 : FS :=
    (qSeq (qSet 4 eDt)
    (qForW (iVal (tidy3 (eLst [(eTup [(eVar 0), (eBin oIx (eVar 1) (eC (.int 0)))]), (eTup [(eVar 1), (eBin oIx (eVar 0) (eC (.int 0)))])]))) [0, 1] (gT [(gN 5), (gN 6)]) b__law_added_2))
noncomputable def m__law_added : FS :=
    (qSeq (qSeq (qSet 2 (eBin oMul (eBin oIx (eVar 0) (eC (.int 0))) (eBin oIx (eVar 1) (eC (.int 0)))))
    (qTr [] (qSet 3 (eLc (iRng [(eCall bLen [(eBin oIx (eVar 0) (eC (.int 1)))])]) (gN 10) tYs (eBin oAdd (eBin oMul (eBin oIx (eBin oIx (eVar 0) (eC (.int 1))) (eVar 10)) (eBin oIx (eVar 1) (eC (.int 0)))) (eBin oMul (eBin oIx (eBin oIx (eVar 1) (eC (.int 1))) (eVar 10)) (eBin oIx (eVar 0) (eC (.int 0))))) [10]))))
    (qSeq (qTr [5, 6, 7, 8, 9] b__law_added_3)
    (qRet (eCall F__law_form [(eTup [(eVar 2), (eVar 3), (eVar 4)])]))))
noncomputable def F__law_added : FF := runE 2 11 m__law_added
/-- law -/
noncomputable def b_law_1 : FS :=
    (qTw [0, 2, 7, 8, 9] (qSeq (qSet 8 (eCall F__law_form [(eCall F__law_sums [(eVar 3), (eVar 7)])]))
    (qSeq (qDrop (eMeth "list" mAppend (eVar 5) [(eVar 8)]))
    (qSeq (qIf (tOr2 (tNo (tru (eCall F__law_same [(eCall F_form_of [(eVar 3), (eVar 7)]), (eVar 8)]))) (tNo (tru (eCall F__law_parts [(eVar 1), (eVar 3), (eVar 7), (eVar 8)]))))
    (qRet (eC (.bl false)))
    qNx)
    (qSeq (qSet 9 (eCall F_form_book [(eVar 3), (eC (.str "kim")), (eVar 8)]))
    (qSeq (qIf (tOr2 (tNo (tru (eCall F__law_is_book [(eVar 3), (eVar 9), (eC (.str "kim")), (eVar 8)]))) (tNo (tru (eCall F__law_same [(eCall F_form_of [(eVar 3), (eVar 9)]), (eVar 8)]))))
    (qRet (eC (.bl false)))
    qNx)
    (qDrop (eMeth "list" mAppend (eVar 6) [(eVar 9)]))))))))
noncomputable def b_law_2 : FS :=
    (qSeq (qSet 5 (eLst []))
    (qSeq (qSet 6 (eLst []))
    (qForW (iVal (eVar 4)) [0, 2] (gN 7) b_law_1)))
noncomputable def b_law_3 : FS :=
    (qTw [0, 2, 6, 7, 8, 9, 11, 13, 15, 16, 17] (qPut (eBin oMul (eC (.int 2)) (eVar 17)) (eVar 14) (eTup [(eVar 15), (eVar 16)])))
noncomputable def b_law_4 : FS :=
    (qSeq (qSet 14 eDt)
    (qForW (iVal (eBin oIx (eBin oIx (eVar 5) (eC (.int 0))) (eC (.int 2)))) [0, 2, 6, 7, 8, 9, 11, 13] (gT [(gN 15), (gN 16), (gN 17)]) b_law_3))
noncomputable def m_law : FS :=
    (qSeq (qSeq (qSet 1 (eCall F__law_cast [(eVar 0)]))
    (qSeq (qSet 2 (eBin oEq (eCall F__law_mould [(eVar 1), (eC (.int 9))]) (eC (.int 4))))
    (qSeq (qSet 3 (eCall F__law_places [(eVar 1), (eIf (tru (eVar 2)) (eC (.int 9)) (eBin oAdd (eC (.int 2)) (eCall F__law_mould [(eVar 1), (eC (.int 4))])))]))
    (qTr [] (qSet 4 (eLc (iRng [(eC (.int 2))]) (gN 23) tYs (eCall F__law_book [(eVar 1), (eVar 3), (eIf (tru (eVar 2)) (eC (.int 20)) (eC (.int 8)))]) [23]))))))
    (qSeq (qTr [7, 8, 9] b_law_2)
    (qSeq (qSeq (qSet 10 (eCall F_both_books [(eBin oIx (eVar 4) (eC (.int 0))), (eBin oIx (eVar 4) (eC (.int 1)))]))
    (qSeq (qSet 11 (eCall F__law_added [(eBin oIx (eVar 5) (eC (.int 0))), (eBin oIx (eVar 5) (eC (.int 1)))]))
    (qSeq (qIf (tOr2 (tNo (tru (eCall F__law_same [(eCall F_form_of [(eVar 3), (eVar 10)]), (eVar 11)]))) (tst (eBin oGt (eBin oAdd (eCall bLen [(eBin oIx (eBin oIx (eVar 6) (eC (.int 0))) (eC (.int 1)))]) (eCall bLen [(eBin oIx (eBin oIx (eVar 6) (eC (.int 1))) (eC (.int 1)))])) (eC (.int 48)))))
    (qRet (eAnd (eBin oGt (eBin oAdd (eCall bLen [(eBin oIx (eBin oIx (eVar 6) (eC (.int 0))) (eC (.int 1)))]) (eCall bLen [(eBin oIx (eBin oIx (eVar 6) (eC (.int 1))) (eC (.int 1)))])) (eC (.int 48))) (eCall F__law_same [(eCall F_form_of [(eVar 3), (eVar 10)]), (eVar 11)])))
    qNx)
    (qSeq (qSet 12 (eCall F_both_books [(eBin oIx (eVar 6) (eC (.int 0))), (eBin oIx (eVar 6) (eC (.int 1)))]))
    (qSeq (qIf (tOr2 (tNo (tru (eCall F__law_same [(eCall F_form_of [(eVar 3), (eVar 12)]), (eVar 11)]))) (tNo (tru (eCall F__law_same [(eCall F_alike_books [(eVar 3), (eVar 12), (eVar 10)]), (eC (.bl true))]))))
    (qRet (eC (.bl false)))
    qNx)
    (qSeq (qSet 13 (eCall F_form_book [(eVar 3), (eC (.str "lea7")), (eVar 11)]))
    (qIf (tOr2 (tNo (tru (eCall F__law_is_book [(eVar 3), (eVar 13), (eC (.str "lea7")), (eVar 11)]))) (tNo (tru (eCall F__law_same [(eCall F_alike_books [(eVar 3), (eVar 13), (eVar 10)]), (eC (.bl true))]))))
    (qRet (eC (.bl false)))
    qNx)))))))
    (qSeq (qTr [15, 16, 17] b_law_4)
    (qSeq (qSet 18 (eCall F__law_form [(eTup [(eBin oIx (eBin oIx (eVar 5) (eC (.int 0))) (eC (.int 0))), (tidy3 (eBin oMul (tidy3 (eLst [(eC (.int 0))])) (eCall bLen [(eVar 3)]))), (eVar 14)])]))
    (qSeq (qSet 19 (eTup [(eBin oIx (eBin oIx (eVar 5) (eC (.int 0))) (eC (.int 0))), (eCall bTup [(tidy3 (eLc (iVal (eBin oIx (eBin oIx (eVar 5) (eC (.int 0))) (eC (.int 1)))) (gN 9) tYs (eBin oSub (eC (.int 0)) (eVar 9)) [9]))]), (eBin oIx (eBin oIx (eVar 5) (eC (.int 0))) (eC (.int 2)))]))
    (qSeq (qSet 20 (eCall F_form_book [(eVar 3), (eC (.str "max")), (eVar 19)]))
    (qSeq (qIf (tOr2 (tNo (tru (eCall F__law_is_book [(eVar 3), (eVar 20), (eC (.str "max")), (eVar 19)]))) (tNo (tru (eCall F__law_same [(eCall F_form_of [(eVar 3), (eCall F_both_books [(eBin oIx (eVar 4) (eC (.int 0))), (eVar 20)])]), (eVar 18)]))))
    (qRet (eC (.bl false)))
    qNx)
    (qSeq (qSet 21 (eTup [(eC (.str "kim")), (eCall F__law_of [(eVar 1), (tidy3 (eLst [(eC (.str "must")), (eC (.str "may"))]))]), (eBin oIx (eVar 3) (eC (.int 0))), (eBin oIx (eVar 3) (eUn oNeg (eC (.int 1)))), (eC (.int 1))]))
    (qSeq (qSet 22 (eTup [(eVar 21)]))
    (qSeq (qIf (tst (eBin oEq (eCall F__law_mould [(eVar 1), (eC (.int 2))]) (eC (.int 0))))
    (qSet 22 (eTup [(eBin oAdd (eTup [(eC (.str "kim")), (eC (.str "may"))]) (eSl (eVar 21) (oPart (eC (.int 2))) oNo)), (eTup [(eC (.str "kim")), (eC (.str "may")), (eBin oIx (eVar 3) (eUn oNeg (eC (.int 1)))), (eBin oIx (eVar 3) (eC (.int 0))), (eC (.int 1))])]))
    qNx)
    (qSeq (qIf (tst (eBin oGt (eCall bLen [(eBin oIx (eVar 12) (eC (.int 1)))]) (eC (.int 46))))
    (qRet (eC (.bl true)))
    qNx)
    (qSeq (qSet 21 (eCall F_both_books [(eVar 12), (eTup [(eCall F__law_of [(eVar 1), (tidy3 (eLst [(eC (.int 1)), (eC (.int 7)), (eC (.int 999983))]))]), (eVar 22)])]))
    (qRet (eAnd (eCall F__law_same [(eCall F_alike_books [(eVar 3), (eVar 21), (eVar 10)]), (eC (.bl false))]) (eCall F__law_same [(eCall F_alike_books [(eVar 3), (eVar 10), (eVar 21)]), (eC (.bl false))]))))))))))))))))
noncomputable def F_law : FF := runE 1 24 m_law
end K85

namespace K85
open PySem L2 Dl PL
theorem mould_d : Draw F__law_mould := mould_draw (k1 := 1009) (k2 := 409) (k3 := 149) (md := 2147482859) (v := 191) ⟨by decide, by decide, by decide, by decide, by decide⟩
theorem of_o : OfOk F__law_of := of_ok mould_d
section
variable {S : Sto} {ps : List Str} {j : Nat} {u : Int} {rs : List Rg} {Q : QE}
theorem ixn {f : Str → D} {x : Str} (h : x ∈ ps) : ixN (ps.map f).length (ix ps x : Nat) = some (ix ps x) := ix_nat (by rw [List.length_map]; exact ix_lt h)
theorem atn {f : Str → D} {x : Str} (h : x ∈ ps) : atI (ps.map f) (ix ps x : Nat) = some (f x) := at_get (by rw [List.getElem?_map, ix_get h]; rfl)
theorem mul_ok {a b : Int} (ha : a.natAbs < 2 ^ 64) : mulOk a b = true := by unfold mulOk; rw [decide_eq_true ha]; rfl
theorem nt_snoc (s : List Rg) (r : Rg) (x : Str) : nt (s ++ [r]) x = nt s x + nt1 x r := by simp only [nt, sm_app, sm, Int.add_zero]
theorem nets_ok (hf : Flat S) (hp : PsOk ps) (hb : BkOk ps j u rs) (q : Q (.lst (ps.map fun p => .int (nt rs p))) S) : WF F_doubled_nets [encP ps, encB u rs] S Q := by
  refine wf_e rfl ?_
  show Ws m_doubled_nets [some (encP ps), some (encB u rs), none, none, none, none, none, none] S _
  unfold m_doubled_nets
  walk_at "st"
  refine We.run (num_ok (v := 6) (w := 7) hp rfl (by simp) (by simp) (by decide)) ?_
  have hn : ∀ T : Sto, rdo S.length (S ++ [.dk (numL ps)] ++ T) 5 (.loc S.length) = some (numD ps) := fun T => by
    rw [List.append_assoc]
    exact rdo_dk (Nat.le_refl _) (get_end S T _) (mapO_lo (ncs_lo _ _ (by rw [numL, List.map_map]; exact ncs_map _ (fun _ => by simp only [Function.comp]; rw [D.nc]) ps)))
  refine kr_n hf rfl (Γ1 := [some (encP ps), some (encB u rs), some (numD ps), none, none, none, none, none]) ?_ ?_
  · show rdg _ _ [some (encP ps), some (encB u rs), some (.loc S.length), none, none, none, none, none] = _
    simp only [rdg_cons, rdg_nil, Option.bind_some, Option.bind_none, rdo_nc (encP_nc ps), rdo_nc (encB_nc u rs)]
    have := hn []
    rw [List.append_nil] at this
    rw [this]
  walk_at "st"
  refine ⟨hf, rfl, by simp [D.ncs, D.nc], ?_⟩
  walk_at "st"
  rw [List.length_map]
  refine wo_mulL (by have := hp.l9; simp; omega) (by have := hp.l9; omega) ?_
  rw [rep_flat (fun p => D.int (nt [] p)) (.int 0) (fun _ => rfl)]
  walk_at "st"
  refine wi_v ?_
  walk_at "st"
  refine ⟨fun z e => by simp [encRs] at e, _, _, rfl, ?_⟩
  refine wl_fold (σ := List Rg) (xs := rs) (enc := encR) (fun _ => [none, none, some (numD ps), some (.loc S.length), none, none, none, none]) (fun p => S ++ [.lst (ps.map fun x => .int (nt p x))]) (fun p r => p ++ [r]) (fun p s => s = p) (st := []) ?_ rfl rfl rfl ?_
  · rintro p r q' s ex rfl
    have rok := hb.all r (by rw [ex]; simp)
    refine ⟨_, rfl, ?_⟩
    unfold b_doubled_nets_1
    have g : ∀ f : Str → D, (S ++ [Cell.lst (ps.map f)])[S.length]? = some (.lst (ps.map f)) := fun f => get_end S [] _
    have st : ∀ (f : Str → D) c, (S ++ [Cell.lst (ps.map f)]).set S.length c = S ++ [c] := fun f c => set_end S [] _ _
    walk_at "st"
    refine wo_eqs (j := must) rok.sk must_ok ?_
    walk_at "st"
    have fin : ∀ o5 : Option D, ∀ R : QS, R .nx [none, none, some (numD ps), some (.loc S.length), some (encR r), some (.int (wt r)), none, none] (S ++ [.lst (ps.map fun x => .int (nt (s ++ [r]) x))]) → Ws (qSeq (qAugI (oI fun i j => i - j) (eVar 3) (eBin oIx (eVar 2) (eBin oIx (eVar 4) (eC (.int 2)))) (eVar 5)) (qAugI (oI fun i j => i + j) (eVar 3) (eBin oIx (eVar 2) (eBin oIx (eVar 4) (eC (.int 3)))) (eVar 5))) [none, none, some (numD ps), some (.loc S.length), some (encR r), some (.int (wt r)), none, none] (S ++ [.lst (ps.map fun x => .int (nt s x))]) R := by
      intro o5 R hR
      walk_at "st"
      refine wo_num rok.ma ?_
      refine ⟨.int (nt s r.a), ?_, ?_⟩
      · simp only [itemD, g]
        exact atn rok.ma
      walk_at "st"
      refine ⟨_, s_e (g _) (ixn rok.ma) rfl, ?_⟩
      rw [st, set_ix hp.nd rok.ma]
      walk_at "st"
      refine wo_num rok.mb ?_
      refine ⟨_, by simp only [itemD, g]; exact atn rok.mb, ?_⟩
      have e : (if r.b = r.a then D.int (nt s r.a - wt r) else D.int (nt s r.b)) = D.int (nt s r.b) := by rw [if_neg (Ne.symm rok.ab)]
      rw [e]
      walk_at "st"
      refine ⟨_, s_e (g _) (ixn rok.mb) rfl, ?_⟩
      rw [st, set_ix hp.nd rok.mb]
      have : (ps.map fun x => if x = r.b then D.int (nt s r.b + wt r) else if x = r.a then D.int (nt s r.a - wt r) else D.int (nt s x)) = ps.map fun x => D.int (nt (s ++ [r]) x) := List.map_congr_left fun x _ => by
        have ite_i : ∀ (c : Prop) [Decidable c] (a b : Int), (if c then D.int a else D.int b) = D.int (if c then a else b) := fun c _ a b => by split <;> rfl
        rw [nt_snoc, ite_i, ite_i]
        unfold nt1
        congr 1
        by_cases h1 : x = r.b
        · have q1 : ¬ r.a = x := fun e => rok.ab (e.trans h1)
          rw [if_pos h1, if_pos h1.symm, if_neg q1, h1]
          omega
        · have q1 : ¬ r.b = x := fun e => h1 e.symm
          by_cases h2 : x = r.a
          · rw [if_neg h1, if_neg q1, if_pos h2, if_pos h2.symm, h2]
            omega
          · have q2 : ¬ r.a = x := fun e => h2 e.symm
            rw [if_neg h1, if_neg q1, if_neg h2, if_neg q2]
            omega
      rw [this]
      exact hR
    refine ifB (fun hc => ?_) fun hc => ?_
    · have hk : wt r = 2 * r.n := by rw [wt, if_pos (beq_iff_eq.mp hc)]
      refine ws_s (we_b (we_c (we_v rfl (wo_mull (by decide) (kq_n ?_)))))
      rw [← hk]
      refine fin none _ ?_
      walk_at "st"
      exact ⟨rfl, rfl, rfl⟩
    · have hk : wt r = r.n := by rw [wt, if_neg fun e => by rw [e] at hc; simp at hc]
      refine ws_n (kq_n ?_)
      rw [← hk]
      refine fin none _ ?_
      walk_at "st"
      exact ⟨rfl, rfl, rfl⟩
  · intro e
    rw [e]
    walk_at "st"
    refine kf_r (fin3_new hf rfl (ncs_lo _ _ (ncs_map _ (fun _ => by rw [D.nc]) ps))) q
end
end K85

namespace K85
open PySem L2 Dl PL
section
variable {S : Sto} {ps : List Str} {j : Nat} {u : Int} {rs : List Rg} {Q : QE}
theorem divisor_w {a b : Int} (ha : Big a) (hb : Big b) (hf : Flat S) (q : Q (.int ((Nat.gcd a.natAbs b.natAbs : Nat) : Int)) S) : WF F__law_divisor [.int a, .int b] S Q := divisor ha hb hf q
theorem ents_snoc (s : List Rg) (r : Rg) : ents ps (s ++ [r]) = if r.k = may then ents ps s ++ [ent1 ps r] else ents ps s := by
  unfold ents
  rw [List.filter_append, List.map_append]
  by_cases h : r.k = may
  · simp [h]
  · simp [h]
theorem ents_len (s : List Rg) : (tally (ents ps s)).length ≤ s.length := by
  refine Nat.le_trans (tally_len _) ?_
  rw [ents, List.length_map]
  exact List.length_filter_le _ _
theorem ties_ok (hf : Flat S) (hp : PsOk ps) (hb : BkOk ps j u rs) (q : Q (encDT (tally (ents ps rs))) S) : WF F_doubled_ties [encP ps, encB u rs] S Q := by
  refine wf_e rfl ?_
  show Ws m_doubled_ties [some (encP ps), some (encB u rs), none, none, none, none, none, none, none, none] S _
  unfold m_doubled_ties
  walk_at "st"
  refine We.run (num_ok (v := 8) (w := 9) hp rfl (by simp) (by simp) (by decide)) ?_
  have hn : rdo S.length (S ++ [.dk (numL ps)]) 5 (.loc S.length) = some (numD ps) :=
    rdo_dk (Nat.le_refl _) (get_end S [] _) (mapO_lo (ncs_lo _ _ (by rw [numL, List.map_map]; exact ncs_map _ (fun _ => by simp only [Function.comp]; rw [D.nc]) ps)))
  refine kr_n hf rfl (Γ1 := [some (encP ps), some (encB u rs), some (numD ps), none, none, none, none, none, none, none]) ?_ ?_
  · show rdg _ _ [some (encP ps), some (encB u rs), some (.loc S.length), none, none, none, none, none, none, none] = _
    simp only [rdg_cons, rdg_nil, Option.bind_some, Option.bind_none, rdo_nc (encP_nc ps), rdo_nc (encB_nc u rs), hn]
  walk_at "st"
  refine We.run (d := .loc S.length) (S1 := S ++ [.dt (encTal (tally (ents ps [])))]) rfl ?_
  walk_at "st"
  refine wi_v ?_
  walk_at "st"
  refine ⟨fun z e => by simp [encRs] at e, _, _, rfl, ?_⟩
  refine wl_fold (σ := List Rg) (xs := rs) (enc := encR) (fun _ => [none, none, some (numD ps), some (.loc S.length), none, none, none, none, none, none]) (fun p => S ++ [.dt (encTal (tally (ents ps p)))]) (fun p r => p ++ [r]) (fun p s => s = p) (st := []) ?_ rfl rfl rfl ?_
  · rintro p r q' s ex rfl
    have rok := hb.all r (by rw [ex]; simp)
    have hsl : s.length ≤ 100 := by
      have := congrArg List.length ex
      have := hb.few
      rw [List.length_append] at *
      omega
    refine ⟨_, rfl, ?_⟩
    unfold b_doubled_ties_1
    have g : ∀ d : Tal, (S ++ [Cell.dt (encTal d)])[S.length]? = some (.dt (encTal d)) := fun f => get_end S [] _
    walk_at "st"
    refine wo_eqs (j := may) rok.sk may_ok ?_
    walk_at "st"
    rw [ents_snoc]
    refine ifB (fun hc => ?_) fun hc => ?_
    · have hk : r.k = may := beq_iff_eq.mp hc
      rw [if_pos hk, tally_snoc]
      walk_at "st"
      refine wo_num rok.ma ?_
      walk_at "st"
      refine wo_num rok.mb ?_
      walk_at "st"
      refine ⟨isDict_dt (g _), ?_⟩
      walk_at "st"
      refine ⟨_, dGet_dt (g _) (ent1 ps r).1, ?_⟩
      rw [valD_tal]
      walk_at "st"
      refine ⟨_, setIt_dt (g _) (by have := ents_len (ps := ps) s; omega) (ent1 ps r).1 _, ?_⟩
      rw [set_end]
      walk_at "st"
      exact ⟨rfl, rfl, rfl⟩
    · have hk : ¬ r.k = may := fun e => by rw [e] at hc; simp at hc
      rw [if_neg hk]
      walk_at "st"
      exact ⟨rfl, rfl, rfl⟩
  · intro e
    rw [e]
    walk_at "st"
    exact kf_r (fin3_of hf rfl (rdo_tal (Nat.le_refl _) (get_end S [] _))) q
theorem times_w {Γ : Dl.Ctx} {r : Rg} (hk : PyData.strOk r.k = true) (h : Γ[5]? = some (some (.str r.k))) (q : Q (.int (if r.k = must then 2 else 1)) S) :
    We (eIf (tst (eBin oEq (eVar 5) (eC (.str "must")))) (eC (.int 2)) (eC (.int 1))) Γ S Q := by
  refine we_if (wt_s (we_b (we_v h (we_c (wo_eqs (j := must) hk must_ok ⟨_, rfl, ?_⟩)))))
  refine ifB (fun hc => we_c ?_) fun hc => we_c ?_
  · rw [if_pos (beq_iff_eq.mp hc)] at q
    exact q
  · rw [if_neg fun e => by rw [e] at hc; simp at hc] at q
    exact q
/-- what the law's own sums are -/
theorem sums_ok (hf : Flat S) (hp : PsOk ps) (hb : BkOk ps j u rs) (q : Q (.tup [.int (2 * u), .lst ((ps.map (nt rs)).map D.int), encDT (tally (ents ps rs))]) S) : WF F__law_sums [encP ps, encB u rs] S Q := by
  refine wf_e rfl ?_
  show Ws m__law_sums [some (encP ps), some (encB u rs), none, none, none, none, none, none, none, none, none] S _
  unfold m__law_sums
  walk_at "st"
  unfold b__law_sums_2
  walk_at "st"
  refine ⟨hf, rfl, by simp [D.ncs, D.nc], ?_⟩
  walk_at "st"
  rw [List.length_map]
  refine wo_mulL (by have := hp.l9; simp; omega) (by have := hp.l9; omega) ?_
  rw [rep_flat (fun p => D.int (nt [] p)) (.int 0) (fun _ => rfl)]
  walk_at "st"
  refine We.run (d := .loc (S.length + 1)) (S1 := S ++ [.lst (ps.map fun p => .int (nt [] p)), .dt (encTal (tally (ents ps [])))]) (by rw [eDt, List.length_append, List.append_assoc]; rfl) ?_
  walk_at "st"
  refine wi_v ?_
  walk_at "st"
  refine ⟨fun z e => by simp [encRs] at e, _, _, rfl, ?_⟩
  refine wl_fold (σ := List Rg) (xs := rs) (enc := encR) (fun _ => [some (encP ps), some (encB u rs), some (.loc S.length), some (.loc (S.length + 1)), none, none, none, none, none, none, none]) (fun p => S ++ [.lst (ps.map fun x => .int (nt p x)), .dt (encTal (tally (ents ps p)))]) (fun p r => p ++ [r]) (fun p s => s = p) (st := []) ?_ rfl rfl rfl ?_
  · rintro p r q' s ex rfl
    have rok := hb.all r (by rw [ex]; simp)
    have hsl : s.length ≤ 100 := by
      have := congrArg List.length ex
      have := hb.few
      rw [List.length_append] at *
      omega
    refine ⟨_, rfl, ?_⟩
    unfold b__law_sums_1
    have g : ∀ (f : Str → D) (c : Cell), (S ++ [Cell.lst (ps.map f), c])[S.length]? = some (.lst (ps.map f)) := fun f c => get_end S [c] _
    have g2 : ∀ (f : Cell) (d : Tal), (S ++ [f, Cell.dt (encTal d)])[S.length + 1]? = some (.dt (encTal d)) := fun f d => by
      rw [List.getElem?_append_right (by omega), show S.length + 1 - S.length = 1 by omega]
      rfl
    have st : ∀ (f : Str → D) (c c' : Cell), (S ++ [Cell.lst (ps.map f), c]).set S.length c' = S ++ [c', c] := fun f c c' => set_end S [c] _ _
    have st2 : ∀ (c0 c c' : Cell), (S ++ [c0, c]).set (S.length + 1) c' = S ++ [c0, c'] := fun c0 c c' => by
      rw [List.set_append_right _ _ (by omega), show S.length + 1 - S.length = 1 by omega]
      rfl
    refine ws_tw (ws_q (ws_s ?_))
    refine times_w (r := r) rok.sk rfl ?_
    walk_at "st"
    refine ⟨rfl, ?_⟩
    walk_at "st"
    refine wm_ix rok.mb (wo_ix (o_ixl (g _ _) (atn rok.mb)) ?_)
    walk_at "st"
    have hw : (if r.k = must then (2 : Int) else 1) * r.n = wt r := by unfold wt; split <;> omega
    have hm : ((if r.k = must then (2 : Int) else 1)).natAbs < 2 ^ 64 := by split <;> decide
    refine wo_mull hm ?_
    rw [hw]
    walk_at "st"
    refine ⟨rfl, ?_⟩
    walk_at "st"
    refine wm_ix rok.mb ⟨_, s_e (g _ _) (ixn rok.mb) rfl, ?_⟩
    rw [st, set_ix hp.nd rok.mb]
    walk_at "st"
    refine ⟨rfl, ?_⟩
    walk_at "st"
    refine wm_ix rok.ma (wo_ix (o_ixl (g _ _) (atn rok.ma)) ?_)
    have e1 : (if r.a = r.b then D.int (nt s r.b + wt r) else D.int (nt s r.a)) = D.int (nt s r.a) := by rw [if_neg rok.ab]
    rw [e1]
    walk_at "st"
    refine wo_mull hm ?_
    rw [hw]
    walk_at "st"
    refine ⟨rfl, ?_⟩
    walk_at "st"
    refine wm_ix rok.ma ⟨_, s_e (g _ _) (ixn rok.ma) rfl, ?_⟩
    rw [st, set_ix hp.nd rok.ma]
    have e2 : (ps.map fun x => if x = r.a then D.int (nt s r.a - wt r) else if x = r.b then D.int (nt s r.b + wt r) else D.int (nt s x)) = ps.map fun x => D.int (nt (s ++ [r]) x) := List.map_congr_left fun x _ => by
      have ite_i : ∀ (c : Prop) [Decidable c] (a b : Int), (if c then D.int a else D.int b) = D.int (if c then a else b) := fun c _ a b => by split <;> rfl
      rw [nt_snoc, ite_i, ite_i]
      unfold nt1
      congr 1
      by_cases h1 : x = r.b
      · have q1 : ¬ r.a = x := fun e => rok.ab (e.trans h1)
        rw [if_neg fun e => q1 e.symm, if_pos h1, if_pos h1.symm, if_neg q1, h1]
        omega
      · have q1 : ¬ r.b = x := fun e => h1 e.symm
        by_cases h2 : x = r.a
        · rw [if_pos h2, if_neg q1, if_pos h2.symm, h2]
          omega
        · have q2 : ¬ r.a = x := fun e => h2 e.symm
          rw [if_neg h1, if_neg q1, if_neg h2, if_neg q2]
          omega
    rw [e2]
    walk_at "st"
    refine wo_eqs (j := may) rok.sk may_ok ?_
    walk_at "st"
    rw [ents_snoc]
    refine ifB (fun hc => ?_) fun hc => ?_
    · have hk : r.k = may := beq_iff_eq.mp hc
      have hfl : Flat (S ++ [Cell.lst (ps.map fun x => D.int (nt (s ++ [r]) x)), Cell.dt (encTal (tally (ents ps s)))]) := by
        have := (hf.app (c := Cell.lst (ps.map fun x => D.int (nt (s ++ [r]) x))) (ncs_map _ (fun _ => by rw [D.nc]) ps)).app (tal_flat (tally (ents ps s)))
        rwa [List.append_assoc] at this
      rw [if_pos hk, tally_snoc]
      refine ws_q (ws_s (we_f (wa_1 (we_tn (we_f (wa_1 ?_))))))
      walk_at "st"
      refine ⟨rfl, ?_⟩
      walk_at "st"
      refine wm_ix rok.ma ?_
      walk_at "st"
      refine ⟨rfl, ?_⟩
      walk_at "st"
      refine wm_ix rok.mb ?_
      walk_at "st"
      refine ⟨hfl, rfl, by simp [D.ncs, D.nc], ?_⟩
      walk_at "st"
      refine wf_sort2 ⟨_, _, rfl, rfl, hfl, rfl, by simp [D.ncs, D.nc], ?_⟩
      walk_at "st"
      refine ⟨isDict_dt (g2 _ _), ?_⟩
      walk_at "st"
      refine ⟨_, dGet_dt (g2 _ _) (ent1 ps r).1, ?_⟩
      rw [valD_tal]
      walk_at "st"
      refine ⟨_, setIt_dt (g2 _ _) (by have := ents_len (ps := ps) s; omega) (ent1 ps r).1 _, ?_⟩
      rw [st2]
      walk_at "st"
      exact ⟨rfl, rfl, rfl⟩
    · have hk : ¬ r.k = may := fun e => by rw [e] at hc; simp at hc
      rw [if_neg hk]
      walk_at "st"
      exact ⟨rfl, rfl, rfl⟩
  · intro e
    rw [e]
    have hN : D.ncs (ps.map fun x => D.int (nt rs x)) = true := ncs_map _ (fun _ => by rw [D.nc]) ps
    have c1 := rdo_list (b := S.length) (Nat.le_refl _) (get_end S [.dt (encTal (tally (ents ps rs)))] (.lst (ps.map fun x => D.int (nt rs x)))) hN
    have c2 : rdo S.length (S ++ [Cell.lst (ps.map fun x => D.int (nt rs x)), .dt (encTal (tally (ents ps rs)))]) 5 (.loc (S.length + 1)) = some (encDT (tally (ents ps rs))) := rdo_tal (by omega) (by
      rw [List.getElem?_append_right (by omega), show S.length + 1 - S.length = 1 by omega]
      rfl)
    refine kr_n hf rfl (Γ1 := [some (encP ps), some (encB u rs), some (.lst (ps.map fun x => D.int (nt rs x))), some (encDT (tally (ents ps rs))), none, none, none, none, none, none, none]) ?_ ?_
    · show rdg _ _ [some (encP ps), some (encB u rs), some (.loc S.length), some (.loc (S.length + 1)), none, none, none, none, none, none, none] = _
      simp only [rdg_cons, rdg_nil, Option.bind_some, Option.bind_none, rdo_nc (encP_nc ps), rdo_nc (encB_nc u rs), c1, c2]
    walk_at "st"
    rw [List.map_map] at q
    refine kf_v hf rfl ?_ q
    rw [D.nc, D.ncs, D.ncs, D.ncs, D.ncs, D.nc, D.nc, hN, encDT_nc]
    rfl
end
end K85

namespace K85
open PySem L2 Dl PL
section
variable {S : Sto} {Q : QE}
/-- what can be brought to lowest terms -/
structure RwOk (r : Raw) (d : Tal) : Prop where
  ok : r.Ok
  ks : r.ks = d.map (·.1)
  t : ∀ k ∈ r.ks, r.t k = tget d k
  bu : Big r.u
  bN : ∀ x ∈ r.N, Big x
  bt : ∀ k, Big (r.t k)
  lN : r.N.length ≤ 100
  lt : d.length ≤ 200
theorem gcdL_big {u : Nat} (h0 : 0 < u) (hu : u < 2 ^ 250) (l : List Int) : Big ((gcdL u l : Nat) : Int) := by
  show Int.natAbs _ < _
  rw [Int.natAbs_natCast]
  exact Nat.lt_of_le_of_lt (gcdL_le l h0) hu
theorem Raw.c_big {r : Raw} (h : r.Ok) (hb : Big r.u) : Big r.c := gcdL_big (by have := h.pos; omega) hb _
theorem wo_dvc {x c : Int} {P : QE} (hc : 0 < c) (hb : Big c) (q : P (.int (x / c)) S) : WO oFdiv (.int x) (.int c) S P := ⟨_, _, o_fdv hc (fdv_big hb), q⟩
theorem ints_srcD (l : List D) : srcD S (.lst l) = some (l, []) := rfl
theorem map_keys (d : Tal) : d.map (fun p => kD p.1) = (d.map (·.1)).map kD := by rw [List.map_map]; rfl
theorem filter_all {α : Type} (l : List α) : l.filter (fun _ => true) = l := List.filter_eq_self.mpr fun _ _ => rfl
theorem cat_row (k : Int × Int) (v : Int) : oAdd (kD k) (.tup [.int v]) S = some (encT [k.1, k.2, v], S) := by
  rw [kD, oAdd, if_pos (by rw [line]; simp)]
  rfl
theorem form_law {r : Raw} {d : Tal} (hf : Flat S) (h : RwOk r d) (q : Q r.form S) : WF F__law_form [.tup [.int r.u, .lst (r.N.map D.int), encDT d]] S Q := by
  have hu0 := h.ok.pos
  have eu : ((r.u.natAbs : Nat) : Int) = r.u := by omega
  have hc0 := Raw.c_pos h.ok
  have hcb := Raw.c_big h.ok h.bu
  have hbu : r.u.natAbs < 2 ^ 250 := h.bu
  refine wf_e rfl ?_
  show Ws m__law_form [some (.tup [.int r.u, .lst (r.N.map D.int), encDT d]), none, none, none, none, none, none, none] S _
  unfold m__law_form
  walk_at "st"
  refine ⟨[some (.tup [.int r.u, .lst (r.N.map D.int), encDT d]), some (.int r.u), some (.lst (r.N.map D.int)), some (encDT d), none, none, none, none], rfl, ?_⟩
  walk_at "st"
  refine wi_v ?_
  walk_at "st"
  refine ⟨(fun z e => by cases e), _, _, rfl, ?_⟩
  refine wl_fold (σ := Nat) (xs := r.N) (enc := D.int) (fun g => [none, some (.int r.u), some (.lst (r.N.map D.int)), some (encDT d), some (.int (g : Nat)), none, none, none]) (fun _ => S) (fun g x => Nat.gcd g x.natAbs) (fun p g => g = gcdL r.u.natAbs p) (st := r.u.natAbs) ?_ rfl (by rw [eu]; rfl) rfl ?_
  · intro p x q' s ex hs
    refine ⟨_, rfl, ?_⟩
    unfold b__law_form_1
    walk_at "st"
    refine divisor_w (by rw [hs]; exact gcdL_big (by omega) hbu _) (h.bN x (by rw [ex]; simp)) hf ?_
    walk_at "st"
    rw [Int.natAbs_natCast]
    refine ⟨rfl, rfl, ?_⟩
    rw [hs, gcdL_app]
    rfl
  intro hs
  generalize hg : List.foldl _ _ _ = g at hs
  walk_at "st"
  refine ⟨_, keysD_dt, ?_⟩
  rw [map_keys, ← h.ks]
  refine wl_fold (σ := Nat) (xs := r.ks) (enc := kD) (fun g => [none, some (.int r.u), some (.lst (r.N.map D.int)), some (encDT d), some (.int (g : Nat)), none, none, none]) (fun _ => S) (fun g k => Nat.gcd g (r.t k).natAbs) (fun p g => g = gcdL r.u.natAbs (r.N ++ p.map r.t)) (st := g) ?_ (by rw [hs]; simp) rfl rfl ?_
  · intro p k q' s ex hs
    have hk : k ∈ r.ks := by rw [ex]; simp
    refine ⟨_, rfl, ?_⟩
    unfold b__law_form_2
    refine ws_tw (ws_s (we_f (wa_1 (we_v rfl (wa_1 (we_b (we_v rfl (we_v rfl (wo_dtv (by rw [← h.ks]; exact hk) ?_)))))))))
    rw [← h.t k hk]
    walk_at "st"
    refine divisor_w (by rw [hs]; exact gcdL_big (by omega) hbu _) (h.bt k) hf ?_
    walk_at "st"
    rw [Int.natAbs_natCast]
    refine ⟨rfl, rfl, ?_⟩
    rw [hs, List.map_append, ← List.append_assoc, gcdL_app (r.u.natAbs) (r.N ++ p.map r.t)]
    rfl
  intro hs
  have e4 : ((List.foldl (fun g k => Nat.gcd g (r.t k).natAbs) g r.ks : Nat) : Int) = r.c := by rw [hs]; rfl
  simp only [e4]
  refine kq_n (ws_q (ws_tr (ws_s ?_)))
  refine We.run (d := .loc S.length) (S1 := S ++ [.lst ((r.ks.map (row3 fun k => r.t k / r.c)).map encT)]) ?_ ?_
  · have := lc_map (it := iKey (eVar 3)) (g := gN 6) (ts := tru (eBin oIx (eVar 3) (eVar 6))) (el := eBin oAdd (eVar 6) (eTup [(eBin oFdiv (eBin oIx (eVar 3) (eVar 6)) (eVar 4))])) (vs := [6]) (S := S) (S1 := S) (xs := r.ks) (enc := kD) (lk := [])
      (Γ := [none, some (.int r.u), some (.lst (r.N.map D.int)), some (encDT d), some (.int r.c), none, none, none]) (fun _ => true) (fun k => encT (row3 (fun k => r.t k / r.c) k)) ?_ (lkd_nil _) ?_ ?_
    · rw [this, filter_all, List.map_map]
      rfl
    · rw [iKey, ev_v rfl, Option.bind_some, keysD_dt, map_keys, ← h.ks]
      rfl
    · rw [h.ks, List.length_map, line]
      have := h.lt
      omega
    · intro k hk T
      have hkd : k ∈ d.map (·.1) := by rw [← h.ks]; exact hk
      refine ⟨_, rfl, wt_t (we_b (we_v rfl (we_v rfl (wo_dtv hkd ?_))))⟩
      rw [← h.t k hk]
      refine ⟨true, ?_, rfl, rfl, fun _ => we_b (we_v rfl (we_t (wa_1 (we_b (we_b (we_v rfl (we_v rfl (wo_dtv hkd ?_))))))))⟩
      · have := (h.ok.sup k).mp hk
        simp [dTru, this]
      · rw [← h.t k hk]
        exact we_v rfl (wo_dvc hc0 hcb (wa_0 ⟨_, _, cat_row _ _, rfl, rfl⟩))
  have hT : D.ncs ((r.ks.map (row3 fun k => r.t k / r.c)).map encT) = true := ncs_map _ encT_nc _
  have hN : D.ncs (r.N.map D.int) = true := ints_nc _
  refine kr_n hf rfl (Γ1 := [none, some (.int r.u), some (.lst (r.N.map D.int)), some (encDT d), some (.int r.c), none, none, some (.lst ((r.ks.map (row3 fun k => r.t k / r.c)).map encT))]) ?_ ?_
  · show rdg _ _ [none, some (.int r.u), some (.lst (r.N.map D.int)), some (encDT d), some (.int r.c), none, none, some (.loc S.length)] = _
    have c1 := rdo_list (b := S.length) (Nat.le_refl _) (get_end S [] (.lst ((r.ks.map (row3 fun k => r.t k / r.c)).map encT))) hT
    have c0 : ∀ x : Int, (D.int x).nc = true := fun x => by rw [D.nc]
    have cN : (D.lst (r.N.map D.int)).nc = true := by rw [D.nc]; exact hN
    simp only [rdg_cons, rdg_nil, Option.bind_some, Option.bind_none, rdo_nc (c0 _), rdo_nc cN, rdo_nc (encDT_nc d), c1]
  refine kq_n (ws_r (we_t (wa_1 (we_b (we_v rfl (we_v rfl (wo_dvc hc0 hcb (wa_1 (we_f (wa_1 ?_))))))))))
  refine we_lc (xs := r.N) (enc := D.int) (lk := []) (S1 := S) (fun _ => true) (fun x => D.int (x / r.c)) rfl (lkd_nil _) (by rw [line]; have := h.lN; omega) hf rfl (fun _ _ => by rw [D.nc]) ?_ ?_
  · intro x hx T
    exact ⟨_, rfl, wt_y ⟨rfl, rfl, fun _ => we_b (we_v rfl (we_v rfl (wo_dvc hc0 hcb ⟨rfl, rfl⟩)))⟩⟩
  walk_at "st"
  refine we_tn ?_
  walk_at "st"
  refine wf_sortT (n := 3) (by decide) (fun r' hr' => by
    obtain ⟨k, _, rfl⟩ := List.mem_map.mp hr'
    rfl) (by rw [List.length_map, h.ks, List.length_map]; have := h.lt; omega) ⟨S, _, rfl, rfl, hf, rfl, ncs_map _ encT_nc _, ?_⟩
  walk_at "st"
  have ef : D.tup [.int (r.u / r.c), .tup ((r.N.filter fun _ => true).map fun x => D.int (x / r.c)), .tup ((srt (r.ks.map (row3 fun k => r.t k / r.c))).map encT)] = r.form := by
    rw [filter_all]
    unfold Raw.form encF
    rw [List.map_map]
    rfl
  rw [ef]
  refine kf_v hf rfl ?_ q
  unfold Raw.form encF
  simp only [D.nc, D.ncs, ints_nc, ncs_map _ encT_nc]
  rfl
end
end K85

namespace K85
open PySem L2 Dl PL
section
variable {S : Sto} {ps : List Str} {j : Nat} {u : Int} {rs : List Rg} {Q : QE}
theorem pow_c (j : Nat) : ((2 ^ j : Nat) : Int) = (2 : Int) ^ j := by simp
theorem rawB_rw (hj : j ≤ 240) (hp : PsOk ps) (hb : BkOk ps j u rs) : RwOk (rawB ps u rs) (tally (ents ps rs)) where
  ok := rawB_ok hb
  ks := rfl
  t := fun k _ => ((tally_ok (ents ps rs)).2.2 k).symm
  bu := small_of (by have := hb.pos; show 0 ≤ 2 * u; omega) (by have := hb.lt; show 2 * u < _; omega)
  bN := fun x hx => by
    obtain ⟨p, _, rfl⟩ := List.mem_map.mp hx
    exact Nat.lt_of_lt_of_le (nt_le hb.all hb.few p) (Nat.pow_le_pow_right (by decide) (by omega))
  bt := fun k => Nat.lt_of_lt_of_le (tie_le hb.all hb.few k) (Nat.pow_le_pow_right (by decide) (by omega))
  lN := by
    show (ps.map _).length ≤ _
    rw [List.length_map]
    have := hp.l9
    omega
  lt := by
    have := ents_len (ps := ps) rs
    have := hb.few
    omega
/-- the law's form of a book -/
theorem lform (hf : Flat S) (hj : j ≤ 240) (hp : PsOk ps) (hb : BkOk ps j u rs) (q : Q (rawB ps u rs).form S) : WF F__law_sums [encP ps, encB u rs] S fun d S1 => WF F__law_form [d] S1 Q :=
  sums_ok hf hp hb (form_law hf (rawB_rw hj hp hb) q)
/-- the program's form of a book -/
theorem pform (hf : Flat S) (hj : j ≤ 240) (hp : PsOk ps) (hb : BkOk ps j u rs) (q : Q (rawB ps u rs).form S) : WF F_form_of [encP ps, encB u rs] S Q := by
  have h := rawB_rw hj hp hb
  generalize hd : tally (ents ps rs) = d at h
  have hN : ((ps.map fun p => D.int (nt rs p))) = (rawB ps u rs).N.map D.int := by
    show _ = (ps.map (nt rs)).map D.int
    rw [List.map_map]
    rfl
  have hU : (2 * u) = (rawB ps u rs).u := rfl
  refine wf_e rfl ?_
  show Ws m_form_of [some (encP ps), some (encB u rs), none, none, none, none, none, none, none] S _
  unfold m_form_of
  walk_at "st"
  refine nets_ok hf hp hb ?_
  walk_at "st"
  refine ties_ok hf hp hb ?_
  rw [hd, hN, hU]
  generalize rawB ps u rs = r at h q hN hU
  have hu0 := h.ok.pos
  have eu : ((r.u.natAbs : Nat) : Int) = r.u := by omega
  have hc0 := Raw.c_pos h.ok
  have hcb := Raw.c_big h.ok h.bu
  have hbu : r.u.natAbs < 2 ^ 250 := h.bu
  walk_at "st"
  refine wi_v ?_
  walk_at "st"
  refine ⟨(fun z e => by cases e), _, _, rfl, ?_⟩
  refine wl_fold (σ := Nat) (xs := r.N) (enc := D.int) (fun g => [none, none, some (.int r.u), some (.lst (r.N.map D.int)), some (encDT d), some (.int (g : Nat)), none, none, none]) (fun _ => S) (fun g x => Nat.gcd g x.natAbs) (fun p g => g = gcdL r.u.natAbs p) (st := r.u.natAbs) ?_ rfl (by rw [eu]; rfl) rfl ?_
  · intro p x q' s ex hs
    refine ⟨_, rfl, ?_⟩
    unfold b_form_of_1
    walk_at "st"
    rw [Int.natAbs_natCast]
    refine ⟨rfl, rfl, ?_⟩
    rw [hs, gcdL_app]
    rfl
  intro hs
  generalize hg : List.foldl _ _ _ = g at hs
  walk_at "st"
  refine ⟨_, keysD_dt, ?_⟩
  rw [map_keys, ← h.ks]
  refine wl_fold (σ := Nat) (xs := r.ks) (enc := kD) (fun g => [none, none, some (.int r.u), some (.lst (r.N.map D.int)), some (encDT d), some (.int (g : Nat)), none, none, none]) (fun _ => S) (fun g k => Nat.gcd g (r.t k).natAbs) (fun p g => g = gcdL r.u.natAbs (r.N ++ p.map r.t)) (st := g) ?_ (by rw [hs]; simp) rfl rfl ?_
  · intro p k q' s ex hs
    have hk : k ∈ r.ks := by rw [ex]; simp
    refine ⟨_, rfl, ?_⟩
    unfold b_form_of_2
    refine ws_tw (ws_s (we_f (wa_1 (we_v rfl (wa_1 (we_b (we_v rfl (we_v rfl (wo_dtv (by rw [← h.ks]; exact hk) ?_)))))))))
    rw [← h.t k hk]
    walk_at "st"
    rw [Int.natAbs_natCast]
    refine ⟨rfl, rfl, ?_⟩
    rw [hs, List.map_append, ← List.append_assoc, gcdL_app (r.u.natAbs) (r.N ++ p.map r.t)]
    rfl
  intro hs
  have e4 : ((List.foldl (fun g k => Nat.gcd g (r.t k).natAbs) g r.ks : Nat) : Int) = r.c := by rw [hs]; rfl
  simp only [e4]
  have hl3 : r.ks.length ≤ 200 := by rw [h.ks, List.length_map]; exact h.lt
  refine kq_n (ws_q (ws_tr (ws_s ?_)))
  have hrow : ∀ k ∈ r.ks, ∀ T : Sto, eTup [eBin oIx (eVar 7) (eC (.int 0)), eBin oIx (eVar 7) (eC (.int 1)), eBin oFdiv (eBin oIx (eVar 4) (eVar 7)) (eVar 5)] [none, none, some (.int r.u), some (.lst (r.N.map D.int)), some (encDT d), some (.int r.c), none, some (encT (row2 k)), none] T = some (encT (row3 (fun k => r.t k / r.c) k), T) := by
    intro k hk T
    have hkd : k ∈ d.map (·.1) := by rw [← h.ks]; exact hk
    have : We (eTup [eBin oIx (eVar 7) (eC (.int 0)), eBin oIx (eVar 7) (eC (.int 1)), eBin oFdiv (eBin oIx (eVar 4) (eVar 7)) (eVar 5)]) [none, none, some (.int r.u), some (.lst (r.N.map D.int)), some (encDT d), some (.int r.c), none, some (encT (row2 k)), none] T fun d' T' => d' = encT (row3 (fun k => r.t k / r.c) k) ∧ T' = T := by
      rw [show encT (row2 k) = kD k from rfl]
      walk_at "st"
      refine wo_dtv hkd ?_
      rw [← h.t k hk]
      walk_at "st"
      refine wo_dvc hc0 hcb ?_
      walk_at "st"
      exact ⟨rfl, rfl⟩
    obtain ⟨d', T', e, rfl, rfl⟩ := this
    exact e
  have hit : iVal (tidy3 (eCall bSorted [(eVar 4)])) [none, none, some (.int r.u), some (.lst (r.N.map D.int)), some (encDT d), some (.int r.c), none, none, none] S = some (((srt (r.ks.map row2)).map encT, []), S) := by
    have : We (tidy3 (eCall bSorted [(eVar 4)])) [none, none, some (.int r.u), some (.lst (r.N.map D.int)), some (encDT d), some (.int r.c), none, none, none] S fun d' T' => d' = .lst ((srt (r.ks.map row2)).map encT) ∧ T' = S := by
      refine we_tn (we_f (wa_1 (we_v rfl (wa_0 ?_))))
      refine ⟨.loc S.length, S ++ [.lst ((srt (r.ks.map row2)).map encT)], ?_, ⟨S, _, rfl, rfl, hf, rfl, ncs_map _ encT_nc _, rfl, rfl⟩⟩
      have ek : d.map (fun p => kD p.1) = (r.ks.map row2).map encT := by rw [map_keys, ← h.ks, List.map_map]; rfl
      have e2 : iterD S (encDT d) = some ((r.ks.map row2).map encT) := by rw [iterD_dt, ek]
      rw [bSorted, e2]
      simp only
      rw [if_pos (sortOk_T (n := 2) (by decide) (fun r' hr' => by
        obtain ⟨k, _, rfl⟩ := List.mem_map.mp hr'
        rfl) (by rw [List.length_map]; omega)), sortD_T]
    obtain ⟨d', T', e, rfl, rfl⟩ := this
    rw [Dl.iVal, e, Option.bind_some]
    rfl
  let f : List Int → List Int := fun l => row3 (fun k => r.t k / r.c) (l.getD 0 0, l.getD 1 0)
  have hfr : ∀ k ∈ r.ks, f (row2 k) = row3 (fun k => r.t k / r.c) k := fun k _ => rfl
  refine We.run (d := .loc S.length) (S1 := S ++ [.lst ((srt (r.ks.map (row3 fun k => r.t k / r.c))).map encT)]) ?_ ?_
  · have := lc_map (it := iVal (tidy3 (eCall bSorted [(eVar 4)]))) (g := gN 7) (ts := tYs) (el := eTup [eBin oIx (eVar 7) (eC (.int 0)), eBin oIx (eVar 7) (eC (.int 1)), eBin oFdiv (eBin oIx (eVar 4) (eVar 7)) (eVar 5)]) (vs := [7]) (S := S) (S1 := S) (xs := srt (r.ks.map row2)) (enc := encT) (lk := [])
      (Γ := [none, none, some (.int r.u), some (.lst (r.N.map D.int)), some (encDT d), some (.int r.c), none, none, none]) (fun _ => true) (fun l => encT (f l)) hit (lkd_nil _) ?_ ?_
    · rw [this, filter_all, ← srt_row3 h.ok.nd (fun k => r.t k / r.c) hfr, List.map_map]
      rfl
    · rw [(srt_perm _).length_eq, List.length_map, line]
      omega
    · intro l hl T
      obtain ⟨k, hk, rfl⟩ := List.mem_map.mp ((srt_perm _).mem_iff.mp hl)
      refine ⟨_, rfl, wt_y ⟨rfl, rfl, fun _ => ?_⟩⟩
      exact We.run (hrow k hk _) ⟨rfl, rfl⟩
  have hT : D.ncs ((srt (r.ks.map (row3 fun k => r.t k / r.c))).map encT) = true := ncs_map _ encT_nc _
  have hN2 : D.ncs (r.N.map D.int) = true := ints_nc _
  refine kr_n hf rfl (Γ1 := [none, none, some (.int r.u), some (.lst (r.N.map D.int)), some (encDT d), some (.int r.c), none, none, some (.lst ((srt (r.ks.map (row3 fun k => r.t k / r.c))).map encT))]) ?_ ?_
  · show rdg _ _ [none, none, some (.int r.u), some (.lst (r.N.map D.int)), some (encDT d), some (.int r.c), none, none, some (.loc S.length)] = _
    have c1 := rdo_list (b := S.length) (Nat.le_refl _) (get_end S [] (.lst ((srt (r.ks.map (row3 fun k => r.t k / r.c))).map encT))) hT
    have c0 : ∀ x : Int, (D.int x).nc = true := fun x => by rw [D.nc]
    have cN : (D.lst (r.N.map D.int)).nc = true := by rw [D.nc]; exact hN2
    simp only [rdg_cons, rdg_nil, Option.bind_some, Option.bind_none, rdo_nc (c0 _), rdo_nc cN, rdo_nc (encDT_nc d), c1]
  refine kq_n (ws_r (we_t (wa_1 (we_b (we_v rfl (we_v rfl (wo_dvc hc0 hcb (wa_1 (we_f (wa_1 ?_))))))))))
  refine we_lc (xs := r.N) (enc := D.int) (lk := []) (S1 := S) (fun _ => true) (fun x => D.int (x / r.c)) rfl (lkd_nil _) (by rw [line]; have := h.lN; omega) hf rfl (fun _ _ => by rw [D.nc]) ?_ ?_
  · intro x hx T
    exact ⟨_, rfl, wt_y ⟨rfl, rfl, fun _ => we_b (we_v rfl (we_v rfl (wo_dvc hc0 hcb ⟨rfl, rfl⟩)))⟩⟩
  walk_at "st"
  have ef : D.tup [.int (r.u / r.c), .tup ((r.N.filter fun _ => true).map fun x => D.int (x / r.c)), .tup ((srt (r.ks.map (row3 fun k => r.t k / r.c))).map encT)] = r.form := by
    rw [filter_all]
    unfold Raw.form encF
    rw [List.map_map]
    rfl
  rw [ef]
  refine kf_v hf rfl ?_ q
  unfold Raw.form encF
  simp only [D.nc, D.ncs, ints_nc, ncs_map _ encT_nc]
  rfl
end
end K85

namespace K85
open PySem L2 Dl PL
def turn (r : Rg) : Rg := ⟨r.h, r.k, r.b, r.a, r.n⟩
def scl (q : Int) (r : Rg) : Rg := ⟨r.h, r.k, r.a, r.b, r.n * q⟩
section
variable {S : Sto} {ps : List Str} {j : Nat} {u : Int} {rs : List Rg} {Q : QE}
theorem turned_w (hf : Flat S) (hl : rs.length ≤ 1000) (q : Q (encB u (rs.map turn)) S) : WF F__law_turned [encB u rs] S Q := by
  refine wf_e rfl ?_
  show Ws m__law_turned [some (encB u rs), none] S _
  unfold m__law_turned
  walk_at "st"
  refine we_lc (xs := rs) (enc := encR) (lk := []) (S1 := S) (fun _ => true) (fun r => encR (turn r)) rfl (lkd_nil _) (by rw [line]; omega) hf rfl (fun _ _ => encR_nc _) ?_ ?_
  · intro r hr T
    refine ⟨_, rfl, wt_y ⟨rfl, rfl, fun _ => ?_⟩⟩
    walk_at "st"
    refine wl_t ?_
    walk_at "st"
    refine wo_addT (by show (5 : Nat) ≤ 16777216; decide) ?_
    exact ⟨rfl, rfl⟩
  walk_at "st"
  rw [filter_all]
  have e : rs.map (fun r => encR (turn r)) = (rs.map turn).map encR := by rw [List.map_map]; rfl
  rw [e]
  exact kf_v hf rfl (encB_nc _ _) q
theorem mult_w {m : Int} (hf : Flat S) (hl : rs.length ≤ 1000) (hm : m.natAbs < 2 ^ 64) (q : Q (encRs (rs.map (scl m))) S) : WF F_multiplied_rights [encRs rs, .int m] S Q := by
  refine wf_e rfl ?_
  show Ws m_multiplied_rights [some (encRs rs), some (.int m), none, none, none, none, none, none] S _
  unfold m_multiplied_rights
  walk_at "st"
  refine wi_v ?_
  walk_at "st"
  refine ⟨(fun z e => by cases e), _, _, rfl, ?_⟩
  refine wl_fold (σ := List Rg) (xs := rs) (enc := encR) (fun _ => [none, some (.int m), some (.loc S.length), none, none, none, none, none]) (fun p => S ++ [.lst ((p.map (scl m)).map encR)]) (fun p r => p ++ [r]) (fun p s => s = p) (st := []) ?_ rfl rfl rfl ?_
  · rintro p r q' s ex rfl
    have hsl : s.length ≤ 1000 := by
      have := congrArg List.length ex
      rw [List.length_append] at this
      omega
    refine ⟨_, rfl, ?_⟩
    unfold b_multiplied_rights_1
    have g : ∀ l : List D, (S ++ [Cell.lst l])[S.length]? = some (.lst l) := fun f => get_end S [] _
    walk_at "st"
    refine ⟨ty_l (g _), ?_⟩
    walk_at "st"
    refine wo_mulr hm ?_
    walk_at "st"
    refine wm (m_app (g _) (by rw [List.length_map, List.length_map, line]; omega)) ?_
    rw [set_end]
    walk_at "st"
    refine ⟨rfl, ?_, rfl⟩
    rw [List.map_append, List.map_append]
    rfl
  · intro e
    rw [e]
    walk_at "st"
    refine wf (z := .tup ((rs.map (scl m)).map encR)) (S1 := S ++ [.lst ((rs.map (scl m)).map encR)]) ?_ ?_
    · have g := get_end S [] (Cell.lst ((rs.map (scl m)).map encR))
      simp only [bTup, rdL, g]
      rfl
    walk_at "st"
    exact kf_w hf rfl (encRs_nc _) q
theorem unit_w {m : Int} (hf : Flat S) (hl : rs.length ≤ 1000) (hm : m.natAbs < 2 ^ 64) (q : Q (encB (u * m) (rs.map (scl m))) S) : WF F_with_unit [encB u rs, .int m] S Q := by
  refine wf_e rfl ?_
  show Ws m_with_unit [some (encB u rs), some (.int m), none, none] S _
  unfold m_with_unit
  walk_at "st"
  refine ⟨_, rfl, ?_⟩
  walk_at "st"
  refine wo_mulr hm ?_
  walk_at "st"
  refine mult_w hf hl hm ?_
  walk_at "st"
  exact kf_v hf rfl (encB_nc _ _) q
theorem both_w {rs' : List Rg} {u' : Int} (hf : Flat S) (hl : rs.length ≤ 200) (hl' : rs'.length ≤ 200) (h0 : 0 < u) (h0' : 0 < u') (h1 : u < 2 ^ 64) (h1' : u' < 2 ^ 64) (q : Q (encB ((Nat.lcm u.natAbs u'.natAbs : Nat) : Int) (rs.map (scl (((Nat.lcm u.natAbs u'.natAbs : Nat) : Int) / u)) ++ rs'.map (scl (((Nat.lcm u.natAbs u'.natAbs : Nat) : Int) / u')))) S) :
    WF F_both_books [encB u rs, encB u' rs'] S Q := by
  refine wf_e rfl ?_
  show Ws m_both_books [some (encB u rs), some (encB u' rs'), none, none, none] S _
  unfold m_both_books
  walk_at "st"
  refine wf (z := .int ((Nat.lcm u.natAbs u'.natAbs : Nat) : Int)) (S1 := S) ?_ ?_
  · show (if u.natAbs < 2 ^ 64 ∧ u'.natAbs < 2 ^ 64 then _ else _) = _
    rw [if_pos ⟨by omega, by omega⟩]
  have hq : ∀ {x y : Nat}, 0 < x → 0 < y → y < 2 ^ 64 → (((Nat.lcm x y : Nat) : Int) / (x : Int)).natAbs < 2 ^ 64 := by
    intro x y hx hy h
    have e : ((Nat.lcm x y : Nat) : Int) / (x : Int) = ((Nat.lcm x y / x : Nat) : Int) := rfl
    rw [e, Int.natAbs_natCast]
    have : Nat.lcm x y ≤ x * y := Nat.le_of_dvd (Nat.mul_pos hx hy) (Nat.lcm_dvd_mul x y)
    have h2 : Nat.lcm x y / x ≤ y := Nat.div_le_of_le_mul this
    omega
  have eu : ((u.natAbs : Nat) : Int) = u := by omega
  have eu' : ((u'.natAbs : Nat) : Int) = u' := by omega
  have q1 := hq (x := u.natAbs) (y := u'.natAbs) (by omega) (by omega) (by omega)
  have q2 := hq (x := u'.natAbs) (y := u.natAbs) (by omega) (by omega) (by omega)
  rw [eu] at q1
  rw [eu', Nat.lcm_comm] at q2
  generalize ((Nat.lcm u.natAbs u'.natAbs : Nat) : Int) = L at *
  walk_at "st"
  refine wo_fdv h0 (by omega) ?_
  walk_at "st"
  refine mult_w hf (by omega) q1 ?_
  walk_at "st"
  refine wo_fdv h0' (by omega) ?_
  walk_at "st"
  refine mult_w hf (by omega) q2 ?_
  walk_at "st"
  refine wo_addT (by simp; omega) ?_
  rw [← List.map_append]
  walk_at "st"
  exact kf_v hf rfl (encB_nc _ _) q
theorem cut_from {α : Type} (xs : List α) (n : Nat) : cut xs (some (n : Int)) none = xs.drop n := by
  unfold cut
  have e1 : HT.sIx xs.length 0 (some (n : Int)) = min n xs.length := by
    simp [HT.sIx]
    try omega
  have e2 : HT.sIx xs.length xs.length none = xs.length := rfl
  rw [e1, e2]
  by_cases h : n ≤ xs.length
  · rw [Nat.min_eq_left h, List.take_of_length_le (by rw [List.length_drop]; omega)]
  · rw [Nat.min_eq_right (by omega), List.drop_of_length_le (by omega), List.drop_of_length_le (by omega)]
    simp
/-- the rights without the one at i -/
def omitR (rs : List Rg) (i : Nat) : List Rg := rs.take i ++ rs.drop (i + 1)
/-- .. with another in its place -/
def swap (rs : List Rg) (i : Nat) (l : List Rg) : List Rg := rs.take i ++ l ++ rs.drop (i + 1)
theorem cuts (i : Nat) : cut (rs.map encR) none (some (i : Int)) = (rs.take i).map encR := by rw [cut_to, List.map_take]
theorem cuts' (i : Nat) : cut (rs.map encR) (some ((i : Int) + 1)) none = (rs.drop (i + 1)).map encR := by
  have := cut_from (rs.map encR) (i + 1)
  rw [show (((i + 1 : Nat)) : Int) = (i : Int) + 1 by omega] at this
  rw [this, List.map_drop]
theorem without_w {i : Nat} (hf : Flat S) (hl : rs.length ≤ 1000) (q : Q (encB u (omitR rs i)) S) : WF F_without_right [encB u rs, .int (i : Nat)] S Q := by
  refine wf_e rfl ?_
  show Ws m_without_right [some (encB u rs), some (.int (i : Nat)), none, none] S _
  unfold m_without_right
  walk_at "st"
  refine ⟨_, rfl, ?_⟩
  walk_at "st"
  refine wl_t ?_
  walk_at "st"
  refine wl_t ?_
  rw [cuts, cuts']
  refine wo_addT (by simp; omega) ?_
  rw [← List.map_append]
  walk_at "st"
  exact kf_v hf rfl (encB_nc _ _) q
/-- what is left of a right -/
def less (r : Rg) (x : Int) : List Rg := if r.n = x then [] else [⟨r.h, r.k, r.a, r.b, r.n - x⟩]
theorem lessened_w {i : Nat} {x : Int} (hf : Flat S) (hl : rs.length ≤ 1000) {r : Rg} (hi : rs[i]? = some r) (hx : x ≤ r.n) (q : Q (encB u (swap rs i (less r x))) S) : WF F_lessened_right [encB u rs, .int (i : Nat), .int x] S Q := by
  have hil := (List.getElem?_eq_some_iff.mp hi).1
  refine wf_e rfl ?_
  show Ws m_lessened_right [some (encB u rs), some (.int (i : Nat)), some (.int x), none, none, none, none, none, none, none, none] S _
  unfold m_lessened_right
  walk_at "st"
  refine ⟨[some (encB u rs), some (.int (i : Nat)), some (.int x), some (.int u), some (encRs rs), none, none, none, none, none, none], rfl, ?_⟩
  walk_at "st"
  refine wo (o_ixt (d := encR r) (by rw [at_nat (by rw [List.length_map]; exact hil), ← List.getElem?_eq_getElem, List.getElem?_map, hi]; rfl)) ?_
  refine ⟨[some (encB u rs), some (.int (i : Nat)), some (.int x), some (.int u), some (encRs rs), some (.str r.h), some (.str r.k), some (.str r.a), some (.str r.b), some (.int r.n), none], rfl, ?_⟩
  walk_at "st"
  refine ifB (fun hc => absurd (of_decide_eq_true hc) (by omega)) fun _ => ?_
  walk_at "st"
  refine ifB (fun hc => ?_) fun hc => ?_
  · have e : r.n = x := beq_iff_eq.mp hc
    walk_at "st"
    refine without_w hf hl ?_
    walk_at "st"
    rw [less, if_pos e, swap, List.append_nil] at q
    exact kf_v hf rfl (encB_nc _ _) q
  · have e : ¬ r.n = x := fun e => by rw [e] at hc; simp at hc
    walk_at "st"
    refine wl_t ?_
    walk_at "st"
    refine wo_addT (by rw [cuts]; simp; omega) ?_
    walk_at "st"
    refine wl_t ?_
    rw [cuts, cuts']
    refine wo_addT (by simp; omega) ?_
    walk_at "st"
    rw [less, if_neg e, swap] at q
    have e2 : (rs.take i).map encR ++ [D.tup [.str r.h, .str r.k, .str r.a, .str r.b, .int (r.n - x)]] ++ (rs.drop (i + 1)).map encR = (rs.take i ++ [(⟨r.h, r.k, r.a, r.b, r.n - x⟩ : Rg)] ++ rs.drop (i + 1)).map encR := by simp [encR]
    rw [e2]
    exact kf_v hf rfl (encB_nc _ _) q
end
end K85

namespace K85
open PySem L2 Dl PL
/-! ### what is done to a book, and its raw form -/
theorem nt_turn (p : Str) : ∀ rs : List Rg, nt (rs.map turn) p = 0 - nt rs p
  | [] => rfl
  | r :: rs => by
    have := nt_turn p rs
    unfold nt at *
    rw [List.map_cons, sm, sm, this]
    have : nt1 p (turn r) = 0 - nt1 p r := by
      show (if r.a = p then wt (turn r) else 0) - (if r.b = p then wt (turn r) else 0) = _
      have : wt (turn r) = wt r := rfl
      rw [this]
      unfold nt1
      omega
    omega
theorem filter_map_k {f : Rg → Rg} (hf : ∀ r, (f r).k = r.k) : ∀ rs : List Rg, ((rs.map f).filter fun r => decide (r.k = may)) = (rs.filter fun r => decide (r.k = may)).map f
  | [] => rfl
  | r :: rs => by
    rw [List.map_cons, List.filter_cons, List.filter_cons, hf, filter_map_k hf rs]
    split <;> rfl
theorem ent1_turn (ps : List Str) (r : Rg) : ent1 ps (turn r) = ent1 ps r := by
  show (((if (ix ps r.a : Int) < (ix ps r.b : Int) then (ix ps r.a : Int) else (ix ps r.b : Int)), if (ix ps r.a : Int) > (ix ps r.b : Int) then (ix ps r.a : Int) else (ix ps r.b : Int)), r.n) = _
  unfold ent1
  refine Prod.ext (Prod.ext ?_ ?_) rfl
  · show (if _ then _ else _) = (if _ then _ else _)
    split <;> split <;> omega
  · show (if _ then _ else _) = (if _ then _ else _)
    split <;> split <;> omega
theorem ents_turn (ps : List Str) (rs : List Rg) : ents ps (rs.map turn) = ents ps rs := by
  unfold ents
  rw [filter_map_k (f := turn) (fun _ => rfl), List.map_map]
  exact List.map_congr_left fun r _ => ent1_turn ps r
def rneg (r : Raw) : Raw := ⟨r.u, r.N.map (0 - ·), r.ks, r.t⟩
theorem rawB_turn (ps : List Str) (u : Int) (rs : List Rg) : rawB ps u (rs.map turn) = rneg (rawB ps u rs) := by
  unfold rawB rneg
  simp only [ents_turn, List.map_map]
  congr 1
  exact List.map_congr_left fun p _ => nt_turn p rs
theorem rneg_ok {r : Raw} (h : r.Ok) : (rneg r).Ok := ⟨h.pos, h.nd, h.sup⟩
theorem rneg_c (r : Raw) : (rneg r).c = r.c := by
  unfold Raw.c rneg
  congr 1
  refine gcdL_eq fun d => ?_
  simp only [List.mem_append, List.mem_map]
  refine and_congr Iff.rfl ⟨fun h x hx => ?_, fun h x hx => ?_⟩
  · rcases hx with hx | hx
    · have := h (0 - x) (.inl ⟨x, hx, rfl⟩)
      rw [Int.zero_sub] at this
      exact (Int.dvd_neg).mp this
    · exact h x (.inr hx)
  · rcases hx with ⟨y, hy, rfl⟩ | hx
    · rw [Int.zero_sub]
      exact (Int.dvd_neg).mpr (h y (.inl hy))
    · exact h x (.inr hx)
theorem neg_div {x c : Int} (h : c ∣ x) : (0 - x) / c = 0 - x / c := by
  rw [Int.zero_sub, Int.zero_sub, Int.neg_ediv_of_dvd h]
theorem rneg_form (r : Raw) : (rneg r).form = encF (r.u / r.c) ((r.N.map (· / r.c)).map (0 - ·)) (srt (r.ks.map (row3 fun k => r.t k / r.c))) := by
  unfold Raw.form
  rw [rneg_c]
  show encF (r.u / r.c) ((r.N.map (0 - ·)).map (· / r.c)) _ = _
  rw [List.map_map, List.map_map]
  congr 1
  exact List.map_congr_left fun x hx => neg_div (r.c_dvd.2.1 x hx)
theorem wt_scl (q : Int) (r : Rg) : wt (scl q r) = q * wt r := by
  unfold wt
  show (if r.k = must then 2 * (r.n * q) else r.n * q) = _
  split
  · rw [Int.mul_comm r.n q, ← Int.mul_assoc, ← Int.mul_assoc, Int.mul_comm 2 q]
  · rw [Int.mul_comm]
theorem nt_scl (q : Int) (rs : List Rg) (p : Str) : nt (rs.map (scl q)) p = q * nt rs p := by
  unfold nt
  rw [sm_map, ← sm_mul]
  refine sm_congr fun r _ => ?_
  show (if r.b = p then wt (scl q r) else 0) - (if r.a = p then wt (scl q r) else 0) = _
  rw [wt_scl, nt1, Int.mul_sub]
  split <;> split <;> simp
theorem tsum_scl (q : Int) : ∀ (es : Tal) (k : Int × Int), tsum (es.map fun e => (e.1, e.2 * q)) k = q * tsum es k
  | [], k => by simp [tsum]
  | e :: es, k => by
    rw [List.map_cons, tsum, tsum, tsum_scl q es k, Int.mul_add]
    split
    · rw [Int.mul_comm]
    · simp
theorem ents_scl (ps : List Str) (q : Int) (rs : List Rg) : ents ps (rs.map (scl q)) = (ents ps rs).map fun e => (e.1, e.2 * q) := by
  unfold ents
  rw [filter_map_k (f := scl q) (fun _ => rfl), List.map_map, List.map_map]
  rfl
theorem ents_app (ps : List Str) (rs rs' : List Rg) : ents ps (rs ++ rs') = ents ps rs ++ ents ps rs' := by
  unfold ents
  rw [List.filter_append, List.map_append]
theorem nt_app (rs rs' : List Rg) (p : Str) : nt (rs ++ rs') p = nt rs p + nt rs' p := sm_app _ _ _
theorem tsum_perm {a b : Tal} (h : a.Perm b) (k : Int × Int) : tsum a k = tsum b k := by
  induction h with
  | nil => rfl
  | cons x _ ih => rw [tsum, tsum, ih]
  | swap x y l => simp only [tsum]; omega
  | trans _ _ ih1 ih2 => exact ih1.trans ih2
theorem tsum_fn (g : Int × Int → Int) (k : Int × Int) : ∀ {ks : List (Int × Int)}, ks.Nodup → tsum (ks.map fun k => (k, g k)) k = if k ∈ ks then g k else 0
  | [], _ => by simp [tsum]
  | x :: ks, h => by
    rw [List.nodup_cons] at h
    rw [List.map_cons, tsum, tsum_fn g k h.2]
    by_cases e : x = k
    · subst e
      simp [h.1]
    · have e' : ¬ k = x := fun q => e q.symm
      simp [e, e']
/-! sums over the places -/
theorem sm_at {p : Str} (w : Int) : ∀ {ps : List Str}, ps.Nodup → sm (fun x => if p = x then w else 0) ps = if p ∈ ps then w else 0
  | [], _ => by simp [sm]
  | x :: ps, h => by
    rw [List.nodup_cons] at h
    rw [sm, sm_at w h.2]
    by_cases e : p = x
    · subst e
      simp [h.1]
    · simp [e]
theorem sm_add {α : Type} (f g : α → Int) : ∀ l : List α, sm (fun x => f x + g x) l = sm f l + sm g l
  | [] => by simp [sm]
  | x :: l => by rw [sm, sm, sm, sm_add f g l]; omega
theorem sm_sub {α : Type} (f g : α → Int) : ∀ l : List α, sm (fun x => f x - g x) l = sm f l - sm g l
  | [] => by simp [sm]
  | x :: l => by rw [sm, sm, sm, sm_sub f g l]; omega
theorem sm_zero {α : Type} : ∀ l : List α, sm (fun _ => 0) l = 0
  | [] => rfl
  | x :: l => by rw [sm, sm_zero l]; rfl
theorem sm_pt {ps : List Str} (nd : ps.Nodup) {a b : Str} (ha : a ∈ ps) (hb : b ∈ ps) (w : Int) : sm (fun p => (if b = p then w else 0) - (if a = p then w else 0)) ps = 0 := by
  rw [sm_sub, sm_at w nd, sm_at w nd, if_pos ha, if_pos hb]
  omega
theorem sm_nt {ps : List Str} {j : Nat} (hp : PsOk ps) : ∀ {rs : List Rg}, (∀ r ∈ rs, RgOk ps j r) → sm (nt rs) ps = 0
  | [], _ => sm_zero ps
  | r :: rs, h => by
    have e : sm (nt (r :: rs)) ps = sm (fun p => nt1 p r + nt rs p) ps := rfl
    rw [e, sm_add, sm_nt hp fun x hx => h x (by simp [hx])]
    have := sm_pt hp.nd (h r (by simp)).ma (h r (by simp)).mb (wt r)
    unfold nt1
    omega
/-! ### a form, its ties as pairs of places -/
def ent0 (ps : List Str) (e : Rg) : (Int × Int) × Int := ((((ix ps e.a : Nat) : Int), ((ix ps e.b : Nat) : Int)), e.n)
def rowE (ps : List Str) (e : Rg) : List Int := [((ix ps e.a : Nat) : Int), ((ix ps e.b : Nat) : Int), e.n]
def encG (ps : List Str) (U : Int) (f : Str → Int) (E : List Rg) : D := encF U (ps.map f) (E.map (rowE ps))
structure TiOk (ps : List Str) (b : Nat) (e : Rg) : Prop where
  ma : e.a ∈ ps
  mb : e.b ∈ ps
  lt : ix ps e.a < ix ps e.b
  pos : 0 < e.n
  le : e.n < 2 ^ b
structure FmOk (ps : List Str) (b : Nat) (U : Int) (f : Str → Int) (E : List Rg) : Prop where
  pos : 0 < U
  all : ∀ e ∈ E, TiOk ps b e
  fb : ∀ p ∈ ps, (f p).natAbs < 2 ^ b
  sum : sm f ps = 0
  few : E.length ≤ 40
  nd : (E.map fun e => (ent0 ps e).1).Nodup
structure RbOk (ps : List Str) (b : Nat) (r : Raw) (f : Str → Int) : Prop where
  ok : r.Ok
  N : r.N = ps.map f
  ks : ∀ k ∈ r.ks, 0 ≤ k.1 ∧ k.1 < k.2 ∧ k.2 < (ps.length : Nat)
  pos : ∀ k, 0 ≤ r.t k
  bt : ∀ k, (r.t k).natAbs < 2 ^ b
  bf : ∀ p ∈ ps, (f p).natAbs < 2 ^ b
  sum : sm f ps = 0
  few : r.ks.length ≤ 40
def toRg (ps : List Str) (l : List Int) : Rg := ⟨may, may, ps.getD (l.getD 0 0).toNat may, ps.getD (l.getD 1 0).toNat may, l.getD 2 0⟩
def rE (ps : List Str) (r : Raw) : List Rg := (srt (r.ks.map (row3 fun k => r.t k / r.c))).map (toRg ps)
section
variable {ps : List Str} {b : Nat} {r : Raw} {f : Str → Int}
theorem ix_getD (hp : PsOk ps) {i : Int} (h0 : 0 ≤ i) (h1 : i < (ps.length : Nat)) (d : Str) : ps.getD i.toNat d ∈ ps ∧ ((ix ps (ps.getD i.toNat d) : Nat) : Int) = i := by
  have hi : i.toNat < ps.length := by omega
  have e : ps.getD i.toNat d = ps[i.toNat] := by
    rw [List.getD_eq_getElem?_getD, List.getElem?_eq_getElem hi]
    rfl
  rw [e]
  refine ⟨List.getElem_mem hi, ?_⟩
  rw [ix_of hp.nd (List.getElem?_eq_getElem hi)]
  omega
theorem row_k (hp : PsOk ps) (h : RbOk ps b r f) {k : Int × Int} (hk : k ∈ r.ks) (t : Int × Int → Int) : ent0 ps (toRg ps (row3 t k)) = (k, t k) ∧ (toRg ps (row3 t k)).a ∈ ps ∧ (toRg ps (row3 t k)).b ∈ ps := by
  obtain ⟨h1, h2, h3⟩ := h.ks k hk
  obtain ⟨a1, a2⟩ := ix_getD hp h1 (by omega) may
  obtain ⟨b1, b2⟩ := ix_getD hp (i := k.2) (by omega) h3 may
  exact ⟨Prod.ext (Prod.ext a2 b2) rfl, a1, b1⟩
theorem rE_mem {e : Rg} (he : e ∈ rE ps r) : ∃ k ∈ r.ks, e = toRg ps (row3 (fun k => r.t k / r.c) k) := by
  obtain ⟨l, hl, rfl⟩ := List.mem_map.mp he
  obtain ⟨k, hk, rfl⟩ := List.mem_map.mp ((srt_perm _).mem_iff.mp hl)
  exact ⟨k, hk, rfl⟩
theorem rE_ents (hp : PsOk ps) (h : RbOk ps b r f) : ((rE ps r).map (ent0 ps)).Perm (r.ks.map fun k => (k, r.t k / r.c)) := by
  unfold rE
  rw [List.map_map]
  refine ((srt_perm _).map _).trans ?_
  rw [List.map_map]
  exact .of_eq (List.map_congr_left fun k hk => (row_k hp h hk _).1)
theorem rE_rows (hp : PsOk ps) (h : RbOk ps b r f) : (rE ps r).map (rowE ps) = srt (r.ks.map (row3 fun k => r.t k / r.c)) := by
  unfold rE
  rw [List.map_map]
  refine (List.map_congr_left (g := id) fun l hl => ?_).trans (List.map_id _)
  obtain ⟨k, hk, rfl⟩ := List.mem_map.mp ((srt_perm _).mem_iff.mp hl)
  have := (row_k hp h hk (fun k => r.t k / r.c)).1
  have e1 := congrArg (fun x => x.1.1) this
  have e2 := congrArg (fun x => x.1.2) this
  show [_, _, _] = [_, _, _]
  simp only [ent0] at e1 e2
  rw [e1, e2]
  rfl
theorem rform_G (hp : PsOk ps) (h : RbOk ps b r f) : r.form = encG ps (r.u / r.c) (fun p => f p / r.c) (rE ps r) := by
  unfold Raw.form encG
  rw [rE_rows hp h, h.N, List.map_map]
  rfl
theorem div_le {x c : Int} (hc : 0 < c) (hd : c ∣ x) : (x / c).natAbs ≤ x.natAbs := by
  obtain ⟨y, rfl⟩ := hd
  rw [Int.mul_ediv_cancel_left _ (by omega), Int.natAbs_mul]
  exact Nat.le_mul_of_pos_left _ (by omega)
theorem rFm (hp : PsOk ps) (h : RbOk ps b r f) : FmOk ps b (r.u / r.c) (fun p => f p / r.c) (rE ps r) := by
  have hc := Raw.c_pos h.ok
  obtain ⟨d1, d2, d3⟩ := r.c_dvd
  have d2' : ∀ p ∈ ps, r.c ∣ f p := fun p hp' => d2 _ (by rw [h.N]; exact List.mem_map_of_mem hp')
  refine ⟨?_, fun e he => ?_, fun p hp' => Nat.lt_of_le_of_lt (div_le hc (d2' p hp')) (h.bf p hp'), ?_, ?_, ?_⟩
  · obtain ⟨y, hy⟩ := d1
    have := h.ok.pos
    rw [hy, Int.mul_ediv_cancel_left _ (by omega)]
    rw [hy] at this
    exact Int.pos_of_mul_pos_right this hc |> fun z => z
  · obtain ⟨k, hk, rfl⟩ := rE_mem he
    obtain ⟨e1, e2, e3⟩ := row_k hp h hk (fun k => r.t k / r.c)
    obtain ⟨h1, h2, h3⟩ := h.ks k hk
    have x1 := congrArg (fun x => x.1.1) e1
    have x2 := congrArg (fun x => x.1.2) e1
    simp only [ent0] at x1 x2
    have ht := h.pos k
    have ht2 := (h.ok.sup k).mp hk
    have hb := h.bt k
    have hl := div_le hc (d3 k hk)
    refine ⟨e2, e3, by omega, ?_, ?_⟩
    · show 0 < r.t k / r.c
      obtain ⟨y, hy⟩ := d3 k hk
      rw [hy, Int.mul_ediv_cancel_left _ (by omega)]
      rw [hy] at ht ht2
      have : y ≠ 0 := fun e => ht2 (by rw [e, Int.mul_zero])
      have h5 : 0 ≤ y := by
        rcases Int.lt_or_le y 0 with q | q
        · have := Int.mul_neg_of_pos_of_neg hc q
          omega
        · exact q
      omega
    · show r.t k / r.c < 2 ^ b
      have : ((2 ^ b : Nat) : Int) = (2 : Int) ^ b := by simp
      omega
  · have e : r.c * sm (fun p => f p / r.c) ps = 0 := by
      rw [← sm_mul, ← h.sum]
      exact sm_congr fun p hp' => Int.mul_ediv_cancel' (d2' p hp')
    rcases Int.mul_eq_zero.mp e with q | q
    · omega
    · exact q
  · unfold rE
    rw [List.length_map, (srt_perm _).length_eq, List.length_map]
    exact h.few
  · have := (rE_ents hp h).map (·.1)
    rw [List.map_map, List.map_map] at this
    refine this.nodup_iff.mpr ?_
    have e : r.ks.map ((fun x : (Int × Int) × Int => x.1) ∘ fun k => (k, r.t k / r.c)) = r.ks := List.map_id _
    rw [e]
    exact h.ok.nd
theorem rE_tsum (hp : PsOk ps) (h : RbOk ps b r f) (k : Int × Int) : tsum ((rE ps r).map (ent0 ps)) k = r.low.t k := by
  rw [tsum_perm (rE_ents hp h), tsum_fn _ _ h.ok.nd]
  show _ = r.t k / r.c
  split
  · rfl
  · rename_i hn
    have : r.t k = 0 := by
      by_cases e : r.t k = 0
      · exact e
      · exact absurd ((h.ok.sup k).mpr e) hn
    rw [this, Int.zero_ediv]
end
end K85

namespace K85
open PySem L2 Dl PL
/-! ### a form told as a book -/
def mayOf (h : Str) (e : Rg) : Rg := ⟨h, may, e.a, e.b, 2 * e.n⟩
def hf (p : Str) (e : Rg) : Int := (if e.a = p then e.n else 0) - (if e.b = p then e.n else 0)
def sal (f : Str → Int) (E : List Rg) (p : Str) : Int := f p + sm (hf p) E
def mustOf (h p0 : Str) (s : Str → Int) (p : Str) : List Rg := if 0 < s p then [⟨h, must, p0, p, s p⟩] else if s p < 0 then [⟨h, must, p, p0, -(s p)⟩] else []
def fbk (ps : List Str) (h p0 : Str) (f : Str → Int) (E : List Rg) : List Rg := E.map (mayOf h) ++ (ps.drop 1).flatMap (mustOf h p0 (sal f E))
theorem must_len (h p0 : Str) (s : Str → Int) : ∀ l : List Str, (l.flatMap (mustOf h p0 s)).length ≤ l.length
  | [] => Nat.le_refl _
  | x :: l => by
    have := must_len h p0 s l
    rw [List.flatMap_cons, List.length_append, List.length_cons]
    have : (mustOf h p0 s x).length ≤ 1 := by
      unfold mustOf
      split
      · exact Nat.le_refl _
      · split
        · exact Nat.le_refl _
        · exact Nat.zero_le _
    omega
theorem sal_snoc (f : Str → Int) (s : List Rg) (e : Rg) (p : Str) : sal f (s ++ [e]) p = sal f s p + hf p e := by
  unfold sal
  rw [sm_app]
  simp only [sm]
  omega
section
variable {S : Sto} {ps : List Str} {b : Nat} {U : Int} {f : Str → Int} {E : List Rg} {Q : QE} {h p0 : Str}
theorem zp_ps (s : Str → Int) (l : List Str) : zp2 (l.map D.str) (l.map fun p => D.int (s p)) = l.map fun p => D.tup [.str p, .int (s p)] := by
  induction l with
  | nil => rfl
  | cons x l ih =>
    unfold zp2 at *
    rw [List.map_cons, List.map_cons, List.zipWith_cons_cons, ih]
    rfl
theorem fbook_w (hf' : Flat S) (hp : PsOk ps) (ho : FmOk ps b U f E) (h0 : ps[0]? = some p0) (q : Q (encB U (fbk ps h p0 f E)) S) : WF F_form_book [encP ps, .str h, encG ps U f E] S Q := by
  have hl9 := hp.l9
  refine wf_e rfl ?_
  show Ws m_form_book [some (encP ps), some (.str h), some (encG ps U f E), none, none, none, none, none, none, none, none, none] S _
  unfold m_form_book
  walk_at "st"
  refine ⟨[some (encP ps), some (.str h), some (encG ps U f E), some (.int U), some (.tup ((ps.map f).map D.int)), some (.tup ((E.map (rowE ps)).map encT)), none, none, none, none, none, none], rfl, ?_⟩
  walk_at "st"
  refine wf (z := .loc S.length) (S1 := S ++ [.lst (ps.map fun p => D.int (sal f [] p))]) ?_ ?_
  · have e : (ps.map fun p => D.int (sal f [] p)) = (ps.map f).map D.int := by
      rw [List.map_map]
      refine List.map_congr_left fun p _ => ?_
      simp [sal, sm]
    rw [e]
    rfl
  walk_at "st"
  refine wi_v ?_
  walk_at "st"
  refine ⟨(fun z e => by cases e), _, _, rfl, ?_⟩
  rw [List.map_map]
  rw [List.length_append, List.length_singleton, List.append_assoc]
  refine wl_fold (σ := List Rg) (xs := E) (enc := encT ∘ rowE ps) (fun _ => [some (encP ps), some (.str h), none, some (.int U), none, none, some (.loc S.length), some (.loc (S.length + 1)), none, none, none, none]) (fun s => S ++ [.lst (ps.map fun p => D.int (sal f s p)), .lst ((s.map (mayOf h)).map encR)]) (fun p r => p ++ [r]) (fun p s => s = p) (st := []) ?_ rfl rfl rfl ?_
  · rintro p e q' s ex rfl
    have ok := ho.all e (by rw [ex]; simp)
    have hsl : s.length ≤ 40 := by
      have := congrArg List.length ex
      have := ho.few
      rw [List.length_append] at *
      omega
    refine ⟨_, rfl, ?_⟩
    unfold b_form_book_1
    have g : ∀ (f : Str → D) (c : Cell), (S ++ [Cell.lst (ps.map f), c])[S.length]? = some (.lst (ps.map f)) := fun f c => get_end S [c] _
    have g2 : ∀ (c : Cell) (d : List D), (S ++ [c, Cell.lst d])[S.length + 1]? = some (.lst d) := fun f d => by
      rw [List.getElem?_append_right (by omega), show S.length + 1 - S.length = 1 by omega]
      rfl
    have st : ∀ (f : Str → D) (c c' : Cell), (S ++ [Cell.lst (ps.map f), c]).set S.length c' = S ++ [c', c] := fun f c c' => set_end S [c] _ _
    have st2 : ∀ (c0 c c' : Cell), (S ++ [c0, c]).set (S.length + 1) c' = S ++ [c0, c'] := fun c0 c c' => by
      rw [List.set_append_right _ _ (by omega), show S.length + 1 - S.length = 1 by omega]
      rfl
    have at1 : ∀ {x : Str} {T : Sto}, x ∈ ps → oIx (encP ps) (.int (ix ps x : Nat)) T = some (.str x, T) := fun {x T} hx => by
      show (atI (ps.map D.str) (ix ps x : Nat)).map _ = _
      rw [atn (f := D.str) hx]
      rfl
    walk_at "st"
    refine ⟨ty_l (g2 _ _), ?_⟩
    walk_at "st"
    refine wo (at1 ok.ma) ?_
    walk_at "st"
    refine wo (at1 ok.mb) ?_
    walk_at "st"
    refine wm (m_app (g2 _ _) (by rw [List.length_map, List.length_map, line]; omega)) ?_
    rw [st2]
    walk_at "st"
    refine ⟨.int (sal f s e.a), by simp only [itemD, g]; exact atn ok.ma, ?_⟩
    walk_at "st"
    refine ⟨_, s_e (g _ _) (ixn ok.ma) rfl, ?_⟩
    rw [st, set_ix hp.nd ok.ma]
    walk_at "st"
    have hab : ¬ e.b = e.a := fun q => by have := ok.lt; rw [q] at this; omega
    refine ⟨.int (sal f s e.b), by
      simp only [itemD, g]
      rw [atn ok.mb, if_neg hab], ?_⟩
    walk_at "st"
    refine ⟨_, s_e (g _ _) (ixn ok.mb) rfl, ?_⟩
    rw [st, set_ix hp.nd ok.mb]
    walk_at "st"
    have e2 : (ps.map fun x => if x = e.b then D.int (sal f s e.b - e.n) else if x = e.a then D.int (sal f s e.a + e.n) else D.int (sal f s x)) = ps.map fun x => D.int (sal f (s ++ [e]) x) := List.map_congr_left fun x _ => by
      have ite_i : ∀ (c : Prop) [Decidable c] (a b : Int), (if c then D.int a else D.int b) = D.int (if c then a else b) := fun c _ a b => by split <;> rfl
      rw [sal_snoc, ite_i, ite_i]
      unfold hf
      congr 1
      by_cases h1 : x = e.b
      · have q1 : ¬ e.a = x := fun q => hab (h1.symm.trans q.symm)
        rw [if_pos h1, if_pos h1.symm, if_neg q1, h1]
        omega
      · have q1 : ¬ e.b = x := fun q => h1 q.symm
        by_cases h2 : x = e.a
        · rw [if_neg h1, if_neg q1, if_pos h2, if_pos h2.symm, h2]
          omega
        · have q2 : ¬ e.a = x := fun q => h2 q.symm
          rw [if_neg h1, if_neg q1, if_neg h2, if_neg q2]
          omega
    refine ⟨rfl, ?_, rfl⟩
    rw [e2, List.map_append, List.map_append]
    rfl
  intro e
  rw [e]
  have hfl : Flat (S ++ [Cell.lst (ps.map fun p => D.int (sal f E p)), .lst ((E.map (mayOf h)).map encR)]) := by
    have := (hf'.app (c := Cell.lst (ps.map fun p => D.int (sal f E p))) (ncs_map _ (fun _ => by rw [D.nc]) ps)).app (c := Cell.lst ((E.map (mayOf h)).map encR)) (encRs_ncs _)
    rwa [List.append_assoc] at this
  have hE := ho.few
  walk_at "st"
  refine wl (z := .tup ((ps.drop 1).map D.str)) (S1 := S ++ [Cell.lst (ps.map fun p => D.int (sal f E p)), .lst ((E.map (mayOf h)).map encR)]) ?_ ?_
  · have hc : ¬ (HT.sIx (ps.map D.str).length 0 (some 1) = 0 ∧ HT.sIx (ps.map D.str).length (ps.map D.str).length none = (ps.map D.str).length) := by
      have := hp.l2
      have e1 : HT.sIx (ps.map D.str).length 0 (some 1) = min 1 ps.length := by
        simp [HT.sIx]
        try omega
      rw [e1]
      omega
    show (if _ then _ else _) = _
    rw [if_neg hc]
    have := cut_from (ps.map D.str) 1
    rw [show (((1 : Nat)) : Int) = 1 by rfl] at this
    rw [this, List.map_drop]
  walk_at "st"
  refine we_tn ?_
  walk_at "st"
  refine wl (z := .loc (S.length + 2)) (S1 := (S ++ [Cell.lst (ps.map fun p => D.int (sal f E p)), .lst ((E.map (mayOf h)).map encR)]) ++ [.lst ((ps.drop 1).map fun p => D.int (sal f E p))]) ?_ ?_
  · have g := get_end S [Cell.lst ((E.map (mayOf h)).map encR)] (Cell.lst (ps.map fun p => D.int (sal f E p)))
    simp only [oSl]
    rw [g]
    have := cut_from (ps.map fun p => D.int (sal f E p)) 1
    rw [show (((1 : Nat)) : Int) = 1 by rfl] at this
    simp only
    rw [this, List.map_drop, List.length_append]
    rfl
  refine ⟨_, _, ?_, rfl, hfl, rfl, ncs_map _ (fun _ => by rw [D.nc]) _, ?_⟩
  · rw [List.length_append]
    rfl
  walk_at "st"
  refine ⟨_, _, _, _, _, _, rfl, rfl, rfl, ?_⟩
  rw [zp_ps]
  refine wl_fold (σ := List Str) (xs := ps.drop 1) (enc := fun p => D.tup [.str p, .int (sal f E p)]) (fun _ => [some (encP ps), some (.str h), none, some (.int U), none, none, none, some (.loc (S.length + 1)), none, none, none, none]) (fun s => S ++ [.lst (ps.map fun p => D.int (sal f E p)), .lst ((E.map (mayOf h) ++ s.flatMap (mustOf h p0 (sal f E))).map encR)]) (fun p r => p ++ [r]) (fun p s => s = p) (st := []) ?_ rfl rfl (by simp) ?_
  · rintro p x q' s ex rfl
    have hsl : s.length ≤ 9 := by
      have := congrArg List.length ex
      rw [List.length_append, List.length_drop] at this
      omega
    have hml := must_len h p0 (sal f E) s
    refine ⟨_, rfl, ?_⟩
    unfold b_form_book_2
    have g2 : ∀ (c : Cell) (d : List D), (S ++ [c, Cell.lst d])[S.length + 1]? = some (.lst d) := fun f d => by
      rw [List.getElem?_append_right (by omega), show S.length + 1 - S.length = 1 by omega]
      rfl
    have st2 : ∀ (c0 c c' : Cell), (S ++ [c0, c]).set (S.length + 1) c' = S ++ [c0, c'] := fun c0 c c' => by
      rw [List.set_append_right _ _ (by omega), show S.length + 1 - S.length = 1 by omega]
      rfl
    have at0 : ∀ {T : Sto}, oIx (encP ps) (.int 0) T = some (.str p0, T) := fun {T} => by
      show (atI (ps.map D.str) 0).map _ = _
      have : atI (ps.map D.str) (0 : Nat) = some (.str p0) := at_get (by rw [List.getElem?_map, h0]; rfl)
      rw [show ((0 : Nat) : Int) = 0 by rfl] at this
      rw [this]
      rfl
    walk_at "st"
    refine ifB (fun hc => ?_) fun hc => ?_
    · have hpos : 0 < sal f E x := of_decide_eq_true hc
      walk_at "st"
      refine ⟨ty_l (g2 _ _), ?_⟩
      walk_at "st"
      refine wo at0 ?_
      walk_at "st"
      refine wm (m_app (g2 _ _) (by rw [List.length_map, List.length_append, List.length_map, line]; omega)) ?_
      rw [st2]
      walk_at "st"
      refine ifB (fun hc => absurd (of_decide_eq_true hc) (by omega)) fun _ => ?_
      walk_at "st"
      refine ⟨rfl, ?_, rfl⟩
      rw [List.flatMap_append, List.flatMap_singleton, mustOf, if_pos hpos, ← List.append_assoc, List.map_append (l₂ := [_])]
      rfl
    · have hpos : ¬ 0 < sal f E x := of_decide_eq_false hc
      walk_at "st"
      refine ifB (fun hc => ?_) fun hc => ?_
      · have hneg : sal f E x < 0 := of_decide_eq_true hc
        walk_at "st"
        refine ⟨ty_l (g2 _ _), ?_⟩
        walk_at "st"
        refine wo at0 ?_
        walk_at "st"
        refine wm (m_app (g2 _ _) (by rw [List.length_map, List.length_append, List.length_map, line]; omega)) ?_
        rw [st2]
        walk_at "st"
        refine ⟨rfl, ?_, rfl⟩
        rw [List.flatMap_append, List.flatMap_singleton, mustOf, if_neg hpos, if_pos hneg, ← List.append_assoc, List.map_append (l₂ := [_])]
        rfl
      · have hneg : ¬ sal f E x < 0 := of_decide_eq_false hc
        walk_at "st"
        refine ⟨rfl, ?_, rfl⟩
        rw [List.flatMap_append, List.flatMap_singleton, mustOf, if_neg hpos, if_neg hneg, List.append_nil]
  · intro e
    rw [e]
    walk_at "st"
    refine wf (z := encRs (fbk ps h p0 f E)) (S1 := S ++ [Cell.lst (ps.map fun p => D.int (sal f E p)), .lst ((fbk ps h p0 f E).map encR)]) ?_ ?_
    · have g2 : (S ++ [Cell.lst (ps.map fun p => D.int (sal f E p)), .lst ((fbk ps h p0 f E).map encR)])[S.length + 1]? = some (.lst ((fbk ps h p0 f E).map encR)) := by
        rw [List.getElem?_append_right (by omega), show S.length + 1 - S.length = 1 by omega]
        rfl
      have e2 : bTup [.loc (S.length + 1)] (S ++ [Cell.lst (ps.map fun p => D.int (sal f E p)), .lst ((fbk ps h p0 f E).map encR)]) = some (encRs (fbk ps h p0 f E), S ++ [Cell.lst (ps.map fun p => D.int (sal f E p)), .lst ((fbk ps h p0 f E).map encR)]) := by
        simp only [bTup, rdL, g2]
        rfl
      exact e2
    walk_at "st"
    exact kf_w hf' rfl (encB_nc _ _) q
end
end K85

namespace K85
open PySem L2 Dl PL
section
variable {ps : List Str} {b : Nat} {U : Int} {f : Str → Int} {E : List Rg} {h p0 : Str}
theorem wt_may (h : Str) (e : Rg) : wt (mayOf h e) = 2 * e.n := by
  show (if may = must then _ else 2 * e.n) = _
  rw [if_neg (Ne.symm must_may)]
theorem nt_mays (p : Str) : ∀ E : List Rg, nt (E.map (mayOf h)) p = 0 - 2 * sm (hf p) E
  | [] => rfl
  | e :: E => by
    have ih := nt_mays p E
    unfold nt at *
    rw [List.map_cons, sm, sm, ih]
    have : nt1 p (mayOf h e) = (if e.b = p then 2 * e.n else 0) - (if e.a = p then 2 * e.n else 0) := by
      show (if e.b = p then wt (mayOf h e) else 0) - (if e.a = p then wt (mayOf h e) else 0) = _
      rw [wt_may]
    rw [this, hf]
    split <;> split <;> omega
theorem nt_must (s : Str → Int) (x p : Str) : nt (mustOf h p0 s x) p = (if x = p then 2 * s x else 0) - (if p0 = p then 2 * s x else 0) := by
  have wm : ∀ a b n, wt ⟨h, must, a, b, n⟩ = 2 * n := fun a b n => if_pos rfl
  unfold mustOf
  split
  · show nt1 p ⟨h, must, p0, x, s x⟩ + 0 = _
    unfold nt1
    rw [wm]
    show (if x = p then _ else _) - (if p0 = p then _ else _) + 0 = _
    omega
  · split
    · show nt1 p ⟨h, must, x, p0, -(s x)⟩ + 0 = _
      unfold nt1
      rw [wm]
      show (if p0 = p then _ else _) - (if x = p then _ else _) + 0 = _
      split <;> split <;> omega
    · have : s x = 0 := by omega
      rw [this]
      simp [nt, sm]
theorem nt_musts (s : Str → Int) (p : Str) : ∀ l : List Str, l.Nodup → nt (l.flatMap (mustOf h p0 s)) p = (if p ∈ l then 2 * s p else 0) - (if p0 = p then 2 * sm s l else 0)
  | [], _ => by simp [nt, sm]
  | x :: l, nd => by
    rw [List.nodup_cons] at nd
    rw [List.flatMap_cons, nt_app, nt_must, nt_musts s p l nd.2, sm]
    by_cases e : x = p
    · subst e
      simp only [nd.1, if_true, if_false, List.mem_cons, true_or]
      split <;> omega
    · have e' : ¬ p = x := fun q => e q.symm
      simp only [e, e', if_false, List.mem_cons, false_or]
      split <;> split <;> omega
theorem sm_sal (hp : PsOk ps) (f : Str → Int) : ∀ E : List Rg, (∀ e ∈ E, e.a ∈ ps ∧ e.b ∈ ps) → sm (sal f E) ps = sm f ps
  | [], _ => by
    refine sm_congr fun p _ => ?_
    simp [sal, sm]
  | e :: E, hm => by
    have ih := sm_sal hp f E fun x hx => hm x (by simp [hx])
    obtain ⟨ha, hb⟩ := hm e (by simp)
    have e1 : sm (sal f (e :: E)) ps = sm (fun p => hf p e + sal f E p) ps := sm_congr fun p _ => by
      unfold sal
      rw [sm]
      omega
    rw [e1, sm_add, ih]
    have := sm_pt hp.nd hb ha e.n
    unfold hf
    omega
theorem ps_cons (h0 : ps[0]? = some p0) : ps = p0 :: ps.drop 1 := by
  cases ps with
  | nil => simp at h0
  | cons x l => simp at h0; rw [h0]; rfl
theorem fbk_nt (hp : PsOk ps) (ho : FmOk ps b U f E) (h0 : ps[0]? = some p0) {p : Str} (hm : p ∈ ps) : nt (fbk ps h p0 f E) p = 2 * f p := by
  have e := ps_cons h0
  have nd := hp.nd
  rw [e, List.nodup_cons] at nd
  have hs := sm_sal hp f E fun e he => ⟨(ho.all e he).ma, (ho.all e he).mb⟩
  rw [ho.sum, e, sm] at hs
  have hs : sal f E p0 + sm (sal f E) (ps.drop 1) = 0 := hs
  unfold fbk
  rw [nt_app, nt_mays, nt_musts _ _ _ nd.2]
  have hsp : sal f E p = f p + sm (hf p) E := rfl
  by_cases q : p0 = p
  · subst q
    rw [if_neg nd.1, if_pos rfl]
    omega
  · have : p ∈ ps.drop 1 := by
      rw [e] at hm
      rcases List.mem_cons.mp hm with z | z
      · exact absurd z.symm q
      · exact z
    rw [if_pos this, if_neg q]
    omega
theorem must_k {s : Str → Int} {l : List Str} : ∀ r ∈ l.flatMap (mustOf h p0 s), r.k = must := fun r hr => by
  obtain ⟨x, _, hx⟩ := List.mem_flatMap.mp hr
  unfold mustOf at hx
  split at hx
  · rw [List.mem_singleton.mp hx]
  · split at hx
    · rw [List.mem_singleton.mp hx]
    · simp at hx
theorem fbk_ents (ho : FmOk ps b U f E) : ents ps (fbk ps h p0 f E) = (E.map (ent0 ps)).map fun e => (e.1, e.2 * 2) := by
  unfold fbk
  rw [ents_app]
  have e1 : ents ps ((ps.drop 1).flatMap (mustOf h p0 (sal f E))) = [] := by
    unfold ents
    rw [List.filter_eq_nil_iff.mpr]
    · rfl
    · intro r hr
      rw [must_k r hr]
      simp [must_may]
  rw [e1, List.append_nil]
  unfold ents
  rw [List.filter_eq_self.mpr]
  · rw [List.map_map, List.map_map]
    refine List.map_congr_left fun e he => ?_
    have hlt := (ho.all e he).lt
    refine Prod.ext (Prod.ext ?_ ?_) ?_
    · show (if (ix ps e.b : Int) < (ix ps e.a : Int) then (ix ps e.b : Int) else (ix ps e.a : Int)) = (ix ps e.a : Int)
      rw [if_neg (by omega)]
    · show (if (ix ps e.b : Int) > (ix ps e.a : Int) then (ix ps e.b : Int) else (ix ps e.a : Int)) = (ix ps e.b : Int)
      rw [if_pos (by omega)]
    · show 2 * e.n = e.n * 2
      omega
  · intro r hr
    obtain ⟨e, _, rfl⟩ := List.mem_map.mp hr
    exact decide_eq_true rfl
theorem hf_le {e : Rg} (ok : TiOk ps b e) (p : Str) : (hf p e).natAbs ≤ 2 ^ b := by
  have h1 := ok.pos
  have h2 := ok.le
  have hc : ((2 ^ b : Nat) : Int) = (2 : Int) ^ b := by simp
  unfold hf
  split <;> split <;> omega
theorem sal_le (ho : FmOk ps b U f E) {p : Str} (hm : p ∈ ps) : (sal f E p).natAbs < 2 ^ (b + 6) := by
  have h1 := ho.fb p hm
  have h2 := sm_le (hf p) (B := 2 ^ b) E fun e he => hf_le (ho.all e he) p
  have h3 : E.length * 2 ^ b ≤ 40 * 2 ^ b := Nat.mul_le_mul_right _ ho.few
  have h4 : 2 ^ (b + 6) = 64 * 2 ^ b := by rw [Nat.pow_add, Nat.mul_comm]
  have h5 := Nat.two_pow_pos b
  unfold sal
  omega
theorem must_of {s : Str → Int} {l : List Str} {r : Rg} (hr : r ∈ l.flatMap (mustOf h p0 s)) : ∃ x ∈ l, r.h = h ∧ r.k = must ∧ r.n = ((s x).natAbs : Nat) ∧ 0 < r.n ∧ ((r.a = p0 ∧ r.b = x) ∨ (r.a = x ∧ r.b = p0)) := by
  obtain ⟨x, hx0, hx⟩ := List.mem_flatMap.mp hr
  refine ⟨x, hx0, ?_⟩
  unfold mustOf at hx
  split at hx
  · rw [List.mem_singleton.mp hx]
    rename_i hs
    exact ⟨rfl, rfl, by show s x = _; omega, hs, .inl ⟨rfl, rfl⟩⟩
  · split at hx
    · rw [List.mem_singleton.mp hx]
      rename_i hs
      exact ⟨rfl, rfl, by show -(s x) = _; omega, by show 0 < -(s x); omega, .inr ⟨rfl, rfl⟩⟩
    · simp at hx
theorem fbk_rg (hp : PsOk ps) (ho : FmOk ps b U f E) (h0 : ps[0]? = some p0) (hh : PyData.strOk h = true) : ∀ r ∈ fbk ps h p0 f E, RgOk ps (b + 6) r ∧ r.h = h := by
  intro r hr
  have e := ps_cons h0
  have nd := hp.nd
  rw [e, List.nodup_cons] at nd
  have h4 : (2 : Int) ^ (b + 6) = 64 * 2 ^ b := by rw [Int.pow_add, Int.mul_comm]; rfl
  have h4' : (2 : Nat) ^ (b + 6) = 64 * 2 ^ b := by rw [Nat.pow_add, Nat.mul_comm]
  have h5 : ((2 ^ b : Nat) : Int) = (2 : Int) ^ b := by simp
  have h6 := Nat.two_pow_pos b
  rcases List.mem_append.mp hr with hr | hr
  · obtain ⟨e, he, rfl⟩ := List.mem_map.mp hr
    have ok := ho.all e he
    have h1 := ok.pos
    have h2 := ok.le
    exact ⟨⟨hh, .inr rfl, ok.ma, ok.mb, fun q => by have := ok.lt; have q : e.a = e.b := q; rw [q] at this; omega, by show 0 < 2 * e.n; omega, by show 2 * e.n < _; rw [h4]; omega⟩, rfl⟩
  · obtain ⟨x, hx, a1, a2, a3, a4, a5⟩ := must_of hr
    have hxp : x ∈ ps := List.mem_of_mem_drop hx
    have hpp : p0 ∈ ps := by rw [e]; simp
    have hne : p0 ≠ x := fun q => nd.1 (q ▸ hx)
    have hl := sal_le ho hxp
    refine ⟨⟨by rw [a1]; exact hh, .inl a2, ?_, ?_, ?_, a4, by rw [a3, h4]; omega⟩, a1⟩
    · rcases a5 with ⟨q, _⟩ | ⟨q, _⟩ <;> rw [q] <;> assumption
    · rcases a5 with ⟨_, q⟩ | ⟨_, q⟩ <;> rw [q] <;> assumption
    · rcases a5 with ⟨q, q'⟩ | ⟨q, q'⟩ <;> rw [q, q']
      · exact hne
      · exact Ne.symm hne
theorem fbk_len (hp : PsOk ps) : (fbk ps h p0 f E).length + 1 ≤ E.length + ps.length := by
  have h1 := must_len h p0 (sal f E) (ps.drop 1)
  have h2 := hp.l2
  unfold fbk
  rw [List.length_append, List.length_map]
  rw [List.length_drop] at h1
  omega
theorem fbk_bk (hp : PsOk ps) (ho : FmOk ps b U f E) (h0 : ps[0]? = some p0) (hh : PyData.strOk h = true) (hU : U < 2 ^ 64) : BkOk ps (b + 6) U (fbk ps h p0 f E) where
  pos := ho.pos
  lt := hU
  few := by
    have := fbk_len (h := h) (p0 := p0) (f := f) (E := E) hp
    have := ho.few
    have := hp.l9
    omega
  all := fun r hr => (fbk_rg hp ho h0 hh r hr).1
/-- its form is the form that it tells -/
theorem fbk_form {r : Raw} (hp : PsOk ps) (hr : RbOk ps b r f) (h0 : ps[0]? = some p0) (hh : PyData.strOk h = true) (hU : r.u / r.c < 2 ^ 64) : (rawB ps (r.u / r.c) (fbk ps h p0 (fun p => f p / r.c) (rE ps r))).form = r.form := by
  have ho := rFm hp hr
  have hb := fbk_bk hp ho h0 hh hU
  rw [← Raw.low_form hr.ok]
  refine Raw.prop_form (rawB_ok hb) (Raw.low_ok hr.ok) ?_ fun k => ?_
  · show (ps.map _).map (fun x => r.u / r.c * x) = (r.N.map (· / r.c)).map fun x => 2 * (r.u / r.c) * x
    rw [hr.N, List.map_map, List.map_map, List.map_map]
    refine List.map_congr_left fun p hm => ?_
    simp only [Function.comp]
    rw [fbk_nt hp ho h0 hm, ← Int.mul_assoc, Int.mul_comm _ 2]
  · show r.u / r.c * tsum (ents ps _) k = 2 * (r.u / r.c) * r.low.t k
    rw [fbk_ents ho, tsum_scl, rE_tsum hp hr, ← Int.mul_assoc, Int.mul_comm _ 2]
/-- a book's raw form -/
theorem rawB_rb {j : Nat} {u : Int} {rs : List Rg} (hp : PsOk ps) (hb : BkOk ps j u rs) (hl : rs.length ≤ 40) : RbOk ps (j + 8) (rawB ps u rs) (nt rs) where
  ok := rawB_ok hb
  N := rfl
  ks := fun k hk => by
    rw [show (rawB ps u rs).ks = (tally (ents ps rs)).map (·.1) from rfl, (tally_ok (ents ps rs)).2.1 k] at hk
    obtain ⟨e, he, rfl⟩ := List.mem_map.mp hk
    obtain ⟨r, hr, rfl⟩ := List.mem_map.mp he
    have ok := hb.all r (List.mem_filter.mp hr).1
    have h1 := ix_lt ok.ma
    have h2 := ix_lt ok.mb
    have h3 : ix ps r.a ≠ ix ps r.b := fun q => ok.ab (ix_inj ok.ma q ok.mb)
    show 0 ≤ (if (ix ps r.b : Int) < (ix ps r.a : Int) then (ix ps r.b : Int) else (ix ps r.a : Int)) ∧ (if (ix ps r.b : Int) < (ix ps r.a : Int) then (ix ps r.b : Int) else (ix ps r.a : Int)) < (if (ix ps r.b : Int) > (ix ps r.a : Int) then (ix ps r.b : Int) else (ix ps r.a : Int)) ∧ (if (ix ps r.b : Int) > (ix ps r.a : Int) then (ix ps r.b : Int) else (ix ps r.a : Int)) < _
    split <;> split <;> omega
  pos := fun k => (tsum_pos (ents_pos hb.all) k).1
  bt := fun k => tie_le hb.all hb.few k
  bf := fun p _ => nt_le hb.all hb.few p
  sum := sm_nt hp hb.all
  few := by
    show ((tally (ents ps rs)).map (·.1)).length ≤ 40
    rw [List.length_map]
    have := ents_len (ps := ps) rs
    omega
theorem rneg_rb {r : Raw} (hp : PsOk ps) (h : RbOk ps b r f) : RbOk ps b (rneg r) (fun p => 0 - f p) where
  ok := rneg_ok h.ok
  N := by
    show r.N.map _ = _
    rw [h.N, List.map_map]
    rfl
  ks := h.ks
  pos := h.pos
  bt := h.bt
  bf := fun p hm => by have := h.bf p hm; omega
  sum := by
    have := sm_sub (fun _ => 0) f ps
    rw [h.sum, sm_zero] at this
    rw [this]
    rfl
  few := h.few
end
end K85

namespace K85
open PySem L2 Dl PL
theorem sortOk_S {l : List Str} (hl : l.length ≤ 1000) : SortOk (l.map D.str) where
  pure := by
    rw [List.all_map]
    exact List.all_eq_true.mpr fun r _ => by simp only [Function.comp]; rw [D.nol]
  al := fun d hd d' hd' => by
    rw [List.map_map] at hd hd'
    obtain ⟨a, _, rfl⟩ := List.mem_map.mp hd
    obtain ⟨b, _, rfl⟩ := List.mem_map.mp hd'
    simp [D.py, PySem.W.alike]
  so := .inr fun d hd => by
    rw [List.map_map] at hd
    obtain ⟨a, _, rfl⟩ := List.mem_map.mp hd
    simp [D.py]
  few := by rw [List.length_map, line]; omega
  deep := fun d hd => by
    obtain ⟨a, _, rfl⟩ := List.mem_map.mp hd
    simp [D.py, PyData.depth]
theorem sort_perm (l : List D) : (sortD l).Perm l := List.mergeSort_perm _ _
theorem perm_two {α : Type} {l : List α} {x y : α} (h : l.Perm [x, y]) : l = [x, y] ∨ l = [y, x] := by
  match l, h.length_eq, h with
  | [c, d], _, h =>
    have hc : c ∈ [x, y] := h.mem_iff.mp (by simp)
    rcases List.mem_cons.mp hc with e | e
    · subst e
      have := (List.perm_cons c).mp h
      rw [List.perm_singleton] at this
      injection this with e2 _
      exact .inl (by rw [e2])
    · have e := List.mem_singleton.mp e
      subst e
      have := (List.perm_cons c).mp (h.trans (List.Perm.swap _ _ _))
      rw [List.perm_singleton] at this
      injection this with e2 _
      exact .inr (by rw [e2])
open Classical in
noncomputable def two (a b : Str) : Str × Str := if sortD [.str a, .str b] = [.str a, .str b] then (a, b) else (b, a)
theorem two_ok (a b : Str) : sortD [.str a, .str b] = [.str (two a b).1, .str (two a b).2] := by
  unfold two
  split
  · assumption
  · rename_i h
    rcases perm_two (sort_perm [.str a, .str b]) with e | e
    · exact absurd e h
    · exact e
theorem two_cases (a b : Str) : two a b = (a, b) ∨ two a b = (b, a) := by
  unfold two
  split
  · exact .inl rfl
  · exact .inr rfl
noncomputable def pair (r : Rg) : D := .lst [.str (two r.a r.b).1, .str (two r.a r.b).2]
/-- between the same places -/
def alikeR (x y : Rg) : Prop := (x.a = y.a ∧ x.b = y.b) ∨ (x.a = y.b ∧ x.b = y.a)
theorem two_ne {x y : Rg} (h : ¬ alikeR x y) : two x.a x.b ≠ two y.a y.b := by
  intro e
  apply h
  rcases two_cases x.a x.b with q | q <;> rcases two_cases y.a y.b with q' | q' <;> rw [q, q', Prod.mk.injEq] at e
  · exact .inl e
  · exact .inr e
  · exact .inr ⟨e.2, e.1⟩
  · exact .inl ⟨e.2, e.1⟩
def str2 (p : Str × Str) : PyData := .list [.str p.1, .str p.2]
theorem pyO_pair {S : Sto} : ∀ l : List Rg, pyO S (l.map pair) = some (l.map fun r => str2 (two r.a r.b))
  | [] => rfl
  | r :: l => by
    rw [List.map_cons, pyO, pyO_pair l]
    rfl
theorem shaped_pairs : ∀ l : List Rg, (∀ r ∈ l, PyData.strOk r.a = true ∧ PyData.strOk r.b = true) → PyData.canLayAll0 (l.map fun r => str2 (two r.a r.b)) = true ∧ PyData.depthAll (l.map fun r => str2 (two r.a r.b)) ≤ 2
  | [], _ => by simp [PyData.canLayAll0, PyData.depthAll]
  | r :: l, h => by
    obtain ⟨h1, h2⟩ := shaped_pairs l fun x hx => h x (by simp [hx])
    obtain ⟨ha, hb⟩ := h r (by simp)
    have hs : PyData.strOk (two r.a r.b).1 = true ∧ PyData.strOk (two r.a r.b).2 = true := by
      rcases two_cases r.a r.b with q | q <;> rw [q]
      · exact ⟨ha, hb⟩
      · exact ⟨hb, ha⟩
    have e1 : (str2 (two r.a r.b)).canLay0 = true := by simp only [str2, PyData.canLay0, PyData.canLayAll0, hs.1, hs.2, Bool.and_true]
    have e2 : (str2 (two r.a r.b)).depth ≤ 1 := by
      simp only [str2, PyData.depth, PyData.depthAll]
      omega
    rw [List.map_cons, PyData.canLayAll0, PyData.depthAll, h1, e1]
    exact ⟨rfl, by omega⟩
theorem in_pairs {S : Sto} {n : Nat} {l : List Rg} {r : Rg} (g : S[n]? = some (.lst (l.map pair))) (h : ∀ x ∈ r :: l, PyData.strOk x.a = true ∧ PyData.strOk x.b = true) (hn : ∀ x ∈ l, ¬ alikeR x r) : oIn (pair r) (.loc n) S = some (.bl false, S) := by
  obtain ⟨a1, a2⟩ := shaped_pairs l fun x hx => h x (by simp [hx])
  obtain ⟨b1, b2⟩ := shaped_pairs [r] fun x hx => h x (by rw [List.mem_singleton.mp hx]; simp)
  rw [List.map_cons, List.map_nil, PyData.canLayAll0, PyData.canLayAll0, Bool.and_true] at b1
  rw [List.map_cons, List.map_nil, PyData.depthAll, PyData.depthAll] at b2
  have hin : inL S (pair r) (l.map pair) = some false := by
    unfold inL
    rw [if_neg (fun q => by have := q.1; simp [pair, flatD] at this)]
    have e1 : py1 S (pair r) = some (str2 (two r.a r.b)) := rfl
    rw [e1, pyO_pair]
    simp only
    have s1 : SeqAt.shaped (str2 (two r.a r.b)) = true := by
      rw [SeqAt.shaped, b1, Bool.true_and]
      exact decide_eq_true (by omega)
    have s2 : SeqAt.shaped (.list (l.map fun r => str2 (two r.a r.b))) = true := by
      rw [SeqAt.shaped, PyData.canLay0, a1, Bool.true_and, PyData.depth]
      exact decide_eq_true (by omega)
    rw [if_pos ⟨s1, s2⟩, List.any_map]
    congr 1
    rw [List.any_eq_false]
    intro x hx q
    have ne := two_ne (hn x hx)
    simp only [Function.comp, str2, PyData.eqv, PyData.eqvAll, Bool.and_true, Bool.and_eq_true, beq_iff_eq] at q
    exact ne (Prod.ext q.1 q.2)
  simp only [oIn, inB, g, hin]
  rfl
section
variable {S : Sto} {ps : List Str} {j : Nat} {u : Int} {rs : List Rg} {Q : QE}
theorem ne_nil_s {S : Sto} : oNe (.lst []) (.lst []) S = some (.bl false, S) := by
  simp [oNe, eqB, py1, D.pure, D.pures, D.py, D.pys, SeqAt.shaped, PyData.canLay0, PyData.canLayAll0, PyData.depth, PyData.depthAll, PyData.eqv, PyData.eqvAll]
theorem wf_lenG {l : List D} {P : QE} (q : P (.int (l.length : Nat)) S) : WF bLen [.tup l] S P := ⟨_, _, rfl, q⟩
theorem isb_w {h : Str} {r : Raw} (hf' : Flat S) (hj : j ≤ 240) (hp : PsOk ps) (hb : BkOk ps j u rs) (hh : ∀ r ∈ rs, r.h = h) (hh2 : PyData.strOk h = true)
    (hl : rs.length ≤ ps.length + r.ks.length) (hd : rs.Pairwise fun x y => x.k = may → y.k = may → ¬ alikeR x y) (hm : (rs.filter fun r => decide (r.k = must)).length < ps.length) (he : (rawB ps u rs).form = r.form)
    (q : Q (.bl true) S) : WF F__law_is_book [encP ps, encB u rs, .str h, r.form] S Q := by
  refine wf_e rfl ?_
  show Ws m__law_is_book [some (encP ps), some (encB u rs), some (.str h), some r.form, none, none, none, none, none] S _
  unfold m__law_is_book
  have hu := hb.pos
  walk_at "st"
  refine isx true rfl (by decide) (ifF ?_)
  walk_at "st"
  refine wf_lenG ?_
  walk_at "st"
  refine ifF ?_
  walk_at "st"
  refine isx true rfl (by decide) (ifF ?_)
  walk_at "st"
  refine isx false rfl (by decide) (ifF ?_)
  walk_at "st"
  refine ifB (fun hc => absurd (of_decide_eq_true hc) (by omega)) fun _ => ?_
  walk_at "st"
  refine isx true rfl (by decide) (ifF ?_)
  walk_at "st"
  refine wf_lenG ?_
  walk_at "st"
  rw [List.length_map, List.length_map, List.length_map, (srt_perm _).length_eq, List.length_map]
  refine ifB (fun hc => absurd (of_decide_eq_true hc) (by omega)) fun _ => ?_
  walk_at "st"
  refine wi_v ?_
  walk_at "st"
  refine ⟨(fun z e => by cases e), _, _, rfl, ?_⟩
  refine wl_fold (σ := List Rg) (xs := rs) (enc := encR) (fun s => [some (encP ps), some (encB u rs), some (.str h), some r.form, some (.int ((s.filter fun r => decide (r.k = must)).length : Nat)), some (.loc S.length), none, none, none]) (fun s => S ++ [.lst ((s.filter fun r => decide (r.k = may)).map pair)]) (fun p r => p ++ [r]) (fun p s => s = p) (st := []) ?_ rfl rfl rfl ?_
  · rintro p x q' s ex rfl
    have ok := hb.all x (by rw [ex]; simp)
    have hxh := hh x (by rw [ex]; simp)
    have hsl : s.length ≤ 100 := by
      have := congrArg List.length ex
      have := hb.few
      rw [List.length_append] at *
      omega
    have hfl : Flat (S ++ [Cell.lst ((s.filter fun r => decide (r.k = may)).map pair)]) := hf'.app (ncs_map _ (fun _ => by simp [pair, D.nc, D.ncs]) _)
    have g : ∀ l : List D, (S ++ [Cell.lst l])[S.length]? = some (.lst l) := fun f => get_end S [] _
    refine ⟨_, rfl, ?_⟩
    unfold b__law_is_book_1
    walk_at "st"
    refine isx true rfl (by decide) (ifF ?_)
    walk_at "st"
    refine wf_lenG ?_
    walk_at "st"
    refine ifF ?_
    walk_at "st"
    refine we_lc (xs := [x.h, x.k, x.a, x.b]) (enc := D.str) (lk := []) (S1 := S ++ [Cell.lst ((s.filter fun r => decide (r.k = may)).map pair)]) (fun _ => false) D.str rfl (lkd_nil _) (by rw [line]; simp) hfl rfl (fun _ _ => by rw [D.nc]) ?_ ?_
    · intro y _ T
      refine ⟨_, rfl, ?_⟩
      walk_at "st"
      refine isx true rfl (by decide) ?_
      exact ⟨rfl, rfl, fun q => by cases q⟩
    walk_at "st"
    refine ⟨hfl, rfl, by rw [D.ncs], ?_⟩
    walk_at "st"
    refine wo ne_nil_s ?_
    walk_at "st"
    refine isx true rfl (by decide) (ifF ?_)
    walk_at "st"
    refine isx false rfl (by decide) (ifF ?_)
    walk_at "st"
    have hpos := ok.pos
    refine ifB (fun hc => absurd (of_decide_eq_true hc) (by omega)) fun _ => ?_
    walk_at "st"
    refine wo (by rw [hxh]; exact ne_str_s hh2 _) ?_
    walk_at "st"
    refine ⟨hfl, rfl, by simp [D.ncs, D.nc], ?_⟩
    refine wo (notIn_mm ok.kk) ?_
    walk_at "st"
    refine wo (notIn_ps ok.ma) ?_
    walk_at "st"
    refine wo (notIn_ps ok.mb) ?_
    walk_at "st"
    refine wo_eqs (hp.ok _ ok.ma) (hp.ok _ ok.mb) ?_
    walk_at "st"
    refine ifB (fun hc => absurd (beq_iff_eq.mp hc) ok.ab) fun _ => ?_
    walk_at "st"
    refine we_tn ?_
    walk_at "st"
    refine ⟨hfl, rfl, by simp [D.ncs, D.nc], ?_⟩
    walk_at "st"
    refine wf (z := .loc (S ++ [Cell.lst ((s.filter fun r => decide (r.k = may)).map pair)]).length) (S1 := (S ++ [Cell.lst ((s.filter fun r => decide (r.k = may)).map pair)]) ++ [.lst [.str (two x.a x.b).1, .str (two x.a x.b).2]]) ?_ ?_
    · rw [bSorted]
      simp only [iterD]
      have : SortOk [D.str x.a, D.str x.b] := sortOk_S (l := [x.a, x.b]) (by simp)
      rw [if_pos this, two_ok]
    refine ⟨_, _, rfl, rfl, hfl, rfl, by simp [D.ncs, D.nc], ?_⟩
    walk_at "st"
    refine wo_eqs (j := must) ok.sk must_ok ?_
    walk_at "st"
    refine ifB (fun hc => ?_) fun hc => ?_
    · have hk : x.k = must := beq_iff_eq.mp hc
      walk_at "st"
      refine ⟨?_, ?_, rfl⟩
      · have : ((s ++ [x]).filter fun r => decide (r.k = must)).length = (s.filter fun r => decide (r.k = must)).length + 1 := by simp [hk]
        rw [this]
        rfl
      · have : ((s ++ [x]).filter fun r => decide (r.k = may)) = s.filter fun r => decide (r.k = may) := by simp [hk, must_may]
        rw [this]
    · have hk : x.k = may := by
        rcases ok.kk with e | e
        · rw [e] at hc; simp at hc
        · exact e
      walk_at "st"
      refine wo (in_pairs (r := x) (g _) ?_ ?_) ?_
      · intro y hy
        have hy' : y ∈ rs := by
          rcases List.mem_cons.mp hy with e | e
          · rw [e, ex]; simp
          · have := (List.mem_filter.mp e).1
            rw [ex]; simp [this]
        have ok := hb.all y hy'
        exact ⟨hp.ok _ ok.ma, hp.ok _ ok.mb⟩
      · intro y hy
        obtain ⟨hy1, hy2⟩ := List.mem_filter.mp hy
        rw [ex] at hd
        exact (List.pairwise_append.mp hd).2.2 y hy1 x (by simp) (of_decide_eq_true hy2) hk
      walk_at "st"
      refine ⟨ty_l (g _), ?_⟩
      walk_at "st"
      refine wm (m_app (g _) (by
        rw [List.length_map, line]
        have := List.length_filter_le (fun r : Rg => decide (r.k = may)) s
        omega)) ?_
      rw [set_end]
      walk_at "st"
      have e1 : ((s ++ [x]).filter fun r => decide (r.k = must)) = s.filter fun r => decide (r.k = must) := by simp [hk, Ne.symm must_may]
      have e2 : ((s ++ [x]).filter fun r => decide (r.k = may)) = (s.filter fun r => decide (r.k = may)) ++ [x] := by simp [hk]
      refine ⟨by rw [e1]; rfl, ?_, rfl⟩
      rw [e2, List.map_append]
      rfl
  · intro e
    rw [e]
    have hfl : Flat (S ++ [Cell.lst ((rs.filter fun r => decide (r.k = may)).map pair)]) := hf'.app (ncs_map _ (fun _ => by simp [pair, D.nc, D.ncs]) _)
    walk_at "st"
    refine ifB (fun _ => ?_) fun hc => absurd (of_decide_eq_false hc) (by rw [List.length_map]; omega)
    walk_at "st"
    refine (lform hfl hj hp hb ?_).mono fun d S1 w => wa_0 w
    rw [he]
    walk_at "st"
    refine wo_eqF ?_
    rw [feq_self]
    exact kf_w hf' rfl (by rw [D.nc]) q
end
end K85

namespace K85
open PySem L2 Dl PL
section
variable {S : Sto} {ps : List Str} {b : Nat} {U : Int} {f : Str → Int} {E : List Rg} {Q : QE} {h p0 : Str}
theorem fbk_pair (ho : FmOk ps b U f E) : (fbk ps h p0 f E).Pairwise fun x y => x.k = may → y.k = may → ¬ alikeR x y := by
  unfold fbk
  have hm : ∀ r ∈ (ps.drop 1).flatMap (mustOf h p0 (sal f E)), ¬ r.k = may := fun r hr q => must_may ((must_k r hr).symm.trans q)
  rw [List.pairwise_append]
  refine ⟨?_, ?_, fun x _ y hy _ q => absurd q (hm y hy)⟩
  · rw [List.pairwise_map]
    have nd := ho.nd
    rw [List.Nodup, List.pairwise_map] at nd
    refine List.Pairwise.imp_of_mem ?_ nd
    intro x y hx hy hne _ _ q
    have lx := (ho.all x hx).lt
    have ly := (ho.all y hy).lt
    rcases q with ⟨q1, q2⟩ | ⟨q1, q2⟩
    · have q1 : x.a = y.a := q1
      have q2 : x.b = y.b := q2
      exact hne (by unfold ent0; rw [q1, q2])
    · have q1 : x.a = y.b := q1
      have q2 : x.b = y.a := q2
      rw [q1, q2] at lx
      omega
  · exact List.Pairwise.imp_of_mem (R := fun _ _ => True) (fun {x y} hx _ _ q => absurd q (hm x hx)) (List.pairwise_of_forall fun _ _ => trivial)
theorem fbk_musts (hp : PsOk ps) : ((fbk ps h p0 f E).filter fun r => decide (r.k = must)).length < ps.length := by
  unfold fbk
  have e : ((E.map (mayOf h)).filter fun r => decide (r.k = must)) = [] := List.filter_eq_nil_iff.mpr fun r hr => by
    obtain ⟨e, _, rfl⟩ := List.mem_map.mp hr
    show ¬ decide (may = must) = true
    simp [Ne.symm must_may]
  rw [List.filter_append, e, List.nil_append]
  have h1 := must_len h p0 (sal f E) (ps.drop 1)
  have h2 := List.length_filter_le (fun r : Rg => decide (r.k = must)) ((ps.drop 1).flatMap (mustOf h p0 (sal f E)))
  rw [List.length_drop] at h1
  have := hp.l2
  omega
theorem rE_len (r : Raw) : (rE ps r).length = r.ks.length := by
  unfold rE
  rw [List.length_map, (srt_perm _).length_eq, List.length_map]
def fb (ps : List Str) (h p0 : Str) (r : Raw) (f : Str → Int) : List Rg := fbk ps h p0 (fun p => f p / r.c) (rE ps r)
theorem fisb {r : Raw} (hf' : Flat S) (hp : PsOk ps) (hr : RbOk ps b r f) (hb : b ≤ 200) (h0 : ps[0]? = some p0) (hh : PyData.strOk h = true) (hU : r.u / r.c < 2 ^ 64) (q : Q (.bl true) S) :
    WF F__law_is_book [encP ps, encB (r.u / r.c) (fb ps h p0 r f), .str h, r.form] S Q := by
  have ho := rFm hp hr
  refine isb_w hf' (j := b + 6) (by omega) hp (fbk_bk hp ho h0 hh hU) (fun x hx => (fbk_rg hp ho h0 hh x hx).2) hh ?_ (fbk_pair ho) (fbk_musts hp) (fbk_form hp hr h0 hh hU) q
  have := fbk_len (h := h) (p0 := p0) (f := fun p => f p / r.c) (E := rE ps r) hp
  rw [rE_len] at this
  unfold fb
  omega
/-- a form's book -/
theorem fb_w {r : Raw} (hf' : Flat S) (hp : PsOk ps) (hr : RbOk ps b r f) (h0 : ps[0]? = some p0) (q : Q (encB (r.u / r.c) (fb ps h p0 r f)) S) : WF F_form_book [encP ps, .str h, r.form] S Q := by
  rw [rform_G hp hr]
  exact fbook_w hf' hp (rFm hp hr) h0 q
/-! two forms added -/
def ers (ps : List Str) (q : Int) (E : List Rg) : Tal := (E.map (ent0 ps)).map fun e => (e.1, e.2 * q)
def raddG (ps : List Str) (U0 : Int) (f0 : Str → Int) (E0 : List Rg) (U1 : Int) (f1 : Str → Int) (E1 : List Rg) : Raw := ⟨U0 * U1, ps.map fun p => f0 p * U1 + f1 p * U0, (tally (ers ps U1 E0 ++ ers ps U0 E1)).map (·.1), tsum (ers ps U1 E0 ++ ers ps U0 E1)⟩
theorem mul_big {x y : Int} {m n : Nat} (hx : x.natAbs < 2 ^ m) (hy : y.natAbs < 2 ^ n) : (x * y).natAbs < 2 ^ (m + n) := by
  rw [Int.natAbs_mul, Nat.pow_add]
  exact Nat.mul_lt_mul'' hx hy
variable {U0 U1 : Int} {f0 f1 : Str → Int} {E0 E1 : List Rg}
theorem ers_pos {q : Int} (hq : 0 < q) (ho : FmOk ps b U f E) : ∀ e ∈ ers ps q E, 0 < e.2 := fun e he => by
  obtain ⟨e', he', rfl⟩ := List.mem_map.mp he
  obtain ⟨x, hx, rfl⟩ := List.mem_map.mp he'
  exact Int.mul_pos (ho.all x hx).pos hq
theorem ers_le {q : Int} (hq : q.natAbs < 2 ^ 64) (ho : FmOk ps b U f E) : ∀ e ∈ ers ps q E, e.2.natAbs ≤ 2 ^ (b + 64) := fun e he => by
  obtain ⟨e', he', rfl⟩ := List.mem_map.mp he
  obtain ⟨x, hx, rfl⟩ := List.mem_map.mp he'
  have ok := ho.all x hx
  have hc : ((2 ^ b : Nat) : Int) = (2 : Int) ^ b := by simp
  have := ok.pos
  have := ok.le
  exact Nat.le_of_lt (mul_big (by show x.n.natAbs < _; omega) hq)
theorem radd_rw (h0 : FmOk ps b U0 f0 E0) (h1 : FmOk ps b U1 f1 E1) (hU0 : U0 < 2 ^ 64) (hU1 : U1 < 2 ^ 64) (hb : b ≤ 150) (hl : ps.length ≤ 9) : RwOk (raddG ps U0 f0 E0 U1 f1 E1) (tally (ers ps U1 E0 ++ ers ps U0 E1)) := by
  have p0 := h0.pos
  have p1 := h1.pos
  obtain ⟨a, bb, c⟩ := tally_ok (ers ps U1 E0 ++ ers ps U0 E1)
  have pos : ∀ e ∈ ers ps U1 E0 ++ ers ps U0 E1, 0 < e.2 := fun e he => by
    rcases List.mem_append.mp he with q | q
    · exact ers_pos p1 h0 e q
    · exact ers_pos p0 h1 e q
  have le : ∀ e ∈ ers ps U1 E0 ++ ers ps U0 E1, e.2.natAbs ≤ 2 ^ (b + 64) := fun e he => by
    rcases List.mem_append.mp he with q | q
    · exact ers_le (by omega) h0 e q
    · exact ers_le (by omega) h1 e q
  have hlen : (ers ps U1 E0 ++ ers ps U0 E1).length ≤ 80 := by
    have := h0.few
    have := h1.few
    simp only [ers, List.length_append, List.length_map]
    omega
  have hmono : 2 ^ (b + 64 + 8) ≤ 2 ^ 250 := Nat.pow_le_pow_right (by decide) (by omega)
  have h256 : 2 ^ (b + 64 + 8) = 256 * 2 ^ (b + 64) := by rw [Nat.pow_add (m := b + 64), Nat.mul_comm]
  have htp := Nat.two_pow_pos (b + 64)
  refine ⟨⟨Int.mul_pos p0 p1, a, fun k => ?_⟩, rfl, fun k _ => (c k).symm, ?_, fun x hx => ?_, fun k => ?_, ?_, ?_⟩
  · show k ∈ (tally _).map (·.1) ↔ _
    rw [bb k]
    exact (tsum_pos pos k).2
  · refine Nat.lt_of_lt_of_le (mul_big (m := 64) (n := 64) (by omega) (by omega)) (Nat.pow_le_pow_right (by decide) (by decide))
  · obtain ⟨p, hp, rfl⟩ := List.mem_map.mp hx
    have m0 := mul_big (h0.fb p hp) (show U1.natAbs < 2 ^ 64 by omega)
    have m1 := mul_big (h1.fb p hp) (show U0.natAbs < 2 ^ 64 by omega)
    show (f0 p * U1 + f1 p * U0).natAbs < 2 ^ 250
    omega
  · have := tsum_le le k
    have h3 : (ers ps U1 E0 ++ ers ps U0 E1).length * 2 ^ (b + 64) ≤ 80 * 2 ^ (b + 64) := Nat.mul_le_mul_right _ hlen
    show (tsum _ k).natAbs < 2 ^ 250
    omega
  · show (ps.map _).length ≤ 100
    rw [List.length_map]
    omega
  · have := tally_len (ers ps U1 E0 ++ ers ps U0 E1)
    omega
theorem added_w (hf' : Flat S) (hp : PsOk ps) (h0 : FmOk ps b U0 f0 E0) (h1 : FmOk ps b U1 f1 E1) (hU0 : U0 < 2 ^ 64) (hU1 : U1 < 2 ^ 64) (hb : b ≤ 150) (q : Q (raddG ps U0 f0 E0 U1 f1 E1).form S) : WF F__law_added [encG ps U0 f0 E0, encG ps U1 f1 E1] S Q := by
  have p0 := h0.pos
  have p1 := h1.pos
  have hl9 := hp.l9
  refine wf_e rfl ?_
  show Ws m__law_added [some (encG ps U0 f0 E0), some (encG ps U1 f1 E1), none, none, none, none, none, none, none, none, none] S _
  unfold m__law_added
  walk_at "st"
  refine wo_mulr (by omega) ?_
  walk_at "st"
  have hN : ∀ (f : Str → Int) (U : Int) (E : List Rg) (i : Nat) (p : Str) (T : Sto), ps[i]? = some p → oIx (.tup ((ps.map f).map D.int)) (.int (i : Nat)) T = some (.int (f p), T) := fun f U E i p T e => by
    show (atI ((ps.map f).map D.int) (i : Nat)).map _ = _
    rw [at_get (x := D.int (f p)) (by rw [List.getElem?_map, List.getElem?_map, e]; rfl)]
    rfl
  refine We.run (d := .loc S.length) (S1 := S ++ [.lst (ps.map fun p => D.int (f0 p * U1 + f1 p * U0))]) ?_ ?_
  · have := lc_map (it := iRng [(eCall bLen [(eBin oIx (eVar 0) (eC (.int 1)))])]) (g := gN 10) (ts := tYs) (el := (eBin oAdd (eBin oMul (eBin oIx (eBin oIx (eVar 0) (eC (.int 1))) (eVar 10)) (eBin oIx (eVar 1) (eC (.int 0)))) (eBin oMul (eBin oIx (eBin oIx (eVar 1) (eC (.int 1))) (eVar 10)) (eBin oIx (eVar 0) (eC (.int 0)))))) (vs := [10]) (S := S) (S1 := S) (xs := ps) (enc := fun p => D.int (ix ps p : Nat)) (lk := [])
      (Γ := [some (encG ps U0 f0 E0), some (encG ps U1 f1 E1), some (.int (U0 * U1)), none, none, none, none, none, none, none, none]) (fun _ => true) (fun p => D.int (f0 p * U1 + f1 p * U0)) ?_ (lkd_nil _) ?_ ?_
    · rw [filter_all] at this
      exact this
    · have : WI (iRng [(eCall bLen [(eBin oIx (eVar 0) (eC (.int 1)))])]) [some (encG ps U0 f0 E0), some (encG ps U1 f1 E1), some (.int (U0 * U1)), none, none, none, none, none, none, none, none] S fun l lk S1 => l = ps.map (fun p => D.int (ix ps p : Nat)) ∧ lk = [] ∧ S1 = S := by
        walk_at "st"
        refine ⟨_, rg_1 (by omega) (by simp; omega), ?_, rfl, rfl⟩
        refine List.ext_getElem? fun i => ?_
        have e : (((ps.map f0).map D.int).length : Int).toNat = ps.length := by simp
        rw [e, List.getElem?_map]
        by_cases hi : i < ps.length
        · rw [rgD_get _ _ _ _ hi, List.getElem?_eq_getElem hi]
          have := ix_of hp.nd (List.getElem?_eq_getElem hi)
          show some (D.int _) = some (D.int (ix ps ps[i] : Nat))
          rw [this]
          congr 2
          omega
        · rw [List.getElem?_eq_none (by rw [rgD_len]; omega), List.getElem?_eq_none (by omega)]
          rfl
      obtain ⟨l, lk, S1, e, rfl, rfl, rfl⟩ := this
      exact e
    · rw [line]; omega
    · intro p hm T
      refine ⟨_, rfl, wt_y ⟨rfl, rfl, fun _ => ?_⟩⟩
      walk_at "st"
      refine wo (hN f0 U0 E0 _ p _ (ix_get hm)) ?_
      walk_at "st"
      refine wo_mulr (by omega) ?_
      walk_at "st"
      refine wo (hN f1 U1 E1 _ p _ (ix_get hm)) ?_
      walk_at "st"
      refine wo_mulr (by omega) ?_
      walk_at "st"
      exact ⟨rfl, rfl⟩
  have hG : ∀ U f E, (encG ps U f E).nc = true := fun U f E => by
    unfold encG encF
    simp only [D.nc, D.ncs, ints_nc, ncs_map _ encT_nc]
    rfl
  have c0 : ∀ x : Int, (D.int x).nc = true := fun x => by rw [D.nc]
  have hfe : (ps.map fun p => D.int (f0 p * U1 + f1 p * U0)) = ((raddG ps U0 f0 E0 U1 f1 E1).N).map D.int := by
    show _ = (ps.map _).map D.int
    rw [List.map_map]
    rfl
  refine kr_n hf' rfl (Γ1 := [some (encG ps U0 f0 E0), some (encG ps U1 f1 E1), some (.int (U0 * U1)), some (.lst ((raddG ps U0 f0 E0 U1 f1 E1).N.map D.int)), none, none, none, none, none, none, none]) ?_ ?_
  · show rdg _ _ [some (encG ps U0 f0 E0), some (encG ps U1 f1 E1), some (.int (U0 * U1)), some (.loc S.length), none, none, none, none, none, none, none] = _
    have c1 := rdo_list (b := S.length) (Nat.le_refl _) (get_end S [] (.lst (ps.map fun p => D.int (f0 p * U1 + f1 p * U0)))) (ncs_map _ (fun _ => by rw [D.nc]) _)
    rw [hfe] at c1
    simp only [rdg_cons, rdg_nil, Option.bind_some, Option.bind_none, rdo_nc (c0 _), rdo_nc (hG _ _ _), hfe, c1]
  walk_at "st"
  unfold b__law_added_3
  walk_at "st"
  refine We.run (d := .loc S.length) (S1 := S ++ [.dt (encTal (tally []))]) rfl ?_
  walk_at "st"
  refine wi_v ?_
  have hfd : ∀ d : Tal, Flat (S ++ [Cell.dt (encTal d)]) := fun d => hf'.app (tal_flat d)
  walk_at "st"
  refine ⟨hfd _, rfl, by simp [D.ncs, D.nc, hG], ?_⟩
  refine ⟨(fun z e => by cases e), _, _, rfl, ?_⟩
  refine wl_fold (σ := Tal) (xs := [(encG ps U0 f0 E0, E0, U1), (encG ps U1 f1 E1, E1, U0)]) (enc := fun x : D × List Rg × Int => D.tup [x.1, .int x.2.2]) (fun _ => [none, none, some (.int (U0 * U1)), some (.lst ((raddG ps U0 f0 E0 U1 f1 E1).N.map D.int)), some (.loc S.length), none, none, none, none, none, none]) (fun es => S ++ [.dt (encTal (tally es))]) (fun es x => es ++ ers ps x.2.2 x.2.1) (fun p es => es.length ≤ p.length * 40) (st := []) ?_ (Nat.le_refl _) rfl rfl ?_
  · rintro p ⟨G, E, t⟩ q' es ex hes
    have hlp : p.length ≤ 1 := by
      have := congrArg List.length ex
      simp at this
      omega
    have hmem : (G, E, t) ∈ [(encG ps U0 f0 E0, E0, U1), (encG ps U1 f1 E1, E1, U0)] := by rw [ex]; simp
    have hx : t.natAbs < 2 ^ 64 ∧ E.length ≤ 40 ∧ ∃ U f, G = encG ps U f E := by
      have f0' := h0.few
      have f1' := h1.few
      rcases List.mem_cons.mp hmem with e | e
      · injection e with e1 e
        injection e with e2 e3
        subst e1 e2 e3
        exact ⟨by omega, f0', _, _, rfl⟩
      · rw [List.mem_singleton] at e
        injection e with e1 e
        injection e with e2 e3
        subst e1 e2 e3
        exact ⟨by omega, f1', _, _, rfl⟩
    obtain ⟨ht, hE, U', f', rfl⟩ := hx
    refine ⟨_, rfl, ?_⟩
    unfold b__law_added_2
    walk_at "st"
    refine wi_v ?_
    walk_at "st"
    refine ⟨(fun z e => by cases e), _, _, rfl, ?_⟩
    rw [List.map_map]
    refine wl_fold (σ := List Rg) (xs := E) (enc := encT ∘ rowE ps) (fun _ => [none, none, some (.int (U0 * U1)), some (.lst ((raddG ps U0 f0 E0 U1 f1 E1).N.map D.int)), some (.loc S.length), none, some (.int t), none, none, none, none]) (fun s => S ++ [.dt (encTal (tally (es ++ ers ps t s)))]) (fun p r => p ++ [r]) (fun p s => s = p) (st := []) ?_ rfl rfl (by simp [ers]) ?_
    · rintro p2 e q2 s ex2 rfl
      have hsl : s.length ≤ 40 := by
        have := congrArg List.length ex2
        rw [List.length_append] at this
        omega
      refine ⟨_, rfl, ?_⟩
      unfold b__law_added_1
      have g : ∀ d : Tal, (S ++ [Cell.dt (encTal d)])[S.length]? = some (.dt (encTal d)) := fun f => get_end S [] _
      walk_at "st"
      refine ⟨isDict_dt (g _), ?_⟩
      walk_at "st"
      refine ⟨_, dGet_dt (g _) (ent0 ps e).1, ?_⟩
      rw [valD_tal]
      walk_at "st"
      refine wo_mulr ht ?_
      walk_at "st"
      refine ⟨_, setIt_dt (g _) (by
        have := tally_len (es ++ ers ps t s)
        have h2 : (ers ps t s).length = s.length := by simp [ers]
        rw [List.length_append] at this
        omega) (ent0 ps e).1 _, ?_⟩
      rw [set_end]
      walk_at "st"
      refine ⟨rfl, ?_, rfl⟩
      have e3 : es ++ ers ps t (s ++ [e]) = (es ++ ers ps t s) ++ [((ent0 ps e).1, e.n * t)] := by
        unfold ers
        rw [List.map_append, List.map_append, List.append_assoc]
        rfl
      rw [e3, tally_snoc]
      rfl
    · intro e3
      rw [e3]
      walk_at "st"
      refine ⟨rfl, rfl, ?_⟩
      have h2 : (ers ps t E).length = E.length := by simp [ers]
      rw [List.length_append, List.length_append, h2, List.length_singleton]
      omega
  · intro _
    have hes : List.foldl (fun (es : Tal) (x : D × List Rg × Int) => es ++ ers ps x.2.2 x.2.1) [] [(encG ps U0 f0 E0, E0, U1), (encG ps U1 f1 E1, E1, U0)] = ers ps U1 E0 ++ ers ps U0 E1 := rfl
    rw [hes]
    have hLn : (D.lst ((raddG ps U0 f0 E0 U1 f1 E1).N.map D.int)).nc = true := by rw [D.nc]; exact ints_nc _
    refine kr_n hf' rfl (Γ1 := [none, none, some (.int (U0 * U1)), some (.lst ((raddG ps U0 f0 E0 U1 f1 E1).N.map D.int)), some (encDT (tally (ers ps U1 E0 ++ ers ps U0 E1))), none, none, none, none, none, none]) ?_ ?_
    · show rdg _ _ [none, none, some (.int (U0 * U1)), some (.lst ((raddG ps U0 f0 E0 U1 f1 E1).N.map D.int)), some (.loc S.length), none, none, none, none, none, none] = _
      have c1 := rdo_tal (b := S.length) (Nat.le_refl _) (get_end S [] (Cell.dt (encTal (tally (ers ps U1 E0 ++ ers ps U0 E1)))))
      simp only [rdg_cons, rdg_nil, Option.bind_some, Option.bind_none, rdo_nc (c0 _), rdo_nc hLn, c1]
    walk_at "st"
    refine form_law hf' (radd_rw h0 h1 hU0 hU1 hb hl9) ?_
    exact kf_v hf' rfl (form_nc _) q
end
end K85

namespace K85
open PySem L2 Dl PL
section
variable {ps : List Str} {b j : Nat} {u0 u1 : Int} {rs0 rs1 : List Rg} {r0 r1 : Raw} {f0 f1 : Str → Int}
def lc (u0 u1 : Int) : Int := ((Nat.lcm u0.natAbs u1.natAbs : Nat) : Int)
/-- two books put together -/
def bth (u0 : Int) (rs0 : List Rg) (u1 : Int) (rs1 : List Rg) : List Rg := rs0.map (scl (lc u0 u1 / u0)) ++ rs1.map (scl (lc u0 u1 / u1))
theorem lc_facts (h0 : 0 < u0) (h1 : 0 < u1) : 0 < lc u0 u1 ∧ lc u0 u1 ≤ u0 * u1 ∧ lc u0 u1 / u0 * u0 = lc u0 u1 ∧ lc u0 u1 / u1 * u1 = lc u0 u1 ∧ 0 < lc u0 u1 / u0 ∧ 0 < lc u0 u1 / u1 ∧ lc u0 u1 / u0 ≤ u1 ∧ lc u0 u1 / u1 ≤ u0 := by
  have e0 : ((u0.natAbs : Nat) : Int) = u0 := by omega
  have e1 : ((u1.natAbs : Nat) : Int) = u1 := by omega
  have hp : 0 < Nat.lcm u0.natAbs u1.natAbs := Nat.lcm_pos (by omega) (by omega)
  have hle : Nat.lcm u0.natAbs u1.natAbs ≤ u0.natAbs * u1.natAbs := Nat.le_of_dvd (Nat.mul_pos (by omega) (by omega)) (Nat.lcm_dvd_mul _ _)
  have hle' : lc u0 u1 ≤ u0 * u1 := by
    have : ((Nat.lcm u0.natAbs u1.natAbs : Nat) : Int) ≤ ((u0.natAbs * u1.natAbs : Nat) : Int) := by omega
    rw [Int.natCast_mul, e0, e1] at this
    exact this
  have d0 : u0 ∣ lc u0 u1 := by
    have := Int.natCast_dvd_natCast.mpr (Nat.dvd_lcm_left u0.natAbs u1.natAbs)
    rwa [e0] at this
  have d1 : u1 ∣ lc u0 u1 := by
    have := Int.natCast_dvd_natCast.mpr (Nat.dvd_lcm_right u0.natAbs u1.natAbs)
    rwa [e1] at this
  have hp' : 0 < lc u0 u1 := by unfold lc; omega
  have q0 : lc u0 u1 / u0 * u0 = lc u0 u1 := Int.ediv_mul_cancel d0
  have q1 : lc u0 u1 / u1 * u1 = lc u0 u1 := Int.ediv_mul_cancel d1
  have pp : ∀ {x y z : Int}, x * y = z → 0 < y → 0 < z → 0 < x := fun {x y z} e hy hz => by
    rcases Int.lt_or_le 0 x with q | q
    · exact q
    · have := Int.mul_le_mul_of_nonneg_right q (Int.le_of_lt hy)
      rw [Int.zero_mul] at this
      omega
  refine ⟨hp', hle', q0, q1, pp q0 h0 hp', pp q1 h1 hp', ?_, ?_⟩
  · rw [← q0, Int.mul_comm u0 u1] at hle'
    exact Int.le_of_mul_le_mul_right hle' h0
  · rw [← q1] at hle'
    exact Int.le_of_mul_le_mul_right hle' h1
theorem bth_bk {a0 a1 j0 j1 : Nat} (h0 : BkOk ps j0 u0 rs0) (h1 : BkOk ps j1 u1 rs1) (hu0 : u0 < 2 ^ a0) (hu1 : u1 < 2 ^ a1) (ha : a0 + a1 ≤ 64) (hj0 : j0 + a1 ≤ j) (hj1 : j1 + a0 ≤ j) (hl : rs0.length + rs1.length ≤ 100) : BkOk ps j (lc u0 u1) (bth u0 rs0 u1 rs1) := by
  obtain ⟨c1, c2, c3, c4, c5, c6, c7, c8⟩ := lc_facts h0.pos h1.pos
  have p0 := h0.pos
  have p1 := h1.pos
  have cst : ∀ n : Nat, ((2 ^ n : Nat) : Int) = (2 : Int) ^ n := fun n => by simp
  have e0 := cst a0
  have e1 := cst a1
  have mm : ∀ {x y : Int} {m n k : Nat}, 0 < x → 0 < y → x < 2 ^ m → y < 2 ^ n → m + n ≤ k → x * y < 2 ^ k := fun {x y m n k} hx hy h h' hk => by
    have em := cst m
    have en := cst n
    have ek := cst k
    have a := mul_big (x := x) (y := y) (m := m) (n := n) (by omega) (by omega)
    have b := Nat.pow_le_pow_right (n := 2) (by decide) hk
    have c := Int.mul_pos hx hy
    omega
  have rg : ∀ {i : Nat} {a : Nat} {q : Int} {rs : List Rg}, (∀ r ∈ rs, RgOk ps i r) → 0 < q → q < 2 ^ a → i + a ≤ j → ∀ r ∈ rs.map (scl q), RgOk ps j r := fun {i a q rs} h hq hq2 hi r hr => by
    obtain ⟨x, hx, rfl⟩ := List.mem_map.mp hr
    have ok := h x hx
    exact ⟨ok.sh, ok.kk, ok.ma, ok.mb, ok.ab, Int.mul_pos ok.pos hq, mm ok.pos hq ok.lt hq2 hi⟩
  refine ⟨c1, ?_, ?_, fun r hr => ?_⟩
  · have := mm p0 p1 hu0 hu1 ha
    omega
  · unfold bth
    rw [List.length_append, List.length_map, List.length_map]
    exact hl
  · rcases List.mem_append.mp hr with hr | hr
    · exact rg h0.all c5 (by omega) hj0 r hr
    · exact rg h1.all c6 (by omega) hj1 r hr
theorem bth_nt (p : Str) : nt (bth u0 rs0 u1 rs1) p = lc u0 u1 / u0 * nt rs0 p + lc u0 u1 / u1 * nt rs1 p := by
  unfold bth
  rw [nt_app, nt_scl, nt_scl]
theorem bth_ts (k : Int × Int) : tsum (ents ps (bth u0 rs0 u1 rs1)) k = lc u0 u1 / u0 * tsum (ents ps rs0) k + lc u0 u1 / u1 * tsum (ents ps rs1) k := by
  unfold bth
  rw [ents_app, ents_scl, ents_scl, tsum_app, tsum_scl, tsum_scl]
/-- what a book of that form is -/
theorem pro {u : Int} {rs : List Rg} {r : Raw} {f : Str → Int} (hb : BkOk ps j u rs) (hr : RbOk ps b r f) (h : (rawB ps u rs).form = r.form) : (∀ p ∈ ps, r.u / r.c * nt rs p = 2 * u * (f p / r.c)) ∧ ∀ k, r.u / r.c * tsum (ents ps rs) k = 2 * u * r.low.t k := by
  obtain ⟨a, c⟩ := Raw.form_prop (rawB_ok hb) (Raw.low_ok hr.ok) (h.trans (Raw.low_form hr.ok).symm)
  refine ⟨?_, c⟩
  have a : (ps.map (nt rs)).map (fun x => r.u / r.c * x) = (r.N.map (· / r.c)).map fun x => 2 * u * x := a
  rw [hr.N, List.map_map, List.map_map, List.map_map] at a
  exact List.map_inj_left.mp a
def radd (ps : List Str) (r0 : Raw) (f0 : Str → Int) (r1 : Raw) (f1 : Str → Int) : Raw := raddG ps (r0.u / r0.c) (fun p => f0 p / r0.c) (rE ps r0) (r1.u / r1.c) (fun p => f1 p / r1.c) (rE ps r1)
theorem ers_ts (hp : PsOk ps) {r : Raw} {f : Str → Int} (hr : RbOk ps b r f) (q : Int) (k : Int × Int) : tsum (ers ps q (rE ps r)) k = q * r.low.t k := by
  unfold ers
  rw [tsum_scl, rE_tsum hp hr]
theorem lin {A B q0 q1 x0 x1 y0 y1 v0 v1 L : Int} (h0 : A * x0 = 2 * v0 * y0) (h1 : B * x1 = 2 * v1 * y1) (e0 : q0 * v0 = L) (e1 : q1 * v1 = L) : A * B * (q0 * x0 + q1 * x1) = 2 * L * (y0 * B + y1 * A) := by
  have a : A * B * (q0 * x0 + q1 * x1) = B * q0 * (A * x0) + A * q1 * (B * x1) := by grind
  rw [a, h0, h1]
  have c : B * q0 * (2 * v0 * y0) = 2 * (q0 * v0) * (y0 * B) := by grind
  have d : A * q1 * (2 * v1 * y1) = 2 * (q1 * v1) * (y1 * A) := by grind
  rw [c, d, e0, e1, ← Int.mul_add]
theorem both_form {j0 j1 : Nat} (hp : PsOk ps) (h0 : BkOk ps j0 u0 rs0) (h1 : BkOk ps j1 u1 rs1) (hb : BkOk ps j (lc u0 u1) (bth u0 rs0 u1 rs1)) (g0 : RbOk ps b r0 f0) (g1 : RbOk ps b r1 f1) (hU0 : r0.u / r0.c < 2 ^ 64) (hU1 : r1.u / r1.c < 2 ^ 64) (hbb : b ≤ 150)
    (e0 : (rawB ps u0 rs0).form = r0.form) (e1 : (rawB ps u1 rs1).form = r1.form) : (rawB ps (lc u0 u1) (bth u0 rs0 u1 rs1)).form = (radd ps r0 f0 r1 f1).form := by
  obtain ⟨c1, c2, c3, c4, c5, c6, c7, c8⟩ := lc_facts h0.pos h1.pos
  obtain ⟨n0, t0⟩ := pro h0 g0 e0
  obtain ⟨n1, t1⟩ := pro h1 g1 e1
  refine Raw.prop_form (rawB_ok hb) (radd_rw (rFm hp g0) (rFm hp g1) hU0 hU1 hbb hp.l9).ok ?_ fun k => ?_
  · show (ps.map (nt _)).map (fun x => r0.u / r0.c * (r1.u / r1.c) * x) = (ps.map fun p => f0 p / r0.c * (r1.u / r1.c) + f1 p / r1.c * (r0.u / r0.c)).map fun x => 2 * lc u0 u1 * x
    rw [List.map_map, List.map_map]
    refine List.map_congr_left fun p hm => ?_
    simp only [Function.comp]
    rw [bth_nt]
    exact lin (n0 p hm) (n1 p hm) c3 c4
  · show r0.u / r0.c * (r1.u / r1.c) * tsum (ents ps _) k = 2 * lc u0 u1 * tsum (ers ps _ _ ++ ers ps _ _) k
    rw [bth_ts, tsum_app, ers_ts hp g0, ers_ts hp g1, lin (t0 k) (t1 k) c3 c4, Int.mul_comm (r0.low.t k), Int.mul_comm (r1.low.t k)]
/-- a form and its turned one -/
def rnone (ps : List Str) (r : Raw) : Raw := ⟨r.u / r.c, ps.map fun _ => 0, (tally (ers ps 2 (rE ps r))).map (·.1), tsum (ers ps 2 (rE ps r))⟩
theorem rE_neg (r : Raw) : rE ps (rneg r) = rE ps r := by
  unfold rE
  rw [rneg_c]
  rfl
theorem rnone_rw (hp : PsOk ps) (g0 : RbOk ps b r0 f0) (hU0 : r0.u / r0.c < 2 ^ 64) (hbb : b ≤ 150) : RwOk (rnone ps r0) (tally (ers ps 2 (rE ps r0))) := by
  have ho := rFm hp g0
  obtain ⟨a, bb, c⟩ := tally_ok (ers ps 2 (rE ps r0))
  have pos := ers_pos (q := 2) (by decide) ho
  have hlen : (ers ps 2 (rE ps r0)).length ≤ 40 := by
    have := ho.few
    simp only [ers, List.length_map]
    omega
  have hmono : 2 ^ (b + 64 + 6) ≤ 2 ^ 250 := Nat.pow_le_pow_right (by decide) (by omega)
  have h64 : 2 ^ (b + 64 + 6) = 64 * 2 ^ (b + 64) := by rw [Nat.pow_add (m := b + 64), Nat.mul_comm]
  have htp := Nat.two_pow_pos (b + 64)
  have hup := ho.pos
  refine ⟨⟨hup, a, fun k => ?_⟩, rfl, fun k _ => (c k).symm, ?_, fun x hx => ?_, fun k => ?_, ?_, ?_⟩
  · show k ∈ (tally _).map (·.1) ↔ _
    rw [bb k]
    exact (tsum_pos pos k).2
  · show (r0.u / r0.c).natAbs < 2 ^ 250
    omega
  · obtain ⟨p, _, rfl⟩ := List.mem_map.mp hx
    show (0 : Int).natAbs < 2 ^ 250
    decide
  · have := tsum_le (ers_le (q := 2) (by decide) ho) k
    have h3 : (ers ps 2 (rE ps r0)).length * 2 ^ (b + 64) ≤ 40 * 2 ^ (b + 64) := Nat.mul_le_mul_right _ hlen
    show (tsum _ k).natAbs < 2 ^ 250
    omega
  · show (ps.map _).length ≤ 100
    rw [List.length_map]
    have := hp.l9
    omega
  · have := tally_len (ers ps 2 (rE ps r0))
    omega
theorem none_form (hp : PsOk ps) (g0 : RbOk ps b r0 f0) (hU0 : r0.u / r0.c < 2 ^ 64) (hbb : b ≤ 150) : (radd ps r0 f0 (rneg r0) (fun p => 0 - f0 p)).form = (rnone ps r0).form := by
  have g1 := rneg_rb hp g0
  have hc : (rneg r0).c = r0.c := rneg_c r0
  refine Raw.prop_form (radd_rw (rFm hp g0) (rFm hp g1) hU0 (by rw [hc]; exact hU0) hbb hp.l9).ok (rnone_rw hp g0 hU0 hbb).ok ?_ fun k => ?_
  · show (ps.map fun p => f0 p / r0.c * ((rneg r0).u / (rneg r0).c) + (0 - f0 p) / (rneg r0).c * (r0.u / r0.c)).map _ = (ps.map fun _ => (0 : Int)).map _
    rw [List.map_map, List.map_map]
    refine List.map_congr_left fun p hm => ?_
    simp only [Function.comp]
    rw [hc, neg_div (r0.c_dvd.2.1 _ (by rw [g0.N]; exact List.mem_map_of_mem hm))]
    show _ * (f0 p / r0.c * (r0.u / r0.c) + _) = _
    rw [← Int.add_mul, Int.zero_sub, Int.add_right_neg, Int.zero_mul, Int.mul_zero, Int.mul_zero]
  · show r0.u / r0.c * tsum (ers ps _ _ ++ ers ps _ (rE ps (rneg r0))) k = r0.u / r0.c * ((rneg r0).u / (rneg r0).c) * tsum (ers ps 2 (rE ps r0)) k
    rw [tsum_app, rE_neg, ers_ts hp g0, ers_ts hp g0, ers_ts hp g0, hc]
    show _ * (r0.u / r0.c * _ + _) = r0.u / r0.c * (r0.u / r0.c) * _
    generalize r0.u / r0.c = A
    generalize r0.low.t k = B
    grind
/-- with a right more it is another form -/
theorem more_ne (h0 : BkOk ps j u0 rs0) {j1 j2 : Nat} (h1 : BkOk ps j1 u1 rs1) (hb : BkOk ps j2 (lc u0 u1) (bth u0 rs0 u1 rs1)) (hx : (∃ p ∈ ps, nt rs1 p ≠ 0) ∨ ∃ k, tsum (ents ps rs1) k ≠ 0) : (rawB ps (lc u0 u1) (bth u0 rs0 u1 rs1)).form ≠ (rawB ps u0 rs0).form := by
  intro e
  obtain ⟨c1, c2, c3, c4, c5, c6, c7, c8⟩ := lc_facts h0.pos h1.pos
  obtain ⟨a, c⟩ := Raw.form_prop (rawB_ok hb) (rawB_ok h0) e
  have a : (ps.map (nt (bth u0 rs0 u1 rs1))).map (fun x => 2 * u0 * x) = (ps.map (nt rs0)).map fun x => 2 * lc u0 u1 * x := a
  rw [List.map_map, List.map_map] at a
  have a := List.map_inj_left.mp a
  have zero : ∀ x y : Int, 2 * u0 * (lc u0 u1 / u0 * x + lc u0 u1 / u1 * y) = 2 * lc u0 u1 * x → y = 0 := fun x y e => by
    have e2 : 2 * u0 * (lc u0 u1 / u0 * x + lc u0 u1 / u1 * y) = 2 * (lc u0 u1 / u0 * u0) * x + 2 * u0 * (lc u0 u1 / u1) * y := by grind
    rw [e2, c3] at e
    have e3 : 2 * u0 * (lc u0 u1 / u1) * y = 0 := by omega
    rcases Int.mul_eq_zero.mp e3 with q | q
    · have := Int.mul_pos (show (0 : Int) < 2 * u0 by have := h0.pos; omega) c6
      omega
    · exact q
  rcases hx with ⟨p, hm, q⟩ | ⟨k, q⟩
  · have := a p hm
    simp only [Function.comp] at this
    rw [bth_nt] at this
    exact q (zero _ _ this)
  · have := c k
    have this : 2 * u0 * tsum (ents ps (bth u0 rs0 u1 rs1)) k = 2 * lc u0 u1 * tsum (ents ps rs0) k := this
    rw [bth_ts] at this
    exact q (zero _ _ this)
end
end K85

namespace K85
open PySem L2 Dl PL
/-! ### the places -/
def signs : Str := "abcdefghijklmnopqrstuvwxyz"
theorem signs_len : signs.cps.toList.length = 26 := by decide +kernel
theorem signs_ok : ∀ c ∈ signs.cps.toList, c < 0x110000 := by decide +kernel
theorem signs_at {i : Int} (h0 : 0 ≤ i) (h1 : i < 26) : ∃ c : Nat, c < 0x110000 ∧ ∀ T : Sto, oIx (.str signs) (.int i) T = some (.str ⟨#[c]⟩, T) := by
  obtain ⟨k, rfl⟩ : ∃ k : Nat, i = k := ⟨i.toNat, by omega⟩
  have hk : k < signs.cps.toList.length := by rw [signs_len]; omega
  refine ⟨signs.cps.toList[k], signs_ok _ (List.getElem_mem hk), fun T => ?_⟩
  show (if signs.length ≤ sizeLine then (atI signs.cps.toList (k : Nat)).map _ else none) = _
  rw [if_pos (by rw [line, Str.length, ← Array.length_toList, signs_len]; decide), at_nat hk]
  rfl
def xs (m : Nat) : Str := ⟨(List.replicate m ("x" : Str).cps.toList).flatten.toArray⟩
theorem x_mul {m : Nat} (h : m < 1000) (T : Sto) : oMul (.str "x") (.int (m : Nat)) T = some (.str (xs m), T) := by
  have e : oMul (.str "x") (.int (m : Nat)) T = (if -(2 ^ 63) ≤ (m : Int) ∧ (m : Int) < 2 ^ 63 ∧ ("x" : Str).length * (m : Int).toNat ≤ sizeLine then some (.str ⟨(List.replicate (m : Int).toNat ("x" : Str).cps.toList).flatten.toArray⟩, T) else none) := by unfold oMul; rfl
  have l1 : ("x" : Str).length = 1 := by decide +kernel
  rw [e, if_pos ⟨by omega, by omega, by rw [l1, line]; omega⟩]
  rfl
def Digit (i : Nat) (x : Str) : Prop := PyData.strOk x = true ∧ x.cps.toList.getLast? = some (48 + i) ∧ x.length ≤ 10
theorem digit_s {i : Nat} (h : i < 9) : ((Str.ofString (toString (i : Int))).cps.toList = [48 + i]) := by
  have : ∀ i : Fin 9, ((Str.ofString (toString ((i : Nat) : Int))).cps.toList = [48 + (i : Nat)]) := by decide +kernel
  exact this ⟨i, h⟩
theorem xs_cps (m : Nat) : (xs m).cps.toList = List.replicate m 120 := by
  unfold xs
  have : ("x" : Str).cps.toList = [120] := by decide +kernel
  rw [this]
  show (List.replicate m [120]).flatten = _
  induction m with
  | zero => rfl
  | succ m ih => rw [List.replicate_succ, List.replicate_succ, List.flatten_cons, ih]; rfl
theorem str_app (x y : Str) : (x ++ y).cps.toList = x.cps.toList ++ y.cps.toList := by
  show (x.cps ++ y.cps).toList = _
  rw [Array.toList_append]
theorem str_len (x : Str) : x.length = x.cps.toList.length := by rw [Str.length, Array.length_toList]
theorem name_ok {c m i : Nat} (hc : c < 0x110000) (hm : m < 3) (hi : i < 9) : Digit i ((⟨#[c]⟩ : Str) ++ xs m ++ Str.ofString (toString (i : Int))) := by
  have e : ((⟨#[c]⟩ : Str) ++ xs m ++ Str.ofString (toString (i : Int))).cps.toList = [c] ++ List.replicate m 120 ++ [48 + i] := by
    rw [str_app, str_app, xs_cps, digit_s hi]
  refine ⟨?_, ?_, ?_⟩
  · unfold PyData.strOk
    rw [← Array.all_toList, e]
    refine List.all_eq_true.mpr fun x hx => decide_eq_true ?_
    simp only [List.mem_append, List.mem_singleton, List.mem_replicate] at hx
    rcases hx with (rfl | ⟨_, rfl⟩) | rfl <;> omega
  · rw [e, List.getLast?_append]
    rfl
  · rw [str_len, e]
    simp
    omega
def unS : D → Str
  | .str x => x
  | _ => may
theorem sort_str {l : List Str} : ∃ ps : List Str, sortD (l.map D.str) = ps.map D.str ∧ ps.Perm l := by
  have h := sort_perm (l.map D.str)
  refine ⟨(sortD (l.map D.str)).map unS, ?_, ?_⟩
  · rw [List.map_map]
    refine ((List.map_congr_left fun d hd => ?_).trans (List.map_id _)).symm
    obtain ⟨x, _, rfl⟩ := List.mem_map.mp (h.mem_iff.mp hd)
    rfl
  · have := h.map unS
    rw [List.map_map] at this
    exact this.trans (.of_eq ((List.map_congr_left fun _ _ => rfl).trans (List.map_id _)))
section
variable {S : Sto} {n : Nat} {Q : QE}
def LS (S : Sto) (n : Nat) (T : Sto) : Prop := Flat T ∧ T.length = S.length ∧ Led T n ∧ (T = S ∨ Up n S T)
theorem LS.refl (hf : Flat S) (h : Led S n) : LS S n S := ⟨hf, rfl, h, .inl rfl⟩
theorem LS.up {T T' : Sto} (h : LS S n T) (u : Up n T T') : LS S n T' := ⟨u.flat h.1, u.len.trans h.2.1, u.led, .inr (by
  rcases h.2.2.2 with e | e
  · rw [← e]; exact u
  · exact e.trans u)⟩
theorem LS.upd {T T' : Sto} (h : LS S n T) (u : Up n T T') : Up n S T' := by
  rcases h.2.2.2 with e | e
  · rw [← e]; exact u
  · exact e.trans u
theorem places_w {m : Nat} (hf : Flat S) (hL : Led S n) (h2 : 2 ≤ m) (h9 : m ≤ 9) (q : ∀ ps T, PsOk ps → LS S n T → Q (encP ps) T) : WF F__law_places [.loc n, .int (m : Nat)] S Q := by
  refine wf_e rfl ?_
  show Ws m__law_places [some (.loc n), some (.int (m : Nat)), none, none, none, none] S _
  unfold m__law_places
  walk_at "st"
  refine mould_d S n 26 _ hL hf (by decide) (by decide) fun w S1 hw u1 => ?_
  have l1 := (LS.refl hf hL).up u1
  walk_at "st"
  obtain ⟨acc, T, e1, eT, ea, names, en, hT, hacc⟩ := lc_st (it := iRng [(eVar 1)]) (g := gN 5) (ts := tYs) (el := (eBin oAdd (eBin oAdd (eBin oIx (eVar 2) (eBin oMod (eCall bInt [(eBin oAdd (eVar 3) (eBin oMul (eVar 5) (eCall F__law_of [(eVar 0), (tidy3 (eLst [(eC (.int 0)), (eC (.int 1)), (eC (.int 5))]))])))]) (eC (.int 26)))) (eBin oMul (eC (.str "x")) (eCall F__law_mould [(eVar 0), (eC (.int 3))]))) (eCall bStr [(eVar 5)]))) (vs := [5]) (S := S1) (S1 := S1) (its := rgD 0 1 m)
    (Γ := [some (.loc n), some (.int (m : Nat)), some (.str signs), some (.int (w : Nat)), none, none]) (fun i acc T => ∃ names : List Str, acc = names.map D.str ∧ LS S n T ∧ names.length = i ∧ ∀ v x, names[v]? = some x → Digit v x)
    (by
      have : WI (iRng [(eVar 1)]) [some (.loc n), some (.int (m : Nat)), some (.str signs), some (.int (w : Nat)), none, none] S1 fun l lk T => l = rgD 0 1 m ∧ lk = [] ∧ T = S1 := by
        walk_at "st"
        exact ⟨_, rg_1 (by omega) (by omega), by rw [Int.toNat_natCast], rfl, rfl⟩
      obtain ⟨l, lk, T, e, rfl, rfl, rfl⟩ := this
      exact e)
    (by rw [rgD_len, line]; omega) ⟨[], rfl, l1, rfl, fun v x h => by simp at h⟩ (by
      rintro i d acc T hd hTl ⟨names, rfl, hT, hn, hdg⟩
      have hil := (List.getElem?_eq_some_iff.mp hd).1
      rw [rgD_len] at hil
      have ed : d = .int (i : Nat) := by
        rw [rgD_get _ _ _ _ hil] at hd
        cases hd
        congr 1
        omega
      subst ed
      have hsn : D.ncs (names.map D.str) = true := strs_nc _
      have fl : ∀ {T : Sto}, Flat T → Flat (T ++ [Cell.lst (names.map D.str)]) := fun h => h.app hsn
      have nlt : ∀ {T : Sto}, LS S n T → n < T.length := fun h => h.2.2.1.lt
      refine ⟨_, rfl, rfl, ?_⟩
      refine we_b (we_b (we_b (we_v rfl (we_b (we_f (wa_1 (we_b (we_v rfl (we_b (we_v rfl (we_f (wa_1 (we_v rfl (wa_1 ?_))))))))))))))
      walk_at "st"
      refine ⟨fl hT.1, rfl, by simp [D.ncs, D.nc], ?_⟩
      walk_at "st"
      refine (of_o _ n [.int 0, .int 1, .int 5] _ (hT.2.2.1.app _) (fl hT.1) (by simp) (by simp) (by simp [D.ncs, D.nc]) ?_).1
      intro d hd T' uT
      obtain ⟨c, rfl, hc⟩ : ∃ c : Int, d = .int c ∧ c.natAbs < 2 ^ 64 := by
        simp only [List.mem_cons, List.not_mem_nil, or_false] at hd
        rcases hd with rfl | rfl | rfl
        · exact ⟨0, rfl, by decide⟩
        · exact ⟨1, rfl, by decide⟩
        · exact ⟨5, rfl, by decide⟩
      obtain ⟨T2, rfl, u2⟩ := Up.app (nlt hT) uT
      have hT2 := hT.up u2
      refine wo_mulr hc ?_
      walk_at "st"
      refine wo_mod (by decide) ?_
      obtain ⟨ch, hch, eix⟩ := signs_at (Int.emod_nonneg (w + (i : Nat) * c) (show (26 : Int) ≠ 0 by decide)) (Int.emod_lt_of_pos _ (by decide))
      refine wo (eix _) ?_
      walk_at "st"
      refine mould_d _ n 3 _ (hT2.2.2.1.app _) (fl hT2.1) (by decide) (by decide) fun m3 T3 hm3 uT3 => ?_
      obtain ⟨T4, rfl, u4⟩ := Up.app (nlt hT2) uT3
      have hT4 := hT2.up u4
      refine wo (x_mul (by omega) _) ?_
      have hxl : (xs m3).length = m3 := by rw [str_len, xs_cps, List.length_replicate]
      refine ⟨.str ((⟨#[ch]⟩ : Str) ++ xs m3), T4 ++ [Cell.lst (names.map D.str)], by
        show (if (⟨#[ch]⟩ : Str).length + (xs m3).length ≤ sizeLine then _ else _) = _
        rw [if_pos (by
          have : (⟨#[ch]⟩ : Str).length = 1 := rfl
          rw [this, hxl, line]
          omega)], ?_⟩
      have hlg : ((i : Nat) : Int).natAbs.log2 < 1920 := by
        rw [Int.natAbs_natCast]
        first | done | (have := Nat.log2_le_self i; omega)
      refine we_f (wa_1 (we_v rfl (wa_0 ⟨.str (Str.ofString (toString ((i : Nat) : Int))), T4 ++ [Cell.lst (names.map D.str)], by
        show (if ((i : Nat) : Int).natAbs.log2 < 1920 then _ else _) = _
        rw [if_pos hlg], ?_⟩)))
      have hnm := name_ok hch (show m3 < 3 by omega) (show i < 9 by omega)
      refine ⟨.str ((⟨#[ch]⟩ : Str) ++ xs m3 ++ Str.ofString (toString ((i : Nat) : Int))), T4 ++ [Cell.lst (names.map D.str)], ?_, T4, rfl, by rw [hT4.2.1, ← l1.2.1], names ++ [(⟨#[ch]⟩ : Str) ++ xs m3 ++ Str.ofString (toString ((i : Nat) : Int))], ?_, hT4, ?_, ?_⟩
      · show (if ((⟨#[ch]⟩ : Str) ++ xs m3).length + (Str.ofString (toString ((i : Nat) : Int))).length ≤ sizeLine then _ else _) = _
        rw [if_pos (by
          have e1 : ((⟨#[ch]⟩ : Str) ++ xs m3).length = 1 + m3 := by
            rw [str_len, str_app, xs_cps, List.length_append, List.length_replicate]
            rfl
          have e2 : (Str.ofString (toString ((i : Nat) : Int))).length = 1 := by rw [str_len, digit_s (by omega)]; rfl
          rw [e1, e2, line]
          omega)]
      · rw [List.map_append]
        rfl
      · rw [List.length_append, hn]
        rfl
      · intro v x hx
        by_cases hv : v < names.length
        · rw [List.getElem?_append_left hv] at hx
          exact hdg v x hx
        · rw [List.getElem?_append_right (by omega)] at hx
          have : v = i := by
            have := (List.getElem?_eq_some_iff.mp hx).1
            simp at this
            omega
          subst this
          rw [hn] at hx
          simp at hx
          rw [← hx]
          exact hnm)
  refine We.run e1 ?_
  subst en
  rw [← rgD_len 0 1 m] at h2 h9
  rw [rgD_len] at h2 h9 hacc
  have hsn : D.ncs (names.map D.str) = true := strs_nc _
  rw [← eT]
  refine kr_n hT.1 (by rw [eT]) (Γ1 := [some (.loc n), some (.int (m : Nat)), some (.str signs), some (.int (w : Nat)), some (.lst (names.map D.str)), none]) ?_ ?_
  · show rdg _ _ [some (.loc n), some (.int (m : Nat)), some (.str signs), some (.int (w : Nat)), some (.loc T.length), none] = _
    have c0 : ∀ x : Int, (D.int x).nc = true := fun x => by rw [D.nc]
    have cs : ∀ x : Str, (D.str x).nc = true := fun x => by rw [D.nc]
    have cn : rdo T.length (T ++ [Cell.lst (names.map D.str)]) 5 (.loc n) = some (.loc n) := rdo_lo (by rw [D.lo]; exact decide_eq_true (by have := hT.2.2.1.lt; omega))
    have c1 := rdo_list (b := T.length) (m := T.length) (by omega) (get_end T [] (.lst (names.map D.str))) hsn
    simp only [rdg_cons, rdg_nil, Option.bind_some, Option.bind_none, rdo_nc (c0 _), rdo_nc (cs _), cn, c1]
  have hnl : names.length = m := hacc.1
  obtain ⟨ps, eps, hperm⟩ := sort_str (l := names)
  walk_at "st"
  refine we_tn ?_
  walk_at "st"
  refine wf (z := .loc T.length) (S1 := T ++ [.lst (ps.map D.str)]) ?_ ?_
  · rw [bSorted]
    simp only [iterD]
    rw [if_pos (sortOk_S (by omega)), eps]
  refine ⟨T, _, rfl, rfl, hT.1, rfl, strs_nc _, ?_⟩
  walk_at "st"
  have dn : names.Nodup := by
    rw [List.Nodup, List.pairwise_iff_getElem]
    intro i j hi hj hij e
    have a := (hacc.2 i _ (List.getElem?_eq_getElem hi)).2.1
    have b := (hacc.2 j _ (List.getElem?_eq_getElem hj)).2.1
    rw [e, b] at a
    injection a with a
    omega
  refine kf_v hT.1 (by rw [hT.2.1]) (encP_nc ps) (q ps T ⟨hperm.nodup_iff.mpr dn, fun x hx => ?_, by rw [hperm.length_eq]; omega, by rw [hperm.length_eq]; omega⟩ hT)
  obtain ⟨v, hv⟩ := List.getElem?_of_mem (hperm.mem_iff.mp hx)
  exact (hacc.2 v x hv).1
end
end K85

namespace K85
open PySem L2 Dl PL
section
variable {S : Sto} {n : Nat} {Q : QE} {ps : List Str}
theorem two_pl (hp : PsOk ps) {w w2 : Nat} (h : w < ps.length) (h2 : w2 < ps.length - 1) : ∃ a b, a ∈ ps ∧ b ∈ ps ∧ a ≠ b ∧ (w : Int) = (ix ps a : Nat) ∧ (((w : Int) + 1 + (w2 : Int)) % (ps.length : Nat)) = (ix ps b : Nat) := by
  have hl := hp.l2
  have e : ((w : Int) + 1 + (w2 : Int)) % (ps.length : Nat) = (((w + 1 + w2) % ps.length : Nat) : Int) := by
    rw [Int.natCast_emod]
    simp
  have hlt : (w + 1 + w2) % ps.length < ps.length := Nat.mod_lt _ (by omega)
  have hne : (w + 1 + w2) % ps.length ≠ w := by
    by_cases hc : w + 1 + w2 < ps.length
    · rw [Nat.mod_eq_of_lt hc]; omega
    · rw [Nat.mod_eq_sub_mod (by omega), Nat.mod_eq_of_lt (by omega)]
      omega
  have i1 := ix_of hp.nd (List.getElem?_eq_getElem h)
  have i2 := ix_of hp.nd (List.getElem?_eq_getElem hlt)
  refine ⟨ps[w], ps[(w + 1 + w2) % ps.length], List.getElem_mem h, List.getElem_mem hlt, fun q => ?_, by rw [i1], by rw [e, i2]⟩
  rw [q, i2] at i1
  exact hne i1
theorem at_ps {x : Str} {T : Sto} (hx : x ∈ ps) : oIx (encP ps) (.int (ix ps x : Nat)) T = some (.str x, T) := by
  show (atI (ps.map D.str) (ix ps x : Nat)).map _ = _
  rw [atn (f := D.str) hx]
  rfl
def BInv (S : Sto) (n : Nat) (ps : List Str) (u : Int) (i : Nat) (Γ : Dl.Ctx) (T : Sto) : Prop := ∃ (rs : List Rg) (T' : Sto), Γ = [some (.loc n), some (encP ps), none, some (.int u), some (.loc S.length), none, none, none, none] ∧ T = T' ++ [.lst (rs.map encR)] ∧ LS S n T' ∧ rs.length ≤ i ∧ ∀ r ∈ rs, RgOk ps 30 r
theorem book_w {most : Nat} (hp : PsOk ps) (hf : Flat S) (hL : Led S n) (hm : most ≤ 20) (q : ∀ u rs T, BkOk ps 30 u rs → u < 2 ^ 20 → rs.length ≤ 20 → LS S n T → Q (encB u rs) T) : WF F__law_book [.loc n, encP ps, .int (most : Nat)] S Q := by
  have hl2 := hp.l2
  have hl9 := hp.l9
  have nlt : ∀ {T : Sto}, LS S n T → n < T.length := fun h => h.2.2.1.lt
  refine wf_e rfl ?_
  show Ws m__law_book [some (.loc n), some (encP ps), some (.int (most : Nat)), none, none, none, none, none, none] S _
  unfold m__law_book
  walk_at "st"
  refine mould_d S n 90 _ hL hf (by decide) (by decide) fun w S1 hw u1 => ?_
  have l1 := (LS.refl hf hL).up u1
  walk_at "st"
  refine ⟨l1.1, u1.len, by simp [D.ncs, D.nc], ?_⟩
  walk_at "st"
  refine (of_o S1 n [.int 1, .int 2, .int 3, .int 8, .int 999983, .int 999979, .int 1000000, .int (1 + (w : Nat))] _ l1.2.2.1 l1.1 (by simp) (by simp) (by simp [D.ncs, D.nc]) ?_).1
  intro d hd S2 u2
  have l2 := l1.up u2
  obtain ⟨u, rfl, hu0, hu⟩ : ∃ u : Int, d = .int u ∧ 0 < u ∧ u < 2 ^ 20 := by
    simp only [List.mem_cons, List.not_mem_nil, or_false] at hd
    rcases hd with rfl | rfl | rfl | rfl | rfl | rfl | rfl | rfl
    all_goals exact ⟨_, rfl, by omega, by omega⟩
  walk_at "st"
  have hfa : ∀ {T : Sto} (rs : List Rg), LS S n T → Flat (T ++ [Cell.lst (rs.map encR)]) := fun rs h => h.1.app (encRs_ncs rs)
  refine mould_d _ n _ _ (l2.2.2.1.app _) (hfa [] l2) (by omega) (by omega) fun wx S3 hwx u3 => ?_
  obtain ⟨S4, rfl, u4⟩ := Up.app (nlt l2) u3
  have l4 := l2.up u4
  have hwx' : wx ≤ 20 := by omega
  walk_at "st"
  refine ⟨_, rg_1 (by omega) (by omega), ?_⟩
  have es : S2.length = S.length := l2.2.1
  rw [es]
  refine wl_inv (fun i => BInv S n ps u i) (fun i Γ T _ _ => lkd_nil T) ?_ ⟨[], S4, rfl, rfl, l4, Nat.le_refl _, fun r hr => by simp at hr⟩ ?_
  · rintro i d Γ T hd ⟨rs, T, rfl, rfl, lT, hlen, hall⟩
    have hil := (List.getElem?_eq_some_iff.mp hd).1
    rw [rgD_len] at hil
    have hrs : rs.length ≤ 20 := by omega
    have eT : T.length = S.length := lT.2.1
    have g : ∀ {T : Sto} (l : List D), T.length = S.length → (T ++ [Cell.lst l])[S.length]? = some (.lst l) := fun {T} l e => by rw [← e]; exact get_end T [] _
    refine ⟨_, rfl, ?_⟩
    unfold b__law_book_1
    walk_at "st"
    refine mould_d _ n _ _ (lT.2.2.1.app _) (hfa rs lT) (by simp; omega) (by simp; omega) fun w1 X hw1 v1 => ?_
    obtain ⟨T1, rfl, w1u⟩ := Up.app (nlt lT) v1
    have lT1 := lT.up w1u
    walk_at "st"
    refine mould_d _ n _ _ (lT1.2.2.1.app _) (hfa rs lT1) (by simp; omega) (by simp; omega) fun w2 X hw2 v2 => ?_
    obtain ⟨T2, rfl, w2u⟩ := Up.app (nlt lT1) v2
    have lT2 := lT1.up w2u
    walk_at "st"
    refine wo_mod (by simp; omega) ?_
    rw [List.length_map] at hw1 hw2 ⊢
    obtain ⟨a, b, ha, hb, hab, ea, eb⟩ := two_pl (w := w1) (w2 := w2) hp (by omega) (by omega)
    rw [eb, ea]
    -- behind the places
    have rest : ∀ (a b : Str) (T : Sto), a ∈ ps → b ∈ ps → a ≠ b → LS S n T → ∀ (o5 : D),
        Ws (qSeq (qSet 8 (eCall F__law_of [(eVar 0), (tidy3 (eLst [(eC (.int 1)), (eC (.int 2)), (eVar 3), (eC (.int 6)), (eBin oAdd (eC (.int 1)) (eCall F__law_mould [(eVar 0), (eC (.int 99))])), (eBin oSub (eBin oPow (eC (.int 10)) (eC (.int 9))) (eCall F__law_mould [(eVar 0), (eC (.int 2))]))]))]))
          (qSeq (qIf (tAnd2 (tru (eVar 4)) (tst (eBin oEq (eCall F__law_mould [(eVar 0), (eC (.int 3))]) (eC (.int 0)))))
          (qSet 8 (eBin oIx (eBin oIx (eVar 4) (eUn oNeg (eC (.int 1)))) (eC (.int 4))))
          qNx)
          (qDrop (eMeth "list" mAppend (eVar 4) [(eTup [(eCall F__law_of [(eVar 0), (tidy3 (eLst [(eC (.str "eve")), (eC (.str "max")), (eC (.str "z9"))]))]), (eCall F__law_of [(eVar 0), (tidy3 (eLst [(eC (.str "must")), (eC (.str "may"))]))]), (eBin oIx (eVar 1) (eVar 6)), (eBin oIx (eVar 1) (eVar 7)), (eVar 8)])]))))
          [some (.loc n), some (encP ps), none, some (.int u), some (.loc S.length), some o5, some (.int (ix ps a : Nat)), some (.int (ix ps b : Nat)), none] (T ++ [.lst (rs.map encR)])
          (Kw [2, 5, 6, 7, 8] (Kl (BInv S n ps u (i + 1)) (Kq (qRet (eTup [(eVar 3), (eCall bTup [(eVar 4)])])) (Kf S.length Q)))) := by
      intro a b T ha hb hab lT o5
      have eT : T.length = S.length := lT.2.1
      walk_at "st"
      refine mould_d _ n 99 _ (lT.2.2.1.app _) (hfa rs lT) (by decide) (by decide) fun w1 X hw1 v1 => ?_
      obtain ⟨T1, rfl, w1u⟩ := Up.app (nlt lT) v1
      have lT1 := lT.up w1u
      walk_at "st"
      refine wo (z := .int (10 ^ 9)) (S1 := T1 ++ [Cell.lst (rs.map encR)]) (by
        show (if (0 : Int) ≤ 9 ∧ (9 : Int) ≤ 1000000 ∧ (10 : Int).natAbs < 2 ^ 64 then some (D.int (10 ^ (9 : Int).toNat), _) else none) = _
        rw [if_pos (by decide)]
        rfl) ?_
      walk_at "st"
      refine mould_d _ n 2 _ (lT1.2.2.1.app _) (hfa rs lT1) (by decide) (by decide) fun w2 X hw2 v2 => ?_
      obtain ⟨T2, rfl, w2u⟩ := Up.app (nlt lT1) v2
      have lT2 := lT1.up w2u
      walk_at "st"
      refine ⟨hfa rs lT2, by simp [lT2.2.1, eT], by simp [D.ncs, D.nc], ?_⟩
      walk_at "st"
      refine (of_o _ n [.int 1, .int 2, .int u, .int 6, .int (1 + (w1 : Nat)), .int (10 ^ 9 - (w2 : Nat))] _ (lT2.2.2.1.app _) (hfa rs lT2) (by simp) (by simp) (by simp [D.ncs, D.nc]) ?_).1
      intro d hd X v3
      obtain ⟨T3, rfl, w3u⟩ := Up.app (nlt lT2) v3
      have lT3 := lT2.up w3u
      have eT3 : T3.length = S.length := lT3.2.1
      obtain ⟨x, rfl, hx0, hx⟩ : ∃ x : Int, d = .int x ∧ 0 < x ∧ x < 2 ^ 30 := by
        simp only [List.mem_cons, List.not_mem_nil, or_false] at hd
        rcases hd with rfl | rfl | rfl | rfl | rfl | rfl
        all_goals exact ⟨_, rfl, by omega, by omega⟩
      walk_at "st"
      -- behind the amount
      have rest2 : ∀ (x : Int) (T : Sto), 0 < x → x < 2 ^ 30 → LS S n T → 
          Ws (qDrop (eMeth "list" mAppend (eVar 4) [(eTup [(eCall F__law_of [(eVar 0), (tidy3 (eLst [(eC (.str "eve")), (eC (.str "max")), (eC (.str "z9"))]))]), (eCall F__law_of [(eVar 0), (tidy3 (eLst [(eC (.str "must")), (eC (.str "may"))]))]), (eBin oIx (eVar 1) (eVar 6)), (eBin oIx (eVar 1) (eVar 7)), (eVar 8)])]))
          [some (.loc n), some (encP ps), none, some (.int u), some (.loc S.length), some o5, some (.int (ix ps a : Nat)), some (.int (ix ps b : Nat)), some (.int x)] (T ++ [.lst (rs.map encR)])
          (Kw [2, 5, 6, 7, 8] (Kl (BInv S n ps u (i + 1)) (Kq (qRet (eTup [(eVar 3), (eCall bTup [(eVar 4)])])) (Kf S.length Q)))) := by
        intro x T hx0 hx lT
        have eT : T.length = S.length := lT.2.1
        walk_at "st"
        refine ⟨ty_l (g _ eT), ?_⟩
        walk_at "st"
        refine ⟨hfa rs lT, rfl, by simp [D.ncs, D.nc], ?_⟩
        walk_at "st"
        refine (of_o _ n [.str "eve", .str "max", .str "z9"] _ (lT.2.2.1.app _) (hfa rs lT) (by simp) (by simp) (by simp [D.ncs, D.nc]) ?_).1
        intro d hd X v1
        obtain ⟨T1, rfl, w1u⟩ := Up.app (nlt lT) v1
        have lT1 := lT.up w1u
        obtain ⟨h, rfl, hh⟩ : ∃ h : Str, d = .str h ∧ PyData.strOk h = true := by
          simp only [List.mem_cons, List.not_mem_nil, or_false] at hd
          rcases hd with rfl | rfl | rfl
          all_goals exact ⟨_, rfl, by decide +kernel⟩
        walk_at "st"
        refine ⟨hfa rs lT1, rfl, by simp [D.ncs, D.nc], ?_⟩
        walk_at "st"
        refine (of_o _ n [.str must, .str may] _ (lT1.2.2.1.app _) (hfa rs lT1) (by simp) (by simp) (by simp [D.ncs, D.nc]) ?_).1
        intro d hd X v2
        obtain ⟨T2, rfl, w2u⟩ := Up.app (nlt lT1) v2
        have lT2 := lT1.up w2u
        obtain ⟨k, rfl, hk⟩ : ∃ k : Str, d = .str k ∧ (k = must ∨ k = may) := by
          simp only [List.mem_cons, List.not_mem_nil, or_false] at hd
          rcases hd with rfl | rfl
          · exact ⟨_, rfl, .inl rfl⟩
          · exact ⟨_, rfl, .inr rfl⟩
        walk_at "st"
        refine wo (at_ps ha) ?_
        walk_at "st"
        refine wo (at_ps hb) ?_
        walk_at "st"
        refine wm (m_app (g _ lT2.2.1) (by rw [List.length_map, line]; omega)) ?_
        have est : ∀ c c' : Cell, (T2 ++ [c]).set S.length c' = T2 ++ [c'] := fun c c' => by rw [← lT2.2.1]; exact set_end _ [] _ _
        rw [est]
        walk_at "st"
        refine ⟨rs ++ [⟨h, k, a, b, x⟩], T2, rfl, by rw [List.map_append]; rfl, lT2, by rw [List.length_append, List.length_singleton]; omega, fun r hr => ?_⟩
        rcases List.mem_append.mp hr with q | q
        · exact hall r q
        · rw [List.mem_singleton.mp q]
          exact ⟨hh, hk, ha, hb, hab, hx0, hx⟩
      rcases List.eq_nil_or_concat rs with e | ⟨p, r, e⟩
      · refine ⟨false, by subst e; show dTru _ (.loc S.length) = _; simp only [dTru, g _ eT3]; rfl, ?_⟩
        refine ifF (ifF (ws_n (kq_n ?_)))
        exact rest2 x T3 hx0 hx lT3
      · rw [List.concat_eq_append] at e
        refine ⟨true, by subst e; show dTru _ (.loc S.length) = _; simp only [dTru, g _ eT3]; simp, ?_⟩
        walk_at "st"
        refine mould_d _ n 3 _ (lT3.2.2.1.app _) (hfa rs lT3) (by decide) (by decide) fun w4 X hw4 v4 => ?_
        obtain ⟨T4, rfl, w4u⟩ := Up.app (nlt lT3) v4
        have lT4 := lT3.up w4u
        walk_at "st"
        have rok := hall r (by rw [e]; simp)
        refine ifB (fun _ => ?_) fun _ => ?_
        · refine ws_s ?_
          walk_at "st"
          refine wo (o_ixl (g _ lT4.2.1) (at_last (x := encR r) (by rw [e]; simp))) ?_
          refine we_c (wo_ix rfl (kq_n ?_))
          exact rest2 r.n T4 rok.pos rok.lt lT4
        · refine ws_n (kq_n ?_)
          exact rest2 x T4 hx0 hx lT4
    walk_at "st"
    have eT2 : T2.length = S.length := lT2.2.1
    rcases List.eq_nil_or_concat rs with e | ⟨p, r, e⟩
    · refine ⟨false, by subst e; show dTru _ (.loc S.length) = _; simp only [dTru, g _ eT2]; rfl, ?_⟩
      refine ifF (ifF (ws_n (kq_n ?_)))
      exact rest a b T2 ha hb hab lT2 d
    · rw [List.concat_eq_append] at e
      refine ⟨true, by subst e; show dTru _ (.loc S.length) = _; simp only [dTru, g _ eT2]; simp, ?_⟩
      walk_at "st"
      refine mould_d _ n 4 _ (lT2.2.2.1.app _) (hfa rs lT2) (by decide) (by decide) fun w4 X hw4 v4 => ?_
      obtain ⟨T4, rfl, w4u⟩ := Up.app (nlt lT2) v4
      have lT4 := lT2.up w4u
      walk_at "st"
      have rok := hall r (by rw [e]; simp)
      refine ifB (fun _ => ?_) fun _ => ?_
      · walk_at "st"
        refine ⟨rfl, ?_⟩
        walk_at "st"
        refine wo (o_ixl (g _ lT4.2.1) (at_last (x := encR r) (by rw [e]; simp))) ?_
        walk_at "st"
        refine wm_ix rok.mb ?_
        walk_at "st"
        refine ⟨rfl, ?_⟩
        walk_at "st"
        refine wo (o_ixl (g _ lT4.2.1) (at_last (x := encR r) (by rw [e]; simp))) ?_
        walk_at "st"
        refine wm_ix rok.ma (wa_0 (kq_n ?_))
        exact rest r.b r.a T4 rok.mb rok.ma (Ne.symm rok.ab) lT4 d
      · refine ws_n (kq_n ?_)
        exact rest a b T4 ha hb hab lT4 d
  · rintro Γ T ⟨rs, T, rfl, rfl, lT, hlen, hall⟩
    rw [rgD_len] at hlen
    have eT : T.length = S.length := lT.2.1
    have hrs : rs.length ≤ 20 := by omega
    walk_at "st"
    refine wf (z := encRs rs) (S1 := T ++ [Cell.lst (rs.map encR)]) ?_ ?_
    · have g := get_end T [] (Cell.lst (rs.map encR))
      have e2 : bTup [.loc S.length] (T ++ [Cell.lst (rs.map encR)]) = some (encRs rs, T ++ [Cell.lst (rs.map encR)]) := by
        rw [← eT]
        simp only [bTup, rdL, g]
        rfl
      exact e2
    walk_at "st"
    rw [← eT]
    exact kf_w lT.1 rfl (encB_nc _ _) (q u rs T ⟨hu0, by omega, by omega, hall⟩ hu hrs lT)
end
end K85

namespace K85
open PySem L2 Dl PL
section
variable {S : Sto} {n : Nat} {Q : QE} {ps : List Str} {j j' : Nat} {u u' : Int} {rs rs' : List Rg}
theorem same_w {d : D} (hf : Flat S) (hd : good d = true) (hz : sz d < 16777216) (q : Q (.bl true) S) : WF F__law_same [d, d] S Q := same hf hd hz q
theorem same_b {b : Bool} (hf : Flat S) (q : Q (.bl true) S) : WF F__law_same [.bl b, .bl b] S Q := same hf (by rw [good]) (by rw [sz]; decide) q
theorem same_f {d : D} {r : Raw} (h : d = r.form) (hf : Flat S) (h1 : r.N.length ≤ 100) (h2 : r.ks.length ≤ 1000) (q : Q (.bl true) S) : WF F__law_same [d, r.form] S Q := by
  subst h
  exact same hf (good_F _ _ _) (sz_form h1 h2) q
theorem same_B {d : D} (hp : PsOk ps) (hb : BkOk ps j u rs) (h : d = encB u rs) (hf : Flat S) (q : Q (.bl true) S) : WF F__law_same [d, encB u rs] S Q := by
  subst h
  exact same hf (good_B hp hb) (sz_B (by have := hb.few; omega)) q
theorem rawB_sz (hp : PsOk ps) (hb : BkOk ps j u rs) : (rawB ps u rs).N.length ≤ 100 ∧ (rawB ps u rs).ks.length ≤ 1000 := by
  constructor
  · show (ps.map _).length ≤ 100
    rw [List.length_map]
    have := hp.l9
    omega
  · show ((tally (ents ps rs)).map (·.1)).length ≤ 1000
    rw [List.length_map]
    have := ents_len (ps := ps) rs
    have := hb.few
    omega
theorem alike_w (hf : Flat S) (hp : PsOk ps) (hj : j ≤ 240) (hj' : j' ≤ 240) (hb : BkOk ps j u rs) (hb' : BkOk ps j' u' rs') (q : Q (.bl (feq (rawB ps u rs).form (rawB ps u' rs').form)) S) : WF F_alike_books [encP ps, encB u rs, encB u' rs'] S Q := by
  refine wf_e rfl ?_
  show Ws m_alike_books [some (encP ps), some (encB u rs), some (encB u' rs')] S _
  unfold m_alike_books
  walk_at "st"
  refine pform hf hj hp hb ?_
  walk_at "st"
  refine pform hf hj' hp hb' ?_
  refine wo_eqF ?_
  exact kf_v hf rfl (by rw [D.nc]) q
theorem turn_bk (hb : BkOk ps j u rs) : BkOk ps j u (rs.map turn) := ⟨hb.pos, hb.lt, by rw [List.length_map]; exact hb.few, fun r hr => by
  obtain ⟨x, hx, rfl⟩ := List.mem_map.mp hr
  have ok := hb.all x hx
  exact ⟨ok.sh, ok.kk, ok.mb, ok.ma, Ne.symm ok.ab, ok.pos, ok.lt⟩⟩
theorem unit_bk {m : Int} (hb : BkOk ps 30 u rs) (hu : u < 2 ^ 20) (h0 : 0 < m) (h1 : m ≤ 1000) : BkOk ps 40 (u * m) (rs.map (scl m)) := ⟨Int.mul_pos hb.pos h0, by
    have h := Int.mul_le_mul_of_nonneg_left h1 (Int.le_of_lt hb.pos)
    omega, by rw [List.length_map]; exact hb.few, fun r hr => by
  obtain ⟨x, hx, rfl⟩ := List.mem_map.mp hr
  have ok := hb.all x hx
  have h := Int.mul_le_mul_of_nonneg_left h1 (Int.le_of_lt ok.pos)
  have := ok.lt
  exact ⟨ok.sh, ok.kk, ok.ma, ok.mb, ok.ab, Int.mul_pos ok.pos h0, by show x.n * m < _; omega⟩⟩
theorem unit_form {m : Int} (hb : BkOk ps j u rs) (hb' : BkOk ps j' (u * m) (rs.map (scl m))) : (rawB ps (u * m) (rs.map (scl m))).form = (rawB ps u rs).form := by
  refine Raw.prop_form (rawB_ok hb') (rawB_ok hb) ?_ fun k => ?_
  · show (ps.map (nt _)).map (fun x => 2 * u * x) = (ps.map (nt _)).map fun x => 2 * (u * m) * x
    rw [List.map_map, List.map_map]
    refine List.map_congr_left fun p _ => ?_
    simp only [Function.comp]
    rw [nt_scl]
    grind
  · show 2 * u * tsum (ents ps _) k = 2 * (u * m) * tsum (ents ps _) k
    rw [ents_scl, tsum_scl]
    grind
theorem swap_bk {i : Nat} {l : List Rg} (hb : BkOk ps j u rs) (hi : i < rs.length) (hl : l.length ≤ 1) (hh : ∀ r ∈ l, RgOk ps j r) : BkOk ps j u (swap rs i l) := ⟨hb.pos, hb.lt, by
    have := hb.few
    unfold swap
    simp only [List.length_append, List.length_take, List.length_drop]
    omega, fun r hr => by
  unfold swap at hr
  rcases List.mem_append.mp hr with hr | hr
  · rcases List.mem_append.mp hr with hr | hr
    · exact hb.all r (List.mem_of_mem_take hr)
    · exact hh r hr
  · exact hb.all r (List.mem_of_mem_drop hr)⟩
theorem omit_swap (i : Nat) : omitR rs i = swap rs i [] := by
  unfold omitR swap
  rw [List.append_nil]
theorem negs (l : List Int) : (l.map (0 - ·)).map D.int = l.map fun x => D.int (0 - x) := by
  rw [List.map_map]
  rfl
theorem parts_w (hf : Flat S) (hL : Led S n) (hp : PsOk ps) (hb : BkOk ps 30 u rs) (hu : u < 2 ^ 20) (q : ∀ T, LS S n T → Q (.bl true) T) : WF F__law_parts [.loc n, encP ps, encB u rs, (rawB ps u rs).form] S Q := by
  have hu0 := hb.pos
  have hfew := hb.few
  obtain ⟨z1, z2⟩ := rawB_sz hp hb
  refine wf_e rfl ?_
  show Ws m__law_parts [some (.loc n), some (encP ps), some (encB u rs), some (rawB ps u rs).form, none, none, none, none, none, none, none, none, none] S _
  unfold m__law_parts
  have l0 := LS.refl hf hL
  generalize hr : rawB ps u rs = r at *
  walk_at "st"
  refine we_lc (xs := r.N.map (· / r.c)) (enc := D.int) (lk := []) (S1 := S) (fun _ => true) (fun x => D.int (0 - x)) rfl (lkd_nil _) (by rw [line, List.length_map]; omega) hf rfl (fun _ _ => by rw [D.nc]) ?_ ?_
  · intro x _ T
    refine ⟨_, rfl, wt_y ⟨rfl, rfl, fun _ => ?_⟩⟩
    walk_at "st"
    exact ⟨rfl, rfl⟩
  rw [filter_all, ← negs]
  walk_at "st"
  refine turned_w hf (by omega) ?_
  walk_at "st"
  refine pform hf (by omega) hp (turn_bk hb) ?_
  rw [rawB_turn, hr]
  walk_at "st"
  have en : D.tup [.int (r.u / r.c), .tup (((r.N.map (· / r.c)).map (0 - ·)).map D.int), .tup ((srt (r.ks.map (row3 fun k => r.t k / r.c))).map encT)] = (rneg r).form := (rneg_form r).symm
  refine (show WF F__law_same [(rneg r).form, D.tup [.int (r.u / r.c), .tup (((r.N.map (· / r.c)).map (0 - ·)).map D.int), .tup ((srt (r.ks.map (row3 fun k => r.t k / r.c))).map encT)]] S _ from ?_)
  rw [en]
  refine same_f rfl hf (by show (r.N.map _).length ≤ 100; rw [List.length_map]; exact z1) z2 ?_
  walk_at "st"
  refine ⟨true, rfl, ifF ?_⟩
  walk_at "st"
  refine ⟨hf, rfl, by simp [D.ncs, D.nc], ?_⟩
  walk_at "st"
  refine (of_o S n [.int 1, .int 2, .int 997, .int 1000] _ hL hf (by simp) (by simp) (by simp [D.ncs, D.nc]) ?_).1
  intro d hd T1 u1
  have l1 := l0.up u1
  obtain ⟨m, rfl, hm0, hm⟩ : ∃ m : Int, d = .int m ∧ 0 < m ∧ m ≤ 1000 := by
    simp only [List.mem_cons, List.not_mem_nil, or_false] at hd
    rcases hd with rfl | rfl | rfl | rfl
    all_goals exact ⟨_, rfl, by omega, by omega⟩
  walk_at "st"
  refine unit_w l1.1 (by omega) (by omega) ?_
  walk_at "st"
  have hub := unit_bk hb hu hm0 hm
  refine pform l1.1 (by omega) hp hub ?_
  rw [unit_form hb hub, hr]
  walk_at "st"
  refine same_f rfl l1.1 z1 z2 ?_
  walk_at "st"
  refine ⟨true, rfl, ifF ?_⟩
  walk_at "st"
  refine wo_mod (by decide) ?_
  walk_at "st"
  have h5 : BkOk ps 30 (u % 1000000 + 1) rs := ⟨by have := Int.emod_nonneg u (show (1000000 : Int) ≠ 0 by decide); omega, by have := Int.emod_lt_of_pos u (show (0 : Int) < 1000000 by decide); omega, hfew, hb.all⟩
  refine alike_w l1.1 hp (by omega) (by omega) h5 hb ?_
  rw [hr]
  walk_at "st"
  refine (lform l1.1 (j := 30) (by omega) hp h5 ?_).mono fun d S1 w => wa_0 w
  walk_at "st"
  refine wo_eqF ?_
  walk_at "st"
  refine same_b l1.1 ?_
  walk_at "st"
  refine ⟨true, rfl, ifF ?_⟩
  walk_at "st"
  by_cases hnil : rs = []
  · subst hnil
    refine ⟨false, rfl, ifT ?_⟩
    walk_at "st"
    exact kf_v l1.1 l1.2.1.symm (by rw [D.nc]) (q T1 l1)
  have hpos : 0 < rs.length := by cases rs with
    | nil => exact absurd rfl hnil
    | cons => simp
  refine ⟨true, by show some (!(rs.map encR).isEmpty) = _; cases rs with
    | nil => exact absurd rfl hnil
    | cons => rfl, ifF ?_⟩
  walk_at "st"
  refine wf_lenG ?_
  walk_at "st"
  rw [List.length_map]
  refine mould_d T1 n _ _ l1.2.2.1 l1.1 (by omega) (by omega) fun i T2 hi u2 => ?_
  have l2 := l1.up u2
  have hil : i < rs.length := by omega
  obtain ⟨x, hx⟩ : ∃ x, rs[i]? = some x := ⟨rs[i], List.getElem?_eq_getElem hil⟩
  have hxm : x ∈ rs := List.mem_of_getElem? hx
  have xok := hb.all x hxm
  have hat : ∀ T : Sto, oIx (encRs rs) (.int (i : Nat)) T = some (encR x, T) := fun T => by
    show (atI (rs.map encR) (i : Nat)).map _ = _
    rw [at_get (x := encR x) (by rw [List.getElem?_map, hx]; rfl)]
    rfl
  walk_at "st"
  refine wo (hat _) ?_
  walk_at "st"
  refine wo (hat _) ?_
  walk_at "st"
  refine wo_fdv (by decide) (by decide) ?_
  walk_at "st"
  refine ⟨l2.1, rfl, by simp [D.ncs, D.nc], ?_⟩
  walk_at "st"
  refine (of_o T2 n [.int 0, .int 1, .int x.n, .int (x.n / 2)] _ l2.2.2.1 l2.1 (by simp) (by simp) (by simp [D.ncs, D.nc]) ?_).1
  intro d hd T3 u3
  have l3 := l2.up u3
  have hxn := xok.pos
  obtain ⟨y, rfl, hy0, hy⟩ : ∃ y : Int, d = .int y ∧ 0 ≤ y ∧ y ≤ x.n := by
    simp only [List.mem_cons, List.not_mem_nil, or_false] at hd
    rcases hd with rfl | rfl | rfl | rfl
    all_goals exact ⟨_, rfl, by omega, by omega⟩
  walk_at "st"
  refine wo (hat _) ?_
  walk_at "st"
  refine wl_t ?_
  rw [cuts]
  have hsw : BkOk ps 30 u (swap rs i (less x y)) := swap_bk hb hil (by unfold less; split <;> simp) fun r' hr' => by
    unfold less at hr'
    split at hr'
    · simp at hr'
    · rename_i hne
      rw [List.mem_singleton.mp hr']
      exact ⟨xok.sh, xok.kk, xok.ma, xok.mb, xok.ab, by show 0 < x.n - y; omega, by show x.n - y < _; have := xok.lt; omega⟩
  have key : ∀ R : QE, R (.tup ((less x y).map encR)) T3 → We (eIf (tst (eBin oGt (eBin oIx (eVar 8) (eC (.int 4))) (eVar 7))) (eTup [(eBin oAdd (eSl (eVar 8) oNo (oPart (eC (.int 4)))) (eTup [(eBin oSub (eBin oIx (eVar 8) (eC (.int 4))) (eVar 7))]))]) (eTup []))
      [some (.loc n), some (encP ps), some (encB u rs), some r.form, some (.tup (((r.N.map (· / r.c)).map (0 - ·)).map D.int)), some (.tup [.int (u % 1000000 + 1), encRs rs]), some (.int (i : Nat)), some (.int y), some (encR x), none, none, none, none] T3 R := by
    intro R hR
    walk_at "st"
    refine ifB (fun hc => ?_) fun hc => ?_
    · have hlt : y < x.n := of_decide_eq_true hc
      have hne : ¬ x.n = y := by omega
      walk_at "st"
      refine wl_t ?_
      walk_at "st"
      refine wo_addT (by show (5 : Nat) ≤ 16777216; decide) ?_
      walk_at "st"
      rw [less, if_neg hne] at hR
      exact hR
    · have hlt : ¬ y < x.n := of_decide_eq_false hc
      have hne : x.n = y := by omega
      walk_at "st"
      rw [less, if_pos hne] at hR
      exact hR
  refine key _ ?_
  have hll : (less x y).length ≤ 1 := by unfold less; split <;> simp
  refine wo_addT (by simp only [List.length_map, List.length_take]; omega) ?_
  rw [← List.map_append]
  walk_at "st"
  refine wl_t ?_
  rw [cuts']
  refine wo_addT (by simp only [List.length_map, List.length_take, List.length_append, List.length_drop]; omega) ?_
  rw [← List.map_append]
  walk_at "st"
  refine lessened_w (i := i) (x := y) l3.1 (by omega) hx hy ?_
  walk_at "st"
  refine same_B hp hsw rfl l3.1 ?_
  walk_at "st"
  refine ⟨true, rfl, ifF ?_⟩
  walk_at "st"
  refine pform l3.1 (by omega) hp hsw ?_
  walk_at "st"
  refine (lform l3.1 (j := 30) (by omega) hp hsw ?_).mono fun d S1 w => wa_0 w
  walk_at "st"
  obtain ⟨y1, y2⟩ := rawB_sz hp hsw
  refine same_f rfl l3.1 y1 y2 ?_
  walk_at "st"
  refine ⟨true, rfl, ifF ?_⟩
  walk_at "st"
  refine alike_w l3.1 hp (by omega) (by omega) hsw hb ?_
  rw [hr]
  walk_at "st"
  refine (lform l3.1 (j := 30) (by omega) hp hsw ?_).mono fun d S1 w => wa_0 w
  walk_at "st"
  refine wo_eqF ?_
  walk_at "st"
  refine same_b l3.1 ?_
  walk_at "st"
  refine ⟨true, rfl, ifF ?_⟩
  walk_at "st"
  refine wl_t ?_
  walk_at "st"
  refine wl_t ?_
  rw [cuts, cuts']
  refine wo_addT (by simp only [List.length_map, List.length_take, List.length_drop]; omega) ?_
  rw [← List.map_append]
  walk_at "st"
  have hom : BkOk ps 30 u (omitR rs i) := by
    rw [omit_swap]
    exact swap_bk hb hil (by simp) fun r hr => by simp at hr
  refine without_w l3.1 (by omega) ?_
  walk_at "st"
  refine same_B hp hom rfl l3.1 ?_
  refine ⟨true, rfl, ifT ?_⟩
  walk_at "st"
  refine pform l3.1 (by omega) hp hom ?_
  walk_at "st"
  refine (lform l3.1 (j := 30) (by omega) hp hom ?_).mono fun d S1 w => wa_0 w
  walk_at "st"
  obtain ⟨y1, y2⟩ := rawB_sz hp hom
  refine same_f rfl l3.1 y1 y2 ?_
  exact kf_v l3.1 l3.2.1.symm (by rw [D.nc]) (q T3 l3)
end
end K85

namespace K85
open PySem L2 Dl PL
section
variable {S : Sto} {n : Nat} {Q : QE} {R : QS} {ps : List Str} {j : Nat} {u : Int} {rs : List Rg} {p0 : Str}
theorem LS.app {T T0 X : Sto} (h : LS S n T) (h2 : LS (T ++ T0) n X) : ∃ T2, X = T2 ++ T0 ∧ LS S n T2 := by
  rcases h2.2.2.2 with e | e
  · exact ⟨T, e, h⟩
  · obtain ⟨T2, rfl, u⟩ := Up.app h.2.2.1.lt e
    exact ⟨T2, rfl, h.up u⟩
def kim : Str := "kim"
theorem kim_ok : PyData.strOk kim = true := by decide +kernel
def tU (ps : List Str) (u : Int) (rs : List Rg) : Int := (rawB ps u rs).u / (rawB ps u rs).c
def tR (ps : List Str) (h p0 : Str) (u : Int) (rs : List Rg) : List Rg := fb ps h p0 (rawB ps u rs) (nt rs)
theorem u_le {r : Raw} (h : r.Ok) : r.u / r.c ≤ r.u ∧ 0 < r.u / r.c := by
  have hc := Raw.c_pos h
  have h1 := div_le hc (r.c_dvd.1)
  have h2 := (Raw.low_ok h).pos
  have h2 : 0 < r.u / r.c := h2
  have := h.pos
  exact ⟨by omega, h2⟩
theorem tU_le (hb : BkOk ps j u rs) : tU ps u rs ≤ 2 * u ∧ 0 < tU ps u rs := u_le (rawB_ok hb)
theorem t_bk {h : Str} (hp : PsOk ps) (hb : BkOk ps j u rs) (hl : rs.length ≤ 40) (hu : u < 2 ^ 60) (h0 : ps[0]? = some p0) (hh : PyData.strOk h = true) : BkOk ps (j + 8 + 6) (tU ps u rs) (tR ps h p0 u rs) :=
  fbk_bk hp (rFm hp (rawB_rb hp hb hl)) h0 hh (by have := (tU_le hb).1; show tU ps u rs < _; omega)
theorem t_form {h : Str} (hp : PsOk ps) (hb : BkOk ps j u rs) (hl : rs.length ≤ 40) (hu : u < 2 ^ 60) (h0 : ps[0]? = some p0) (hh : PyData.strOk h = true) : (rawB ps (tU ps u rs) (tR ps h p0 u rs)).form = (rawB ps u rs).form :=
  fbk_form hp (rawB_rb hp hb hl) h0 hh (by have := (tU_le hb).1; show tU ps u rs < _; omega)
theorem t_len {h : Str} (hp : PsOk ps) : (tR ps h p0 u rs).length ≤ rs.length + 8 := by
  have h1 := fbk_len (h := h) (p0 := p0) (f := fun p => nt rs p / (rawB ps u rs).c) (E := rE ps (rawB ps u rs)) hp
  rw [rE_len] at h1
  have h2 : (rawB ps u rs).ks.length ≤ rs.length := by
    show ((tally (ents ps rs)).map (·.1)).length ≤ _
    rw [List.length_map]
    exact ents_len rs
  have := hp.l9
  unfold tR fb
  omega
theorem told_ok {T : Sto} {L : Nat} {bk : D} {fs ts : List D} (hp : PsOk ps) (hb : BkOk ps 30 u rs) (hu : u < 2 ^ 20) (hl : rs.length ≤ 20) (h0 : ps[0]? = some p0) (lT : LS S n T) (hL : L = T.length) (hfs : D.ncs fs = true) (hts : D.ncs ts = true) (hf5 : fs.length ≤ 5) (ht5 : ts.length ≤ 5)
    (q : ∀ T', LS S n T' → R .nx [none, some (.loc n), none, some (encP ps), some bk, some (.loc L), some (.loc (L + 1)), none, none, none, none, none, none, none, none, none, none, none, none, none, none, none, none, none] (T' ++ [.lst (fs ++ [(rawB ps u rs).form]), .lst (ts ++ [encB (tU ps u rs) (tR ps kim p0 u rs)])])) :
    Ws b_law_1 [none, some (.loc n), none, some (encP ps), some bk, some (.loc L), some (.loc (L + 1)), some (encB u rs), none, none, none, none, none, none, none, none, none, none, none, none, none, none, none, none] (T ++ [.lst fs, .lst ts]) R := by
  subst hL
  have g : ∀ {T' : Sto} (l : List D) (c : Cell), T'.length = T.length → (T' ++ [Cell.lst l, c])[T.length]? = some (.lst l) := fun {T'} l c e => by rw [← e]; exact get_end T' [c] _
  have g2 : ∀ {T' : Sto} (c : Cell) (d : List D), T'.length = T.length → (T' ++ [c, Cell.lst d])[T.length + 1]? = some (.lst d) := fun {T'} f d e => by
    rw [← e, List.getElem?_append_right (by omega), show T'.length + 1 - T'.length = 1 by omega]
    rfl
  have st : ∀ {T' : Sto} (l : List D) (c c' : Cell), T'.length = T.length → (T' ++ [Cell.lst l, c]).set T.length c' = T' ++ [c', c] := fun {T'} f c c' e => by rw [← e]; exact set_end T' [c] _ _
  have st2 : ∀ {T' : Sto} (c0 c c' : Cell), T'.length = T.length → (T' ++ [c0, c]).set (T.length + 1) c' = T' ++ [c0, c'] := fun {T'} c0 c c' e => by
    rw [← e, List.set_append_right _ _ (by omega), show T'.length + 1 - T'.length = 1 by omega]
    rfl
  have fl : ∀ {T' : Sto} {a b : List D}, LS S n T' → D.ncs a = true → D.ncs b = true → Flat (T' ++ [Cell.lst a, .lst b]) := fun {T' a b} h ha hb => by
    have := (h.1.app (c := Cell.lst a) ha).app (c := Cell.lst b) hb
    rwa [List.append_assoc] at this
  have hb40 : rs.length ≤ 40 := by omega
  have hu60 : u < 2 ^ 60 := by omega
  have rb := rawB_rb hp hb hb40
  have tb := t_bk hp hb hb40 hu60 h0 kim_ok
  have tf := t_form hp hb hb40 hu60 h0 kim_ok
  have hU : (rawB ps u rs).u / (rawB ps u rs).c < 2 ^ 64 := by have := (tU_le hb).1; show tU ps u rs < _; omega
  obtain ⟨z1, z2⟩ := rawB_sz hp hb
  have hfs' : D.ncs (fs ++ [(rawB ps u rs).form]) = true := by
    have h1 := form_nc (rawB ps u rs)
    rw [ncs_all] at hfs ⊢
    rw [List.all_append, hfs]
    simp [h1]
  unfold b_law_1
  walk_at "st"
  refine (lform (fl lT hfs hts) (j := 30) (by omega) hp hb ?_).mono fun d S1 w => wa_0 w
  walk_at "st"
  refine ⟨ty_l (g _ _ rfl), ?_⟩
  walk_at "st"
  refine wm (m_app (g _ _ rfl) (by rw [line]; omega)) ?_
  rw [st _ _ _ rfl]
  walk_at "st"
  refine pform (fl lT hfs' hts) (by omega) hp hb ?_
  walk_at "st"
  refine same_f rfl (fl lT hfs' hts) z1 z2 ?_
  walk_at "st"
  refine ⟨true, rfl, ifF ?_⟩
  walk_at "st"
  refine parts_w (fl lT hfs' hts) (lT.2.2.1.app _) hp hb hu fun X lX => ?_
  obtain ⟨T2, rfl, l2⟩ := lT.app lX
  have e2 : T2.length = T.length := by rw [l2.2.1, lT.2.1]
  walk_at "st"
  refine ⟨true, rfl, ifF ?_⟩
  walk_at "st"
  refine fb_w (fl l2 hfs' hts) hp rb h0 ?_
  walk_at "st"
  refine fisb (h := kim) (fl l2 hfs' hts) hp rb (by omega) h0 kim_ok hU ?_
  walk_at "st"
  refine ⟨true, rfl, ifF ?_⟩
  walk_at "st"
  refine pform (fl l2 hfs' hts) (j := 30 + 8 + 6) (by omega) hp tb ?_
  walk_at "st"
  refine same_f tf (fl l2 hfs' hts) z1 z2 ?_
  walk_at "st"
  refine ⟨true, rfl, ifF ?_⟩
  walk_at "st"
  refine ⟨ty_l (g2 _ _ e2), ?_⟩
  walk_at "st"
  refine wm (m_app (g2 _ _ e2) (by rw [line]; omega)) ?_
  rw [st2 _ _ _ e2]
  walk_at "st"
  exact q T2 l2
end
end K85

namespace K85
open PySem L2 Dl PL
theorem cast_k : CastOk 16007 1000457 2147482859 (eBin oPow (eC (.int 10)) (eC (.int 15))) where
  h1 := by decide
  h2 := by decide
  h3 := by decide
  h4 := ⟨10 ^ 15, fun Γ S Q q => we_b (we_c (we_c ⟨_, _, by
    show (if (0 : Int) ≤ 15 ∧ (15 : Int) ≤ 1000000 ∧ (10 : Int).natAbs < 2 ^ 64 then some (D.int (10 ^ (15 : Int).toNat), S) else none) = _
    rw [if_pos (by decide)]
    rfl, q⟩))⟩
theorem cast_w {S : Sto} {ns : List Int} {Q : QE} (hf : Flat S) (hn : ns.length ≤ 63) (q : ∀ c' : Cell, c'.flat = true → Led (S ++ [c']) S.length → Q (.loc S.length) (S ++ [c'])) : WF F__law_cast [.rov (ns.map D.int)] S Q := cast_ok (c := 173) cast_k hf hn q
section
variable {S : Sto} {n : Nat} {Q : QE} {R : QS} {ps : List Str}
structure Bk (ps : List Str) (b : Int × List Rg) : Prop where
  bk : BkOk ps 30 b.1 b.2
  u : b.1 < 2 ^ 20
  l : b.2.length ≤ 20
theorem added_F {r0 r1 : Raw} {b : Nat} {f0 f1 : Str → Int} (hf : Flat S) (hp : PsOk ps) (h0 : RbOk ps b r0 f0) (h1 : RbOk ps b r1 f1) (hU0 : r0.u / r0.c < 2 ^ 64) (hU1 : r1.u / r1.c < 2 ^ 64) (hb : b ≤ 150) (q : Q (radd ps r0 f0 r1 f1).form S) : WF F__law_added [r0.form, r1.form] S Q := by
  rw [rform_G hp h0, rform_G hp h1]
  exact added_w hf hp (rFm hp h0) (rFm hp h1) hU0 hU1 hb q
theorem both_wb {u u' : Int} {rs rs' : List Rg} (hf : Flat S) (hl : rs.length ≤ 200) (hl' : rs'.length ≤ 200) (h0 : 0 < u) (h0' : 0 < u') (h1 : u < 2 ^ 64) (h1' : u' < 2 ^ 64) (q : Q (encB (lc u u') (bth u rs u' rs')) S) : WF F_both_books [encB u rs, encB u' rs'] S Q := both_w hf hl hl' h0 h0' h1 h1' q
end
theorem tsum_nm {k : Int × Int} : ∀ {es : Tal}, k ∉ es.map (·.1) → tsum es k = 0
  | [], _ => rfl
  | e :: es, h => by
    rw [List.map_cons, List.mem_cons, not_or] at h
    rw [tsum, tsum_nm h.2, if_neg fun q => h.1 q.symm]
    rfl
theorem law_holds : ∀ ns : List Int, ns.length ≤ 63 → ∃ S', F_law [.rov (ns.map D.int)] [] = some (.bl true, S') := by
  intro ns hn
  suffices h : WF F_law [.rov (ns.map D.int)] [] fun d S' => d = .bl true by
    obtain ⟨d, S', e, rfl⟩ := h
    exact ⟨S', e⟩
  refine wf_e rfl ?_
  show Ws m_law [some (.rov (ns.map D.int)), none, none, none, none, none, none, none, none, none, none, none, none, none, none, none, none, none, none, none, none, none, none, none] [] _
  unfold m_law
  walk_at "st"
  have hf0 : Flat ([] : Sto) := fun c hc => by simp at hc
  refine cast_w hf0 hn fun c hc hL => ?_
  have hf1 : Flat ([] ++ [c]) := hf0.app hc
  have l0 : LS ([] ++ [c]) 0 ([] ++ [c]) := LS.refl hf1 hL
  generalize hS1 : ([] ++ [c] : Sto) = S1 at *
  have hS1l : S1.length = 1 := by rw [← hS1]; rfl
  walk_at "st"
  refine mould_d S1 0 9 _ hL hf1 (by decide) (by decide) fun w9 S2 hw9 u2 => ?_
  have l2 := l0.up u2
  walk_at "st"
  generalize hwide : ((w9 : Int) == 4) = wide
  refine ⟨wide, rfl, ?_⟩
  have hpl : ∀ R : QE, (∀ m : Nat, 2 ≤ m → m ≤ 9 → ∀ T, LS S1 0 T → R (.int (m : Nat)) T) → (if wide = true then We (eC (.int 9)) [some (.rov (ns.map D.int)), some (.loc 0), some (.bl wide), none, none, none, none, none, none, none, none, none, none, none, none, none, none, none, none, none, none, none, none, none] S2 R else We (eBin oAdd (eC (.int 2)) (eCall F__law_mould [(eVar 1), (eC (.int 4))])) [some (.rov (ns.map D.int)), some (.loc 0), some (.bl wide), none, none, none, none, none, none, none, none, none, none, none, none, none, none, none, none, none, none, none, none, none] S2 R) := fun R hR => by
    refine ifB (fun _ => ?_) fun _ => ?_
    · exact we_c (hR 9 (by decide) (by decide) S2 l2)
    · walk_at "st"
      refine mould_d S2 0 4 _ l2.2.2.1 l2.1 (by decide) (by decide) fun w4 S3 hw4 u3 => ?_
      walk_at "st"
      have := hR (2 + w4) (by omega) (by omega) S3 (l2.up u3)
      rw [Int.natCast_add] at this
      exact this
  refine hpl _ fun m h2 h9 S3 l3 => ?_
  walk_at "st"
  refine places_w l3.1 l3.2.2.1 h2 h9 fun ps S4 hp l4' => ?_
  have l4 : LS S1 0 S4 := by
    rcases l4'.2.2.2 with e | e
    · rw [e]; exact l3
    · exact l3.up e
  clear l4'
  walk_at "st"
  -- the books
  obtain ⟨acc, T, e1, eT, ea, bs, en, hT, hbs⟩ := lc_st (it := iRng [(eC (.int 2))]) (g := gN 23) (ts := tYs) (el := (eCall F__law_book [(eVar 1), (eVar 3), (eIf (tru (eVar 2)) (eC (.int 20)) (eC (.int 8)))])) (vs := [23]) (S := S4) (S1 := S4) (its := rgD 0 1 2)
    (Γ := [some (.rov (ns.map D.int)), some (.loc 0), some (.bl wide), some (encP ps), none, none, none, none, none, none, none, none, none, none, none, none, none, none, none, none, none, none, none, none]) (fun i acc T => ∃ bs : List (Int × List Rg), acc = bs.map (fun b => encB b.1 b.2) ∧ LS S1 0 T ∧ bs.length = i ∧ ∀ b ∈ bs, Bk ps b)
    rfl (by rw [rgD_len, line]; omega) ⟨[], rfl, l4, rfl, fun b hb => by simp at hb⟩ (by
      rintro i d acc T hd hTl ⟨bs, rfl, hT, hn, hB⟩
      have hsn : D.ncs (bs.map fun b => encB b.1 b.2) = true := ncs_map _ (fun _ => encB_nc _ _) _
      refine ⟨_, rfl, rfl, ?_⟩
      walk_at "st"
      refine ⟨wide, rfl, ?_⟩
      have key : ∀ R : QE, (∀ k : Nat, k ≤ 20 → R (.int (k : Nat)) (T ++ [Cell.lst (bs.map fun b => encB b.1 b.2)])) → (if wide = true then We (eC (.int 20)) [some (.rov (ns.map D.int)), some (.loc 0), some (.bl wide), some (encP ps), none, none, none, none, none, none, none, none, none, none, none, none, none, none, none, none, none, none, none, some d] (T ++ [Cell.lst (bs.map fun b => encB b.1 b.2)]) R else We (eC (.int 8)) [some (.rov (ns.map D.int)), some (.loc 0), some (.bl wide), some (encP ps), none, none, none, none, none, none, none, none, none, none, none, none, none, none, none, none, none, none, none, some d] (T ++ [Cell.lst (bs.map fun b => encB b.1 b.2)]) R) := fun R hR => ifB (fun _ => we_c (hR 20 (by decide))) fun _ => we_c (hR 8 (by decide))
      refine key _ fun k hk => ?_
      walk_at "st"
      refine book_w hp (hT.1.app hsn) (hT.2.2.1.app _) hk fun u rs X hb hu hl lX => ?_
      obtain ⟨T2, rfl, l5⟩ := hT.app lX
      refine ⟨T2, rfl, by rw [l5.2.1, ← l4.2.1], bs ++ [(u, rs)], by rw [List.map_append]; rfl, l5, by rw [List.length_append, hn]; rfl, fun b hb' => ?_⟩
      rcases List.mem_append.mp hb' with q | q
      · exact hB b q
      · rw [List.mem_singleton.mp q]
        exact ⟨hb, hu, hl⟩)
  refine We.run e1 ?_
  subst en
  rw [rgD_len] at hbs
  obtain ⟨hbl, hB⟩ := hbs
  match bs, hbl, hB, e1 with
  | [(u0, rs0), (u1, rs1)], _, hB, e1 =>
  have B0 := hB (u0, rs0) (by simp)
  have B1 := hB (u1, rs1) (by simp)
  have b0 := B0.bk
  have b1 := B1.bk
  have x0 := B0.u
  have x1 := B1.u
  have y0 := B0.l
  have y1 := B1.l
  simp only at b0 b1 x0 x1 y0 y1
  clear hB B0 B1 e1
  have hTl : T.length = 1 := by rw [hT.2.1, hS1l]
  have c0 : ∀ x : Int, (D.int x).nc = true := fun x => by rw [D.nc]
  have cb : ∀ x : Bool, (D.bl x).nc = true := fun x => by rw [D.nc]
  rw [← eT]
  have hsn : D.ncs [encB u0 rs0, encB u1 rs1] = true := by simp [D.ncs, encB_nc]
  have cl : (D.lst [encB u0 rs0, encB u1 rs1]).nc = true := by rw [D.nc]; exact hsn
  have hlt := hT.2.2.1.lt
  have crov : (D.rov (ns.map D.int)).nc = true := by rw [D.nc]; exact ints_nc ns
  refine kr_n hT.1 rfl (Γ1 := [some (.rov (ns.map D.int)), some (.loc 0), some (.bl wide), some (encP ps), some (.lst [encB u0 rs0, encB u1 rs1]), none, none, none, none, none, none, none, none, none, none, none, none, none, none, none, none, none, none, none]) ?_ ?_
  · show rdg _ (T ++ [Cell.lst [encB u0 rs0, encB u1 rs1]]) [some (.rov (ns.map D.int)), some (.loc 0), some (.bl wide), some (encP ps), some (.loc T.length), none, none, none, none, none, none, none, none, none, none, none, none, none, none, none, none, none, none, none] = _
    have cn : rdo T.length (T ++ [Cell.lst [encB u0 rs0, encB u1 rs1]]) 5 (.loc 0) = some (.loc 0) := rdo_lo (by rw [D.lo]; exact decide_eq_true hlt)
    have c1 := rdo_list (b := T.length) (m := T.length) (by omega) (get_end T [] (.lst [encB u0 rs0, encB u1 rs1])) hsn
    simp only [rdg_cons, rdg_nil, Option.bind_some, Option.bind_none, rdo_nc crov, rdo_nc (cb _), rdo_nc (encP_nc _), cn, c1]
  walk_at "st"
  unfold b_law_2
  walk_at "st"
  refine wi_v ?_
  walk_at "st"
  refine ⟨(fun z e => by cases e), _, _, rfl, ?_⟩
  obtain ⟨p0, hp0⟩ : ∃ p0, ps[0]? = some p0 := ⟨ps[0]'(by have := hp.l2; omega), List.getElem?_eq_getElem _⟩
  have eL : (T ++ [Cell.lst []]).length = T.length + 1 := by rw [List.length_append]; rfl
  rw [List.append_assoc, eL]
  refine wl_inv (fun i Γ X => ∃ T', LS S1 0 T' ∧ Γ = [none, some (.loc 0), none, some (encP ps), some (.lst [encB u0 rs0, encB u1 rs1]), some (.loc T.length), some (.loc (T.length + 1)), none, none, none, none, none, none, none, none, none, none, none, none, none, none, none, none, none] ∧ X = T' ++ [.lst ([(rawB ps u0 rs0).form, (rawB ps u1 rs1).form].take i), .lst ([encB (tU ps u0 rs0) (tR ps kim p0 u0 rs0), encB (tU ps u1 rs1) (tR ps kim p0 u1 rs1)].take i)]) (fun i Γ T _ _ => lkd_nil T) ?_ ⟨T, hT, rfl, rfl⟩ ?_
  · rintro i d Γ X hd ⟨T', lT', rfl, rfl⟩
    have eT' : T'.length = T.length := by rw [lT'.2.1, hT.2.1]
    refine ⟨_, rfl, ?_⟩
    match i, hd with
    | 0, hd =>
      cases hd
      refine told_ok (bk := .lst [encB u0 rs0, encB u1 rs1]) (fs := []) (ts := []) hp b0 x0 y0 hp0 lT' eT'.symm (by rw [D.ncs]) (by rw [D.ncs]) (by simp) (by simp) fun T2 l2 => ?_
      exact ⟨T2, l2, rfl, rfl⟩
    | 1, hd =>
      cases hd
      refine told_ok (bk := .lst [encB u0 rs0, encB u1 rs1]) (fs := [(rawB ps u0 rs0).form]) (ts := [encB (tU ps u0 rs0) (tR ps kim p0 u0 rs0)]) hp b1 x1 y1 hp0 lT' eT'.symm (by simp [D.ncs, form_nc]) (by simp [D.ncs, encB_nc]) (by simp) (by simp) fun T2 l2 => ?_
      exact ⟨T2, l2, rfl, rfl⟩
    | i + 2, hd => cases hd
  rintro Γ X ⟨T5, l5, rfl, rfl⟩
  have e5 : T5.length = T.length := by rw [l5.2.1, hT.2.1]
  have hlt5 := l5.2.2.1.lt
  have hfs : D.ncs [(rawB ps u0 rs0).form, (rawB ps u1 rs1).form] = true := by simp [D.ncs, form_nc]
  have hts : D.ncs [encB (tU ps u0 rs0) (tR ps kim p0 u0 rs0), encB (tU ps u1 rs1) (tR ps kim p0 u1 rs1)] = true := by simp [D.ncs, encB_nc]
  rw [← e5]
  refine kr_n l5.1 rfl (Γ1 := [none, some (.loc 0), none, some (encP ps), some (.lst [encB u0 rs0, encB u1 rs1]), some (.lst [(rawB ps u0 rs0).form, (rawB ps u1 rs1).form]), some (.lst [encB (tU ps u0 rs0) (tR ps kim p0 u0 rs0), encB (tU ps u1 rs1) (tR ps kim p0 u1 rs1)]), none, none, none, none, none, none, none, none, none, none, none, none, none, none, none, none, none]) ?_ ?_
  · show rdg _ (T5 ++ [Cell.lst [(rawB ps u0 rs0).form, (rawB ps u1 rs1).form], .lst [encB (tU ps u0 rs0) (tR ps kim p0 u0 rs0), encB (tU ps u1 rs1) (tR ps kim p0 u1 rs1)]]) [none, some (.loc 0), none, some (encP ps), some (.lst [encB u0 rs0, encB u1 rs1]), some (.loc T5.length), some (.loc (T5.length + 1)), none, none, none, none, none, none, none, none, none, none, none, none, none, none, none, none, none] = _
    have cn : rdo T5.length (T5 ++ [Cell.lst [(rawB ps u0 rs0).form, (rawB ps u1 rs1).form], .lst [encB (tU ps u0 rs0) (tR ps kim p0 u0 rs0), encB (tU ps u1 rs1) (tR ps kim p0 u1 rs1)]]) 5 (.loc 0) = some (.loc 0) := rdo_lo (by rw [D.lo]; exact decide_eq_true hlt5)
    have c1 := rdo_list (b := T5.length) (m := T5.length) (by omega) (get_end T5 [.lst [encB (tU ps u0 rs0) (tR ps kim p0 u0 rs0), encB (tU ps u1 rs1) (tR ps kim p0 u1 rs1)]] (.lst [(rawB ps u0 rs0).form, (rawB ps u1 rs1).form])) hfs
    have c2 := rdo_list (b := T5.length) (m := T5.length + 1) (S := T5 ++ [Cell.lst [(rawB ps u0 rs0).form, (rawB ps u1 rs1).form], .lst [encB (tU ps u0 rs0) (tR ps kim p0 u0 rs0), encB (tU ps u1 rs1) (tR ps kim p0 u1 rs1)]]) (by omega) (by
      rw [List.getElem?_append_right (by omega), show T5.length + 1 - T5.length = 1 by omega]
      rfl) hts
    simp only [rdg_cons, rdg_nil, Option.bind_some, Option.bind_none, rdo_nc cl, rdo_nc (encP_nc _), cn, c1, c2]
  -- behind the loops
  clear e1
  have p0' := b0.pos
  have p1' := b1.pos
  have f0' := b0.few
  have f1' := b1.few
  have y0' : rs0.length ≤ 20 := y0
  have y1' : rs1.length ≤ 20 := y1
  have x0' : u0 < 2 ^ 20 := x0
  have x1' : u1 < 2 ^ 20 := x1
  have rb0 := rawB_rb hp b0 (by show rs0.length ≤ 40; omega)
  have rb1 := rawB_rb hp b1 (by show rs1.length ≤ 40; omega)
  have tu0 := tU_le b0
  have tu1 := tU_le b1
  have hU0 : (rawB ps u0 rs0).u / (rawB ps u0 rs0).c < 2 ^ 64 := by show tU ps u0 rs0 < _; omega
  have hU1 : (rawB ps u1 rs1).u / (rawB ps u1 rs1).c < 2 ^ 64 := by show tU ps u1 rs1 < _; omega
  have t0 : BkOk ps 44 (tU ps u0 rs0) (tR ps kim p0 u0 rs0) := t_bk hp b0 (by show rs0.length ≤ 40; omega) (by show u0 < _; omega) hp0 kim_ok
  have t1 : BkOk ps 44 (tU ps u1 rs1) (tR ps kim p0 u1 rs1) := t_bk hp b1 (by show rs1.length ≤ 40; omega) (by show u1 < _; omega) hp0 kim_ok
  have tf0 := t_form (h := kim) hp b0 (by show rs0.length ≤ 40; omega) (by show u0 < _; omega) hp0 kim_ok
  have tf1 := t_form (h := kim) hp b1 (by show rs1.length ≤ 40; omega) (by show u1 < _; omega) hp0 kim_ok
  have tl0 := t_len (u := u0) (rs := rs0) (h := kim) (p0 := p0) hp
  have tl1 := t_len (u := u1) (rs := rs1) (h := kim) (p0 := p0) hp
  have B10 : BkOk ps 50 (lc u0 u1) (bth u0 rs0 u1 rs1) := bth_bk (a0 := 20) (a1 := 20) b0 b1 x0' x1' (by decide) (by decide) (by decide) (by show rs0.length + rs1.length ≤ 100; omega)
  have e11 : (radd ps (rawB ps u0 rs0) (nt rs0) (rawB ps u1 rs1) (nt rs1)).form = (rawB ps (lc u0 u1) (bth u0 rs0 u1 rs1)).form := (both_form hp b0 b1 B10 rb0 rb1 hU0 hU1 (by decide) rfl rfl).symm
  obtain ⟨z1, z2⟩ := rawB_sz hp B10
  have B12 : BkOk ps 65 (lc (tU ps u0 rs0) (tU ps u1 rs1)) (bth (tU ps u0 rs0) (tR ps kim p0 u0 rs0) (tU ps u1 rs1) (tR ps kim p0 u1 rs1)) := bth_bk (a0 := 21) (a1 := 21) t0 t1 (by omega) (by omega) (by decide) (by decide) (by decide) (by omega)
  have e12 : (rawB ps (lc (tU ps u0 rs0) (tU ps u1 rs1)) (bth (tU ps u0 rs0) (tR ps kim p0 u0 rs0) (tU ps u1 rs1) (tR ps kim p0 u1 rs1))).form = (rawB ps (lc u0 u1) (bth u0 rs0 u1 rs1)).form := (both_form hp t0 t1 B12 rb0 rb1 hU0 hU1 (by decide) tf0 tf1).trans e11
  walk_at "st"
  refine both_wb l5.1 (by omega) (by omega) b0.pos b1.pos (by omega) (by omega) ?_
  walk_at "st"
  refine added_F l5.1 hp rb0 rb1 hU0 hU1 (by decide) ?_
  rw [e11]
  walk_at "st"
  refine pform l5.1 (j := 50) (by decide) hp B10 ?_
  walk_at "st"
  refine same_f rfl l5.1 z1 z2 ?_
  walk_at "st"
  refine ⟨true, rfl, ifF ?_⟩
  walk_at "st"
  refine wf_lenG ?_
  walk_at "st"
  refine wf_lenG ?_
  walk_at "st"
  rw [List.length_map, List.length_map]
  refine ifB (fun hc => ?_) fun _ => ?_
  · walk_at "st"
    refine wf_lenG ?_
    walk_at "st"
    refine wf_lenG ?_
    walk_at "st"
    rw [List.length_map, List.length_map]
    refine ifB (fun _ => ?_) fun hc' => absurd (hc.symm.trans hc') (by decide)
    walk_at "st"
    refine pform l5.1 (j := 50) (by decide) hp B10 ?_
    walk_at "st"
    refine same_f rfl l5.1 z1 z2 ?_
    exact kf_w (Γ := []) (Q := fun d _ => d = D.bl true) (d := .bl true) (S := []) (T := T5) hf0 rfl (by rw [D.nc]) rfl
  walk_at "st"
  refine both_wb l5.1 (by omega) (by omega) t0.pos t1.pos (by omega) (by omega) ?_
  walk_at "st"
  refine pform l5.1 (j := 65) (by decide) hp B12 ?_
  walk_at "st"
  refine same_f e12 l5.1 z1 z2 ?_
  walk_at "st"
  refine ⟨true, rfl, ifF ?_⟩
  walk_at "st"
  refine alike_w l5.1 hp (by decide) (by decide) B12 B10 ?_
  rw [e12, feq_self]
  walk_at "st"
  refine same_b l5.1 ?_
  walk_at "st"
  refine ⟨true, rfl, ifF ?_⟩
  walk_at "st"
  obtain ⟨q1, q2, q3, q4, q5, q6, q7, q8⟩ := lc_facts p0' p1'
  have hl10 : lc u0 u1 < 2 ^ 60 := by
    have m := mul_big (x := u0) (y := u1) (m := 20) (n := 20) (by omega) (by omega)
    have := Int.mul_pos p0' p1'
    omega
  have n10 : (bth u0 rs0 u1 rs1).length ≤ 40 := by
    unfold bth
    rw [List.length_append, List.length_map, List.length_map]
    show rs0.length + rs1.length ≤ 40
    omega
  have rb10 := rawB_rb hp B10 n10
  have tu10 := tU_le B10
  have lea_ok : PyData.strOk ("lea7" : Str) = true := by decide +kernel
  have max_ok : PyData.strOk ("max" : Str) = true := by decide +kernel
  have hU10 : (rawB ps (lc u0 u1) (bth u0 rs0 u1 rs1)).u / (rawB ps (lc u0 u1) (bth u0 rs0 u1 rs1)).c < 2 ^ 64 := by show tU ps (lc u0 u1) (bth u0 rs0 u1 rs1) < _; omega
  have t10 : BkOk ps 64 (tU ps (lc u0 u1) (bth u0 rs0 u1 rs1)) (tR ps "lea7" p0 (lc u0 u1) (bth u0 rs0 u1 rs1)) := t_bk hp B10 n10 hl10 hp0 lea_ok
  have tf10 := t_form (h := "lea7") hp B10 n10 hl10 hp0 lea_ok
  refine fb_w (h := "lea7") l5.1 hp rb10 hp0 ?_
  walk_at "st"
  refine fisb (h := "lea7") l5.1 hp rb10 (by decide) hp0 lea_ok hU10 ?_
  walk_at "st"
  refine ⟨true, rfl, ifF ?_⟩
  walk_at "st"
  refine alike_w (u := tU ps (lc u0 u1) (bth u0 rs0 u1 rs1)) (rs := tR ps "lea7" p0 (lc u0 u1) (bth u0 rs0 u1 rs1)) l5.1 hp (by decide) (by decide) t10 B10 ?_
  rw [tf10, feq_self]
  walk_at "st"
  refine same_b l5.1 ?_
  walk_at "st"
  refine ⟨true, rfl, ifF ?_⟩
  walk_at "st"
  unfold b_law_4
  walk_at "st"
  refine We.run (d := .loc T5.length) (S1 := T5 ++ [.dt (encTal (tally []))]) rfl ?_
  walk_at "st"
  refine wi_v ?_
  walk_at "st"
  rw [← rE_rows hp rb0]
  refine ⟨(fun z e => by cases e), _, _, rfl, ?_⟩
  rw [List.map_map]
  have ho0 := rFm hp rb0
  refine wl_fold (σ := List Rg) (xs := rE ps (rawB ps u0 rs0)) (enc := encT ∘ rowE ps) (fun _ => [none, some (.loc 0), none, some (encP ps), some (.lst [encB u0 rs0, encB u1 rs1]), some (.lst [(rawB ps u0 rs0).form, (rawB ps u1 rs1).form]), none, none, none, none, some (encB (lc u0 u1) (bth u0 rs0 u1 rs1)), none, some (encB (lc (tU ps u0 rs0) (tU ps u1 rs1)) (bth (tU ps u0 rs0) (tR ps kim p0 u0 rs0) (tU ps u1 rs1) (tR ps kim p0 u1 rs1))), none, some (.loc T5.length), none, none, none, none, none, none, none, none, none]) (fun s => T5 ++ [.dt (encTal (tally (ers ps 2 s)))]) (fun p r => p ++ [r]) (fun p s => s = p) (st := []) ?_ rfl rfl rfl ?_
  · rintro p e q' s ex rfl
    have hsl : s.length ≤ 40 := by
      have := congrArg List.length ex
      have := ho0.few
      rw [List.length_append] at *
      omega
    refine ⟨_, rfl, ?_⟩
    unfold b_law_3
    have g : ∀ d : Tal, (T5 ++ [Cell.dt (encTal d)])[T5.length]? = some (.dt (encTal d)) := fun f => get_end T5 [] _
    walk_at "st"
    refine ⟨_, setIt_dt (g _) (by
      have := tally_len (ers ps 2 s)
      have h2 : (ers ps 2 s).length = s.length := by simp [ers]
      omega) (ent0 ps e).1 _, ?_⟩
    rw [set_end]
    walk_at "st"
    refine ⟨rfl, ?_, rfl⟩
    have e3 : ers ps 2 (s ++ [e]) = ers ps 2 s ++ [((ent0 ps e).1, e.n * 2)] := by
      unfold ers
      rw [List.map_append, List.map_append]
      rfl
    have hk : (ent0 ps e).1 ∉ (ers ps 2 s).map (·.1) := by
      have nd := ho0.nd
      rw [ex, List.map_append, List.map_cons] at nd
      have hd := (List.nodup_append.mp nd).2.2
      intro hm
      have e5 : (ers ps 2 s).map (·.1) = s.map fun e => (ent0 ps e).1 := by
        unfold ers
        rw [List.map_map, List.map_map]
        rfl
      rw [e5] at hm
      exact hd _ hm _ (by simp) rfl
    rw [e3, tally_snoc, tadd]
    show _ = T5 ++ [Cell.dt (encTal (tput (tally (ers ps 2 s)) (ent0 ps e).1 (tget (tally (ers ps 2 s)) (ent0 ps e).1 + e.n * 2)))]
    rw [(tally_ok (ers ps 2 s)).2.2, tsum_nm hk, Int.zero_add, Int.mul_comm e.n 2]
  intro e
  rw [e]
  have cd := encDT_nc (tally (ers ps 2 (rE ps (rawB ps u0 rs0))))
  have cfs : (D.lst [(rawB ps u0 rs0).form, (rawB ps u1 rs1).form]).nc = true := by rw [D.nc]; exact hfs
  refine kr_n l5.1 rfl (Γ1 := [none, some (.loc 0), none, some (encP ps), some (.lst [encB u0 rs0, encB u1 rs1]), some (.lst [(rawB ps u0 rs0).form, (rawB ps u1 rs1).form]), none, none, none, none, some (encB (lc u0 u1) (bth u0 rs0 u1 rs1)), none, some (encB (lc (tU ps u0 rs0) (tU ps u1 rs1)) (bth (tU ps u0 rs0) (tR ps kim p0 u0 rs0) (tU ps u1 rs1) (tR ps kim p0 u1 rs1))), none, some (encDT (tally (ers ps 2 (rE ps (rawB ps u0 rs0))))), none, none, none, none, none, none, none, none, none]) ?_ ?_
  · show rdg _ (T5 ++ [Cell.dt (encTal (tally (ers ps 2 (rE ps (rawB ps u0 rs0)))))]) [none, some (.loc 0), none, some (encP ps), some (.lst [encB u0 rs0, encB u1 rs1]), some (.lst [(rawB ps u0 rs0).form, (rawB ps u1 rs1).form]), none, none, none, none, some (encB (lc u0 u1) (bth u0 rs0 u1 rs1)), none, some (encB (lc (tU ps u0 rs0) (tU ps u1 rs1)) (bth (tU ps u0 rs0) (tR ps kim p0 u0 rs0) (tU ps u1 rs1) (tR ps kim p0 u1 rs1))), none, some (.loc T5.length), none, none, none, none, none, none, none, none, none] = _
    have cn : rdo T5.length (T5 ++ [Cell.dt (encTal (tally (ers ps 2 (rE ps (rawB ps u0 rs0)))))]) 5 (.loc 0) = some (.loc 0) := rdo_lo (by rw [D.lo]; exact decide_eq_true hlt5)
    have c1 := rdo_tal (b := T5.length) (Nat.le_refl _) (get_end T5 [] (Cell.dt (encTal (tally (ers ps 2 (rE ps (rawB ps u0 rs0)))))))
    simp only [rdg_cons, rdg_nil, Option.bind_some, Option.bind_none, rdo_nc cl, rdo_nc cfs, rdo_nc (encP_nc _), rdo_nc (encB_nc _ _), cn, c1]
  walk_at "st"
  refine we_tn ?_
  walk_at "st"
  refine ⟨l5.1, rfl, by simp [D.ncs, D.nc], ?_⟩
  walk_at "st"
  rw [List.length_map]
  refine wo_mulL (by have := hp.l9; simp; omega) (by have := hp.l9; omega) ?_
  rw [rep_flat (fun _ => D.int 0) (.int 0) (fun _ => rfl)]
  refine ⟨T5, _, rfl, rfl, l5.1, rfl, ncs_map _ (fun _ => by rw [D.nc]) _, ?_⟩
  walk_at "st"
  have en0 : D.tup [.int ((rawB ps u0 rs0).u / (rawB ps u0 rs0).c), .lst (ps.map fun _ => D.int 0), encDT (tally (ers ps 2 (rE ps (rawB ps u0 rs0))))] = D.tup [.int (rnone ps (rawB ps u0 rs0)).u, .lst ((rnone ps (rawB ps u0 rs0)).N.map D.int), encDT (tally (ers ps 2 (rE ps (rawB ps u0 rs0))))] := by
    show _ = D.tup [.int _, .lst ((ps.map fun _ => (0 : Int)).map D.int), _]
    rw [List.map_map]
    rfl
  refine (show WF F__law_form [D.tup [.int ((rawB ps u0 rs0).u / (rawB ps u0 rs0).c), .lst (ps.map fun _ => D.int 0), encDT (tally (ers ps 2 (rE ps (rawB ps u0 rs0))))]] T5 _ from ?_)
  rw [en0]
  have rnw := rnone_rw hp rb0 hU0 (by decide)
  refine form_law l5.1 rnw ?_
  walk_at "st"
  refine we_lc (xs := (rawB ps u0 rs0).N.map (· / (rawB ps u0 rs0).c)) (enc := D.int) (lk := []) (S1 := T5) (fun _ => true) (fun x => D.int (0 - x)) rfl (lkd_nil _) (by rw [line, List.length_map]; have := (rawB_sz hp b0).1; omega) l5.1 rfl (fun _ _ => by rw [D.nc]) ?_ ?_
  · intro x _ T
    refine ⟨_, rfl, wt_y ⟨rfl, rfl, fun _ => ?_⟩⟩
    walk_at "st"
    exact ⟨rfl, rfl⟩
  rw [filter_all, ← negs]
  walk_at "st"
  have rn := rneg_rb hp rb0
  have enr : D.tup [.int ((rawB ps u0 rs0).u / (rawB ps u0 rs0).c), .tup ((((rawB ps u0 rs0).N.map (· / (rawB ps u0 rs0).c)).map (0 - ·)).map D.int), .tup ((srt ((rawB ps u0 rs0).ks.map (row3 fun k => (rawB ps u0 rs0).t k / (rawB ps u0 rs0).c))).map encT)] = (rneg (rawB ps u0 rs0)).form := (rneg_form _).symm
  rw [enr]
  have hcn : (rneg (rawB ps u0 rs0)).c = (rawB ps u0 rs0).c := rneg_c _
  have un := u_le rn.ok
  have hun : (rneg (rawB ps u0 rs0)).u = 2 * u0 := rfl
  have hUn : (rneg (rawB ps u0 rs0)).u / (rneg (rawB ps u0 rs0)).c < 2 ^ 64 := by omega
  have B20 : BkOk ps 44 ((rneg (rawB ps u0 rs0)).u / (rneg (rawB ps u0 rs0)).c) (fb ps "max" p0 (rneg (rawB ps u0 rs0)) fun p => 0 - nt rs0 p) := fbk_bk hp (rFm hp rn) hp0 max_ok hUn
  have e20 : (rawB ps ((rneg (rawB ps u0 rs0)).u / (rneg (rawB ps u0 rs0)).c) (fb ps "max" p0 (rneg (rawB ps u0 rs0)) fun p => 0 - nt rs0 p)).form = (rneg (rawB ps u0 rs0)).form := fbk_form hp rn hp0 max_ok hUn
  have n20 : (fb ps "max" p0 (rneg (rawB ps u0 rs0)) fun p => 0 - nt rs0 p).length ≤ 48 := by
    have h1 := fbk_len (h := "max") (p0 := p0) (f := fun p => (0 - nt rs0 p) / (rneg (rawB ps u0 rs0)).c) (E := rE ps (rneg (rawB ps u0 rs0))) hp
    rw [rE_len] at h1
    have h2 := rn.few
    have := hp.l9
    show (fbk ps "max" p0 (fun p => (0 - nt rs0 p) / (rneg (rawB ps u0 rs0)).c) (rE ps (rneg (rawB ps u0 rs0)))).length ≤ 48
    omega
  have BB : BkOk ps 64 (lc u0 ((rneg (rawB ps u0 rs0)).u / (rneg (rawB ps u0 rs0)).c)) (bth u0 rs0 ((rneg (rawB ps u0 rs0)).u / (rneg (rawB ps u0 rs0)).c) (fb ps "max" p0 (rneg (rawB ps u0 rs0)) fun p => 0 - nt rs0 p)) := bth_bk (a0 := 20) (a1 := 21) b0 B20 x0' (by omega) (by decide) (by decide) (by decide) (by show rs0.length + _ ≤ 100; omega)
  have eB := (both_form hp b0 B20 BB rb0 rn hU0 hUn (by decide) rfl e20).trans (none_form hp rb0 hU0 (by decide))
  refine fb_w (h := "max") l5.1 hp rn hp0 ?_
  walk_at "st"
  refine fisb (h := "max") l5.1 hp rn (by decide) hp0 max_ok hUn ?_
  walk_at "st"
  refine ⟨true, rfl, ifF ?_⟩
  walk_at "st"
  refine both_wb l5.1 (by show rs0.length ≤ 200; omega) (by omega) b0.pos B20.pos (by show u0 < _; omega) hUn ?_
  walk_at "st"
  refine pform l5.1 (j := 64) (by decide) hp BB ?_
  walk_at "st"
  refine same_f eB l5.1 rnw.lN (by have := rnw.lt; rw [rnw.ks, List.length_map]; omega) ?_
  walk_at "st"
  refine ⟨true, rfl, ifF ?_⟩
  walk_at "st"
  refine ⟨l5.1, rfl, by simp [D.ncs, D.nc], ?_⟩
  walk_at "st"
  refine (of_o T5 0 [.str must, .str may] _ l5.2.2.1 l5.1 (by simp) (by simp) (by simp [D.ncs, D.nc]) ?_).1
  intro d hd T6 u6
  have l6 := l5.up u6
  obtain ⟨k, rfl, hk⟩ : ∃ k : Str, d = .str k ∧ (k = must ∨ k = may) := by
    simp only [List.mem_cons, List.not_mem_nil, or_false] at hd
    rcases hd with rfl | rfl
    · exact ⟨_, rfl, .inl rfl⟩
    · exact ⟨_, rfl, .inr rfl⟩
  have hl2 := hp.l2
  obtain ⟨pl, hpl'⟩ : ∃ pl, ps[ps.length - 1]? = some pl := ⟨ps[ps.length - 1]'(by omega), List.getElem?_eq_getElem _⟩
  have mpl : pl ∈ ps := List.mem_of_getElem? hpl'
  have mp0 : p0 ∈ ps := List.mem_of_getElem? hp0
  have hne : p0 ≠ pl := fun q => by
    have i0 := ix_of hp.nd hp0
    have i1 := ix_of hp.nd hpl'
    rw [q] at i0
    omega
  have at0 : ∀ {T : Sto}, oIx (encP ps) (.int 0) T = some (.str p0, T) := fun {T} => by
    show (atI (ps.map D.str) 0).map _ = _
    have : atI (ps.map D.str) (0 : Nat) = some (.str p0) := at_get (by rw [List.getElem?_map, hp0]; rfl)
    rw [show ((0 : Nat) : Int) = 0 by rfl] at this
    rw [this]
    rfl
  have atl : ∀ {T : Sto}, oIx (encP ps) (.int (-1)) T = some (.str pl, T) := fun {T} => by
    show (atI (ps.map D.str) (-1)).map _ = _
    rw [at_last (x := D.str pl) (by rw [List.length_map, List.getElem?_map, hpl']; rfl)]
    rfl
  walk_at "st"
  refine wo at0 ?_
  walk_at "st"
  refine wo atl ?_
  walk_at "st"
  refine mould_d T6 0 2 _ l6.2.2.1 l6.1 (by decide) (by decide) fun w2 T7 hw2 u7 => ?_
  have l7 := l6.up u7
  walk_at "st"
  have hu12 : lc (tU ps u0 rs0) (tU ps u1 rs1) < 2 ^ 42 := by
    obtain ⟨a1, a2, _⟩ := lc_facts tu0.2 tu1.2
    have m := mul_big (x := tU ps u0 rs0) (y := tU ps u1 rs1) (m := 21) (n := 21) (by omega) (by omega)
    have := Int.mul_pos tu0.2 tu1.2
    omega
  have n12 : (bth (tU ps u0 rs0) (tR ps kim p0 u0 rs0) (tU ps u1 rs1) (tR ps kim p0 u1 rs1)).length ≤ 56 := by
    unfold bth
    rw [List.length_append, List.length_map, List.length_map]
    omega
  have rest : ∀ (xs : List Rg) (a18 a19 a20 : D), xs.length ≤ 2 → (∀ x ∈ xs, RgOk ps 1 x) → ((∃ p ∈ ps, nt xs p ≠ 0) ∨ ∃ k, tsum (ents ps xs) k ≠ 0) → Ws (qSeq (qIf (tst (eBin oGt (eCall bLen [(eBin oIx (eVar 12) (eC (.int 1)))]) (eC (.int 46)))) (qRet (eC (.bl true))) qNx)
      (qSeq (qSet 21 (eCall F_both_books [(eVar 12), (eTup [(eCall F__law_of [(eVar 1), (tidy3 (eLst [(eC (.int 1)), (eC (.int 7)), (eC (.int 999983))]))]), (eVar 22)])]))
      (qRet (eAnd (eCall F__law_same [(eCall F_alike_books [(eVar 3), (eVar 21), (eVar 10)]), (eC (.bl false))]) (eCall F__law_same [(eCall F_alike_books [(eVar 3), (eVar 10), (eVar 21)]), (eC (.bl false))])))))
      [none, some (.loc 0), none, some (encP ps), some (.lst [encB u0 rs0, encB u1 rs1]), some (.lst [(rawB ps u0 rs0).form, (rawB ps u1 rs1).form]), none, none, none, none, some (encB (lc u0 u1) (bth u0 rs0 u1 rs1)), none, some (encB (lc (tU ps u0 rs0) (tU ps u1 rs1)) (bth (tU ps u0 rs0) (tR ps kim p0 u0 rs0) (tU ps u1 rs1) (tR ps kim p0 u1 rs1))), none, some (encDT (tally (ers ps 2 (rE ps (rawB ps u0 rs0))))), none, none, none, some a18, some a19, some a20, some (encR ⟨kim, k, p0, pl, 1⟩), some (encRs xs), none] T7 (Kf (List.length ([] : Sto)) fun d _ => d = .bl true) := by
    intro xs a18 a19 a20 hxl hx hxx
    walk_at "st"
    refine wf_lenG ?_
    walk_at "st"
    refine ifB (fun _ => ?_) fun _ => ?_
    · walk_at "st"
      exact kf_w (Γ := []) (Q := fun d _ => d = D.bl true) (d := .bl true) (S := []) (T := T7) hf0 rfl (by rw [D.nc]) rfl
    walk_at "st"
    refine ⟨l7.1, rfl, by simp [D.ncs, D.nc], ?_⟩
    walk_at "st"
    refine (of_o T7 0 [.int 1, .int 7, .int 999983] _ l7.2.2.1 l7.1 (by simp) (by simp) (by simp [D.ncs, D.nc]) ?_).1
    intro d hd T8 u8
    have l8 := l7.up u8
    obtain ⟨ue, rfl, he0, he⟩ : ∃ ue : Int, d = .int ue ∧ 0 < ue ∧ ue < 2 ^ 20 := by
      simp only [List.mem_cons, List.not_mem_nil, or_false] at hd
      rcases hd with rfl | rfl | rfl
      all_goals exact ⟨_, rfl, by omega, by omega⟩
    have Bx : BkOk ps 1 ue xs := ⟨he0, by omega, by omega, hx⟩
    have B21 : BkOk ps 85 (lc (lc (tU ps u0 rs0) (tU ps u1 rs1)) ue) (bth (lc (tU ps u0 rs0) (tU ps u1 rs1)) (bth (tU ps u0 rs0) (tR ps kim p0 u0 rs0) (tU ps u1 rs1) (tR ps kim p0 u1 rs1)) ue xs) := bth_bk (a0 := 42) (a1 := 20) B12 Bx hu12 he (by decide) (by decide) (by decide) (by omega)
    have ne := more_ne B12 Bx B21 hxx
    rw [e12] at ne
    walk_at "st"
    refine both_wb (u := lc (tU ps u0 rs0) (tU ps u1 rs1)) (u' := ue) (rs' := xs) l8.1 (by omega) (by omega) B12.pos he0 (by omega) (by omega) ?_
    walk_at "st"
    refine alike_w l8.1 hp (by decide) (by decide) B21 B10 ?_
    rw [feq_ne ne]
    walk_at "st"
    refine same_b l8.1 ?_
    refine ⟨true, rfl, ifT ?_⟩
    walk_at "st"
    refine alike_w l8.1 hp (by decide) (by decide) B10 B21 ?_
    rw [feq_ne (Ne.symm ne)]
    walk_at "st"
    refine same_b l8.1 ?_
    exact kf_w (Γ := []) (Q := fun d _ => d = D.bl true) (d := .bl true) (S := []) (T := T8) hf0 rfl (by rw [D.nc]) rfl
  have okA : ∀ (k a b : Str), (k = must ∨ k = may) → a ∈ ps → b ∈ ps → a ≠ b → RgOk ps 1 ⟨kim, k, a, b, 1⟩ := fun k a b hk ha hb hab => ⟨kim_ok, hk, ha, hb, hab, by show (0 : Int) < 1; decide, by show (1 : Int) < 2 ^ 1; decide⟩
  refine ifB (fun _ => ?_) fun _ => ?_
  · walk_at "st"
    refine wo_addT (by show (5 : Nat) ≤ 16777216; decide) ?_
    walk_at "st"
    refine wo atl ?_
    walk_at "st"
    refine wo at0 ?_
    refine wa_1 (we_c (wa_0 (wa_0 (kq_n ?_))))
    refine rest [⟨kim, may, p0, pl, 1⟩, ⟨kim, may, pl, p0, 1⟩] _ _ _ (by simp) (fun x hx => ?_) (.inr ⟨(ent1 ps ⟨kim, may, p0, pl, 1⟩).1, ?_⟩)
    · simp only [List.mem_cons, List.not_mem_nil, or_false] at hx
      rcases hx with rfl | rfl
      · exact okA _ _ _ (.inr rfl) mp0 mpl hne
      · exact okA _ _ _ (.inr rfl) mpl mp0 (Ne.symm hne)
    · have e1 : ents ps [⟨kim, may, p0, pl, 1⟩, ⟨kim, may, pl, p0, 1⟩] = [ent1 ps ⟨kim, may, p0, pl, 1⟩, ent1 ps (turn ⟨kim, may, p0, pl, 1⟩)] := rfl
      rw [e1, ent1_turn]
      show tsum [(_, (1 : Int)), (_, (1 : Int))] _ ≠ 0
      simp [tsum, ent1]
  · refine ws_n (kq_n ?_)
    refine rest [⟨kim, k, p0, pl, 1⟩] _ _ _ (by simp) (fun x hx => ?_) (.inl ⟨pl, mpl, ?_⟩)
    · rw [List.mem_singleton.mp hx]
      exact okA _ _ _ hk mp0 mpl hne
    · have h1 := wt_le (okA k p0 pl hk mp0 mpl hne)
      show nt1 pl _ + 0 ≠ 0
      unfold nt1
      show (if pl = pl then _ else _) - (if p0 = pl then _ else _) + 0 ≠ 0
      rw [if_pos rfl, if_neg hne]
      omega
end K85

namespace K85
open PySem PySem.Spec PyProof.Rows L2 Dl
def top (i : Nat) : Stmt := PySem.Challenge.pw_paidwhatever_k85_whole_forms_added.main.body.getD i (.Pass ⟨0, 0, 0, 0⟩)
/-- what stands behind the names that are no defs of the text -/
structure Tx (mg : Str → Option Value) : Prop where
  m_int : mg "int" = none
  m_abs : mg "abs" = none
  m_len : mg "len" = none
  m_range : mg "range" = none
  m_str : mg "str" = none
  m_sorted : mg "sorted" = none
  m_tuple : mg "tuple" = none
  m_max : mg "max" = none
  m_isinstance : mg "isinstance" = none
  m_bool : mg "bool" = none
  m_enumerate : mg "enumerate" = none
  m_min : mg "min" = none
  m_gcd : mg "gcd" = some (.builtin "math.gcd")
  m_list : mg "list" = none
  m_zip : mg "zip" = none
  m_lcm : mg "lcm" = some (.builtin "math.lcm")
abbrev s__law_cast : Stmt := top 18
abbrev N__law_cast : List Str := ["script", "cast", "cell", "number"]
theorem sc__law_cast : FnScope N__law_cast ["script"] (defScope s__law_cast) := ⟨rfl, rfl, rfl, by decide +kernel, rfl, by decide +kernel, by decide +kernel⟩
abbrev s__law_mould : Stmt := top 19
abbrev N__law_mould : List Str := ["cast", "many", "number"]
theorem sc__law_mould : FnScope N__law_mould ["cast", "many"] (defScope s__law_mould) := ⟨rfl, rfl, rfl, by decide +kernel, rfl, by decide +kernel, by decide +kernel⟩
abbrev s__law_of : Stmt := top 20
abbrev N__law_of : List Str := ["cast", "rows"]
theorem sc__law_of : FnScope N__law_of ["cast", "rows"] (defScope s__law_of) := ⟨rfl, rfl, rfl, by decide +kernel, rfl, by decide +kernel, by decide +kernel⟩
abbrev s__law_places : Stmt := top 23
abbrev N__law_places : List Str := ["cast", "many", "signs", "shift", "names", "k"]
theorem sc__law_places : FnScope N__law_places ["cast", "many"] (defScope s__law_places) := ⟨rfl, rfl, rfl, by decide +kernel, rfl, by decide +kernel, by decide +kernel⟩
abbrev s__law_book : Stmt := top 24
abbrev N__law_book : List Str := ["cast", "places", "most", "unit", "rights", "k", "one", "two", "amount"]
theorem sc__law_book : FnScope N__law_book ["cast", "places", "most"] (defScope s__law_book) := ⟨rfl, rfl, rfl, by decide +kernel, rfl, by decide +kernel, by decide +kernel⟩
abbrev s__law_divisor : Stmt := top 21
abbrev N__law_divisor : List Str := ["one", "two", "k"]
theorem sc__law_divisor : FnScope N__law_divisor ["one", "two"] (defScope s__law_divisor) := ⟨rfl, rfl, rfl, by decide +kernel, rfl, by decide +kernel, by decide +kernel⟩
abbrev s__law_form : Stmt := top 26
abbrev N__law_form : List Str := ["sums", "under", "nets", "ties", "common", "one", "tie", "told"]
theorem sc__law_form : FnScope N__law_form ["sums"] (defScope s__law_form) := ⟨rfl, rfl, rfl, by decide +kernel, rfl, by decide +kernel, by decide +kernel⟩
abbrev s__law_sums : Stmt := top 25
abbrev N__law_sums : List Str := ["places", "book", "nets", "ties", "holder", "kind", "one", "two", "amount", "times", "tie"]
theorem sc__law_sums : FnScope N__law_sums ["places", "book"] (defScope s__law_sums) := ⟨rfl, rfl, rfl, by decide +kernel, rfl, by decide +kernel, by decide +kernel⟩
abbrev s__law_same : Stmt := top 22
abbrev N__law_same : List Str := ["told", "due", "left", "one", "two", "k"]
theorem sc__law_same : FnScope N__law_same ["told", "due"] (defScope s__law_same) := ⟨rfl, rfl, rfl, by decide +kernel, rfl, by decide +kernel, by decide +kernel⟩
abbrev s_doubled_nets : Stmt := top 2
abbrev N_doubled_nets : List Str := ["places", "book", "numbers", "nets", "right", "amount", "number", "place"]
theorem sc_doubled_nets : FnScope N_doubled_nets ["places", "book"] (defScope s_doubled_nets) := ⟨rfl, rfl, rfl, by decide +kernel, rfl, by decide +kernel, by decide +kernel⟩
abbrev s_doubled_ties : Stmt := top 3
abbrev N_doubled_ties : List Str := ["places", "book", "numbers", "ties", "right", "begin", "end", "ends", "number", "place"]
theorem sc_doubled_ties : FnScope N_doubled_ties ["places", "book"] (defScope s_doubled_ties) := ⟨rfl, rfl, rfl, by decide +kernel, rfl, by decide +kernel, by decide +kernel⟩
abbrev s_form_of : Stmt := top 4
abbrev N_form_of : List Str := ["places", "book", "under", "nets", "ties", "common", "net", "ends", "told"]
theorem sc_form_of : FnScope N_form_of ["places", "book"] (defScope s_form_of) := ⟨rfl, rfl, rfl, by decide +kernel, rfl, by decide +kernel, by decide +kernel⟩
abbrev s__law_turned : Stmt := top 28
abbrev N__law_turned : List Str := ["book", "right"]
theorem sc__law_turned : FnScope N__law_turned ["book"] (defScope s__law_turned) := ⟨rfl, rfl, rfl, by decide +kernel, rfl, by decide +kernel, by decide +kernel⟩
abbrev s_multiplied_rights : Stmt := top 14
abbrev N_multiplied_rights : List Str := ["rights", "times", "found", "holder", "kind", "place", "other", "amount"]
theorem sc_multiplied_rights : FnScope N_multiplied_rights ["rights", "times"] (defScope s_multiplied_rights) := ⟨rfl, rfl, rfl, by decide +kernel, rfl, by decide +kernel, by decide +kernel⟩
abbrev s_with_unit : Stmt := top 15
abbrev N_with_unit : List Str := ["book", "times", "unit", "rights"]
theorem sc_with_unit : FnScope N_with_unit ["book", "times"] (defScope s_with_unit) := ⟨rfl, rfl, rfl, by decide +kernel, rfl, by decide +kernel, by decide +kernel⟩
abbrev s_alike_books : Stmt := top 5
abbrev N_alike_books : List Str := ["places", "one", "other"]
theorem sc_alike_books : FnScope N_alike_books ["places", "one", "other"] (defScope s_alike_books) := ⟨rfl, rfl, rfl, by decide +kernel, rfl, by decide +kernel, by decide +kernel⟩
abbrev s_without_right : Stmt := top 12
abbrev N_without_right : List Str := ["book", "number", "unit", "rights"]
theorem sc_without_right : FnScope N_without_right ["book", "number"] (defScope s_without_right) := ⟨rfl, rfl, rfl, by decide +kernel, rfl, by decide +kernel, by decide +kernel⟩
abbrev s_lessened_right : Stmt := top 13
abbrev N_lessened_right : List Str := ["book", "number", "amount", "unit", "rights", "holder", "kind", "place", "other", "held", "less"]
theorem sc_lessened_right : FnScope N_lessened_right ["book", "number", "amount"] (defScope s_lessened_right) := ⟨rfl, rfl, rfl, by decide +kernel, rfl, by decide +kernel, by decide +kernel⟩
abbrev s__law_parts : Stmt := top 30
abbrev N__law_parts : List Str := ["cast", "places", "book", "form", "nets", "other", "number", "amount", "right", "less", "told", "gone", "one"]
theorem sc__law_parts : FnScope N__law_parts ["cast", "places", "book", "form"] (defScope s__law_parts) := ⟨rfl, rfl, rfl, by decide +kernel, rfl, by decide +kernel, by decide +kernel⟩
abbrev s_form_book : Stmt := top 6
abbrev N_form_book : List Str := ["places", "holder", "form", "under", "nets", "ties", "lacking", "rights", "begin", "end", "amount", "place"]
theorem sc_form_book : FnScope N_form_book ["places", "holder", "form"] (defScope s_form_book) := ⟨rfl, rfl, rfl, by decide +kernel, rfl, by decide +kernel, by decide +kernel⟩
abbrev s__law_is_book : Stmt := top 29
abbrev N__law_is_book : List Str := ["places", "told", "holder", "form", "musts", "ties", "right", "tie", "one"]
theorem sc__law_is_book : FnScope N__law_is_book ["places", "told", "holder", "form"] (defScope s__law_is_book) := ⟨rfl, rfl, rfl, by decide +kernel, rfl, by decide +kernel, by decide +kernel⟩
abbrev s_both_books : Stmt := top 16
abbrev N_both_books : List Str := ["one", "other", "unit", "first", "second"]
theorem sc_both_books : FnScope N_both_books ["one", "other"] (defScope s_both_books) := ⟨rfl, rfl, rfl, by decide +kernel, rfl, by decide +kernel, by decide +kernel⟩
abbrev s__law_added : Stmt := top 27
abbrev N__law_added : List Str := ["one", "two", "under", "nets", "ties", "form", "times", "u", "v", "n", "k"]
theorem sc__law_added : FnScope N__law_added ["one", "two"] (defScope s__law_added) := ⟨rfl, rfl, rfl, by decide +kernel, rfl, by decide +kernel, by decide +kernel⟩
abbrev s_law : Stmt := top 31
abbrev N_law : List Str := ["script", "cast", "wide", "places", "books", "forms", "told", "book", "form", "one", "both", "due", "again", "last", "ties", "u", "v", "n", "none", "away", "back", "more", "rights", "k"]
theorem sc_law : FnScope N_law ["script"] (defScope s_law) := ⟨rfl, rfl, rfl, by decide +kernel, rfl, by decide +kernel, by decide +kernel⟩
section
variable {P : Program} {w : World} {K : PySem.W.Frag} {mg : Str → Option Value} {base : Heap}
set_option maxHeartbeats 0 in
theorem ok__law_cast {f : Addr} {fd : FuncData} (F : Fun K "_law_cast" "_law_cast" s__law_cast f fd) (T : Tx mg)  : FnOk P w K mg base CX0 1 f fd ["script"] (spD K F__law_cast) :=
  fn_e (N := N__law_cast) (np := 1) (n := 4) (body := m__law_cast) rfl rfl rfl F sc__law_cast fun cdv A outer s H E hr =>
    (ss_cons (ss_set (n := 1) sc__law_cast.nd (by rfl) (by first | exact Or.inl rfl | exact Or.inr rfl) (se_lst (sa_cons se_int (sa_cons se_int sa_nil))))
    (ss_cons (ss_forW [0] PassesOwn.never (by rfl) (si_val (se_tidy3 (se_sl (se_v 0) so_no (so_some se_int)))) (sg_n 2 sc__law_cast.nd)
    (sss_tw [0, 2, 3] (ss_cons (ss_set (n := 3) sc__law_cast.nd (by rfl) (by first | exact Or.inl rfl | exact Or.inr rfl) (se_callB call_abs bd_abs (by rfl) T.m_abs (by decide +kernel) (sa_cons (se_callTy call_int1 bd_int (by rfl) T.m_int (by decide +kernel) (sa_cons (se_v 2) sa_nil)) sa_nil)))
    (ss_cons (ss_put hr.u1 (se_op op_mod rd_mod (se_callTy call_int1 bd_int (by rfl) T.m_int (by decide +kernel) (sa_cons (se_op or_add rd_add (se_op or_add rd_add (se_op or_mul rd_mul (se_ix hr.u1 (se_v 1) se_int) se_int) (se_op op_mod rd_mod (se_callTy call_int1 bd_int (by rfl) T.m_int (by decide +kernel) (sa_cons (se_v 3) sa_nil)) se_int)) se_int) sa_nil)) se_int) (se_v 1) se_int)
    (ss_one (ss_if (st_cmp op_ge rd_ge (se_v 3) (se_op op_pow rd_pow se_int se_int) (by rfl))
    (ss_one (ss_expr (se_bm PySem.F.plainAttrs_list PySem.F.slot_list_insert PySem.F.type_list_insert mt_insert md_insert (se_v 1) (sa_cons se_int (sa_cons (se_v 3) sa_nil)))))
    ss_nil))))))
    (ss_one (ss_ret (se_v 1)))))
set_option maxHeartbeats 0 in
theorem ok__law_mould {f : Addr} {fd : FuncData} (F : Fun K "_law_mould" "_law_mould" s__law_mould f fd) (T : Tx mg)  : FnOk P w K mg base CX0 1 f fd ["cast", "many"] (spD K F__law_mould) :=
  fn_h (N := N__law_mould) (np := 2) (n := 3) (body := m__law_mould) rfl rfl rfl F sc__law_mould fun cdv A outer s H E hr =>
    (ss_cons (ss_put hr.u1 (se_op or_add rd_add (se_ix hr.u1 (se_v 0) se_int) se_int) (se_v 0) se_int)
    (ss_cons (ss_if (st_cmp op_gt rd_gt (se_callB cr_len bd_len (by rfl) T.m_len (by decide +kernel) (sa_cons (se_v 0) sa_nil)) se_int (by rfl))
    (ss_cons (ss_set (n := 2) sc__law_mould.nd (by rfl) (by first | exact Or.inl rfl | exact Or.inr rfl) (se_callTy call_int1 bd_int (by rfl) T.m_int (by decide +kernel) (sa_cons (se_ix hr.u1 (se_v 0) (se_neg se_int)) sa_nil)))
    (ss_cons (ss_put hr.u1 (se_op op_fdivW rd_fdiv (se_v 2) (se_v 1)) (se_v 0) (se_neg se_int))
    (ss_cons (ss_if (st_cmp (op_eqD hr.u64) rd_eq (se_ix hr.u1 (se_v 0) (se_neg se_int)) se_int (by rfl))
    (ss_one (ss_expr (se_bm0 PySem.F.plainAttrs_list PySem.F.slot_list_pop PySem.F.type_list_pop mt_pop md_pop (se_v 0))))
    ss_nil)
    (ss_one (ss_ret (se_op op_mod rd_mod (se_callTy call_int1 bd_int (by rfl) T.m_int (by decide +kernel) (sa_cons (se_v 2) sa_nil)) (se_v 1)))))))
    ss_nil)
    (ss_cons (ss_put hr.u1 (se_op op_mod rd_mod (se_callTy call_int1 bd_int (by rfl) T.m_int (by decide +kernel) (sa_cons (se_op or_add rd_add (se_op or_add rd_add (se_op or_mul rd_mul (se_ix hr.u1 (se_v 0) se_int) se_int) (se_op or_mul rd_mul (se_ix hr.u1 (se_v 0) se_int) se_int)) se_int) sa_nil)) se_int) (se_v 0) se_int)
    (ss_one (ss_ret (se_op op_mod rd_mod (se_callTy call_int1 bd_int (by rfl) T.m_int (by decide +kernel) (sa_cons (se_op op_fdivW rd_fdiv (se_ix hr.u1 (se_v 0) se_int) se_int) sa_nil)) (se_v 1)))))))
set_option maxHeartbeats 0 in
theorem ok__law_of {f : Addr} {fd : FuncData} (F : Fun K "_law_of" "_law_of" s__law_of f fd) (T : Tx mg) (G__law_mould : Fn P w K mg base 1 "_law_mould" F__law_mould) : FnOk P w K mg base CX0 2 f fd ["cast", "rows"] (spD K F__law_of) :=
  fn_h (N := N__law_of) (np := 2) (n := 2) (body := m__law_of) rfl rfl rfl F sc__law_of fun cdv A outer s H E hr =>
    (ss_one (ss_ret (se_ix hr.u1 (se_v 1) (se_call G__law_mould (hr.mono (by decide)) (by rfl) (sa_cons (se_v 0) (sa_cons (se_callB cr_len bd_len (by rfl) T.m_len (by decide +kernel) (sa_cons (se_v 1) sa_nil)) sa_nil))))))
set_option maxHeartbeats 0 in
theorem ok__law_places {f : Addr} {fd : FuncData} (F : Fun K "_law_places" "_law_places" s__law_places f fd) (T : Tx mg) (G__law_mould : Fn P w K mg base 1 "_law_mould" F__law_mould) (G__law_of : Fn P w K mg base 2 "_law_of" F__law_of) : FnOk P w K mg base CX0 3 f fd ["cast", "many"] (spD K F__law_places) :=
  fn_h (N := N__law_places) (np := 2) (n := 6) (body := m__law_places) rfl rfl rfl F sc__law_places fun cdv A outer s H E hr =>
    (ss_cons (ss_set (n := 2) sc__law_places.nd (by rfl) (by first | exact Or.inl rfl | exact Or.inr rfl) se_str)
    (ss_cons (ss_set (n := 3) sc__law_places.nd (by rfl) (by first | exact Or.inl rfl | exact Or.inr rfl) (se_call G__law_mould (hr.mono (by decide)) (by rfl) (sa_cons (se_v 0) (sa_cons se_int sa_nil))))
    (ss_cons (ss_tr [] (ss_setLc (i := 4) (by rfl) sc__law_places.nd (by rfl) (by rfl) (sw_true (by rfl) (by rfl) (by rfl) (by rfl)) (si_rng1 (by rfl) T.m_range (sa_cons (se_v 1) sa_nil)) (blkOk_by (N := N__law_places) (sc := defScope s__law_places) (own := [("k", 5)]) (by decide +kernel)) (fun _ _ _ _ _ => (sg_n 5 sc__law_places.nd)) (fun _ _ _ _ _ => sts_nil) (fun _ _ _ _ _ => (se_op or_add rd_add (se_op or_add rd_add (se_ix hr.u1 (se_v 2) (se_op op_mod rd_mod (se_callTy call_int1 bd_int (by rfl) T.m_int (by decide +kernel) (sa_cons (se_op or_add rd_add (se_v 3) (se_op or_mul rd_mul (se_v 5) (se_call G__law_of (hr.mono (by decide)) (by rfl) (sa_cons (se_v 0) (sa_cons (se_tidy3 (se_lst (sa_cons se_int (sa_cons se_int (sa_cons se_int sa_nil))))) sa_nil))))) sa_nil)) se_int)) (se_op or_mul rd_mul se_str (se_call G__law_mould (hr.mono (by decide)) (by rfl) (sa_cons (se_v 0) (sa_cons se_int sa_nil))))) (se_callTy call_str_int bd_str (by rfl) T.m_str (by decide +kernel) (sa_cons (se_v 5) sa_nil)))) (by decide)))
    (ss_one (ss_ret (se_callTy call_tpu bd_tpu (by rfl) T.m_tuple (by decide +kernel) (sa_cons (se_tidy3 (se_callB (Dl.cr_sorted (by rfl) hr.u64) bd_sorted (by rfl) T.m_sorted (by decide +kernel) (sa_cons (se_v 4) sa_nil))) sa_nil)))))))
set_option maxHeartbeats 0 in
theorem ok__law_book {f : Addr} {fd : FuncData} (F : Fun K "_law_book" "_law_book" s__law_book f fd) (T : Tx mg) (G__law_of : Fn P w K mg base 2 "_law_of" F__law_of) (G__law_mould : Fn P w K mg base 1 "_law_mould" F__law_mould) : FnOk P w K mg base CX0 3 f fd ["cast", "places", "most"] (spD K F__law_book) :=
  fn_h (N := N__law_book) (np := 3) (n := 9) (body := m__law_book) rfl rfl rfl F sc__law_book fun cdv A outer s H E hr =>
    (ss_cons (ss_set (n := 3) sc__law_book.nd (by rfl) (by first | exact Or.inl rfl | exact Or.inr rfl) (se_call G__law_of (hr.mono (by decide)) (by rfl) (sa_cons (se_v 0) (sa_cons (se_tidy3 (se_lst (sa_cons se_int (sa_cons se_int (sa_cons se_int (sa_cons se_int (sa_cons se_int (sa_cons se_int (sa_cons se_int (sa_cons (se_op or_add rd_add se_int (se_call G__law_mould (hr.mono (by decide)) (by rfl) (sa_cons (se_v 0) (sa_cons se_int sa_nil)))) sa_nil)))))))))) sa_nil))))
    (ss_cons (ss_set (n := 4) sc__law_book.nd (by rfl) (by first | exact Or.inl rfl | exact Or.inr rfl) (se_lst sa_nil))
    (ss_cons (ss_forW [2] PassesOwn.never (by rfl) (si_rng1 (by rfl) T.m_range (sa_cons (se_call G__law_mould (hr.mono (by decide)) (by rfl) (sa_cons (se_v 0) (sa_cons (se_op or_add rd_add (se_v 2) se_int) sa_nil))) sa_nil)) (sg_n 5 sc__law_book.nd)
    (sss_tw [2, 5, 6, 7, 8] (ss_cons (ss_set (n := 6) sc__law_book.nd (by rfl) (by first | exact Or.inl rfl | exact Or.inr rfl) (se_call G__law_mould (hr.mono (by decide)) (by rfl) (sa_cons (se_v 0) (sa_cons (se_callB cr_len bd_len (by rfl) T.m_len (by decide +kernel) (sa_cons (se_v 1) sa_nil)) sa_nil))))
    (ss_cons (ss_set (n := 7) sc__law_book.nd (by rfl) (by first | exact Or.inl rfl | exact Or.inr rfl) (se_op op_mod rd_mod (se_callTy call_int1 bd_int (by rfl) T.m_int (by decide +kernel) (sa_cons (se_op or_add rd_add (se_op or_add rd_add (se_v 6) se_int) (se_call G__law_mould (hr.mono (by decide)) (by rfl) (sa_cons (se_v 0) (sa_cons (se_op op_sub rd_sub (se_callB cr_len bd_len (by rfl) T.m_len (by decide +kernel) (sa_cons (se_v 1) sa_nil)) se_int) sa_nil)))) sa_nil)) (se_callB cr_len bd_len (by rfl) T.m_len (by decide +kernel) (sa_cons (se_v 1) sa_nil))))
    (ss_cons (ss_if (SW.st (sw_and (st_tru (se_v 4)) (sw_and1 (st_cmp (op_eqD hr.u64) rd_eq (se_call G__law_mould (hr.mono (by decide)) (by rfl) (sa_cons (se_v 0) (sa_cons se_int sa_nil))) se_int (by rfl)))))
    (ss_one (ss_par2 (i := 6) (j := 7) (by rfl) sc__law_book.nd (by rfl) (by rfl) (by decide) (by rfl) (by rfl) (sa_cons (se_bmU PySem.F.plainAttrs_tuple PySem.F.slot_tuple_index PySem.F.type_tuple_index mt_tup_index md_indexT (se_v 1) (sa_cons (se_ix hr.u1 (se_ix hr.u1 (se_v 4) (se_neg se_int)) se_int) sa_nil)) (sa_cons (se_bmU PySem.F.plainAttrs_tuple PySem.F.slot_tuple_index PySem.F.type_tuple_index mt_tup_index md_indexT (se_v 1) (sa_cons (se_ix hr.u1 (se_ix hr.u1 (se_v 4) (se_neg se_int)) se_int) sa_nil)) sa_nil))))
    ss_nil)
    (ss_cons (ss_set (n := 8) sc__law_book.nd (by rfl) (by first | exact Or.inl rfl | exact Or.inr rfl) (se_call G__law_of (hr.mono (by decide)) (by rfl) (sa_cons (se_v 0) (sa_cons (se_tidy3 (se_lst (sa_cons se_int (sa_cons se_int (sa_cons (se_v 3) (sa_cons se_int (sa_cons (se_op or_add rd_add se_int (se_call G__law_mould (hr.mono (by decide)) (by rfl) (sa_cons (se_v 0) (sa_cons se_int sa_nil)))) (sa_cons (se_op op_sub rd_sub (se_op op_pow rd_pow se_int se_int) (se_call G__law_mould (hr.mono (by decide)) (by rfl) (sa_cons (se_v 0) (sa_cons se_int sa_nil)))) sa_nil)))))))) sa_nil))))
    (ss_cons (ss_if (SW.st (sw_and (st_tru (se_v 4)) (sw_and1 (st_cmp (op_eqD hr.u64) rd_eq (se_call G__law_mould (hr.mono (by decide)) (by rfl) (sa_cons (se_v 0) (sa_cons se_int sa_nil))) se_int (by rfl)))))
    (ss_one (ss_set (n := 8) sc__law_book.nd (by rfl) (by first | exact Or.inl rfl | exact Or.inr rfl) (se_ix hr.u1 (se_ix hr.u1 (se_v 4) (se_neg se_int)) se_int)))
    ss_nil)
    (ss_one (ss_expr (se_bm PySem.F.plainAttrs_list PySem.F.slot_list_append PySem.F.type_list_append mt_append md_append (se_v 4) (sa_cons (se_tup (sa_cons (se_call G__law_of (hr.mono (by decide)) (by rfl) (sa_cons (se_v 0) (sa_cons (se_tidy3 (se_lst (sa_cons se_str (sa_cons se_str (sa_cons se_str sa_nil))))) sa_nil))) (sa_cons (se_call G__law_of (hr.mono (by decide)) (by rfl) (sa_cons (se_v 0) (sa_cons (se_tidy3 (se_lst (sa_cons se_str (sa_cons se_str sa_nil)))) sa_nil))) (sa_cons (se_ix hr.u1 (se_v 1) (se_v 6)) (sa_cons (se_ix hr.u1 (se_v 1) (se_v 7)) (sa_cons (se_v 8) sa_nil)))))) sa_nil)))))))))))
    (ss_one (ss_ret (se_tup (sa_cons (se_v 3) (sa_cons (se_callTy call_tuple_of bd_tup (by rfl) T.m_tuple (by decide +kernel) (sa_cons (se_v 4) sa_nil)) sa_nil))))))))
set_option maxHeartbeats 0 in
theorem ok__law_divisor {f : Addr} {fd : FuncData} (F : Fun K "_law_divisor" "_law_divisor" s__law_divisor f fd) (T : Tx mg)  : FnOk P w K mg base CX0 1 f fd ["one", "two"] (spD K F__law_divisor) :=
  fn_h (N := N__law_divisor) (np := 2) (n := 3) (body := m__law_divisor) rfl rfl rfl F sc__law_divisor fun cdv A outer s H E hr =>
    (ss_cons (ss_par2 (i := 0) (j := 1) (by rfl) sc__law_divisor.nd (by rfl) (by rfl) (by decide) (by rfl) (by rfl) (sa_cons (se_callB call_abs bd_abs (by rfl) T.m_abs (by decide +kernel) (sa_cons (se_v 0) sa_nil)) (sa_cons (se_callB call_abs bd_abs (by rfl) T.m_abs (by decide +kernel) (sa_cons (se_v 1) sa_nil)) sa_nil)))
    (ss_cons (ss_forW [] PassesOwn.never (by rfl) (si_rng1 (by rfl) T.m_range (sa_cons (se_op or_add rd_add (se_op or_mul rd_mul se_int (se_bits (se_callB (call_max2 (by rfl)) bd_max2 (by rfl) T.m_max (by decide +kernel) (sa_cons (se_v 0) (sa_cons (se_v 1) sa_nil))))) se_int) sa_nil)) (sg_n 2 sc__law_divisor.nd)
    (sss_tw [2] (ss_cons (ss_if (st_cmp (op_eqD hr.u64) rd_eq (se_v 1) se_int (by rfl))
    (ss_one ss_break)
    ss_nil)
    (ss_one (ss_par2 (i := 0) (j := 1) (by rfl) sc__law_divisor.nd (by rfl) (by rfl) (by decide) (by rfl) (by rfl) (sa_cons (se_v 1) (sa_cons (se_op op_mod rd_mod (se_callTy call_int1 bd_int (by rfl) T.m_int (by decide +kernel) (sa_cons (se_v 0) sa_nil)) (se_v 1)) sa_nil)))))))
    (ss_one (ss_ret (se_v 0)))))
set_option maxHeartbeats 0 in
theorem ok__law_form {f : Addr} {fd : FuncData} (F : Fun K "_law_form" "_law_form" s__law_form f fd) (T : Tx mg) (G__law_divisor : Fn P w K mg base 1 "_law_divisor" F__law_divisor) : FnOk P w K mg base CX0 2 f fd ["sums"] (spD K F__law_form) :=
  fn_h (N := N__law_form) (np := 1) (n := 8) (body := m__law_form) rfl rfl rfl F sc__law_form fun cdv A outer s H E hr =>
    (ss_cons (ss_asg (se_v 0) (sg_t (by rfl) (sgs_cons (sg_n 1 sc__law_form.nd) (sgs_cons (sg_n 2 sc__law_form.nd) (sgs_cons (sg_n 3 sc__law_form.nd) sgs_nil)))))
    (ss_cons (ss_set (n := 4) sc__law_form.nd (by rfl) (by first | exact Or.inl rfl | exact Or.inr rfl) (se_v 1))
    (ss_cons (ss_forW [0] PassesOwn.never (by rfl) (si_val (se_v 2)) (sg_n 5 sc__law_form.nd)
    (sss_tw [0, 5] (ss_one (ss_set (n := 4) sc__law_form.nd (by rfl) (by first | exact Or.inl rfl | exact Or.inr rfl) (se_call G__law_divisor (hr.mono (by decide)) (by rfl) (sa_cons (se_v 4) (sa_cons (se_v 5) sa_nil)))))))
    (ss_cons (ss_forW [0, 5] PassesOwn.never (by rfl) (si_key (se_v 3)) (sg_n 6 sc__law_form.nd)
    (sss_tw [0, 5, 6] (ss_one (ss_set (n := 4) sc__law_form.nd (by rfl) (by first | exact Or.inl rfl | exact Or.inr rfl) (se_call G__law_divisor (hr.mono (by decide)) (by rfl) (sa_cons (se_v 4) (sa_cons (se_ix hr.u1 (se_v 3) (se_v 6)) sa_nil)))))))
    (ss_cons (ss_tr [] (ss_setLc (i := 7) (by rfl) sc__law_form.nd (by rfl) (by rfl) (sw_true (by rfl) (by rfl) (by rfl) (by rfl)) (si_key (se_v 3)) (blkOk_by (N := N__law_form) (sc := defScope s__law_form) (own := [("tie", 6)]) (by decide +kernel)) (fun _ _ _ _ _ => (sg_n 6 sc__law_form.nd)) (fun _ _ _ _ _ => (sts_one (st_tru (se_ix hr.u1 (se_v 3) (se_v 6))))) (fun _ _ _ _ _ => (se_op or_add rd_add (se_v 6) (se_tup (sa_cons (se_op op_fdivW rd_fdiv (se_ix hr.u1 (se_v 3) (se_v 6)) (se_v 4)) sa_nil)))) (by decide)))
    (ss_one (ss_ret (se_tup (sa_cons (se_op op_fdivW rd_fdiv (se_v 1) (se_v 4)) (sa_cons (se_callTy call_tuple_of bd_tup (by rfl) T.m_tuple (by decide +kernel) (sa_cons (se_tidy3 (se_lc (by rfl) sc__law_form.nd (si_val (se_v 2)) (blkOk_by (N := N__law_form) (sc := defScope s__law_form) (own := [("one", 5)]) (by decide +kernel)) (fun _ _ _ _ _ => (sg_n 5 sc__law_form.nd)) (fun _ _ _ _ _ => sts_nil) (fun _ _ _ _ _ => (se_op op_fdivW rd_fdiv (se_v 5) (se_v 4))) (by decide))) sa_nil)) (sa_cons (se_callTy call_tuple_of bd_tup (by rfl) T.m_tuple (by decide +kernel) (sa_cons (se_tidy3 (se_callB (Dl.cr_sorted (by rfl) hr.u64) bd_sorted (by rfl) T.m_sorted (by decide +kernel) (sa_cons (se_v 7) sa_nil))) sa_nil)) sa_nil)))))))))))
set_option maxHeartbeats 0 in
theorem ok__law_sums {f : Addr} {fd : FuncData} (F : Fun K "_law_sums" "_law_sums" s__law_sums f fd) (T : Tx mg)  : FnOk P w K mg base CX0 1 f fd ["places", "book"] (spD K F__law_sums) :=
  fn_h (N := N__law_sums) (np := 2) (n := 11) (body := m__law_sums) rfl rfl rfl F sc__law_sums fun cdv A outer s H E hr =>
    (ss_app (a := [_, _, _]) rfl (sss_tr [4, 5, 6, 7, 8, 9, 10] (ss_cons (ss_set (n := 2) sc__law_sums.nd (by rfl) (by first | exact Or.inl rfl | exact Or.inr rfl) (se_op or_mul rd_mul (se_tidy3 (se_lst (sa_cons se_int sa_nil))) (se_callB cr_len bd_len (by rfl) T.m_len (by decide +kernel) (sa_cons (se_v 0) sa_nil))))
    (ss_cons (ss_set (n := 3) sc__law_sums.nd (by rfl) (by first | exact Or.inl rfl | exact Or.inr rfl) se_dt)
    (ss_one (ss_forW [] PassesOwn.never (by rfl) (si_val (se_ix hr.u1 (se_v 1) se_int)) (sg_t (by rfl) (sgs_cons (sg_n 4 sc__law_sums.nd) (sgs_cons (sg_n 5 sc__law_sums.nd) (sgs_cons (sg_n 6 sc__law_sums.nd) (sgs_cons (sg_n 7 sc__law_sums.nd) (sgs_cons (sg_n 8 sc__law_sums.nd) sgs_nil))))))
    (sss_tw [4, 5, 6, 7, 8, 9, 10] (ss_cons (ss_set (n := 9) sc__law_sums.nd (by rfl) (by first | exact Or.inl rfl | exact Or.inr rfl) (se_if (st_cmp (op_eqD hr.u64) rd_eq (se_v 5) se_str (by rfl)) se_int se_int))
    (ss_cons (ss_put hr.u1 (se_op or_add rd_add (se_ix hr.u1 (se_v 2) (se_bmU PySem.F.plainAttrs_tuple PySem.F.slot_tuple_index PySem.F.type_tuple_index mt_tup_index md_indexT (se_v 0) (sa_cons (se_v 7) sa_nil))) (se_op or_mul rd_mul (se_v 9) (se_v 8))) (se_v 2) (se_bmU PySem.F.plainAttrs_tuple PySem.F.slot_tuple_index PySem.F.type_tuple_index mt_tup_index md_indexT (se_v 0) (sa_cons (se_v 7) sa_nil)))
    (ss_cons (ss_put hr.u1 (se_op op_sub rd_sub (se_ix hr.u1 (se_v 2) (se_bmU PySem.F.plainAttrs_tuple PySem.F.slot_tuple_index PySem.F.type_tuple_index mt_tup_index md_indexT (se_v 0) (sa_cons (se_v 6) sa_nil))) (se_op or_mul rd_mul (se_v 9) (se_v 8))) (se_v 2) (se_bmU PySem.F.plainAttrs_tuple PySem.F.slot_tuple_index PySem.F.type_tuple_index mt_tup_index md_indexT (se_v 0) (sa_cons (se_v 6) sa_nil)))
    (ss_one (ss_tw [10] (ss_if (st_cmp (op_eqD hr.u64) rd_eq (se_v 5) se_str (by rfl))
    (ss_cons (ss_set (n := 10) sc__law_sums.nd (by rfl) (by first | exact Or.inl rfl | exact Or.inr rfl) (se_callTy call_tuple_of bd_tup (by rfl) T.m_tuple (by decide +kernel) (sa_cons (se_tidy3 (se_callB (Dl.cr_sorted (by rfl) hr.u64) bd_sorted (by rfl) T.m_sorted (by decide +kernel) (sa_cons (se_tidy3 (se_lst (sa_cons (se_bmU PySem.F.plainAttrs_tuple PySem.F.slot_tuple_index PySem.F.type_tuple_index mt_tup_index md_indexT (se_v 0) (sa_cons (se_v 6) sa_nil)) (sa_cons (se_bmU PySem.F.plainAttrs_tuple PySem.F.slot_tuple_index PySem.F.type_tuple_index mt_tup_index md_indexT (se_v 0) (sa_cons (se_v 7) sa_nil)) sa_nil)))) sa_nil))) sa_nil)))
    (ss_one (ss_put hr.u1 (se_op or_add rd_add (se_get2 hr.u1 (se_v 3) (se_v 10) se_int) (se_v 8)) (se_v 3) (se_v 10))))
    ss_nil))))))))))))
    (ss_one (ss_ret (se_tup (sa_cons (se_op or_mul rd_mul se_int (se_ix hr.u1 (se_v 1) se_int)) (sa_cons (se_v 2) (sa_cons (se_v 3) sa_nil)))))))
set_option maxHeartbeats 0 in
theorem ok__law_same {f : Addr} {fd : FuncData} (F : Fun K "_law_same" "_law_same" s__law_same f fd) (T : Tx mg)  : FnOk P w K mg base CX0 1 f fd ["told", "due"] (spD K F__law_same) :=
  fn_h (N := N__law_same) (np := 2) (n := 6) (body := m__law_same) rfl rfl rfl F sc__law_same fun cdv A outer s H E hr =>
    (ss_cons (ss_set (n := 2) sc__law_same.nd (by rfl) (by first | exact Or.inl rfl | exact Or.inr rfl) (se_lst (sa_cons (se_tup (sa_cons (se_v 0) (sa_cons (se_v 1) sa_nil))) sa_nil)))
    (ss_cons (ss_pre [0, 1] (ss_while PassesOwn.never (st_tru (se_v 2))
    (sss_tw [0, 1, 3, 4, 5] (ss_cons (ss_asg (se_bm0 PySem.F.plainAttrs_list PySem.F.slot_list_pop PySem.F.type_list_pop mt_pop md_pop (se_v 2)) (sg_t (by rfl) (sgs_cons (sg_n 3 sc__law_same.nd) (sgs_cons (sg_n 4 sc__law_same.nd) sgs_nil))))
    (ss_one (ss_tw [5] (ss_if (st_tru (se_isi (se_v 4) (by rfl) T.m_isinstance (by rfl) T.m_tuple (by decide +kernel)))
    (ss_cons (ss_if (SW.st (sw_or (st_not (st_tru (se_isi (se_v 3) (by rfl) T.m_isinstance (by rfl) T.m_tuple (by decide +kernel)))) (sw_or1 (st_cmp (op_neD hr.u64) rd_ne (se_callB cr_len bd_len (by rfl) T.m_len (by decide +kernel) (sa_cons (se_v 3) sa_nil)) (se_callB cr_len bd_len (by rfl) T.m_len (by decide +kernel) (sa_cons (se_v 4) sa_nil)) (by rfl)))))
    (ss_one (ss_ret se_bl))
    ss_nil)
    (ss_one (ss_forW [0, 1] PassesOwn.never (by rfl) (si_rng1 (by rfl) T.m_range (sa_cons (se_callB cr_len bd_len (by rfl) T.m_len (by decide +kernel) (sa_cons (se_v 4) sa_nil)) sa_nil)) (sg_n 5 sc__law_same.nd)
    (sss_tw [0, 1, 5] (ss_one (ss_expr (se_bm PySem.F.plainAttrs_list PySem.F.slot_list_append PySem.F.type_list_append mt_append md_append (se_v 2) (sa_cons (se_tup (sa_cons (se_ix hr.u1 (se_v 3) (se_v 5)) (sa_cons (se_ix hr.u1 (se_v 4) (se_v 5)) sa_nil))) sa_nil))))))))
    (ss_one (ss_if (st_tru (se_isi (se_v 4) (by rfl) T.m_isinstance (by rfl) T.m_str (by decide +kernel)))
    (ss_one (ss_if (SW.st (sw_or (st_not (st_tru (se_isi (se_v 3) (by rfl) T.m_isinstance (by rfl) T.m_str (by decide +kernel)))) (sw_or1 (st_cmp (op_neD hr.u64) rd_ne (se_v 3) (se_v 4) (by rfl)))))
    (ss_one (ss_ret se_bl))
    ss_nil))
    (ss_one (ss_if (SW.st (sw_or (st_tru (se_isi (se_v 4) (by rfl) T.m_isinstance (by rfl) T.m_bool (by decide +kernel))) (sw_or1 (st_tru (se_isi (se_v 3) (by rfl) T.m_isinstance (by rfl) T.m_bool (by decide +kernel))))))
    (ss_one (ss_if (SW.st (sw_or (st_not (st_tru (se_isi (se_v 4) (by rfl) T.m_isinstance (by rfl) T.m_bool (by decide +kernel)))) (sw_or (st_not (st_tru (se_isi (se_v 3) (by rfl) T.m_isinstance (by rfl) T.m_bool (by decide +kernel)))) (sw_or1 (st_cmp (op_neD hr.u64) rd_ne (se_v 3) (se_v 4) (by rfl))))))
    (ss_one (ss_ret se_bl))
    ss_nil))
    (ss_one (ss_if (SW.st (sw_or (st_not (st_tru (se_isi (se_v 3) (by rfl) T.m_isinstance (by rfl) T.m_int (by decide +kernel)))) (sw_or1 (st_cmp (op_neD hr.u64) rd_ne (se_v 3) (se_v 4) (by rfl)))))
    (ss_one (ss_ret se_bl))
    ss_nil)))))))))))))
    (ss_one (ss_ret se_bl))))
set_option maxHeartbeats 0 in
theorem ok_doubled_nets {f : Addr} {fd : FuncData} (F : Fun K "doubled_nets" "doubled_nets" s_doubled_nets f fd) (T : Tx mg)  : FnOk P w K mg base CX0 1 f fd ["places", "book"] (spD K F_doubled_nets) :=
  fn_h (N := N_doubled_nets) (np := 2) (n := 8) (body := m_doubled_nets) rfl rfl rfl F sc_doubled_nets fun cdv A outer s H E hr =>
    (ss_cons (ss_tr [] (ss_setDc (i := 2) (by rfl) sc_doubled_nets.nd (by rfl) (by rfl) (sw_trueD (by rfl) (by rfl) (by rfl) (by rfl)) (si_enum (by rfl) T.m_enumerate (sa_cons (se_v 0) sa_nil)) (blkOk_by (N := N_doubled_nets) (sc := defScope s_doubled_nets) (own := [("number", 6), ("place", 7)]) (by decide +kernel)) (fun _ _ _ _ _ => (sg_t (by rfl) (sgs_cons (sg_n 6 sc_doubled_nets.nd) (sgs_cons (sg_n 7 sc_doubled_nets.nd) sgs_nil)))) (fun _ _ _ _ _ => sts_nil) (fun _ _ _ _ _ => (se_v 7)) (fun _ _ _ _ _ => (se_v 6)) (by decide)))
    (ss_cons (ss_set (n := 3) sc_doubled_nets.nd (by rfl) (by first | exact Or.inl rfl | exact Or.inr rfl) (se_op or_mul rd_mul (se_tidy3 (se_lst (sa_cons se_int sa_nil))) (se_callB cr_len bd_len (by rfl) T.m_len (by decide +kernel) (sa_cons (se_v 0) sa_nil))))
    (ss_cons (ss_forW [0, 1] PassesOwn.never (by rfl) (si_val (se_ix hr.u1 (se_v 1) se_int)) (sg_n 4 sc_doubled_nets.nd)
    (sss_tw [0, 1, 4, 5] (ss_cons (ss_set (n := 5) sc_doubled_nets.nd (by rfl) (by first | exact Or.inl rfl | exact Or.inr rfl) (se_ix hr.u1 (se_v 4) se_int))
    (ss_cons (ss_if (st_cmp (op_eqD hr.u64) rd_eq (se_ix hr.u1 (se_v 4) se_int) se_str (by rfl))
    (ss_one (ss_set (n := 5) sc_doubled_nets.nd (by rfl) (by first | exact Or.inl rfl | exact Or.inr rfl) (se_op or_mul rd_mul se_int (se_v 5))))
    ss_nil)
    (ss_cons (ss_augI hr.u1 (se_v 3) (se_ix hr.u1 (se_v 2) (se_ix hr.u1 (se_v 4) se_int)) (se_v 5) ip_sub (rd_i _))
    (ss_one (ss_augI hr.u1 (se_v 3) (se_ix hr.u1 (se_v 2) (se_ix hr.u1 (se_v 4) se_int)) (se_v 5) ip_add (rd_i _))))))))
    (ss_one (ss_ret (se_v 3))))))
set_option maxHeartbeats 0 in
theorem ok_doubled_ties {f : Addr} {fd : FuncData} (F : Fun K "doubled_ties" "doubled_ties" s_doubled_ties f fd) (T : Tx mg)  : FnOk P w K mg base CX0 1 f fd ["places", "book"] (spD K F_doubled_ties) :=
  fn_h (N := N_doubled_ties) (np := 2) (n := 10) (body := m_doubled_ties) rfl rfl rfl F sc_doubled_ties fun cdv A outer s H E hr =>
    (ss_cons (ss_tr [] (ss_setDc (i := 2) (by rfl) sc_doubled_ties.nd (by rfl) (by rfl) (sw_trueD (by rfl) (by rfl) (by rfl) (by rfl)) (si_enum (by rfl) T.m_enumerate (sa_cons (se_v 0) sa_nil)) (blkOk_by (N := N_doubled_ties) (sc := defScope s_doubled_ties) (own := [("number", 8), ("place", 9)]) (by decide +kernel)) (fun _ _ _ _ _ => (sg_t (by rfl) (sgs_cons (sg_n 8 sc_doubled_ties.nd) (sgs_cons (sg_n 9 sc_doubled_ties.nd) sgs_nil)))) (fun _ _ _ _ _ => sts_nil) (fun _ _ _ _ _ => (se_v 9)) (fun _ _ _ _ _ => (se_v 8)) (by decide)))
    (ss_cons (ss_set (n := 3) sc_doubled_ties.nd (by rfl) (by first | exact Or.inl rfl | exact Or.inr rfl) se_dt)
    (ss_cons (ss_forW [0, 1] PassesOwn.never (by rfl) (si_val (se_ix hr.u1 (se_v 1) se_int)) (sg_n 4 sc_doubled_ties.nd)
    (sss_tw [0, 1, 4, 5, 6, 7] (ss_one (ss_tw [5, 6, 7] (ss_if (st_cmp (op_eqD hr.u64) rd_eq (se_ix hr.u1 (se_v 4) se_int) se_str (by rfl))
    (ss_cons (ss_set (n := 5) sc_doubled_ties.nd (by rfl) (by first | exact Or.inl rfl | exact Or.inr rfl) (se_ix hr.u1 (se_v 2) (se_ix hr.u1 (se_v 4) se_int)))
    (ss_cons (ss_set (n := 6) sc_doubled_ties.nd (by rfl) (by first | exact Or.inl rfl | exact Or.inr rfl) (se_ix hr.u1 (se_v 2) (se_ix hr.u1 (se_v 4) se_int)))
    (ss_cons (ss_set (n := 7) sc_doubled_ties.nd (by rfl) (by first | exact Or.inl rfl | exact Or.inr rfl) (se_tup (sa_cons (se_callB (call_min2 (by rfl)) bd_min2 (by rfl) T.m_min (by decide +kernel) (sa_cons (se_v 5) (sa_cons (se_v 6) sa_nil))) (sa_cons (se_callB (call_max2 (by rfl)) bd_max2 (by rfl) T.m_max (by decide +kernel) (sa_cons (se_v 5) (sa_cons (se_v 6) sa_nil))) sa_nil))))
    (ss_one (ss_put hr.u1 (se_op or_add rd_add (se_get2 hr.u1 (se_v 3) (se_v 7) se_int) (se_ix hr.u1 (se_v 4) se_int)) (se_v 3) (se_v 7))))))
    ss_nil)))))
    (ss_one (ss_ret (se_v 3))))))
set_option maxHeartbeats 0 in
theorem ok_form_of {f : Addr} {fd : FuncData} (F : Fun K "form_of" "form_of" s_form_of f fd) (T : Tx mg) (G_doubled_nets : Fn P w K mg base 1 "doubled_nets" F_doubled_nets) (G_doubled_ties : Fn P w K mg base 1 "doubled_ties" F_doubled_ties) : FnOk P w K mg base CX0 2 f fd ["places", "book"] (spD K F_form_of) :=
  fn_h (N := N_form_of) (np := 2) (n := 9) (body := m_form_of) rfl rfl rfl F sc_form_of fun cdv A outer s H E hr =>
    (ss_cons (ss_set (n := 2) sc_form_of.nd (by rfl) (by first | exact Or.inl rfl | exact Or.inr rfl) (se_op or_mul rd_mul se_int (se_ix hr.u1 (se_v 1) se_int)))
    (ss_cons (ss_set (n := 3) sc_form_of.nd (by rfl) (by first | exact Or.inl rfl | exact Or.inr rfl) (se_call G_doubled_nets (hr.mono (by decide)) (by rfl) (sa_cons (se_v 0) (sa_cons (se_v 1) sa_nil))))
    (ss_cons (ss_set (n := 4) sc_form_of.nd (by rfl) (by first | exact Or.inl rfl | exact Or.inr rfl) (se_call G_doubled_ties (hr.mono (by decide)) (by rfl) (sa_cons (se_v 0) (sa_cons (se_v 1) sa_nil))))
    (ss_cons (ss_set (n := 5) sc_form_of.nd (by rfl) (by first | exact Or.inl rfl | exact Or.inr rfl) (se_v 2))
    (ss_cons (ss_forW [0, 1] PassesOwn.never (by rfl) (si_val (se_v 3)) (sg_n 6 sc_form_of.nd)
    (sss_tw [0, 1, 6] (ss_one (ss_set (n := 5) sc_form_of.nd (by rfl) (by first | exact Or.inl rfl | exact Or.inr rfl) (se_callBf cr_gcd bd_gcd (by rfl) T.m_gcd (sa_cons (se_v 5) (sa_cons (se_v 6) sa_nil)))))))
    (ss_cons (ss_forW [0, 1, 6] PassesOwn.never (by rfl) (si_key (se_v 4)) (sg_n 7 sc_form_of.nd)
    (sss_tw [0, 1, 6, 7] (ss_one (ss_set (n := 5) sc_form_of.nd (by rfl) (by first | exact Or.inl rfl | exact Or.inr rfl) (se_callBf cr_gcd bd_gcd (by rfl) T.m_gcd (sa_cons (se_v 5) (sa_cons (se_ix hr.u1 (se_v 4) (se_v 7)) sa_nil)))))))
    (ss_cons (ss_tr [] (ss_setLc (i := 8) (by rfl) sc_form_of.nd (by rfl) (by rfl) (sw_true (by rfl) (by rfl) (by rfl) (by rfl)) (si_val (se_tidy3 (se_callB (Dl.cr_sorted (by rfl) hr.u64) bd_sorted (by rfl) T.m_sorted (by decide +kernel) (sa_cons (se_v 4) sa_nil)))) (blkOk_by (N := N_form_of) (sc := defScope s_form_of) (own := [("ends", 7)]) (by decide +kernel)) (fun _ _ _ _ _ => (sg_n 7 sc_form_of.nd)) (fun _ _ _ _ _ => sts_nil) (fun _ _ _ _ _ => (se_tup (sa_cons (se_ix hr.u1 (se_v 7) se_int) (sa_cons (se_ix hr.u1 (se_v 7) se_int) (sa_cons (se_op op_fdivW rd_fdiv (se_ix hr.u1 (se_v 4) (se_v 7)) (se_v 5)) sa_nil))))) (by decide)))
    (ss_one (ss_ret (se_tup (sa_cons (se_op op_fdivW rd_fdiv (se_v 2) (se_v 5)) (sa_cons (se_callTy call_tuple_of bd_tup (by rfl) T.m_tuple (by decide +kernel) (sa_cons (se_tidy3 (se_lc (by rfl) sc_form_of.nd (si_val (se_v 3)) (blkOk_by (N := N_form_of) (sc := defScope s_form_of) (own := [("net", 6)]) (by decide +kernel)) (fun _ _ _ _ _ => (sg_n 6 sc_form_of.nd)) (fun _ _ _ _ _ => sts_nil) (fun _ _ _ _ _ => (se_op op_fdivW rd_fdiv (se_v 6) (se_v 5))) (by decide))) sa_nil)) (sa_cons (se_callTy call_tuple_of bd_tup (by rfl) T.m_tuple (by decide +kernel) (sa_cons (se_v 8) sa_nil)) sa_nil)))))))))))))
set_option maxHeartbeats 0 in
theorem ok__law_turned {f : Addr} {fd : FuncData} (F : Fun K "_law_turned" "_law_turned" s__law_turned f fd) (T : Tx mg)  : FnOk P w K mg base CX0 1 f fd ["book"] (spD K F__law_turned) :=
  fn_h (N := N__law_turned) (np := 1) (n := 2) (body := m__law_turned) rfl rfl rfl F sc__law_turned fun cdv A outer s H E hr =>
    (ss_one (ss_ret (se_tup (sa_cons (se_ix hr.u1 (se_v 0) se_int) (sa_cons (se_callTy call_tuple_of bd_tup (by rfl) T.m_tuple (by decide +kernel) (sa_cons (se_tidy3 (se_lc (by rfl) sc__law_turned.nd (si_val (se_ix hr.u1 (se_v 0) se_int)) (blkOk_by (N := N__law_turned) (sc := defScope s__law_turned) (own := [("right", 1)]) (by decide +kernel)) (fun _ _ _ _ _ => (sg_n 1 sc__law_turned.nd)) (fun _ _ _ _ _ => sts_nil) (fun _ _ _ _ _ => (se_op or_add rd_add (se_sl (se_v 1) so_no (so_some se_int)) (se_tup (sa_cons (se_ix hr.u1 (se_v 1) se_int) (sa_cons (se_ix hr.u1 (se_v 1) se_int) (sa_cons (se_ix hr.u1 (se_v 1) se_int) sa_nil)))))) (by decide))) sa_nil)) sa_nil)))))
set_option maxHeartbeats 0 in
theorem ok_multiplied_rights {f : Addr} {fd : FuncData} (F : Fun K "multiplied_rights" "multiplied_rights" s_multiplied_rights f fd) (T : Tx mg)  : FnOk P w K mg base CX0 1 f fd ["rights", "times"] (spD K F_multiplied_rights) :=
  fn_h (N := N_multiplied_rights) (np := 2) (n := 8) (body := m_multiplied_rights) rfl rfl rfl F sc_multiplied_rights fun cdv A outer s H E hr =>
    (ss_cons (ss_set (n := 2) sc_multiplied_rights.nd (by rfl) (by first | exact Or.inl rfl | exact Or.inr rfl) (se_lst sa_nil))
    (ss_cons (ss_forW [0] PassesOwn.never (by rfl) (si_val (se_v 0)) (sg_t (by rfl) (sgs_cons (sg_n 3 sc_multiplied_rights.nd) (sgs_cons (sg_n 4 sc_multiplied_rights.nd) (sgs_cons (sg_n 5 sc_multiplied_rights.nd) (sgs_cons (sg_n 6 sc_multiplied_rights.nd) (sgs_cons (sg_n 7 sc_multiplied_rights.nd) sgs_nil))))))
    (sss_tw [0, 3, 4, 5, 6, 7] (ss_one (ss_expr (se_bm PySem.F.plainAttrs_list PySem.F.slot_list_append PySem.F.type_list_append mt_append md_append (se_v 2) (sa_cons (se_tup (sa_cons (se_v 3) (sa_cons (se_v 4) (sa_cons (se_v 5) (sa_cons (se_v 6) (sa_cons (se_op or_mul rd_mul (se_v 7) (se_v 1)) sa_nil)))))) sa_nil))))))
    (ss_one (ss_ret (se_callTy call_tuple_of bd_tup (by rfl) T.m_tuple (by decide +kernel) (sa_cons (se_v 2) sa_nil))))))
set_option maxHeartbeats 0 in
theorem ok_with_unit {f : Addr} {fd : FuncData} (F : Fun K "with_unit" "with_unit" s_with_unit f fd) (T : Tx mg) (G_multiplied_rights : Fn P w K mg base 1 "multiplied_rights" F_multiplied_rights) : FnOk P w K mg base CX0 2 f fd ["book", "times"] (spD K F_with_unit) :=
  fn_h (N := N_with_unit) (np := 2) (n := 4) (body := m_with_unit) rfl rfl rfl F sc_with_unit fun cdv A outer s H E hr =>
    (ss_cons (ss_asg (se_v 0) (sg_t (by rfl) (sgs_cons (sg_n 2 sc_with_unit.nd) (sgs_cons (sg_n 3 sc_with_unit.nd) sgs_nil))))
    (ss_one (ss_ret (se_tup (sa_cons (se_op or_mul rd_mul (se_v 2) (se_v 1)) (sa_cons (se_call G_multiplied_rights (hr.mono (by decide)) (by rfl) (sa_cons (se_v 3) (sa_cons (se_v 1) sa_nil))) sa_nil))))))
set_option maxHeartbeats 0 in
theorem ok_alike_books {f : Addr} {fd : FuncData} (F : Fun K "alike_books" "alike_books" s_alike_books f fd) (T : Tx mg) (G_form_of : Fn P w K mg base 2 "form_of" F_form_of) : FnOk P w K mg base CX0 3 f fd ["places", "one", "other"] (spD K F_alike_books) :=
  fn_h (N := N_alike_books) (np := 3) (n := 3) (body := m_alike_books) rfl rfl rfl F sc_alike_books fun cdv A outer s H E hr =>
    (ss_one (ss_ret (se_cmp (op_eqD hr.u64) rd_eq (se_call G_form_of (hr.mono (by decide)) (by rfl) (sa_cons (se_v 0) (sa_cons (se_v 1) sa_nil))) (se_call G_form_of (hr.mono (by decide)) (by rfl) (sa_cons (se_v 0) (sa_cons (se_v 2) sa_nil))) (by rfl))))
set_option maxHeartbeats 0 in
theorem ok_without_right {f : Addr} {fd : FuncData} (F : Fun K "without_right" "without_right" s_without_right f fd) (T : Tx mg)  : FnOk P w K mg base CX0 1 f fd ["book", "number"] (spD K F_without_right) :=
  fn_h (N := N_without_right) (np := 2) (n := 4) (body := m_without_right) rfl rfl rfl F sc_without_right fun cdv A outer s H E hr =>
    (ss_cons (ss_asg (se_v 0) (sg_t (by rfl) (sgs_cons (sg_n 2 sc_without_right.nd) (sgs_cons (sg_n 3 sc_without_right.nd) sgs_nil))))
    (ss_one (ss_ret (se_tup (sa_cons (se_v 2) (sa_cons (se_op or_add rd_add (se_sl (se_v 3) so_no (so_some (se_v 1))) (se_sl (se_v 3) (so_some (se_op or_add rd_add (se_v 1) se_int)) so_no)) sa_nil))))))
set_option maxHeartbeats 0 in
theorem ok_lessened_right {f : Addr} {fd : FuncData} (F : Fun K "lessened_right" "lessened_right" s_lessened_right f fd) (T : Tx mg) (G_without_right : Fn P w K mg base 1 "without_right" F_without_right) : FnOk P w K mg base CX0 2 f fd ["book", "number", "amount"] (spD K F_lessened_right) :=
  fn_h (N := N_lessened_right) (np := 3) (n := 11) (body := m_lessened_right) rfl rfl rfl F sc_lessened_right fun cdv A outer s H E hr =>
    (ss_cons (ss_asg (se_v 0) (sg_t (by rfl) (sgs_cons (sg_n 3 sc_lessened_right.nd) (sgs_cons (sg_n 4 sc_lessened_right.nd) sgs_nil))))
    (ss_cons (ss_asg (se_ix hr.u1 (se_v 4) (se_v 1)) (sg_t (by rfl) (sgs_cons (sg_n 5 sc_lessened_right.nd) (sgs_cons (sg_n 6 sc_lessened_right.nd) (sgs_cons (sg_n 7 sc_lessened_right.nd) (sgs_cons (sg_n 8 sc_lessened_right.nd) (sgs_cons (sg_n 9 sc_lessened_right.nd) sgs_nil)))))))
    (ss_cons (ss_if (st_cmp op_lt rd_lt (se_v 9) (se_v 2) (by rfl))
    (ss_one ss_raise)
    ss_nil)
    (ss_cons (ss_if (st_cmp (op_eqD hr.u64) rd_eq (se_v 9) (se_v 2) (by rfl))
    (ss_one (ss_ret (se_call G_without_right (hr.mono (by decide)) (by rfl) (sa_cons (se_v 0) (sa_cons (se_v 1) sa_nil)))))
    ss_nil)
    (ss_cons (ss_set (n := 10) sc_lessened_right.nd (by rfl) (by first | exact Or.inl rfl | exact Or.inr rfl) (se_tup (sa_cons (se_v 5) (sa_cons (se_v 6) (sa_cons (se_v 7) (sa_cons (se_v 8) (sa_cons (se_op op_sub rd_sub (se_v 9) (se_v 2)) sa_nil)))))))
    (ss_one (ss_ret (se_tup (sa_cons (se_v 3) (sa_cons (se_op or_add rd_add (se_op or_add rd_add (se_sl (se_v 4) so_no (so_some (se_v 1))) (se_tup (sa_cons (se_v 10) sa_nil))) (se_sl (se_v 4) (so_some (se_op or_add rd_add (se_v 1) se_int)) so_no)) sa_nil))))))))))
set_option maxHeartbeats 0 in
theorem ok__law_parts {f : Addr} {fd : FuncData} (F : Fun K "_law_parts" "_law_parts" s__law_parts f fd) (T : Tx mg) (G__law_same : Fn P w K mg base 1 "_law_same" F__law_same) (G_form_of : Fn P w K mg base 2 "form_of" F_form_of) (G__law_turned : Fn P w K mg base 1 "_law_turned" F__law_turned) (G_with_unit : Fn P w K mg base 2 "with_unit" F_with_unit) (G__law_of : Fn P w K mg base 2 "_law_of" F__law_of) (G_alike_books : Fn P w K mg base 3 "alike_books" F_alike_books) (G__law_form : Fn P w K mg base 2 "_law_form" F__law_form) (G__law_sums : Fn P w K mg base 1 "_law_sums" F__law_sums) (G__law_mould : Fn P w K mg base 1 "_law_mould" F__law_mould) (G_lessened_right : Fn P w K mg base 2 "lessened_right" F_lessened_right) (G_without_right : Fn P w K mg base 1 "without_right" F_without_right) : FnOk P w K mg base CX0 4 f fd ["cast", "places", "book", "form"] (spD K F__law_parts) :=
  fn_h (N := N__law_parts) (np := 4) (n := 13) (body := m__law_parts) rfl rfl rfl F sc__law_parts fun cdv A outer s H E hr =>
    (ss_cons (ss_set (n := 4) sc__law_parts.nd (by rfl) (by first | exact Or.inl rfl | exact Or.inr rfl) (se_callTy call_tuple_of bd_tup (by rfl) T.m_tuple (by decide +kernel) (sa_cons (se_tidy3 (se_lc (by rfl) sc__law_parts.nd (si_val (se_ix hr.u1 (se_v 3) se_int)) (blkOk_by (N := N__law_parts) (sc := defScope s__law_parts) (own := [("one", 12)]) (by decide +kernel)) (fun _ _ _ _ _ => (sg_n 12 sc__law_parts.nd)) (fun _ _ _ _ _ => sts_nil) (fun _ _ _ _ _ => (se_op op_sub rd_sub se_int (se_v 12))) (by decide))) sa_nil)))
    (ss_cons (ss_if (st_not (st_tru (se_call G__law_same (hr.mono (by decide)) (by rfl) (sa_cons (se_call G_form_of (hr.mono (by decide)) (by rfl) (sa_cons (se_v 1) (sa_cons (se_call G__law_turned (hr.mono (by decide)) (by rfl) (sa_cons (se_v 2) sa_nil)) sa_nil))) (sa_cons (se_tup (sa_cons (se_ix hr.u1 (se_v 3) se_int) (sa_cons (se_v 4) (sa_cons (se_ix hr.u1 (se_v 3) se_int) sa_nil)))) sa_nil)))))
    (ss_one (ss_ret se_bl))
    ss_nil)
    (ss_cons (ss_if (st_not (st_tru (se_call G__law_same (hr.mono (by decide)) (by rfl) (sa_cons (se_call G_form_of (hr.mono (by decide)) (by rfl) (sa_cons (se_v 1) (sa_cons (se_call G_with_unit (hr.mono (by decide)) (by rfl) (sa_cons (se_v 2) (sa_cons (se_call G__law_of (hr.mono (by decide)) (by rfl) (sa_cons (se_v 0) (sa_cons (se_tidy3 (se_lst (sa_cons se_int (sa_cons se_int (sa_cons se_int (sa_cons se_int sa_nil)))))) sa_nil))) sa_nil))) sa_nil))) (sa_cons (se_v 3) sa_nil)))))
    (ss_one (ss_ret se_bl))
    ss_nil)
    (ss_cons (ss_set (n := 5) sc__law_parts.nd (by rfl) (by first | exact Or.inl rfl | exact Or.inr rfl) (se_tup (sa_cons (se_op or_add rd_add (se_op op_mod rd_mod (se_callTy call_int1 bd_int (by rfl) T.m_int (by decide +kernel) (sa_cons (se_ix hr.u1 (se_v 2) se_int) sa_nil)) se_int) se_int) (sa_cons (se_ix hr.u1 (se_v 2) se_int) sa_nil))))
    (ss_cons (ss_if (st_not (st_tru (se_call G__law_same (hr.mono (by decide)) (by rfl) (sa_cons (se_call G_alike_books (hr.mono (by decide)) (by rfl) (sa_cons (se_v 1) (sa_cons (se_v 5) (sa_cons (se_v 2) sa_nil)))) (sa_cons (se_cmp (op_eqD hr.u64) rd_eq (se_call G__law_form (hr.mono (by decide)) (by rfl) (sa_cons (se_call G__law_sums (hr.mono (by decide)) (by rfl) (sa_cons (se_v 1) (sa_cons (se_v 5) sa_nil))) sa_nil)) (se_v 3) (by rfl)) sa_nil)))))
    (ss_one (ss_ret se_bl))
    ss_nil)
    (ss_cons (ss_if (st_not (st_tru (se_ix hr.u1 (se_v 2) se_int)))
    (ss_one (ss_ret se_bl))
    ss_nil)
    (ss_cons (ss_set (n := 6) sc__law_parts.nd (by rfl) (by first | exact Or.inl rfl | exact Or.inr rfl) (se_call G__law_mould (hr.mono (by decide)) (by rfl) (sa_cons (se_v 0) (sa_cons (se_callB cr_len bd_len (by rfl) T.m_len (by decide +kernel) (sa_cons (se_ix hr.u1 (se_v 2) se_int) sa_nil)) sa_nil))))
    (ss_cons (ss_set (n := 7) sc__law_parts.nd (by rfl) (by first | exact Or.inl rfl | exact Or.inr rfl) (se_call G__law_of (hr.mono (by decide)) (by rfl) (sa_cons (se_v 0) (sa_cons (se_tidy3 (se_lst (sa_cons se_int (sa_cons se_int (sa_cons (se_ix hr.u1 (se_ix hr.u1 (se_ix hr.u1 (se_v 2) se_int) (se_v 6)) se_int) (sa_cons (se_op op_fdivW rd_fdiv (se_ix hr.u1 (se_ix hr.u1 (se_ix hr.u1 (se_v 2) se_int) (se_v 6)) se_int) se_int) sa_nil)))))) sa_nil))))
    (ss_cons (ss_set (n := 8) sc__law_parts.nd (by rfl) (by first | exact Or.inl rfl | exact Or.inr rfl) (se_ix hr.u1 (se_ix hr.u1 (se_v 2) se_int) (se_v 6)))
    (ss_cons (ss_set (n := 9) sc__law_parts.nd (by rfl) (by first | exact Or.inl rfl | exact Or.inr rfl) (se_tup (sa_cons (se_ix hr.u1 (se_v 2) se_int) (sa_cons (se_op or_add rd_add (se_op or_add rd_add (se_sl (se_ix hr.u1 (se_v 2) se_int) so_no (so_some (se_v 6))) (se_if (st_cmp op_gt rd_gt (se_ix hr.u1 (se_v 8) se_int) (se_v 7) (by rfl)) (se_tup (sa_cons (se_op or_add rd_add (se_sl (se_v 8) so_no (so_some se_int)) (se_tup (sa_cons (se_op op_sub rd_sub (se_ix hr.u1 (se_v 8) se_int) (se_v 7)) sa_nil))) sa_nil)) (se_tup sa_nil))) (se_sl (se_ix hr.u1 (se_v 2) se_int) (so_some (se_op or_add rd_add (se_v 6) se_int)) so_no)) sa_nil))))
    (ss_cons (ss_set (n := 10) sc__law_parts.nd (by rfl) (by first | exact Or.inl rfl | exact Or.inr rfl) (se_call G_lessened_right (hr.mono (by decide)) (by rfl) (sa_cons (se_v 2) (sa_cons (se_v 6) (sa_cons (se_v 7) sa_nil)))))
    (ss_cons (ss_if (SW.st (sw_or (st_not (st_tru (se_call G__law_same (hr.mono (by decide)) (by rfl) (sa_cons (se_v 10) (sa_cons (se_v 9) sa_nil))))) (sw_or1 (st_not (st_tru (se_call G__law_same (hr.mono (by decide)) (by rfl) (sa_cons (se_call G_form_of (hr.mono (by decide)) (by rfl) (sa_cons (se_v 1) (sa_cons (se_v 10) sa_nil))) (sa_cons (se_call G__law_form (hr.mono (by decide)) (by rfl) (sa_cons (se_call G__law_sums (hr.mono (by decide)) (by rfl) (sa_cons (se_v 1) (sa_cons (se_v 9) sa_nil))) sa_nil)) sa_nil))))))))
    (ss_one (ss_ret se_bl))
    ss_nil)
    (ss_cons (ss_if (st_not (st_tru (se_call G__law_same (hr.mono (by decide)) (by rfl) (sa_cons (se_call G_alike_books (hr.mono (by decide)) (by rfl) (sa_cons (se_v 1) (sa_cons (se_v 10) (sa_cons (se_v 2) sa_nil)))) (sa_cons (se_cmp (op_eqD hr.u64) rd_eq (se_call G__law_form (hr.mono (by decide)) (by rfl) (sa_cons (se_call G__law_sums (hr.mono (by decide)) (by rfl) (sa_cons (se_v 1) (sa_cons (se_v 9) sa_nil))) sa_nil)) (se_v 3) (by rfl)) sa_nil)))))
    (ss_one (ss_ret se_bl))
    ss_nil)
    (ss_cons (ss_set (n := 11) sc__law_parts.nd (by rfl) (by first | exact Or.inl rfl | exact Or.inr rfl) (se_tup (sa_cons (se_ix hr.u1 (se_v 2) se_int) (sa_cons (se_op or_add rd_add (se_sl (se_ix hr.u1 (se_v 2) se_int) so_no (so_some (se_v 6))) (se_sl (se_ix hr.u1 (se_v 2) se_int) (so_some (se_op or_add rd_add (se_v 6) se_int)) so_no)) sa_nil))))
    (ss_cons (ss_set (n := 10) sc__law_parts.nd (by rfl) (by first | exact Or.inl rfl | exact Or.inr rfl) (se_call G_without_right (hr.mono (by decide)) (by rfl) (sa_cons (se_v 2) (sa_cons (se_v 6) sa_nil))))
    (ss_one (ss_ret (se_and (se_call G__law_same (hr.mono (by decide)) (by rfl) (sa_cons (se_v 10) (sa_cons (se_v 11) sa_nil))) (se_one (se_call G__law_same (hr.mono (by decide)) (by rfl) (sa_cons (se_call G_form_of (hr.mono (by decide)) (by rfl) (sa_cons (se_v 1) (sa_cons (se_v 10) sa_nil))) (sa_cons (se_call G__law_form (hr.mono (by decide)) (by rfl) (sa_cons (se_call G__law_sums (hr.mono (by decide)) (by rfl) (sa_cons (se_v 1) (sa_cons (se_v 11) sa_nil))) sa_nil)) sa_nil))))))))))))))))))))))
set_option maxHeartbeats 0 in
theorem ok_form_book {f : Addr} {fd : FuncData} (F : Fun K "form_book" "form_book" s_form_book f fd) (T : Tx mg)  : FnOk P w K mg base CX0 1 f fd ["places", "holder", "form"] (spD K F_form_book) :=
  fn_h (N := N_form_book) (np := 3) (n := 12) (body := m_form_book) rfl rfl rfl F sc_form_book fun cdv A outer s H E hr =>
    (ss_cons (ss_asg (se_v 2) (sg_t (by rfl) (sgs_cons (sg_n 3 sc_form_book.nd) (sgs_cons (sg_n 4 sc_form_book.nd) (sgs_cons (sg_n 5 sc_form_book.nd) sgs_nil)))))
    (ss_cons (ss_set (n := 6) sc_form_book.nd (by rfl) (by first | exact Or.inl rfl | exact Or.inr rfl) (se_callTy call_list_of bd_list (by rfl) T.m_list (by decide +kernel) (sa_cons (se_v 4) sa_nil)))
    (ss_cons (ss_set (n := 7) sc_form_book.nd (by rfl) (by first | exact Or.inl rfl | exact Or.inr rfl) (se_lst sa_nil))
    (ss_cons (ss_forW [2, 4, 5] PassesOwn.never (by rfl) (si_val (se_v 5)) (sg_t (by rfl) (sgs_cons (sg_n 8 sc_form_book.nd) (sgs_cons (sg_n 9 sc_form_book.nd) (sgs_cons (sg_n 10 sc_form_book.nd) sgs_nil))))
    (sss_tw [2, 4, 5, 8, 9, 10] (ss_cons (ss_expr (se_bm PySem.F.plainAttrs_list PySem.F.slot_list_append PySem.F.type_list_append mt_append md_append (se_v 7) (sa_cons (se_tup (sa_cons (se_v 1) (sa_cons se_str (sa_cons (se_ix hr.u1 (se_v 0) (se_v 8)) (sa_cons (se_ix hr.u1 (se_v 0) (se_v 9)) (sa_cons (se_op or_mul rd_mul se_int (se_v 10)) sa_nil)))))) sa_nil)))
    (ss_cons (ss_augI hr.u1 (se_v 6) (se_v 8) (se_v 10) ip_add (rd_i _))
    (ss_one (ss_augI hr.u1 (se_v 6) (se_v 9) (se_v 10) ip_sub (rd_i _)))))))
    (ss_cons (ss_forW [2, 4, 5, 6, 8, 9, 10] PassesOwn.never (by rfl) (si_zip2 (by rfl) T.m_zip (sa_cons (se_sl (se_v 0) (so_some se_int) so_no) (sa_cons (se_tidy3 (se_sl (se_v 6) (so_some se_int) so_no)) sa_nil))) (sg_t (by rfl) (sgs_cons (sg_n 11 sc_form_book.nd) (sgs_cons (sg_n 10 sc_form_book.nd) sgs_nil)))
    (sss_tw [2, 4, 5, 6, 8, 9, 10, 11] (ss_cons (ss_if (st_cmp op_gt rd_gt (se_v 10) se_int (by rfl))
    (ss_one (ss_expr (se_bm PySem.F.plainAttrs_list PySem.F.slot_list_append PySem.F.type_list_append mt_append md_append (se_v 7) (sa_cons (se_tup (sa_cons (se_v 1) (sa_cons se_str (sa_cons (se_ix hr.u1 (se_v 0) se_int) (sa_cons (se_v 11) (sa_cons (se_v 10) sa_nil)))))) sa_nil))))
    ss_nil)
    (ss_one (ss_if (st_cmp op_lt rd_lt (se_v 10) se_int (by rfl))
    (ss_one (ss_expr (se_bm PySem.F.plainAttrs_list PySem.F.slot_list_append PySem.F.type_list_append mt_append md_append (se_v 7) (sa_cons (se_tup (sa_cons (se_v 1) (sa_cons se_str (sa_cons (se_v 11) (sa_cons (se_ix hr.u1 (se_v 0) se_int) (sa_cons (se_neg (se_v 10)) sa_nil)))))) sa_nil))))
    ss_nil)))))
    (ss_one (ss_ret (se_tup (sa_cons (se_v 3) (sa_cons (se_callTy call_tuple_of bd_tup (by rfl) T.m_tuple (by decide +kernel) (sa_cons (se_v 7) sa_nil)) sa_nil))))))))))
set_option maxHeartbeats 0 in
theorem ok__law_is_book {f : Addr} {fd : FuncData} (F : Fun K "_law_is_book" "_law_is_book" s__law_is_book f fd) (T : Tx mg) (G__law_form : Fn P w K mg base 2 "_law_form" F__law_form) (G__law_sums : Fn P w K mg base 1 "_law_sums" F__law_sums) : FnOk P w K mg base CX0 3 f fd ["places", "told", "holder", "form"] (spD K F__law_is_book) :=
  fn_h (N := N__law_is_book) (np := 4) (n := 9) (body := m__law_is_book) rfl rfl rfl F sc__law_is_book fun cdv A outer s H E hr =>
    (ss_cons (ss_if (SW.st (sw_or (st_not (st_tru (se_isi (se_v 1) (by rfl) T.m_isinstance (by rfl) T.m_tuple (by decide +kernel)))) (sw_or (st_cmp (op_neD hr.u64) rd_ne (se_callB cr_len bd_len (by rfl) T.m_len (by decide +kernel) (sa_cons (se_v 1) sa_nil)) se_int (by rfl)) (sw_or (st_not (st_tru (se_isi (se_ix hr.u1 (se_v 1) se_int) (by rfl) T.m_isinstance (by rfl) T.m_int (by decide +kernel)))) (sw_or (st_tru (se_isi (se_ix hr.u1 (se_v 1) se_int) (by rfl) T.m_isinstance (by rfl) T.m_bool (by decide +kernel))) (sw_or1 (st_cmp op_lt rd_lt (se_ix hr.u1 (se_v 1) se_int) se_int (by rfl))))))))
    (ss_one (ss_ret se_bl))
    ss_nil)
    (ss_cons (ss_if (SW.st (sw_or (st_not (st_tru (se_isi (se_ix hr.u1 (se_v 1) se_int) (by rfl) T.m_isinstance (by rfl) T.m_tuple (by decide +kernel)))) (sw_or1 (st_cmp op_gt rd_gt (se_callB cr_len bd_len (by rfl) T.m_len (by decide +kernel) (sa_cons (se_ix hr.u1 (se_v 1) se_int) sa_nil)) (se_op or_add rd_add (se_callB cr_len bd_len (by rfl) T.m_len (by decide +kernel) (sa_cons (se_v 0) sa_nil)) (se_callB cr_len bd_len (by rfl) T.m_len (by decide +kernel) (sa_cons (se_ix hr.u1 (se_v 3) se_int) sa_nil))) (by rfl)))))
    (ss_one (ss_ret se_bl))
    ss_nil)
    (ss_cons (ss_set (n := 4) sc__law_is_book.nd (by rfl) (by first | exact Or.inl rfl | exact Or.inr rfl) se_int)
    (ss_cons (ss_set (n := 5) sc__law_is_book.nd (by rfl) (by first | exact Or.inl rfl | exact Or.inr rfl) (se_lst sa_nil))
    (ss_cons (ss_forW [] PassesOwn.never (by rfl) (si_val (se_ix hr.u1 (se_v 1) se_int)) (sg_n 6 sc__law_is_book.nd)
    (sss_tw [6, 7] (ss_cons (ss_if (SW.st (sw_or (st_not (st_tru (se_isi (se_v 6) (by rfl) T.m_isinstance (by rfl) T.m_tuple (by decide +kernel)))) (sw_or (st_cmp (op_neD hr.u64) rd_ne (se_callB cr_len bd_len (by rfl) T.m_len (by decide +kernel) (sa_cons (se_v 6) sa_nil)) se_int (by rfl)) (sw_or1 (st_cmp (op_neD hr.u64) rd_ne (se_tidy3 (se_lc (by rfl) sc__law_is_book.nd (si_val (se_sl (se_v 6) so_no (so_some se_int))) (blkOk_by (N := N__law_is_book) (sc := defScope s__law_is_book) (own := [("one", 8)]) (by decide +kernel)) (fun _ _ _ _ _ => (sg_n 8 sc__law_is_book.nd)) (fun _ _ _ _ _ => (sts_one (st_not (st_tru (se_isi (se_v 8) (by rfl) T.m_isinstance (by rfl) T.m_str (by decide +kernel)))))) (fun _ _ _ _ _ => (se_v 8)) (by decide))) (se_tidy3 (se_lst sa_nil)) (by rfl))))))
    (ss_one (ss_ret se_bl))
    ss_nil)
    (ss_cons (ss_if (SW.st (sw_or (st_not (st_tru (se_isi (se_ix hr.u1 (se_v 6) se_int) (by rfl) T.m_isinstance (by rfl) T.m_int (by decide +kernel)))) (sw_or (st_tru (se_isi (se_ix hr.u1 (se_v 6) se_int) (by rfl) T.m_isinstance (by rfl) T.m_bool (by decide +kernel))) (sw_or (st_cmp op_lt rd_lt (se_ix hr.u1 (se_v 6) se_int) se_int (by rfl)) (sw_or (st_cmp (op_neD hr.u64) rd_ne (se_ix hr.u1 (se_v 6) se_int) (se_v 2) (by rfl)) (sw_or1 (st_cmp (or_notIn hr.u65) rd_notIn (se_ix hr.u1 (se_v 6) se_int) (se_tidy3 (se_lst (sa_cons se_str (sa_cons se_str sa_nil)))) (by rfl))))))))
    (ss_one (ss_ret se_bl))
    ss_nil)
    (ss_cons (ss_if (SW.st (sw_or (st_cmp (or_notIn hr.u65) rd_notIn (se_ix hr.u1 (se_v 6) se_int) (se_v 0) (by rfl)) (sw_or (st_cmp (or_notIn hr.u65) rd_notIn (se_ix hr.u1 (se_v 6) se_int) (se_v 0) (by rfl)) (sw_or1 (st_cmp (op_eqD hr.u64) rd_eq (se_ix hr.u1 (se_v 6) se_int) (se_ix hr.u1 (se_v 6) se_int) (by rfl))))))
    (ss_one (ss_ret se_bl))
    ss_nil)
    (ss_cons (ss_set (n := 7) sc__law_is_book.nd (by rfl) (by first | exact Or.inl rfl | exact Or.inr rfl) (se_tidy3 (se_callB (Dl.cr_sorted (by rfl) hr.u64) bd_sorted (by rfl) T.m_sorted (by decide +kernel) (sa_cons (se_tidy3 (se_lst (sa_cons (se_ix hr.u1 (se_v 6) se_int) (sa_cons (se_ix hr.u1 (se_v 6) se_int) sa_nil)))) sa_nil))))
    (ss_one (ss_if (st_cmp (op_eqD hr.u64) rd_eq (se_ix hr.u1 (se_v 6) se_int) se_str (by rfl))
    (ss_one (ss_set (n := 4) sc__law_is_book.nd (by rfl) (by first | exact Or.inl rfl | exact Or.inr rfl) (se_op or_add rd_add (se_v 4) se_int)))
    (ss_one (ss_if (st_cmp (or_in hr.u65) rd_in (se_v 7) (se_v 5) (by rfl))
    (ss_one (ss_ret se_bl))
    (ss_one (ss_expr (se_bm PySem.F.plainAttrs_list PySem.F.slot_list_append PySem.F.type_list_append mt_append md_append (se_v 5) (sa_cons (se_v 7) sa_nil))))))))))))))
    (ss_one (ss_ret (se_and (se_cmp op_lt rd_lt (se_v 4) (se_callB cr_len bd_len (by rfl) T.m_len (by decide +kernel) (sa_cons (se_v 0) sa_nil)) (by rfl)) (se_one (se_cmp (op_eqD hr.u64) rd_eq (se_call G__law_form (hr.mono (by decide)) (by rfl) (sa_cons (se_call G__law_sums (hr.mono (by decide)) (by rfl) (sa_cons (se_v 0) (sa_cons (se_v 1) sa_nil))) sa_nil)) (se_v 3) (by rfl)))))))))))
set_option maxHeartbeats 0 in
theorem ok_both_books {f : Addr} {fd : FuncData} (F : Fun K "both_books" "both_books" s_both_books f fd) (T : Tx mg) (G_multiplied_rights : Fn P w K mg base 1 "multiplied_rights" F_multiplied_rights) : FnOk P w K mg base CX0 2 f fd ["one", "other"] (spD K F_both_books) :=
  fn_h (N := N_both_books) (np := 2) (n := 5) (body := m_both_books) rfl rfl rfl F sc_both_books fun cdv A outer s H E hr =>
    (ss_cons (ss_set (n := 2) sc_both_books.nd (by rfl) (by first | exact Or.inl rfl | exact Or.inr rfl) (se_callBf cr_lcm bd_lcm (by rfl) T.m_lcm (sa_cons (se_ix hr.u1 (se_v 0) se_int) (sa_cons (se_ix hr.u1 (se_v 1) se_int) sa_nil))))
    (ss_cons (ss_set (n := 3) sc_both_books.nd (by rfl) (by first | exact Or.inl rfl | exact Or.inr rfl) (se_call G_multiplied_rights (hr.mono (by decide)) (by rfl) (sa_cons (se_ix hr.u1 (se_v 0) se_int) (sa_cons (se_op op_fdivW rd_fdiv (se_v 2) (se_ix hr.u1 (se_v 0) se_int)) sa_nil))))
    (ss_cons (ss_set (n := 4) sc_both_books.nd (by rfl) (by first | exact Or.inl rfl | exact Or.inr rfl) (se_call G_multiplied_rights (hr.mono (by decide)) (by rfl) (sa_cons (se_ix hr.u1 (se_v 1) se_int) (sa_cons (se_op op_fdivW rd_fdiv (se_v 2) (se_ix hr.u1 (se_v 1) se_int)) sa_nil))))
    (ss_one (ss_ret (se_tup (sa_cons (se_v 2) (sa_cons (se_op or_add rd_add (se_v 3) (se_v 4)) sa_nil))))))))
set_option maxHeartbeats 0 in
theorem ok__law_added {f : Addr} {fd : FuncData} (F : Fun K "_law_added" "_law_added" s__law_added f fd) (T : Tx mg) (G__law_form : Fn P w K mg base 2 "_law_form" F__law_form) : FnOk P w K mg base CX0 3 f fd ["one", "two"] (spD K F__law_added) :=
  fn_h (N := N__law_added) (np := 2) (n := 11) (body := m__law_added) rfl rfl rfl F sc__law_added fun cdv A outer s H E hr =>
    (ss_app (a := [_, _]) rfl (ss_cons (ss_set (n := 2) sc__law_added.nd (by rfl) (by first | exact Or.inl rfl | exact Or.inr rfl) (se_op or_mul rd_mul (se_ix hr.u1 (se_v 0) se_int) (se_ix hr.u1 (se_v 1) se_int)))
    (ss_one (ss_tr [] (ss_setLc (i := 3) (by rfl) sc__law_added.nd (by rfl) (by rfl) (sw_true (by rfl) (by rfl) (by rfl) (by rfl)) (si_rng1 (by rfl) T.m_range (sa_cons (se_callB cr_len bd_len (by rfl) T.m_len (by decide +kernel) (sa_cons (se_ix hr.u1 (se_v 0) se_int) sa_nil)) sa_nil)) (blkOk_by (N := N__law_added) (sc := defScope s__law_added) (own := [("k", 10)]) (by decide +kernel)) (fun _ _ _ _ _ => (sg_n 10 sc__law_added.nd)) (fun _ _ _ _ _ => sts_nil) (fun _ _ _ _ _ => (se_op or_add rd_add (se_op or_mul rd_mul (se_ix hr.u1 (se_ix hr.u1 (se_v 0) se_int) (se_v 10)) (se_ix hr.u1 (se_v 1) se_int)) (se_op or_mul rd_mul (se_ix hr.u1 (se_ix hr.u1 (se_v 1) se_int) (se_v 10)) (se_ix hr.u1 (se_v 0) se_int)))) (by decide)))))
    (ss_app (a := [_, _]) rfl (sss_tr [5, 6, 7, 8, 9] (ss_cons (ss_set (n := 4) sc__law_added.nd (by rfl) (by first | exact Or.inl rfl | exact Or.inr rfl) se_dt)
    (ss_one (ss_forW [0, 1] PassesOwn.never (by rfl) (si_val (se_tidy3 (se_lst (sa_cons (se_tup (sa_cons (se_v 0) (sa_cons (se_ix hr.u1 (se_v 1) se_int) sa_nil))) (sa_cons (se_tup (sa_cons (se_v 1) (sa_cons (se_ix hr.u1 (se_v 0) se_int) sa_nil))) sa_nil))))) (sg_t (by rfl) (sgs_cons (sg_n 5 sc__law_added.nd) (sgs_cons (sg_n 6 sc__law_added.nd) sgs_nil)))
    (sss_tw [0, 1, 5, 6, 7, 8, 9] (ss_one (ss_forW [0, 1, 5] PassesOwn.never (by rfl) (si_val (se_ix hr.u1 (se_v 5) se_int)) (sg_t (by rfl) (sgs_cons (sg_n 7 sc__law_added.nd) (sgs_cons (sg_n 8 sc__law_added.nd) (sgs_cons (sg_n 9 sc__law_added.nd) sgs_nil))))
    (sss_tw [0, 1, 5, 7, 8, 9] (ss_one (ss_put hr.u1 (se_op or_add rd_add (se_get2 hr.u1 (se_v 4) (se_tup (sa_cons (se_v 7) (sa_cons (se_v 8) sa_nil))) se_int) (se_op or_mul rd_mul (se_v 9) (se_v 6))) (se_v 4) (se_tup (sa_cons (se_v 7) (sa_cons (se_v 8) sa_nil)))))))))))))
    (ss_one (ss_ret (se_call G__law_form (hr.mono (by decide)) (by rfl) (sa_cons (se_tup (sa_cons (se_v 2) (sa_cons (se_v 3) (sa_cons (se_v 4) sa_nil)))) sa_nil))))))
set_option maxHeartbeats 0 in
theorem ok_law {f : Addr} {fd : FuncData} (F : Fun K "law" "law" s_law f fd) (T : Tx mg) (G__law_cast : Fn P w K mg base 1 "_law_cast" F__law_cast) (G__law_mould : Fn P w K mg base 1 "_law_mould" F__law_mould) (G__law_places : Fn P w K mg base 3 "_law_places" F__law_places) (G__law_book : Fn P w K mg base 3 "_law_book" F__law_book) (G__law_form : Fn P w K mg base 2 "_law_form" F__law_form) (G__law_sums : Fn P w K mg base 1 "_law_sums" F__law_sums) (G__law_same : Fn P w K mg base 1 "_law_same" F__law_same) (G_form_of : Fn P w K mg base 2 "form_of" F_form_of) (G__law_parts : Fn P w K mg base 4 "_law_parts" F__law_parts) (G_form_book : Fn P w K mg base 1 "form_book" F_form_book) (G__law_is_book : Fn P w K mg base 3 "_law_is_book" F__law_is_book) (G_both_books : Fn P w K mg base 2 "both_books" F_both_books) (G__law_added : Fn P w K mg base 3 "_law_added" F__law_added) (G_alike_books : Fn P w K mg base 3 "alike_books" F_alike_books) (G__law_of : Fn P w K mg base 2 "_law_of" F__law_of) : FnOk P w K mg base CX0 5 f fd ["script"] (spD K F_law) :=
  fn_h (N := N_law) (np := 1) (n := 24) (body := m_law) rfl rfl rfl F sc_law fun cdv A outer s H E hr =>
    (ss_app (a := [_, _, _, _]) rfl (ss_cons (ss_set (n := 1) sc_law.nd (by rfl) (by first | exact Or.inl rfl | exact Or.inr rfl) (se_call G__law_cast (hr.mono (by decide)) (by rfl) (sa_cons (se_v 0) sa_nil)))
    (ss_cons (ss_set (n := 2) sc_law.nd (by rfl) (by first | exact Or.inl rfl | exact Or.inr rfl) (se_cmp (op_eqD hr.u64) rd_eq (se_call G__law_mould (hr.mono (by decide)) (by rfl) (sa_cons (se_v 1) (sa_cons se_int sa_nil))) se_int (by rfl)))
    (ss_cons (ss_set (n := 3) sc_law.nd (by rfl) (by first | exact Or.inl rfl | exact Or.inr rfl) (se_call G__law_places (hr.mono (by decide)) (by rfl) (sa_cons (se_v 1) (sa_cons (se_if (st_tru (se_v 2)) se_int (se_op or_add rd_add se_int (se_call G__law_mould (hr.mono (by decide)) (by rfl) (sa_cons (se_v 1) (sa_cons se_int sa_nil))))) sa_nil))))
    (ss_one (ss_tr [] (ss_setLc (i := 4) (by rfl) sc_law.nd (by rfl) (by rfl) (sw_true (by rfl) (by rfl) (by rfl) (by rfl)) (si_rng1 (by rfl) T.m_range (sa_cons se_int sa_nil)) (blkOk_by (N := N_law) (sc := defScope s_law) (own := [("k", 23)]) (by decide +kernel)) (fun _ _ _ _ _ => (sg_n 23 sc_law.nd)) (fun _ _ _ _ _ => sts_nil) (fun _ _ _ _ _ => (se_call G__law_book (hr.mono (by decide)) (by rfl) (sa_cons (se_v 1) (sa_cons (se_v 3) (sa_cons (se_if (st_tru (se_v 2)) se_int se_int) sa_nil))))) (by decide)))))))
    (ss_app (a := [_, _, _]) rfl (sss_tr [7, 8, 9] (ss_cons (ss_set (n := 5) sc_law.nd (by rfl) (by first | exact Or.inl rfl | exact Or.inr rfl) (se_lst sa_nil))
    (ss_cons (ss_set (n := 6) sc_law.nd (by rfl) (by first | exact Or.inl rfl | exact Or.inr rfl) (se_lst sa_nil))
    (ss_one (ss_forW [0, 2] PassesOwn.never (by rfl) (si_val (se_v 4)) (sg_n 7 sc_law.nd)
    (sss_tw [0, 2, 7, 8, 9] (ss_cons (ss_set (n := 8) sc_law.nd (by rfl) (by first | exact Or.inl rfl | exact Or.inr rfl) (se_call G__law_form (hr.mono (by decide)) (by rfl) (sa_cons (se_call G__law_sums (hr.mono (by decide)) (by rfl) (sa_cons (se_v 3) (sa_cons (se_v 7) sa_nil))) sa_nil)))
    (ss_cons (ss_expr (se_bm PySem.F.plainAttrs_list PySem.F.slot_list_append PySem.F.type_list_append mt_append md_append (se_v 5) (sa_cons (se_v 8) sa_nil)))
    (ss_cons (ss_if (SW.st (sw_or (st_not (st_tru (se_call G__law_same (hr.mono (by decide)) (by rfl) (sa_cons (se_call G_form_of (hr.mono (by decide)) (by rfl) (sa_cons (se_v 3) (sa_cons (se_v 7) sa_nil))) (sa_cons (se_v 8) sa_nil))))) (sw_or1 (st_not (st_tru (se_call G__law_parts (hr.mono (by decide)) (by rfl) (sa_cons (se_v 1) (sa_cons (se_v 3) (sa_cons (se_v 7) (sa_cons (se_v 8) sa_nil))))))))))
    (ss_one (ss_ret se_bl))
    ss_nil)
    (ss_cons (ss_set (n := 9) sc_law.nd (by rfl) (by first | exact Or.inl rfl | exact Or.inr rfl) (se_call G_form_book (hr.mono (by decide)) (by rfl) (sa_cons (se_v 3) (sa_cons se_str (sa_cons (se_v 8) sa_nil)))))
    (ss_cons (ss_if (SW.st (sw_or (st_not (st_tru (se_call G__law_is_book (hr.mono (by decide)) (by rfl) (sa_cons (se_v 3) (sa_cons (se_v 9) (sa_cons se_str (sa_cons (se_v 8) sa_nil))))))) (sw_or1 (st_not (st_tru (se_call G__law_same (hr.mono (by decide)) (by rfl) (sa_cons (se_call G_form_of (hr.mono (by decide)) (by rfl) (sa_cons (se_v 3) (sa_cons (se_v 9) sa_nil))) (sa_cons (se_v 8) sa_nil))))))))
    (ss_one (ss_ret se_bl))
    ss_nil)
    (ss_one (ss_expr (se_bm PySem.F.plainAttrs_list PySem.F.slot_list_append PySem.F.type_list_append mt_append md_append (se_v 6) (sa_cons (se_v 9) sa_nil)))))))))))))))
    (ss_app (a := [_, _, _, _, _, _, _]) rfl (ss_cons (ss_set (n := 10) sc_law.nd (by rfl) (by first | exact Or.inl rfl | exact Or.inr rfl) (se_call G_both_books (hr.mono (by decide)) (by rfl) (sa_cons (se_ix hr.u1 (se_v 4) se_int) (sa_cons (se_ix hr.u1 (se_v 4) se_int) sa_nil))))
    (ss_cons (ss_set (n := 11) sc_law.nd (by rfl) (by first | exact Or.inl rfl | exact Or.inr rfl) (se_call G__law_added (hr.mono (by decide)) (by rfl) (sa_cons (se_ix hr.u1 (se_v 5) se_int) (sa_cons (se_ix hr.u1 (se_v 5) se_int) sa_nil))))
    (ss_cons (ss_if (SW.st (sw_or (st_not (st_tru (se_call G__law_same (hr.mono (by decide)) (by rfl) (sa_cons (se_call G_form_of (hr.mono (by decide)) (by rfl) (sa_cons (se_v 3) (sa_cons (se_v 10) sa_nil))) (sa_cons (se_v 11) sa_nil))))) (sw_or1 (st_cmp op_gt rd_gt (se_op or_add rd_add (se_callB cr_len bd_len (by rfl) T.m_len (by decide +kernel) (sa_cons (se_ix hr.u1 (se_ix hr.u1 (se_v 6) se_int) se_int) sa_nil)) (se_callB cr_len bd_len (by rfl) T.m_len (by decide +kernel) (sa_cons (se_ix hr.u1 (se_ix hr.u1 (se_v 6) se_int) se_int) sa_nil))) se_int (by rfl)))))
    (ss_one (ss_ret (se_and (se_cmp op_gt rd_gt (se_op or_add rd_add (se_callB cr_len bd_len (by rfl) T.m_len (by decide +kernel) (sa_cons (se_ix hr.u1 (se_ix hr.u1 (se_v 6) se_int) se_int) sa_nil)) (se_callB cr_len bd_len (by rfl) T.m_len (by decide +kernel) (sa_cons (se_ix hr.u1 (se_ix hr.u1 (se_v 6) se_int) se_int) sa_nil))) se_int (by rfl)) (se_one (se_call G__law_same (hr.mono (by decide)) (by rfl) (sa_cons (se_call G_form_of (hr.mono (by decide)) (by rfl) (sa_cons (se_v 3) (sa_cons (se_v 10) sa_nil))) (sa_cons (se_v 11) sa_nil)))))))
    ss_nil)
    (ss_cons (ss_set (n := 12) sc_law.nd (by rfl) (by first | exact Or.inl rfl | exact Or.inr rfl) (se_call G_both_books (hr.mono (by decide)) (by rfl) (sa_cons (se_ix hr.u1 (se_v 6) se_int) (sa_cons (se_ix hr.u1 (se_v 6) se_int) sa_nil))))
    (ss_cons (ss_if (SW.st (sw_or (st_not (st_tru (se_call G__law_same (hr.mono (by decide)) (by rfl) (sa_cons (se_call G_form_of (hr.mono (by decide)) (by rfl) (sa_cons (se_v 3) (sa_cons (se_v 12) sa_nil))) (sa_cons (se_v 11) sa_nil))))) (sw_or1 (st_not (st_tru (se_call G__law_same (hr.mono (by decide)) (by rfl) (sa_cons (se_call G_alike_books (hr.mono (by decide)) (by rfl) (sa_cons (se_v 3) (sa_cons (se_v 12) (sa_cons (se_v 10) sa_nil)))) (sa_cons se_bl sa_nil))))))))
    (ss_one (ss_ret se_bl))
    ss_nil)
    (ss_cons (ss_set (n := 13) sc_law.nd (by rfl) (by first | exact Or.inl rfl | exact Or.inr rfl) (se_call G_form_book (hr.mono (by decide)) (by rfl) (sa_cons (se_v 3) (sa_cons se_str (sa_cons (se_v 11) sa_nil)))))
    (ss_one (ss_if (SW.st (sw_or (st_not (st_tru (se_call G__law_is_book (hr.mono (by decide)) (by rfl) (sa_cons (se_v 3) (sa_cons (se_v 13) (sa_cons se_str (sa_cons (se_v 11) sa_nil))))))) (sw_or1 (st_not (st_tru (se_call G__law_same (hr.mono (by decide)) (by rfl) (sa_cons (se_call G_alike_books (hr.mono (by decide)) (by rfl) (sa_cons (se_v 3) (sa_cons (se_v 13) (sa_cons (se_v 10) sa_nil)))) (sa_cons se_bl sa_nil))))))))
    (ss_one (ss_ret se_bl))
    ss_nil))))))))
    (ss_app (a := [_, _]) rfl (sss_tr [15, 16, 17] (ss_cons (ss_set (n := 14) sc_law.nd (by rfl) (by first | exact Or.inl rfl | exact Or.inr rfl) se_dt)
    (ss_one (ss_forW [0, 2, 6, 7, 8, 9, 11, 13] PassesOwn.never (by rfl) (si_val (se_ix hr.u1 (se_ix hr.u1 (se_v 5) se_int) se_int)) (sg_t (by rfl) (sgs_cons (sg_n 15 sc_law.nd) (sgs_cons (sg_n 16 sc_law.nd) (sgs_cons (sg_n 17 sc_law.nd) sgs_nil))))
    (sss_tw [0, 2, 6, 7, 8, 9, 11, 13, 15, 16, 17] (ss_one (ss_put hr.u1 (se_op or_mul rd_mul se_int (se_v 17)) (se_v 14) (se_tup (sa_cons (se_v 15) (sa_cons (se_v 16) sa_nil))))))))))
    (ss_cons (ss_set (n := 18) sc_law.nd (by rfl) (by first | exact Or.inl rfl | exact Or.inr rfl) (se_call G__law_form (hr.mono (by decide)) (by rfl) (sa_cons (se_tup (sa_cons (se_ix hr.u1 (se_ix hr.u1 (se_v 5) se_int) se_int) (sa_cons (se_tidy3 (se_op or_mul rd_mul (se_tidy3 (se_lst (sa_cons se_int sa_nil))) (se_callB cr_len bd_len (by rfl) T.m_len (by decide +kernel) (sa_cons (se_v 3) sa_nil)))) (sa_cons (se_v 14) sa_nil)))) sa_nil)))
    (ss_cons (ss_set (n := 19) sc_law.nd (by rfl) (by first | exact Or.inl rfl | exact Or.inr rfl) (se_tup (sa_cons (se_ix hr.u1 (se_ix hr.u1 (se_v 5) se_int) se_int) (sa_cons (se_callTy call_tuple_of bd_tup (by rfl) T.m_tuple (by decide +kernel) (sa_cons (se_tidy3 (se_lc (by rfl) sc_law.nd (si_val (se_ix hr.u1 (se_ix hr.u1 (se_v 5) se_int) se_int)) (blkOk_by (N := N_law) (sc := defScope s_law) (own := [("one", 9)]) (by decide +kernel)) (fun _ _ _ _ _ => (sg_n 9 sc_law.nd)) (fun _ _ _ _ _ => sts_nil) (fun _ _ _ _ _ => (se_op op_sub rd_sub se_int (se_v 9))) (by decide))) sa_nil)) (sa_cons (se_ix hr.u1 (se_ix hr.u1 (se_v 5) se_int) se_int) sa_nil)))))
    (ss_cons (ss_set (n := 20) sc_law.nd (by rfl) (by first | exact Or.inl rfl | exact Or.inr rfl) (se_call G_form_book (hr.mono (by decide)) (by rfl) (sa_cons (se_v 3) (sa_cons se_str (sa_cons (se_v 19) sa_nil)))))
    (ss_cons (ss_if (SW.st (sw_or (st_not (st_tru (se_call G__law_is_book (hr.mono (by decide)) (by rfl) (sa_cons (se_v 3) (sa_cons (se_v 20) (sa_cons se_str (sa_cons (se_v 19) sa_nil))))))) (sw_or1 (st_not (st_tru (se_call G__law_same (hr.mono (by decide)) (by rfl) (sa_cons (se_call G_form_of (hr.mono (by decide)) (by rfl) (sa_cons (se_v 3) (sa_cons (se_call G_both_books (hr.mono (by decide)) (by rfl) (sa_cons (se_ix hr.u1 (se_v 4) se_int) (sa_cons (se_v 20) sa_nil))) sa_nil))) (sa_cons (se_v 18) sa_nil))))))))
    (ss_one (ss_ret se_bl))
    ss_nil)
    (ss_cons (ss_set (n := 21) sc_law.nd (by rfl) (by first | exact Or.inl rfl | exact Or.inr rfl) (se_tup (sa_cons se_str (sa_cons (se_call G__law_of (hr.mono (by decide)) (by rfl) (sa_cons (se_v 1) (sa_cons (se_tidy3 (se_lst (sa_cons se_str (sa_cons se_str sa_nil)))) sa_nil))) (sa_cons (se_ix hr.u1 (se_v 3) se_int) (sa_cons (se_ix hr.u1 (se_v 3) (se_neg se_int)) (sa_cons se_int sa_nil)))))))
    (ss_cons (ss_set (n := 22) sc_law.nd (by rfl) (by first | exact Or.inl rfl | exact Or.inr rfl) (se_tup (sa_cons (se_v 21) sa_nil)))
    (ss_cons (ss_if (st_cmp (op_eqD hr.u64) rd_eq (se_call G__law_mould (hr.mono (by decide)) (by rfl) (sa_cons (se_v 1) (sa_cons se_int sa_nil))) se_int (by rfl))
    (ss_one (ss_set (n := 22) sc_law.nd (by rfl) (by first | exact Or.inl rfl | exact Or.inr rfl) (se_tup (sa_cons (se_op or_add rd_add (se_tup (sa_cons se_str (sa_cons se_str sa_nil))) (se_sl (se_v 21) (so_some se_int) so_no)) (sa_cons (se_tup (sa_cons se_str (sa_cons se_str (sa_cons (se_ix hr.u1 (se_v 3) (se_neg se_int)) (sa_cons (se_ix hr.u1 (se_v 3) se_int) (sa_cons se_int sa_nil)))))) sa_nil)))))
    ss_nil)
    (ss_cons (ss_if (st_cmp op_gt rd_gt (se_callB cr_len bd_len (by rfl) T.m_len (by decide +kernel) (sa_cons (se_ix hr.u1 (se_v 12) se_int) sa_nil)) se_int (by rfl))
    (ss_one (ss_ret se_bl))
    ss_nil)
    (ss_cons (ss_set (n := 21) sc_law.nd (by rfl) (by first | exact Or.inl rfl | exact Or.inr rfl) (se_call G_both_books (hr.mono (by decide)) (by rfl) (sa_cons (se_v 12) (sa_cons (se_tup (sa_cons (se_call G__law_of (hr.mono (by decide)) (by rfl) (sa_cons (se_v 1) (sa_cons (se_tidy3 (se_lst (sa_cons se_int (sa_cons se_int (sa_cons se_int sa_nil))))) sa_nil))) (sa_cons (se_v 22) sa_nil))) sa_nil))))
    (ss_one (ss_ret (se_and (se_call G__law_same (hr.mono (by decide)) (by rfl) (sa_cons (se_call G_alike_books (hr.mono (by decide)) (by rfl) (sa_cons (se_v 3) (sa_cons (se_v 21) (sa_cons (se_v 10) sa_nil)))) (sa_cons se_bl sa_nil))) (se_one (se_call G__law_same (hr.mono (by decide)) (by rfl) (sa_cons (se_call G_alike_books (hr.mono (by decide)) (by rfl) (sa_cons (se_v 3) (sa_cons (se_v 10) (sa_cons (se_v 21) sa_nil)))) (sa_cons se_bl sa_nil))))))))))))))))))))
end
set_option maxHeartbeats 0 in
theorem all_mk {l : PySem.W.OpenLaw} {w : World} {K : PySem.W.Frag} {h : Heap} {mg : Str → Option Value} {fa : Addr} (X : K.In h) (G : h.Ns mainGlobals mg) (hfa : mg "law" = some (.ref fa))
    {f__law_cast : Addr} {oc__law_cast kV__law_cast dc__law_cast pm__law_cast cd__law_cast ct__law_cast : Value} {od__law_cast an__law_cast : Option Addr} {sl__law_cast : Array (Option Value)}
    (a__law_cast : PySem.W.nsIn K mainGlobals "_law_cast" = some (some (.ref f__law_cast))) (l__law_cast : K.lookup f__law_cast = some ⟨oc__law_cast, od__law_cast, .func (PySem.W.fnOf "_law_cast" "_law_cast" (defArgs s__law_cast) (defBody s__law_cast) (defScope s__law_cast) .none kV__law_cast dc__law_cast pm__law_cast an__law_cast cd__law_cast ct__law_cast), sl__law_cast⟩) (c__law_cast : PySem.W.codeIn K cd__law_cast "_law_cast" = true) (k__law_cast : PySem.W.keepIn K (.ref f__law_cast) = true)
    {f__law_mould : Addr} {oc__law_mould kV__law_mould dc__law_mould pm__law_mould cd__law_mould ct__law_mould : Value} {od__law_mould an__law_mould : Option Addr} {sl__law_mould : Array (Option Value)}
    (a__law_mould : PySem.W.nsIn K mainGlobals "_law_mould" = some (some (.ref f__law_mould))) (l__law_mould : K.lookup f__law_mould = some ⟨oc__law_mould, od__law_mould, .func (PySem.W.fnOf "_law_mould" "_law_mould" (defArgs s__law_mould) (defBody s__law_mould) (defScope s__law_mould) .none kV__law_mould dc__law_mould pm__law_mould an__law_mould cd__law_mould ct__law_mould), sl__law_mould⟩) (c__law_mould : PySem.W.codeIn K cd__law_mould "_law_mould" = true) (k__law_mould : PySem.W.keepIn K (.ref f__law_mould) = true)
    {f__law_of : Addr} {oc__law_of kV__law_of dc__law_of pm__law_of cd__law_of ct__law_of : Value} {od__law_of an__law_of : Option Addr} {sl__law_of : Array (Option Value)}
    (a__law_of : PySem.W.nsIn K mainGlobals "_law_of" = some (some (.ref f__law_of))) (l__law_of : K.lookup f__law_of = some ⟨oc__law_of, od__law_of, .func (PySem.W.fnOf "_law_of" "_law_of" (defArgs s__law_of) (defBody s__law_of) (defScope s__law_of) .none kV__law_of dc__law_of pm__law_of an__law_of cd__law_of ct__law_of), sl__law_of⟩) (c__law_of : PySem.W.codeIn K cd__law_of "_law_of" = true) (k__law_of : PySem.W.keepIn K (.ref f__law_of) = true)
    {f__law_places : Addr} {oc__law_places kV__law_places dc__law_places pm__law_places cd__law_places ct__law_places : Value} {od__law_places an__law_places : Option Addr} {sl__law_places : Array (Option Value)}
    (a__law_places : PySem.W.nsIn K mainGlobals "_law_places" = some (some (.ref f__law_places))) (l__law_places : K.lookup f__law_places = some ⟨oc__law_places, od__law_places, .func (PySem.W.fnOf "_law_places" "_law_places" (defArgs s__law_places) (defBody s__law_places) (defScope s__law_places) .none kV__law_places dc__law_places pm__law_places an__law_places cd__law_places ct__law_places), sl__law_places⟩) (c__law_places : PySem.W.codeIn K cd__law_places "_law_places" = true) (k__law_places : PySem.W.keepIn K (.ref f__law_places) = true)
    {f__law_book : Addr} {oc__law_book kV__law_book dc__law_book pm__law_book cd__law_book ct__law_book : Value} {od__law_book an__law_book : Option Addr} {sl__law_book : Array (Option Value)}
    (a__law_book : PySem.W.nsIn K mainGlobals "_law_book" = some (some (.ref f__law_book))) (l__law_book : K.lookup f__law_book = some ⟨oc__law_book, od__law_book, .func (PySem.W.fnOf "_law_book" "_law_book" (defArgs s__law_book) (defBody s__law_book) (defScope s__law_book) .none kV__law_book dc__law_book pm__law_book an__law_book cd__law_book ct__law_book), sl__law_book⟩) (c__law_book : PySem.W.codeIn K cd__law_book "_law_book" = true) (k__law_book : PySem.W.keepIn K (.ref f__law_book) = true)
    {f__law_divisor : Addr} {oc__law_divisor kV__law_divisor dc__law_divisor pm__law_divisor cd__law_divisor ct__law_divisor : Value} {od__law_divisor an__law_divisor : Option Addr} {sl__law_divisor : Array (Option Value)}
    (a__law_divisor : PySem.W.nsIn K mainGlobals "_law_divisor" = some (some (.ref f__law_divisor))) (l__law_divisor : K.lookup f__law_divisor = some ⟨oc__law_divisor, od__law_divisor, .func (PySem.W.fnOf "_law_divisor" "_law_divisor" (defArgs s__law_divisor) (defBody s__law_divisor) (defScope s__law_divisor) .none kV__law_divisor dc__law_divisor pm__law_divisor an__law_divisor cd__law_divisor ct__law_divisor), sl__law_divisor⟩) (c__law_divisor : PySem.W.codeIn K cd__law_divisor "_law_divisor" = true) (k__law_divisor : PySem.W.keepIn K (.ref f__law_divisor) = true)
    {f__law_form : Addr} {oc__law_form kV__law_form dc__law_form pm__law_form cd__law_form ct__law_form : Value} {od__law_form an__law_form : Option Addr} {sl__law_form : Array (Option Value)}
    (a__law_form : PySem.W.nsIn K mainGlobals "_law_form" = some (some (.ref f__law_form))) (l__law_form : K.lookup f__law_form = some ⟨oc__law_form, od__law_form, .func (PySem.W.fnOf "_law_form" "_law_form" (defArgs s__law_form) (defBody s__law_form) (defScope s__law_form) .none kV__law_form dc__law_form pm__law_form an__law_form cd__law_form ct__law_form), sl__law_form⟩) (c__law_form : PySem.W.codeIn K cd__law_form "_law_form" = true) (k__law_form : PySem.W.keepIn K (.ref f__law_form) = true)
    {f__law_sums : Addr} {oc__law_sums kV__law_sums dc__law_sums pm__law_sums cd__law_sums ct__law_sums : Value} {od__law_sums an__law_sums : Option Addr} {sl__law_sums : Array (Option Value)}
    (a__law_sums : PySem.W.nsIn K mainGlobals "_law_sums" = some (some (.ref f__law_sums))) (l__law_sums : K.lookup f__law_sums = some ⟨oc__law_sums, od__law_sums, .func (PySem.W.fnOf "_law_sums" "_law_sums" (defArgs s__law_sums) (defBody s__law_sums) (defScope s__law_sums) .none kV__law_sums dc__law_sums pm__law_sums an__law_sums cd__law_sums ct__law_sums), sl__law_sums⟩) (c__law_sums : PySem.W.codeIn K cd__law_sums "_law_sums" = true) (k__law_sums : PySem.W.keepIn K (.ref f__law_sums) = true)
    {f__law_same : Addr} {oc__law_same kV__law_same dc__law_same pm__law_same cd__law_same ct__law_same : Value} {od__law_same an__law_same : Option Addr} {sl__law_same : Array (Option Value)}
    (a__law_same : PySem.W.nsIn K mainGlobals "_law_same" = some (some (.ref f__law_same))) (l__law_same : K.lookup f__law_same = some ⟨oc__law_same, od__law_same, .func (PySem.W.fnOf "_law_same" "_law_same" (defArgs s__law_same) (defBody s__law_same) (defScope s__law_same) .none kV__law_same dc__law_same pm__law_same an__law_same cd__law_same ct__law_same), sl__law_same⟩) (c__law_same : PySem.W.codeIn K cd__law_same "_law_same" = true) (k__law_same : PySem.W.keepIn K (.ref f__law_same) = true)
    {f_doubled_nets : Addr} {oc_doubled_nets kV_doubled_nets dc_doubled_nets pm_doubled_nets cd_doubled_nets ct_doubled_nets : Value} {od_doubled_nets an_doubled_nets : Option Addr} {sl_doubled_nets : Array (Option Value)}
    (a_doubled_nets : PySem.W.nsIn K mainGlobals "doubled_nets" = some (some (.ref f_doubled_nets))) (l_doubled_nets : K.lookup f_doubled_nets = some ⟨oc_doubled_nets, od_doubled_nets, .func (PySem.W.fnOf "doubled_nets" "doubled_nets" (defArgs s_doubled_nets) (defBody s_doubled_nets) (defScope s_doubled_nets) .none kV_doubled_nets dc_doubled_nets pm_doubled_nets an_doubled_nets cd_doubled_nets ct_doubled_nets), sl_doubled_nets⟩) (c_doubled_nets : PySem.W.codeIn K cd_doubled_nets "doubled_nets" = true) (k_doubled_nets : PySem.W.keepIn K (.ref f_doubled_nets) = true)
    {f_doubled_ties : Addr} {oc_doubled_ties kV_doubled_ties dc_doubled_ties pm_doubled_ties cd_doubled_ties ct_doubled_ties : Value} {od_doubled_ties an_doubled_ties : Option Addr} {sl_doubled_ties : Array (Option Value)}
    (a_doubled_ties : PySem.W.nsIn K mainGlobals "doubled_ties" = some (some (.ref f_doubled_ties))) (l_doubled_ties : K.lookup f_doubled_ties = some ⟨oc_doubled_ties, od_doubled_ties, .func (PySem.W.fnOf "doubled_ties" "doubled_ties" (defArgs s_doubled_ties) (defBody s_doubled_ties) (defScope s_doubled_ties) .none kV_doubled_ties dc_doubled_ties pm_doubled_ties an_doubled_ties cd_doubled_ties ct_doubled_ties), sl_doubled_ties⟩) (c_doubled_ties : PySem.W.codeIn K cd_doubled_ties "doubled_ties" = true) (k_doubled_ties : PySem.W.keepIn K (.ref f_doubled_ties) = true)
    {f_form_of : Addr} {oc_form_of kV_form_of dc_form_of pm_form_of cd_form_of ct_form_of : Value} {od_form_of an_form_of : Option Addr} {sl_form_of : Array (Option Value)}
    (a_form_of : PySem.W.nsIn K mainGlobals "form_of" = some (some (.ref f_form_of))) (l_form_of : K.lookup f_form_of = some ⟨oc_form_of, od_form_of, .func (PySem.W.fnOf "form_of" "form_of" (defArgs s_form_of) (defBody s_form_of) (defScope s_form_of) .none kV_form_of dc_form_of pm_form_of an_form_of cd_form_of ct_form_of), sl_form_of⟩) (c_form_of : PySem.W.codeIn K cd_form_of "form_of" = true) (k_form_of : PySem.W.keepIn K (.ref f_form_of) = true)
    {f__law_turned : Addr} {oc__law_turned kV__law_turned dc__law_turned pm__law_turned cd__law_turned ct__law_turned : Value} {od__law_turned an__law_turned : Option Addr} {sl__law_turned : Array (Option Value)}
    (a__law_turned : PySem.W.nsIn K mainGlobals "_law_turned" = some (some (.ref f__law_turned))) (l__law_turned : K.lookup f__law_turned = some ⟨oc__law_turned, od__law_turned, .func (PySem.W.fnOf "_law_turned" "_law_turned" (defArgs s__law_turned) (defBody s__law_turned) (defScope s__law_turned) .none kV__law_turned dc__law_turned pm__law_turned an__law_turned cd__law_turned ct__law_turned), sl__law_turned⟩) (c__law_turned : PySem.W.codeIn K cd__law_turned "_law_turned" = true) (k__law_turned : PySem.W.keepIn K (.ref f__law_turned) = true)
    {f_multiplied_rights : Addr} {oc_multiplied_rights kV_multiplied_rights dc_multiplied_rights pm_multiplied_rights cd_multiplied_rights ct_multiplied_rights : Value} {od_multiplied_rights an_multiplied_rights : Option Addr} {sl_multiplied_rights : Array (Option Value)}
    (a_multiplied_rights : PySem.W.nsIn K mainGlobals "multiplied_rights" = some (some (.ref f_multiplied_rights))) (l_multiplied_rights : K.lookup f_multiplied_rights = some ⟨oc_multiplied_rights, od_multiplied_rights, .func (PySem.W.fnOf "multiplied_rights" "multiplied_rights" (defArgs s_multiplied_rights) (defBody s_multiplied_rights) (defScope s_multiplied_rights) .none kV_multiplied_rights dc_multiplied_rights pm_multiplied_rights an_multiplied_rights cd_multiplied_rights ct_multiplied_rights), sl_multiplied_rights⟩) (c_multiplied_rights : PySem.W.codeIn K cd_multiplied_rights "multiplied_rights" = true) (k_multiplied_rights : PySem.W.keepIn K (.ref f_multiplied_rights) = true)
    {f_with_unit : Addr} {oc_with_unit kV_with_unit dc_with_unit pm_with_unit cd_with_unit ct_with_unit : Value} {od_with_unit an_with_unit : Option Addr} {sl_with_unit : Array (Option Value)}
    (a_with_unit : PySem.W.nsIn K mainGlobals "with_unit" = some (some (.ref f_with_unit))) (l_with_unit : K.lookup f_with_unit = some ⟨oc_with_unit, od_with_unit, .func (PySem.W.fnOf "with_unit" "with_unit" (defArgs s_with_unit) (defBody s_with_unit) (defScope s_with_unit) .none kV_with_unit dc_with_unit pm_with_unit an_with_unit cd_with_unit ct_with_unit), sl_with_unit⟩) (c_with_unit : PySem.W.codeIn K cd_with_unit "with_unit" = true) (k_with_unit : PySem.W.keepIn K (.ref f_with_unit) = true)
    {f_alike_books : Addr} {oc_alike_books kV_alike_books dc_alike_books pm_alike_books cd_alike_books ct_alike_books : Value} {od_alike_books an_alike_books : Option Addr} {sl_alike_books : Array (Option Value)}
    (a_alike_books : PySem.W.nsIn K mainGlobals "alike_books" = some (some (.ref f_alike_books))) (l_alike_books : K.lookup f_alike_books = some ⟨oc_alike_books, od_alike_books, .func (PySem.W.fnOf "alike_books" "alike_books" (defArgs s_alike_books) (defBody s_alike_books) (defScope s_alike_books) .none kV_alike_books dc_alike_books pm_alike_books an_alike_books cd_alike_books ct_alike_books), sl_alike_books⟩) (c_alike_books : PySem.W.codeIn K cd_alike_books "alike_books" = true) (k_alike_books : PySem.W.keepIn K (.ref f_alike_books) = true)
    {f_without_right : Addr} {oc_without_right kV_without_right dc_without_right pm_without_right cd_without_right ct_without_right : Value} {od_without_right an_without_right : Option Addr} {sl_without_right : Array (Option Value)}
    (a_without_right : PySem.W.nsIn K mainGlobals "without_right" = some (some (.ref f_without_right))) (l_without_right : K.lookup f_without_right = some ⟨oc_without_right, od_without_right, .func (PySem.W.fnOf "without_right" "without_right" (defArgs s_without_right) (defBody s_without_right) (defScope s_without_right) .none kV_without_right dc_without_right pm_without_right an_without_right cd_without_right ct_without_right), sl_without_right⟩) (c_without_right : PySem.W.codeIn K cd_without_right "without_right" = true) (k_without_right : PySem.W.keepIn K (.ref f_without_right) = true)
    {f_lessened_right : Addr} {oc_lessened_right kV_lessened_right dc_lessened_right pm_lessened_right cd_lessened_right ct_lessened_right : Value} {od_lessened_right an_lessened_right : Option Addr} {sl_lessened_right : Array (Option Value)}
    (a_lessened_right : PySem.W.nsIn K mainGlobals "lessened_right" = some (some (.ref f_lessened_right))) (l_lessened_right : K.lookup f_lessened_right = some ⟨oc_lessened_right, od_lessened_right, .func (PySem.W.fnOf "lessened_right" "lessened_right" (defArgs s_lessened_right) (defBody s_lessened_right) (defScope s_lessened_right) .none kV_lessened_right dc_lessened_right pm_lessened_right an_lessened_right cd_lessened_right ct_lessened_right), sl_lessened_right⟩) (c_lessened_right : PySem.W.codeIn K cd_lessened_right "lessened_right" = true) (k_lessened_right : PySem.W.keepIn K (.ref f_lessened_right) = true)
    {f__law_parts : Addr} {oc__law_parts kV__law_parts dc__law_parts pm__law_parts cd__law_parts ct__law_parts : Value} {od__law_parts an__law_parts : Option Addr} {sl__law_parts : Array (Option Value)}
    (a__law_parts : PySem.W.nsIn K mainGlobals "_law_parts" = some (some (.ref f__law_parts))) (l__law_parts : K.lookup f__law_parts = some ⟨oc__law_parts, od__law_parts, .func (PySem.W.fnOf "_law_parts" "_law_parts" (defArgs s__law_parts) (defBody s__law_parts) (defScope s__law_parts) .none kV__law_parts dc__law_parts pm__law_parts an__law_parts cd__law_parts ct__law_parts), sl__law_parts⟩) (c__law_parts : PySem.W.codeIn K cd__law_parts "_law_parts" = true) (k__law_parts : PySem.W.keepIn K (.ref f__law_parts) = true)
    {f_form_book : Addr} {oc_form_book kV_form_book dc_form_book pm_form_book cd_form_book ct_form_book : Value} {od_form_book an_form_book : Option Addr} {sl_form_book : Array (Option Value)}
    (a_form_book : PySem.W.nsIn K mainGlobals "form_book" = some (some (.ref f_form_book))) (l_form_book : K.lookup f_form_book = some ⟨oc_form_book, od_form_book, .func (PySem.W.fnOf "form_book" "form_book" (defArgs s_form_book) (defBody s_form_book) (defScope s_form_book) .none kV_form_book dc_form_book pm_form_book an_form_book cd_form_book ct_form_book), sl_form_book⟩) (c_form_book : PySem.W.codeIn K cd_form_book "form_book" = true) (k_form_book : PySem.W.keepIn K (.ref f_form_book) = true)
    {f__law_is_book : Addr} {oc__law_is_book kV__law_is_book dc__law_is_book pm__law_is_book cd__law_is_book ct__law_is_book : Value} {od__law_is_book an__law_is_book : Option Addr} {sl__law_is_book : Array (Option Value)}
    (a__law_is_book : PySem.W.nsIn K mainGlobals "_law_is_book" = some (some (.ref f__law_is_book))) (l__law_is_book : K.lookup f__law_is_book = some ⟨oc__law_is_book, od__law_is_book, .func (PySem.W.fnOf "_law_is_book" "_law_is_book" (defArgs s__law_is_book) (defBody s__law_is_book) (defScope s__law_is_book) .none kV__law_is_book dc__law_is_book pm__law_is_book an__law_is_book cd__law_is_book ct__law_is_book), sl__law_is_book⟩) (c__law_is_book : PySem.W.codeIn K cd__law_is_book "_law_is_book" = true) (k__law_is_book : PySem.W.keepIn K (.ref f__law_is_book) = true)
    {f_both_books : Addr} {oc_both_books kV_both_books dc_both_books pm_both_books cd_both_books ct_both_books : Value} {od_both_books an_both_books : Option Addr} {sl_both_books : Array (Option Value)}
    (a_both_books : PySem.W.nsIn K mainGlobals "both_books" = some (some (.ref f_both_books))) (l_both_books : K.lookup f_both_books = some ⟨oc_both_books, od_both_books, .func (PySem.W.fnOf "both_books" "both_books" (defArgs s_both_books) (defBody s_both_books) (defScope s_both_books) .none kV_both_books dc_both_books pm_both_books an_both_books cd_both_books ct_both_books), sl_both_books⟩) (c_both_books : PySem.W.codeIn K cd_both_books "both_books" = true) (k_both_books : PySem.W.keepIn K (.ref f_both_books) = true)
    {f__law_added : Addr} {oc__law_added kV__law_added dc__law_added pm__law_added cd__law_added ct__law_added : Value} {od__law_added an__law_added : Option Addr} {sl__law_added : Array (Option Value)}
    (a__law_added : PySem.W.nsIn K mainGlobals "_law_added" = some (some (.ref f__law_added))) (l__law_added : K.lookup f__law_added = some ⟨oc__law_added, od__law_added, .func (PySem.W.fnOf "_law_added" "_law_added" (defArgs s__law_added) (defBody s__law_added) (defScope s__law_added) .none kV__law_added dc__law_added pm__law_added an__law_added cd__law_added ct__law_added), sl__law_added⟩) (c__law_added : PySem.W.codeIn K cd__law_added "_law_added" = true) (k__law_added : PySem.W.keepIn K (.ref f__law_added) = true)
    {f_law : Addr} {oc_law kV_law dc_law pm_law cd_law ct_law : Value} {od_law an_law : Option Addr} {sl_law : Array (Option Value)}
    (a_law : PySem.W.nsIn K mainGlobals "law" = some (some (.ref f_law))) (l_law : K.lookup f_law = some ⟨oc_law, od_law, .func (PySem.W.fnOf "law" "law" (defArgs s_law) (defBody s_law) (defScope s_law) .none kV_law dc_law pm_law an_law cd_law ct_law), sl_law⟩) (c_law : PySem.W.codeIn K cd_law "law" = true) (k_law : PySem.W.keepIn K (.ref f_law) = true)
    (z_int : PySem.W.nsIn K mainGlobals "int" = some none)
    (z_abs : PySem.W.nsIn K mainGlobals "abs" = some none)
    (z_len : PySem.W.nsIn K mainGlobals "len" = some none)
    (z_range : PySem.W.nsIn K mainGlobals "range" = some none)
    (z_str : PySem.W.nsIn K mainGlobals "str" = some none)
    (z_sorted : PySem.W.nsIn K mainGlobals "sorted" = some none)
    (z_tuple : PySem.W.nsIn K mainGlobals "tuple" = some none)
    (z_max : PySem.W.nsIn K mainGlobals "max" = some none)
    (z_isinstance : PySem.W.nsIn K mainGlobals "isinstance" = some none)
    (z_bool : PySem.W.nsIn K mainGlobals "bool" = some none)
    (z_enumerate : PySem.W.nsIn K mainGlobals "enumerate" = some none)
    (z_min : PySem.W.nsIn K mainGlobals "min" = some none)
    (z_gcd : PySem.W.nsIn K mainGlobals "gcd" = some (some (.builtin "math.gcd")))
    (z_list : PySem.W.nsIn K mainGlobals "list" = some none)
    (z_zip : PySem.W.nsIn K mainGlobals "zip" = some none)
    (z_lcm : PySem.W.nsIn K mainGlobals "lcm" = some (some (.builtin "math.lcm")))
    : ∃ fd : FuncData, (∀ (s : Shared) (v : Value), BindsTo s fd ⟨[v], []⟩ [("script", v)]) ∧ ∀ base : Heap, K.In base → base.Ns mainGlobals mg → FnOk l.prog w K mg base CX0 5 fa fd ["script"] (spD K F_law) := by
  have e := hfa.symm.trans (PySem.W.mg_of X G a_law)
  cases e
  have T : Tx mg := ⟨PySem.W.mg_none_of X G z_int, PySem.W.mg_none_of X G z_abs, PySem.W.mg_none_of X G z_len, PySem.W.mg_none_of X G z_range, PySem.W.mg_none_of X G z_str, PySem.W.mg_none_of X G z_sorted, PySem.W.mg_none_of X G z_tuple, PySem.W.mg_none_of X G z_max, PySem.W.mg_none_of X G z_isinstance, PySem.W.mg_none_of X G z_bool, PySem.W.mg_none_of X G z_enumerate, PySem.W.mg_none_of X G z_min, PySem.W.mg_of X G z_gcd, PySem.W.mg_none_of X G z_list, PySem.W.mg_none_of X G z_zip, PySem.W.mg_of X G z_lcm⟩
  have F__law_cast := fun_mk (st := s__law_cast) l__law_cast c__law_cast k__law_cast
  have b__law_cast := F__law_cast.binds (ps := ["script"]) fun _ _ _ _ _ _ us hl => match us, hl with | [_], _ => rfl
  have F__law_mould := fun_mk (st := s__law_mould) l__law_mould c__law_mould k__law_mould
  have b__law_mould := F__law_mould.binds (ps := ["cast", "many"]) fun _ _ _ _ _ _ us hl => match us, hl with | [_, _], _ => rfl
  have F__law_of := fun_mk (st := s__law_of) l__law_of c__law_of k__law_of
  have b__law_of := F__law_of.binds (ps := ["cast", "rows"]) fun _ _ _ _ _ _ us hl => match us, hl with | [_, _], _ => rfl
  have F__law_places := fun_mk (st := s__law_places) l__law_places c__law_places k__law_places
  have b__law_places := F__law_places.binds (ps := ["cast", "many"]) fun _ _ _ _ _ _ us hl => match us, hl with | [_, _], _ => rfl
  have F__law_book := fun_mk (st := s__law_book) l__law_book c__law_book k__law_book
  have b__law_book := F__law_book.binds (ps := ["cast", "places", "most"]) fun _ _ _ _ _ _ us hl => match us, hl with | [_, _, _], _ => rfl
  have F__law_divisor := fun_mk (st := s__law_divisor) l__law_divisor c__law_divisor k__law_divisor
  have b__law_divisor := F__law_divisor.binds (ps := ["one", "two"]) fun _ _ _ _ _ _ us hl => match us, hl with | [_, _], _ => rfl
  have F__law_form := fun_mk (st := s__law_form) l__law_form c__law_form k__law_form
  have b__law_form := F__law_form.binds (ps := ["sums"]) fun _ _ _ _ _ _ us hl => match us, hl with | [_], _ => rfl
  have F__law_sums := fun_mk (st := s__law_sums) l__law_sums c__law_sums k__law_sums
  have b__law_sums := F__law_sums.binds (ps := ["places", "book"]) fun _ _ _ _ _ _ us hl => match us, hl with | [_, _], _ => rfl
  have F__law_same := fun_mk (st := s__law_same) l__law_same c__law_same k__law_same
  have b__law_same := F__law_same.binds (ps := ["told", "due"]) fun _ _ _ _ _ _ us hl => match us, hl with | [_, _], _ => rfl
  have F_doubled_nets := fun_mk (st := s_doubled_nets) l_doubled_nets c_doubled_nets k_doubled_nets
  have b_doubled_nets := F_doubled_nets.binds (ps := ["places", "book"]) fun _ _ _ _ _ _ us hl => match us, hl with | [_, _], _ => rfl
  have F_doubled_ties := fun_mk (st := s_doubled_ties) l_doubled_ties c_doubled_ties k_doubled_ties
  have b_doubled_ties := F_doubled_ties.binds (ps := ["places", "book"]) fun _ _ _ _ _ _ us hl => match us, hl with | [_, _], _ => rfl
  have F_form_of := fun_mk (st := s_form_of) l_form_of c_form_of k_form_of
  have b_form_of := F_form_of.binds (ps := ["places", "book"]) fun _ _ _ _ _ _ us hl => match us, hl with | [_, _], _ => rfl
  have F__law_turned := fun_mk (st := s__law_turned) l__law_turned c__law_turned k__law_turned
  have b__law_turned := F__law_turned.binds (ps := ["book"]) fun _ _ _ _ _ _ us hl => match us, hl with | [_], _ => rfl
  have F_multiplied_rights := fun_mk (st := s_multiplied_rights) l_multiplied_rights c_multiplied_rights k_multiplied_rights
  have b_multiplied_rights := F_multiplied_rights.binds (ps := ["rights", "times"]) fun _ _ _ _ _ _ us hl => match us, hl with | [_, _], _ => rfl
  have F_with_unit := fun_mk (st := s_with_unit) l_with_unit c_with_unit k_with_unit
  have b_with_unit := F_with_unit.binds (ps := ["book", "times"]) fun _ _ _ _ _ _ us hl => match us, hl with | [_, _], _ => rfl
  have F_alike_books := fun_mk (st := s_alike_books) l_alike_books c_alike_books k_alike_books
  have b_alike_books := F_alike_books.binds (ps := ["places", "one", "other"]) fun _ _ _ _ _ _ us hl => match us, hl with | [_, _, _], _ => rfl
  have F_without_right := fun_mk (st := s_without_right) l_without_right c_without_right k_without_right
  have b_without_right := F_without_right.binds (ps := ["book", "number"]) fun _ _ _ _ _ _ us hl => match us, hl with | [_, _], _ => rfl
  have F_lessened_right := fun_mk (st := s_lessened_right) l_lessened_right c_lessened_right k_lessened_right
  have b_lessened_right := F_lessened_right.binds (ps := ["book", "number", "amount"]) fun _ _ _ _ _ _ us hl => match us, hl with | [_, _, _], _ => rfl
  have F__law_parts := fun_mk (st := s__law_parts) l__law_parts c__law_parts k__law_parts
  have b__law_parts := F__law_parts.binds (ps := ["cast", "places", "book", "form"]) fun _ _ _ _ _ _ us hl => match us, hl with | [_, _, _, _], _ => rfl
  have F_form_book := fun_mk (st := s_form_book) l_form_book c_form_book k_form_book
  have b_form_book := F_form_book.binds (ps := ["places", "holder", "form"]) fun _ _ _ _ _ _ us hl => match us, hl with | [_, _, _], _ => rfl
  have F__law_is_book := fun_mk (st := s__law_is_book) l__law_is_book c__law_is_book k__law_is_book
  have b__law_is_book := F__law_is_book.binds (ps := ["places", "told", "holder", "form"]) fun _ _ _ _ _ _ us hl => match us, hl with | [_, _, _, _], _ => rfl
  have F_both_books := fun_mk (st := s_both_books) l_both_books c_both_books k_both_books
  have b_both_books := F_both_books.binds (ps := ["one", "other"]) fun _ _ _ _ _ _ us hl => match us, hl with | [_, _], _ => rfl
  have F__law_added := fun_mk (st := s__law_added) l__law_added c__law_added k__law_added
  have b__law_added := F__law_added.binds (ps := ["one", "two"]) fun _ _ _ _ _ _ us hl => match us, hl with | [_, _], _ => rfl
  have F_law := fun_mk (st := s_law) l_law c_law k_law
  refine ⟨PySem.W.fnOf "law" "law" (defArgs s_law) (defBody s_law) (defScope s_law) .none kV_law dc_law pm_law an_law cd_law ct_law, fun s v => .of_eq rfl, fun base _ _ => ?_⟩
  have G__law_cast : Fn l.prog w K mg base 1 "_law_cast" K85.F__law_cast := Fn.of (ok__law_cast (P := l.prog) (w := w) (base := base) F__law_cast T ) (PySem.W.mg_of X G a__law_cast) k__law_cast b__law_cast
  have G__law_mould : Fn l.prog w K mg base 1 "_law_mould" K85.F__law_mould := Fn.of (ok__law_mould (P := l.prog) (w := w) (base := base) F__law_mould T ) (PySem.W.mg_of X G a__law_mould) k__law_mould b__law_mould
  have G__law_of : Fn l.prog w K mg base 2 "_law_of" K85.F__law_of := Fn.of (ok__law_of (P := l.prog) (w := w) (base := base) F__law_of T G__law_mould) (PySem.W.mg_of X G a__law_of) k__law_of b__law_of
  have G__law_places : Fn l.prog w K mg base 3 "_law_places" K85.F__law_places := Fn.of (ok__law_places (P := l.prog) (w := w) (base := base) F__law_places T G__law_mould G__law_of) (PySem.W.mg_of X G a__law_places) k__law_places b__law_places
  have G__law_book : Fn l.prog w K mg base 3 "_law_book" K85.F__law_book := Fn.of (ok__law_book (P := l.prog) (w := w) (base := base) F__law_book T G__law_of G__law_mould) (PySem.W.mg_of X G a__law_book) k__law_book b__law_book
  have G__law_divisor : Fn l.prog w K mg base 1 "_law_divisor" K85.F__law_divisor := Fn.of (ok__law_divisor (P := l.prog) (w := w) (base := base) F__law_divisor T ) (PySem.W.mg_of X G a__law_divisor) k__law_divisor b__law_divisor
  have G__law_form : Fn l.prog w K mg base 2 "_law_form" K85.F__law_form := Fn.of (ok__law_form (P := l.prog) (w := w) (base := base) F__law_form T G__law_divisor) (PySem.W.mg_of X G a__law_form) k__law_form b__law_form
  have G__law_sums : Fn l.prog w K mg base 1 "_law_sums" K85.F__law_sums := Fn.of (ok__law_sums (P := l.prog) (w := w) (base := base) F__law_sums T ) (PySem.W.mg_of X G a__law_sums) k__law_sums b__law_sums
  have G__law_same : Fn l.prog w K mg base 1 "_law_same" K85.F__law_same := Fn.of (ok__law_same (P := l.prog) (w := w) (base := base) F__law_same T ) (PySem.W.mg_of X G a__law_same) k__law_same b__law_same
  have G_doubled_nets : Fn l.prog w K mg base 1 "doubled_nets" K85.F_doubled_nets := Fn.of (ok_doubled_nets (P := l.prog) (w := w) (base := base) F_doubled_nets T ) (PySem.W.mg_of X G a_doubled_nets) k_doubled_nets b_doubled_nets
  have G_doubled_ties : Fn l.prog w K mg base 1 "doubled_ties" K85.F_doubled_ties := Fn.of (ok_doubled_ties (P := l.prog) (w := w) (base := base) F_doubled_ties T ) (PySem.W.mg_of X G a_doubled_ties) k_doubled_ties b_doubled_ties
  have G_form_of : Fn l.prog w K mg base 2 "form_of" K85.F_form_of := Fn.of (ok_form_of (P := l.prog) (w := w) (base := base) F_form_of T G_doubled_nets G_doubled_ties) (PySem.W.mg_of X G a_form_of) k_form_of b_form_of
  have G__law_turned : Fn l.prog w K mg base 1 "_law_turned" K85.F__law_turned := Fn.of (ok__law_turned (P := l.prog) (w := w) (base := base) F__law_turned T ) (PySem.W.mg_of X G a__law_turned) k__law_turned b__law_turned
  have G_multiplied_rights : Fn l.prog w K mg base 1 "multiplied_rights" K85.F_multiplied_rights := Fn.of (ok_multiplied_rights (P := l.prog) (w := w) (base := base) F_multiplied_rights T ) (PySem.W.mg_of X G a_multiplied_rights) k_multiplied_rights b_multiplied_rights
  have G_with_unit : Fn l.prog w K mg base 2 "with_unit" K85.F_with_unit := Fn.of (ok_with_unit (P := l.prog) (w := w) (base := base) F_with_unit T G_multiplied_rights) (PySem.W.mg_of X G a_with_unit) k_with_unit b_with_unit
  have G_alike_books : Fn l.prog w K mg base 3 "alike_books" K85.F_alike_books := Fn.of (ok_alike_books (P := l.prog) (w := w) (base := base) F_alike_books T G_form_of) (PySem.W.mg_of X G a_alike_books) k_alike_books b_alike_books
  have G_without_right : Fn l.prog w K mg base 1 "without_right" K85.F_without_right := Fn.of (ok_without_right (P := l.prog) (w := w) (base := base) F_without_right T ) (PySem.W.mg_of X G a_without_right) k_without_right b_without_right
  have G_lessened_right : Fn l.prog w K mg base 2 "lessened_right" K85.F_lessened_right := Fn.of (ok_lessened_right (P := l.prog) (w := w) (base := base) F_lessened_right T G_without_right) (PySem.W.mg_of X G a_lessened_right) k_lessened_right b_lessened_right
  have G__law_parts : Fn l.prog w K mg base 4 "_law_parts" K85.F__law_parts := Fn.of (ok__law_parts (P := l.prog) (w := w) (base := base) F__law_parts T G__law_same G_form_of G__law_turned G_with_unit G__law_of G_alike_books G__law_form G__law_sums G__law_mould G_lessened_right G_without_right) (PySem.W.mg_of X G a__law_parts) k__law_parts b__law_parts
  have G_form_book : Fn l.prog w K mg base 1 "form_book" K85.F_form_book := Fn.of (ok_form_book (P := l.prog) (w := w) (base := base) F_form_book T ) (PySem.W.mg_of X G a_form_book) k_form_book b_form_book
  have G__law_is_book : Fn l.prog w K mg base 3 "_law_is_book" K85.F__law_is_book := Fn.of (ok__law_is_book (P := l.prog) (w := w) (base := base) F__law_is_book T G__law_form G__law_sums) (PySem.W.mg_of X G a__law_is_book) k__law_is_book b__law_is_book
  have G_both_books : Fn l.prog w K mg base 2 "both_books" K85.F_both_books := Fn.of (ok_both_books (P := l.prog) (w := w) (base := base) F_both_books T G_multiplied_rights) (PySem.W.mg_of X G a_both_books) k_both_books b_both_books
  have G__law_added : Fn l.prog w K mg base 3 "_law_added" K85.F__law_added := Fn.of (ok__law_added (P := l.prog) (w := w) (base := base) F__law_added T G__law_form) (PySem.W.mg_of X G a__law_added) k__law_added b__law_added
  exact ok_law (P := l.prog) (w := w) (base := base) F_law T G__law_cast G__law_mould G__law_places G__law_book G__law_form G__law_sums G__law_same G_form_of G__law_parts G_form_book G__law_is_book G_both_books G__law_added G_alike_books G__law_of
theorem walk {l : PySem.W.OpenLaw} {q : Program} {loose : List Str} {XP : (Str → Option Value) → Heap → Prop} {YP : World → Heap → Prop} {d : DefRec} {K : Params → PySem.W.Frag} (hn : l.most = some 63) (hdf : d.params.defaults = []) (hY : ∀ (w : World) (h : Heap), YP w h → (K w.params).In h)
    (hF : ∀ (w : World) (mg : Str → Option Value) (fa : Addr) (h : Heap), (K w.params).In h → h.Ns mainGlobals mg → mg d.name = some (.ref fa) →
      ∃ fd : FuncData, (∀ (s : Shared) (u : Value), BindsTo s fd ⟨[u], []⟩ [("script", u)]) ∧ ∀ base : Heap, (K w.params).In base → base.Ns mainGlobals mg → FnOk l.prog w (K w.params) mg base CX0 5 fa fd ["script"] (spD (K w.params) F_law))
    (law : ∀ ns : List Int, ns.length ≤ 63 → ∃ S', F_law [.rov (ns.map D.int)] [] = some (.bl true, S')) : PySem.W.WalkO q loose XP YP l.row.toRowW d [] (fun f vs => PySem.call f vs) :=
  walk_d F_law hn (by decide) hdf ⟨rfl, by decide, by decide⟩ hY hF law
end K85

open PySem PySem.W PyProof.Rows
set_option maxRecDepth 100000 in
set_option maxHeartbeats 0 in
theorem PySem.Challenge.cw_paidwhatever_k85_whole_forms_added_holds : PySem.Challenge.rw_paidwhatever_k85_whole_forms_added.Holds := by
  w_on; o_law; k_head; (case hw => w_witness2)
  k_fill
  refine K85.walk (l := PySem.Challenge.rw_paidwhatever_k85_whole_forms_added) rfl rfl (fun w h Y => PySem.W.kIn_of Y) ?F K85.law_holds
  case F =>
    intro w mg fa h KX G hmg
    refine' K85.all_mk KX G hmg ?a__law_cast ?l__law_cast ?c__law_cast ?k__law_cast ?a__law_mould ?l__law_mould ?c__law_mould ?k__law_mould ?a__law_of ?l__law_of ?c__law_of ?k__law_of ?a__law_places ?l__law_places ?c__law_places ?k__law_places ?a__law_book ?l__law_book ?c__law_book ?k__law_book ?a__law_divisor ?l__law_divisor ?c__law_divisor ?k__law_divisor ?a__law_form ?l__law_form ?c__law_form ?k__law_form ?a__law_sums ?l__law_sums ?c__law_sums ?k__law_sums ?a__law_same ?l__law_same ?c__law_same ?k__law_same ?a_doubled_nets ?l_doubled_nets ?c_doubled_nets ?k_doubled_nets ?a_doubled_ties ?l_doubled_ties ?c_doubled_ties ?k_doubled_ties ?a_form_of ?l_form_of ?c_form_of ?k_form_of ?a__law_turned ?l__law_turned ?c__law_turned ?k__law_turned ?a_multiplied_rights ?l_multiplied_rights ?c_multiplied_rights ?k_multiplied_rights ?a_with_unit ?l_with_unit ?c_with_unit ?k_with_unit ?a_alike_books ?l_alike_books ?c_alike_books ?k_alike_books ?a_without_right ?l_without_right ?c_without_right ?k_without_right ?a_lessened_right ?l_lessened_right ?c_lessened_right ?k_lessened_right ?a__law_parts ?l__law_parts ?c__law_parts ?k__law_parts ?a_form_book ?l_form_book ?c_form_book ?k_form_book ?a__law_is_book ?l__law_is_book ?c__law_is_book ?k__law_is_book ?a_both_books ?l_both_books ?c_both_books ?k_both_books ?a__law_added ?l__law_added ?c__law_added ?k__law_added ?a_law ?l_law ?c_law ?k_law ?z_int ?z_abs ?z_len ?z_range ?z_str ?z_sorted ?z_tuple ?z_max ?z_isinstance ?z_bool ?z_enumerate ?z_min ?z_gcd ?z_list ?z_zip ?z_lcm
    (case a__law_cast => k_is)
    (case l__law_cast => k_is)
    (case c__law_cast => k_is)
    (case k__law_cast => k_is)
    (case a__law_mould => k_is)
    (case l__law_mould => k_is)
    (case c__law_mould => k_is)
    (case k__law_mould => k_is)
    (case a__law_of => k_is)
    (case l__law_of => k_is)
    (case c__law_of => k_is)
    (case k__law_of => k_is)
    (case a__law_places => k_is)
    (case l__law_places => k_is)
    (case c__law_places => k_is)
    (case k__law_places => k_is)
    (case a__law_book => k_is)
    (case l__law_book => k_is)
    (case c__law_book => k_is)
    (case k__law_book => k_is)
    (case a__law_divisor => k_is)
    (case l__law_divisor => k_is)
    (case c__law_divisor => k_is)
    (case k__law_divisor => k_is)
    (case a__law_form => k_is)
    (case l__law_form => k_is)
    (case c__law_form => k_is)
    (case k__law_form => k_is)
    (case a__law_sums => k_is)
    (case l__law_sums => k_is)
    (case c__law_sums => k_is)
    (case k__law_sums => k_is)
    (case a__law_same => k_is)
    (case l__law_same => k_is)
    (case c__law_same => k_is)
    (case k__law_same => k_is)
    (case a_doubled_nets => k_is)
    (case l_doubled_nets => k_is)
    (case c_doubled_nets => k_is)
    (case k_doubled_nets => k_is)
    (case a_doubled_ties => k_is)
    (case l_doubled_ties => k_is)
    (case c_doubled_ties => k_is)
    (case k_doubled_ties => k_is)
    (case a_form_of => k_is)
    (case l_form_of => k_is)
    (case c_form_of => k_is)
    (case k_form_of => k_is)
    (case a__law_turned => k_is)
    (case l__law_turned => k_is)
    (case c__law_turned => k_is)
    (case k__law_turned => k_is)
    (case a_multiplied_rights => k_is)
    (case l_multiplied_rights => k_is)
    (case c_multiplied_rights => k_is)
    (case k_multiplied_rights => k_is)
    (case a_with_unit => k_is)
    (case l_with_unit => k_is)
    (case c_with_unit => k_is)
    (case k_with_unit => k_is)
    (case a_alike_books => k_is)
    (case l_alike_books => k_is)
    (case c_alike_books => k_is)
    (case k_alike_books => k_is)
    (case a_without_right => k_is)
    (case l_without_right => k_is)
    (case c_without_right => k_is)
    (case k_without_right => k_is)
    (case a_lessened_right => k_is)
    (case l_lessened_right => k_is)
    (case c_lessened_right => k_is)
    (case k_lessened_right => k_is)
    (case a__law_parts => k_is)
    (case l__law_parts => k_is)
    (case c__law_parts => k_is)
    (case k__law_parts => k_is)
    (case a_form_book => k_is)
    (case l_form_book => k_is)
    (case c_form_book => k_is)
    (case k_form_book => k_is)
    (case a__law_is_book => k_is)
    (case l__law_is_book => k_is)
    (case c__law_is_book => k_is)
    (case k__law_is_book => k_is)
    (case a_both_books => k_is)
    (case l_both_books => k_is)
    (case c_both_books => k_is)
    (case k_both_books => k_is)
    (case a__law_added => k_is)
    (case l__law_added => k_is)
    (case c__law_added => k_is)
    (case k__law_added => k_is)
    (case a_law => k_is)
    (case l_law => k_is)
    (case c_law => k_is)
    (case k_law => k_is)
    (case z_int => k_is)
    (case z_abs => k_is)
    (case z_len => k_is)
    (case z_range => k_is)
    (case z_str => k_is)
    (case z_sorted => k_is)
    (case z_tuple => k_is)
    (case z_max => k_is)
    (case z_isinstance => k_is)
    (case z_bool => k_is)
    (case z_enumerate => k_is)
    (case z_min => k_is)
    (case z_gcd => k_is)
    (case z_list => k_is)
    (case z_zip => k_is)
    (case z_lcm => k_is)
