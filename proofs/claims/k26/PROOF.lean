import PyProof.Rows.All
import Wide.All
import OpenK.AllK
import Wide.FinOn
import HandS.ForMost
import HandS.Wide
import HandS.Deep
import HandS.Style
import HandS.More
import PyProof.Rows.RuleB_pow
import HandS.Flow
import HandS.Ends
import HandS.RaiseMore
import HandS.Flt
import HandS.WideBits
import HandS.Words
import PyProof.Lay0
import PyProof.P3Eq
import PySem.Challenge.RW_owedafresh_k26_fewest_payments
set_option Elab.async false
set_option linter.all false
set_option maxRecDepth 100000
set_option maxHeartbeats 8000000
/-! Data, owned trees, what stands for them in the heap. -/
namespace Z
open PySem L2

/-- data that is never changed again -/
inductive D where
  | non | bl (b : Bool) | int (i : Int) | str (x : Str)
  | tup (xs : List D) | lst (xs : List D)
  | scr (ns : List Int)
  | ins (c : Nat) (ns : List Str) (xs : List D)
  | dK (ks : List Key) (xs : List D)
  | dT (ks : List (List Key)) (xs : List D)
  | er (c : Nat) (x : D)

/-- what one holds alone and may change -/
inductive T where
  | d (x : D)
  | l (xs : List D)
  | n (ts : List T)
  | o (c : Nat) (ns : List Str) (ts : List T)
  | q (ks : List Key) (xs : List D)
  | qt (ks : List (List Key)) (xs : List D)

mutual
def T.erase : T → D
  | .d x => x
  | .l xs => .lst xs
  | .n ts => .lst (T.erases ts)
  | .o c ns ts => .ins c ns (T.erases ts)
  | .q ks xs => .dK ks xs
  | .qt ks xs => .dT ks xs
def T.erases : List T → List D
  | [] => []
  | t :: ts => t.erase :: T.erases ts
end

/-- where the classes stand; the written part -/
structure CT where
  adr : Nat → Addr
  K : PySem.W.Frag
abbrev St := L2.St

section
variable (C : CT) (F : Hp)
mutual
def RepD : D → V → Prop
  | .non, v => v = .non
  | .bl b, v => v = .bl b
  | .int i, v => v = .int i
  | .str x, v => v = .str x
  | .tup xs, v => ∃ a vs, v = .ref a ∧ F a = some (.tup vs) ∧ RepDs xs vs
  | .lst xs, v => ∃ a vs, v = .ref a ∧ F a = some (.lst vs) ∧ RepDs xs vs
  | .scr ns, v => ∃ a, v = .ref a ∧ SqL C.K F a (ns.map .int)
  | .ins c ns xs, v => ∃ a dx fs, v = .ref a ∧ F a = some (.ins (C.adr c) dx fs) ∧ F dx = some (.own a) ∧ fs.map (·.1) = ns ∧ RepDs xs (fs.map (·.2))
  | .dK ks xs, v => ∃ a kvs, v = .ref a ∧ F a = some (.dK kvs) ∧ kvs.map (·.1) = ks ∧ RepDs xs (kvs.map (·.2))
  | .dT ks xs, v => ∃ a kvs, v = .ref a ∧ F a = some (.dT kvs) ∧ kvs.map (·.1) = ks ∧ RepDs xs (kvs.map (·.2))
  | .er _ _, _ => False
def RepDs : List D → List V → Prop
  | [], vs => vs = []
  | x :: xs, vs => ∃ v r, vs = v :: r ∧ RepD x v ∧ RepDs xs r
end
variable (H : Hp)
mutual
def RepT : T → V → List Addr → Prop
  | .d x, v, fp => fp = [] ∧ RepD C F x v
  | .l xs, v, fp => ∃ a vs, v = .ref a ∧ fp = [a] ∧ F a = none ∧ H a = some (.lst vs) ∧ RepDs C F xs vs
  | .n ts, v, fp => ∃ a vs f, v = .ref a ∧ fp = a :: f ∧ F a = none ∧ H a = some (.lst vs) ∧ RepTs ts vs f
  | .o c ns ts, v, fp => ∃ a dx fs f, v = .ref a ∧ fp = a :: dx :: f ∧ F a = none ∧ F dx = none ∧ H a = some (.ins (C.adr c) dx fs) ∧ H dx = some (.own a) ∧ fs.map (·.1) = ns ∧ RepTs ts (fs.map (·.2)) f
  | .q ks xs, v, fp => ∃ a kvs, v = .ref a ∧ fp = [a] ∧ F a = none ∧ H a = some (.dK kvs) ∧ kvs.map (·.1) = ks ∧ RepDs C F xs (kvs.map (·.2))
  | .qt ks xs, v, fp => ∃ a kvs, v = .ref a ∧ fp = [a] ∧ F a = none ∧ H a = some (.dT kvs) ∧ kvs.map (·.1) = ks ∧ RepDs C F xs (kvs.map (·.2))
def RepTs : List T → List V → List Addr → Prop
  | [], vs, fp => vs = [] ∧ fp = []
  | t :: ts, vs, fp => ∃ v r f1 f2, vs = v :: r ∧ fp = f1 ++ f2 ∧ RepT t v f1 ∧ RepTs ts r f2
end
end

section
variable {C : CT} {F F' H H' : Hp}
theorem Rd.mono {a : Addr} {u : HO} (s : Same F F') (h : Rd F a u) : Rd F' a u := by
  rcases h with h | ⟨o, h⟩
  · exact .inl (s _ _ h)
  · exact .inr ⟨o, s _ _ h⟩
mutual
theorem RepD.mono (s : Same F F') : ∀ {x : D} {v : V}, RepD C F x v → RepD C F' x v
  | .non, _, h => h
  | .bl _, _, h => h
  | .int _, _, h => h
  | .str _, _, h => h
  | .tup xs, _, h => by
    simp only [RepD] at h ⊢
    obtain ⟨a, vs, e, h1, h2⟩ := h
    exact ⟨a, vs, e, s _ _ h1, RepDs.mono s h2⟩
  | .lst xs, _, h => by
    simp only [RepD] at h ⊢
    obtain ⟨a, vs, e, h1, h2⟩ := h
    exact ⟨a, vs, e, s _ _ h1, RepDs.mono s h2⟩
  | .scr ns, _, h => by
    simp only [RepD] at h ⊢
    obtain ⟨a, e, h1⟩ := h
    exact ⟨a, e, s.seq h1⟩
  | .ins c ns xs, _, h => by
    simp only [RepD] at h ⊢
    obtain ⟨a, dx, fs, e, h1, h2, h3, h4⟩ := h
    exact ⟨a, dx, fs, e, s _ _ h1, s _ _ h2, h3, RepDs.mono s h4⟩
  | .dK ks xs, _, h => by
    simp only [RepD] at h ⊢
    obtain ⟨a, kvs, e, h1, h2, h3⟩ := h
    exact ⟨a, kvs, e, s _ _ h1, h2, RepDs.mono s h3⟩
  | .dT ks xs, _, h => by
    simp only [RepD] at h ⊢
    obtain ⟨a, kvs, e, h1, h2, h3⟩ := h
    exact ⟨a, kvs, e, s _ _ h1, h2, RepDs.mono s h3⟩
  | .er _ _, _, h => h
theorem RepDs.mono (s : Same F F') : ∀ {xs : List D} {vs : List V}, RepDs C F xs vs → RepDs C F' xs vs
  | [], _, h => h
  | x :: xs, _, h => by
    simp only [RepDs] at h ⊢
    obtain ⟨v, r, e, h1, h2⟩ := h
    exact ⟨v, r, e, RepD.mono s h1, RepDs.mono s h2⟩
end
mutual
theorem RepT.mono (s : Same F F') : ∀ {t : T} {v : V} {fp : List Addr}, (∀ a ∈ fp, F' a = none ∧ H' a = H a) → RepT C F H t v fp → RepT C F' H' t v fp
  | .d x, _, fp, k, h => by
    simp only [RepT] at h ⊢
    exact ⟨h.1, h.2.mono s⟩
  | .l xs, _, fp, k, h => by
    simp only [RepT] at h ⊢
    obtain ⟨a, vs, e, rfl, h1, h2, h3⟩ := h
    have k0 := k a (by simp)
    exact ⟨a, vs, e, rfl, k0.1, k0.2.trans h2, h3.mono s⟩
  | .n ts, _, fp, k, h => by
    simp only [RepT] at h ⊢
    obtain ⟨a, vs, f, e, rfl, h1, h2, h3⟩ := h
    have k0 := k a (by simp)
    exact ⟨a, vs, f, e, rfl, k0.1, k0.2.trans h2, RepTs.mono s (fun b hb => k b (by simp [hb])) h3⟩
  | .o c ns ts, _, fp, k, h => by
    simp only [RepT] at h ⊢
    obtain ⟨a, dx, fs, f, e, rfl, h1, h2, h3, h4, h5, h6⟩ := h
    have k0 := k a (by simp)
    have k1 := k dx (by simp)
    exact ⟨a, dx, fs, f, e, rfl, k0.1, k1.1, k0.2.trans h3, k1.2.trans h4, h5, RepTs.mono s (fun b hb => k b (by simp [hb])) h6⟩
  | .q ks xs, _, fp, k, h => by
    simp only [RepT] at h ⊢
    obtain ⟨a, vs, e, rfl, h1, h2, h3, h4⟩ := h
    have k0 := k a (by simp)
    exact ⟨a, vs, e, rfl, k0.1, k0.2.trans h2, h3, h4.mono s⟩
  | .qt ks xs, _, fp, k, h => by
    simp only [RepT] at h ⊢
    obtain ⟨a, vs, e, rfl, h1, h2, h3, h4⟩ := h
    have k0 := k a (by simp)
    exact ⟨a, vs, e, rfl, k0.1, k0.2.trans h2, h3, h4.mono s⟩
theorem RepTs.mono (s : Same F F') : ∀ {ts : List T} {vs : List V} {fp : List Addr}, (∀ a ∈ fp, F' a = none ∧ H' a = H a) → RepTs C F H ts vs fp → RepTs C F' H' ts vs fp
  | [], _, _, _, h => by
    simp only [RepTs] at h ⊢
    exact h
  | t :: ts, _, _, k, h => by
    simp only [RepTs] at h ⊢
    obtain ⟨v, r, f1, f2, e, rfl, h1, h2⟩ := h
    exact ⟨v, r, f1, f2, e, rfl, RepT.mono s (fun b hb => k b (by simp [hb])) h1, RepTs.mono s (fun b hb => k b (by simp [hb])) h2⟩
end
mutual
theorem RepT.live : ∀ {t : T} {v : V} {fp : List Addr}, RepT C F H t v fp → ∀ a ∈ fp, F a = none ∧ H a ≠ none
  | .d x, _, fp, h, a, ha => by
    simp only [RepT] at h
    rw [h.1] at ha; simp at ha
  | .l xs, _, fp, h, a, ha => by
    simp only [RepT] at h
    obtain ⟨b, vs, e, rfl, h1, h2, h3⟩ := h
    have : a = b := by simpa using ha
    subst this
    exact ⟨h1, by simp [h2]⟩
  | .n ts, _, fp, h, a, ha => by
    simp only [RepT] at h
    obtain ⟨b, vs, f, e, rfl, h1, h2, h3⟩ := h
    rcases List.mem_cons.mp ha with rfl | ha
    · exact ⟨h1, by simp [h2]⟩
    · exact RepTs.live h3 a ha
  | .o c ns ts, _, fp, h, a, ha => by
    simp only [RepT] at h
    obtain ⟨b, dx, fs, f, e, rfl, h1, h2, h3, h4, h5, h6⟩ := h
    rcases List.mem_cons.mp ha with rfl | ha
    · exact ⟨h1, by simp [h3]⟩
    rcases List.mem_cons.mp ha with rfl | ha
    · exact ⟨h2, by simp [h4]⟩
    · exact RepTs.live h6 a ha
  | .q ks xs, _, fp, h, a, ha => by
    simp only [RepT] at h
    obtain ⟨b, vs, e, rfl, h1, h2, h3⟩ := h
    have : a = b := by simpa using ha
    subst this
    exact ⟨h1, by simp [h2]⟩
  | .qt ks xs, _, fp, h, a, ha => by
    simp only [RepT] at h
    obtain ⟨b, vs, e, rfl, h1, h2, h3⟩ := h
    have : a = b := by simpa using ha
    subst this
    exact ⟨h1, by simp [h2]⟩
theorem RepTs.live : ∀ {ts : List T} {vs : List V} {fp : List Addr}, RepTs C F H ts vs fp → ∀ a ∈ fp, F a = none ∧ H a ≠ none
  | [], _, _, h, a, ha => by
    simp only [RepTs] at h
    rw [h.2] at ha; simp at ha
  | t :: ts, _, _, h, a, ha => by
    simp only [RepTs] at h
    obtain ⟨v, r, f1, f2, e, rfl, h1, h2⟩ := h
    rcases List.mem_append.mp ha with ha | ha
    · exact RepT.live h1 a ha
    · exact RepTs.live h2 a ha
end
mutual
theorem RepT.froz (s : Same F F') : ∀ {t : T} {v : V} {fp : List Addr}, (∀ a ∈ fp, F' a = H a) → RepT C F H t v fp → RepD C F' t.erase v
  | .d x, _, fp, k, h => by
    simp only [RepT, T.erase] at h ⊢
    exact h.2.mono s
  | .l xs, _, fp, k, h => by
    simp only [RepT, T.erase, RepD] at h ⊢
    obtain ⟨a, vs, e, rfl, h1, h2, h3⟩ := h
    exact ⟨a, vs, e, (k a (by simp)).trans h2, h3.mono s⟩
  | .n ts, _, fp, k, h => by
    simp only [RepT, T.erase, RepD] at h ⊢
    obtain ⟨a, vs, f, e, rfl, h1, h2, h3⟩ := h
    exact ⟨a, vs, e, (k a (by simp)).trans h2, RepTs.froz s (fun b hb => k b (by simp [hb])) h3⟩
  | .o c ns ts, _, fp, k, h => by
    simp only [RepT, T.erase, RepD] at h ⊢
    obtain ⟨a, dx, fs, f, e, rfl, h1, h2, h3, h4, h5, h6⟩ := h
    exact ⟨a, dx, fs, e, (k a (by simp)).trans h3, (k dx (by simp)).trans h4, h5, RepTs.froz s (fun b hb => k b (by simp [hb])) h6⟩
  | .q ks xs, _, fp, k, h => by
    simp only [RepT, T.erase, RepD] at h ⊢
    obtain ⟨a, vs, e, rfl, h1, h2, h3, h4⟩ := h
    exact ⟨a, vs, e, (k a (by simp)).trans h2, h3, h4.mono s⟩
  | .qt ks xs, _, fp, k, h => by
    simp only [RepT, T.erase, RepD] at h ⊢
    obtain ⟨a, vs, e, rfl, h1, h2, h3, h4⟩ := h
    exact ⟨a, vs, e, (k a (by simp)).trans h2, h3, h4.mono s⟩
theorem RepTs.froz (s : Same F F') : ∀ {ts : List T} {vs : List V} {fp : List Addr}, (∀ a ∈ fp, F' a = H a) → RepTs C F H ts vs fp → RepDs C F' (T.erases ts) vs
  | [], _, _, _, h => by
    simp only [RepTs, T.erases, RepDs] at h ⊢
    exact h.1
  | t :: ts, _, _, k, h => by
    simp only [RepTs, T.erases, RepDs] at h ⊢
    obtain ⟨v, r, f1, f2, e, rfl, h1, h2⟩ := h
    exact ⟨v, r, e, RepT.froz s (fun b hb => k b (by simp [hb])) h1, RepTs.froz s (fun b hb => k b (by simp [hb])) h2⟩
end
end
end Z

namespace Z
open PySem L2

/-- an evaluated thing: one of its own, or what a variable holds -/
inductive R where
  | t (t : T)
  | pk (i : Nat)
  | gone
abbrev Env := List (Option T)
abbrev Ky := Nat ⊕ Nat
abbrev Ow := Ky → List Addr
def setp (p : Ow) (k : Ky) (l : List Addr) : Ow := fun j => if j = k then l else p j
theorem setp_same {p : Ow} {k : Ky} {l : List Addr} : setp p k l k = l := by simp [setp]
theorem setp_ne {p : Ow} {k j : Ky} {l : List Addr} (h : j ≠ k) : setp p k l j = p j := by simp [setp, h]

def keyR (k : Nat) : R → Ky
  | .pk i => .inl i
  | _ => .inr k
def cont (env : Env) : R → Option T
  | .t t => some t
  | .pk i => match env[i]? with | some (some t) => some t | _ => none
  | .gone => none

structure Rel (C : CT) (F H : Hp) (σ : St) (env : Env) (tm : List (V × R)) (p : Ow) : Prop where
  sub : Same F H
  slot : ∀ i t, env[i]? = some (some t) → ∃ v, σ[i]? = some (some v) ∧ RepT C F H t v (p (.inl i))
  temp : ∀ k v t, tm[k]? = some (v, .t t) → RepT C F H t v (p (.inr k))
  peek : ∀ (k : Nat) v i, tm[k]? = some (v, R.pk i) → σ[i]? = some (some v)
  dis : ∀ x y a, a ∈ p x → a ∈ p y → x = y
  nod : ∀ x, (p x).Nodup
  own : ∀ x a, a ∈ p x → F a = none ∧ H a ≠ none
  len : env.length = σ.length

/-- how heap and ownership may go on -/
structure Evo (F H : Hp) (p : Ow) (F' H' : Hp) (p' : Ow) : Prop where
  fz : Same F F'
  kp : ∀ a o, H a = some o → (∀ x, a ∉ p x) → H' a = some o
  fr : ∀ a, F' a ≠ none → F a ≠ none ∨ H a = none ∨ ∃ x, a ∈ p x
  ow : ∀ x a, a ∈ p' x → H a = none ∨ ∃ y, a ∈ p y

section
variable {C : CT} {F H F1 H1 F2 H2 : Hp} {p p1 p2 : Ow} {σ : St} {env : Env} {tm : List (V × R)}
theorem Evo.refl : Evo F H p F H p := ⟨Same.refl _, fun _ _ h _ => h, fun _ h => .inl h, fun x a h => .inr ⟨x, h⟩⟩
theorem Evo.trans (a : Evo F H p F1 H1 p1) (b : Evo F1 H1 p1 F2 H2 p2) : Evo F H p F2 H2 p2 where
  fz := a.fz.trans b.fz
  kp := fun c o h n => b.kp c o (a.kp c o h n) fun x hx => by
    rcases a.ow x c hx with q | ⟨y, q⟩
    · rw [h] at q; cases q
    · exact n y q
  fr := fun c h => by
    have key : H1 c = none → H c = none ∨ ∃ x, c ∈ p x := fun q => by
      cases e : H c with
      | none => exact .inl rfl
      | some o =>
        refine .inr (Classical.byContradiction fun n => ?_)
        have := a.kp c o e fun x hx => n ⟨x, hx⟩
        rw [q] at this; cases this
    rcases b.fr c h with q | q | ⟨x, q⟩
    · exact a.fr c q
    · exact .inr (key q)
    · exact .inr (a.ow x c q)
  ow := fun x c h => by
    rcases b.ow x c h with q | ⟨y, q⟩
    · cases e : H c with
      | none => exact .inl rfl
      | some o =>
        refine .inr (Classical.byContradiction fun n => ?_)
        have := a.kp c o e fun x hx => n ⟨x, hx⟩
        rw [q] at this; cases this
    · exact a.ow y c q

/-- fewer are owned -/
theorem Evo.sub (a : Evo F H p F1 H1 p1) (h : ∀ x b, b ∈ p2 x → ∃ y, b ∈ p1 y) : Evo F H p F1 H1 p2 :=
  ⟨a.fz, a.kp, a.fr, fun x b hb => let ⟨y, hy⟩ := h x b hb; a.ow y b hy⟩

namespace Rel
variable (r : Rel C F H σ env tm p)
include r
theorem ownH {x : Ky} {a : Addr} (h : a ∈ p x) : F a = none := (r.own x a h).1

/-- what a temp holds -/
theorem content {k : Nat} {v : V} {q : R} {t : T} (h : tm[k]? = some (v, q)) (hc : cont env q = some t) : RepT C F H t v (p (keyR k q)) := by
  cases q with
  | t t' =>
    simp only [cont, Option.some.injEq] at hc
    subst hc
    exact r.temp k v _ h
  | pk i =>
    simp only [cont] at hc
    split at hc
    · rename_i t' e
      cases hc
      obtain ⟨w, e1, e2⟩ := r.slot i _ e
      have := r.peek k v i h
      rw [this] at e1
      cases e1
      exact e2
    · cases hc
  | gone => cases hc
/-- dropping temps -/
theorem take (n : Nat) : Rel C F H σ env (tm.take n) p where
  sub := r.sub
  slot := r.slot
  temp := fun k v t h => r.temp k v t (by
    rw [List.getElem?_take] at h
    split at h
    · exact h
    · cases h)
  peek := fun k v i h => r.peek k v i (by
    rw [List.getElem?_take] at h
    split at h
    · exact h
    · cases h)
  dis := r.dis
  nod := r.nod
  own := r.own
  len := r.len
/-- a datum that needs no new object -/
theorem pushD {v : V} {x : D} (h : RepD C F x v) : Rel C F H σ env (tm ++ [(v, .t (.d x))]) (setp p (.inr tm.length) []) where
  sub := r.sub
  slot := fun i t e => by
    obtain ⟨w, e1, e2⟩ := r.slot i t e
    exact ⟨w, e1, by rw [setp_ne (by simp)]; exact e2⟩
  temp := fun k w t e => by
    by_cases hk : k < tm.length
    · rw [List.getElem?_append_left hk] at e
      rw [setp_ne (by simp; omega)]
      exact r.temp k w t e
    · rw [List.getElem?_append_right (by omega)] at e
      have hk0 : k = tm.length := by
        cases q : k - tm.length with
        | zero => omega
        | succ n => rw [q] at e; simp at e
      subst hk0
      simp at e
      obtain ⟨rfl, rfl⟩ := e
      rw [setp_same]
      simp only [RepT]
      exact ⟨trivial, h⟩
  peek := fun k w i e => by
    by_cases hk : k < tm.length
    · rw [List.getElem?_append_left hk] at e
      exact r.peek k w i e
    · rw [List.getElem?_append_right (by omega)] at e
      cases q : k - tm.length with
      | zero => rw [q] at e; simp at e
      | succ n => rw [q] at e; simp at e
  dis := fun x y a h1 h2 => by
    unfold setp at h1 h2
    split at h1 <;> split at h2 <;> first | (simp at h1; done) | (simp at h2; done) | exact r.dis x y a h1 h2
  nod := fun x => by
    unfold setp
    split
    · simp
    · exact r.nod x
  own := fun x a h => by
    unfold setp at h
    split at h
    · simp at h
    · exact r.own x a h
  len := r.len
/-- a variable read -/
theorem pushV {v : V} {i : Nat} (h : σ[i]? = some (some v)) : Rel C F H σ env (tm ++ [(v, .pk i)]) p where
  sub := r.sub
  slot := r.slot
  temp := fun k w t e => by
    by_cases hk : k < tm.length
    · rw [List.getElem?_append_left hk] at e
      exact r.temp k w t e
    · rw [List.getElem?_append_right (by omega)] at e
      cases q : k - tm.length with
      | zero => rw [q] at e; simp at e
      | succ n => rw [q] at e; simp at e
  peek := fun k w j e => by
    by_cases hk : k < tm.length
    · rw [List.getElem?_append_left hk] at e
      exact r.peek k w j e
    · rw [List.getElem?_append_right (by omega)] at e
      cases q : k - tm.length with
      | zero =>
        rw [q] at e; simp at e
        obtain ⟨rfl, rfl⟩ := e
        exact h
      | succ n => rw [q] at e; simp at e
  dis := r.dis
  nod := r.nod
  own := r.own
  len := r.len
/-- a new object at a: owned, or frozen at once -/
theorem fresh (a : Addr) (ha : H a = none) : (∀ x, a ∉ p x) ∧ F a = none :=
  ⟨fun x h => (r.own x a h).2 ha, r.sub.free ha⟩
theorem alloc {a : Addr} {o : HO} (ha : H a = none) : Rel C F (upd H a o) σ env tm p where
  sub := fun b u e => by
    rw [upd_ne (ne_of_none (r.sub b u e) ha)]
    exact r.sub b u e
  slot := fun i t e => by
    obtain ⟨w, e1, e2⟩ := r.slot i t e
    exact ⟨w, e1, e2.mono (Same.refl F) fun b hb => ⟨(r.own _ b hb).1, upd_ne fun z => (r.own _ b hb).2 (z ▸ ha)⟩⟩
  temp := fun k v t e => (r.temp k v t e).mono (Same.refl F) fun b hb => ⟨(r.own _ b hb).1, upd_ne fun z => (r.own _ b hb).2 (z ▸ ha)⟩
  peek := r.peek
  dis := r.dis
  nod := r.nod
  own := fun x b h => ⟨(r.own x b h).1, by
    have ne : b ≠ a := fun z => (r.own x b h).2 (by rw [z]; exact ha)
    rw [upd_ne ne]
    exact (r.own x b h).2⟩
  len := r.len
/-- things that no entry owns are frozen -/
theorem grow {F' : Hp} (s : Same F F') (s' : Same F' H) (h : ∀ x a, a ∈ p x → F' a = none) : Rel C F' H σ env tm p where
  sub := s'
  slot := fun i t e => by
    obtain ⟨w, e1, e2⟩ := r.slot i t e
    exact ⟨w, e1, e2.mono s fun b hb => ⟨h _ b hb, rfl⟩⟩
  temp := fun k v t e => (r.temp k v t e).mono s fun b hb => ⟨h _ b hb, rfl⟩
  peek := r.peek
  dis := r.dis
  nod := r.nod
  own := fun x b hb => ⟨h x b hb, (r.own x b hb).2⟩
  len := r.len
/-- a temp is put on top, with an own part -/
theorem pushT {v : V} {t : T} {fp : List Addr} (h : RepT C F H t v fp) (n : fp.Nodup) (d : ∀ x a, a ∈ fp → a ∉ p x) : Rel C F H σ env (tm ++ [(v, .t t)]) (setp p (.inr tm.length) fp) where
  sub := r.sub
  slot := fun i t e => by
    obtain ⟨w, e1, e2⟩ := r.slot i t e
    exact ⟨w, e1, by rw [setp_ne (by simp)]; exact e2⟩
  temp := fun k w t' e => by
    by_cases hk : k < tm.length
    · rw [List.getElem?_append_left hk] at e
      rw [setp_ne (by simp; omega)]
      exact r.temp k w t' e
    · rw [List.getElem?_append_right (by omega)] at e
      have hk0 : k = tm.length := by
        cases q : k - tm.length with
        | zero => omega
        | succ n => rw [q] at e; simp at e
      subst hk0
      simp at e
      obtain ⟨rfl, rfl⟩ := e
      rw [setp_same]
      exact h
  peek := fun k w i e => by
    by_cases hk : k < tm.length
    · rw [List.getElem?_append_left hk] at e
      exact r.peek k w i e
    · rw [List.getElem?_append_right (by omega)] at e
      cases q : k - tm.length with
      | zero => rw [q] at e; simp at e
      | succ n => rw [q] at e; simp at e
  dis := fun x y a h1 h2 => by
    unfold setp at h1 h2
    split at h1
    · split at h2
      · rename_i e1 e2; rw [e1, e2]
      · exact absurd h2 (d y a h1)
    · split at h2
      · exact absurd h1 (d x a h2)
      · exact r.dis x y a h1 h2
  nod := fun x => by
    unfold setp
    split
    · exact n
    · exact r.nod x
  own := fun x a e => by
    unfold setp at e
    split at e
    · exact h.live a e
    · exact r.own x a e
  len := r.len
end Rel

/-- a new owned object -/
theorem Rel.new (r : Rel C F H σ env tm p) {a : Addr} {o : HO} {t : T} (ha : H a = none) (h : RepT C F (upd H a o) t (.ref a) [a]) :
    Rel C F (upd H a o) σ env (tm ++ [(.ref a, .t t)]) (setp p (.inr tm.length) [a]) ∧ Evo F H p F (upd H a o) (setp p (.inr tm.length) [a]) := by
  refine ⟨(r.alloc ha).pushT h (by simp) fun x b hb z => ?_, Same.refl F, fun b u e n => ?_, fun b h => .inl h, fun x b hb => ?_⟩
  · have : b = a := by simpa using hb
    subst this
    exact (r.own x b z).2 ha
  · rw [upd_ne (ne_of_none e ha)]; exact e
  · unfold setp at hb
    split at hb
    · have : b = a := by simpa using hb
      subst this
      exact .inl ha
    · exact .inr ⟨x, hb⟩
/-- a new object that is frozen at once -/
theorem Rel.newD (r : Rel C F H σ env tm p) {a : Addr} {o : HO} {x : D} (ha : H a = none) (h : RepD C (upd F a o) x (.ref a)) :
    Rel C (upd F a o) (upd H a o) σ env (tm ++ [(.ref a, .t (.d x))]) (setp p (.inr tm.length) []) ∧ Evo F H p (upd F a o) (upd H a o) (setp p (.inr tm.length) []) := by
  have fa := (r.fresh a ha).2
  have s : Same F (upd F a o) := fun b u e => by rw [upd_ne (ne_of_none e fa)]; exact e
  have r1 : Rel C (upd F a o) (upd H a o) σ env tm p := (r.alloc (o := o) ha).grow s (fun b u e => by
    by_cases hb : b = a
    · subst hb; rw [upd_same] at e ⊢; exact e
    · rw [upd_ne hb] at e ⊢; exact r.sub b u e) fun x b hb => by
      have ne : b ≠ a := fun z => (r.own x b hb).2 (by rw [z]; exact ha)
      rw [upd_ne ne]
      exact (r.own x b hb).1
  refine ⟨r1.pushD h, s, fun b u e n => ?_, fun b hb => ?_, fun x b hb => ?_⟩
  · rw [upd_ne (ne_of_none e ha)]; exact e
  · by_cases q : b = a
    · subst q; exact .inr (.inl ha)
    · rw [upd_ne q] at hb; exact .inl hb
  · unfold setp at hb
    split at hb
    · simp at hb
    · exact .inr ⟨x, hb⟩

/-- a frozen cell-set put to F -/
def frzF (F H : Hp) (l : List Addr) : Hp := fun a => if a ∈ l then H a else F a
/-- what entry x owns is frozen: everything else stands -/
theorem Rel.freezeKey (r : Rel C F H σ env tm p) (x : Ky) : Same F (frzF F H (p x)) ∧ Same (frzF F H (p x)) H ∧ (∀ y a, y ≠ x → a ∈ p y → frzF F H (p x) a = none) ∧ (∀ a ∈ p x, frzF F H (p x) a = H a) := by
  refine ⟨fun b u e => ?_, fun b u e => ?_, fun y a hy ha => ?_, fun a ha => ?_⟩
  · unfold frzF
    split
    · rename_i hb; rw [(r.own x b hb).1] at e; cases e
    · exact e
  · unfold frzF at e
    split at e
    · exact e
    · exact r.sub b u e
  · unfold frzF
    rw [if_neg fun z => hy (r.dis y x a ha z)]
    exact (r.own y a ha).1
  · unfold frzF; rw [if_pos ha]
/-- slot i's tree is frozen -/
theorem Rel.freezeSlot (r : Rel C F H σ env tm p) {i : Nat} {t : T} (h : env[i]? = some (some t)) :
    ∃ F', Rel C F' H σ (env.set i (some (.d t.erase))) tm (setp p (.inl i) []) ∧ Evo F H p F' H (setp p (.inl i) []) ∧ ∀ v, σ[i]? = some (some v) → RepD C F' t.erase v := by
  obtain ⟨s1, s2, s3, s4⟩ := r.freezeKey (.inl i)
  have hi : i < env.length := by
    rcases Nat.lt_or_ge i env.length with q | q
    · exact q
    · rw [List.getElem?_eq_none q] at h; cases h
  obtain ⟨v, e1, e2⟩ := r.slot i t h
  have rd : RepD C (frzF F H (p (.inl i))) t.erase v := e2.froz s1 s4
  refine ⟨frzF F H (p (.inl i)), ⟨s2, fun j u e => ?_, fun k v t e => ?_, r.peek, fun x y a h1 h2 => ?_, fun x => ?_, fun x a h => ?_, by rw [List.length_set]; exact r.len⟩, ⟨s1, fun _ _ e _ => e, fun a ha => ?_, fun x a ha => ?_⟩, fun w e => ?_⟩
  · by_cases hj : j = i
    · subst hj
      rw [List.getElem?_set_self hi] at e
      cases e
      refine ⟨v, e1, ?_⟩
      rw [setp_same]
      simp only [RepT]
      exact ⟨trivial, rd⟩
    · rw [List.getElem?_set_ne (Ne.symm hj)] at e
      obtain ⟨w, q1, q2⟩ := r.slot j u e
      refine ⟨w, q1, ?_⟩
      rw [setp_ne (by simp [hj])]
      exact q2.mono s1 fun b hb => ⟨s3 _ b (by simp [hj]) hb, rfl⟩
  · rw [setp_ne (by simp)]
    exact (r.temp k v t e).mono s1 fun b hb => ⟨s3 _ b (by simp) hb, rfl⟩
  · unfold setp at h1 h2
    split at h1 <;> split at h2 <;> first | (simp at h1; done) | (simp at h2; done) | exact r.dis x y a h1 h2
  · unfold setp
    split
    · simp
    · exact r.nod x
  · unfold setp at h
    split at h
    · simp at h
    · rename_i hx
      exact ⟨s3 x a hx h, (r.own x a h).2⟩
  · unfold frzF at ha
    split at ha
    · rename_i q; exact .inr (.inr ⟨_, q⟩)
    · exact .inl ha
  · unfold setp at ha
    split at ha
    · simp at ha
    · exact .inr ⟨x, ha⟩
  · rw [e1] at e; cases e; exact rd
/-- temp k's tree is frozen -/
theorem Rel.freezeTemp (r : Rel C F H σ env tm p) {k : Nat} {v : V} {t : T} (h : tm[k]? = some (v, .t t)) :
    ∃ F', Rel C F' H σ env (tm.set k (v, .t (.d t.erase))) (setp p (.inr k) []) ∧ Evo F H p F' H (setp p (.inr k) []) ∧ RepD C F' t.erase v := by
  obtain ⟨s1, s2, s3, s4⟩ := r.freezeKey (.inr k)
  have hk : k < tm.length := by
    rcases Nat.lt_or_ge k tm.length with q | q
    · exact q
    · rw [List.getElem?_eq_none q] at h; cases h
  have rd : RepD C (frzF F H (p (.inr k))) t.erase v := (r.temp k v t h).froz s1 s4
  refine ⟨frzF F H (p (.inr k)), ⟨s2, fun j u e => ?_, fun j w t' e => ?_, fun j w i e => ?_, fun x y a h1 h2 => ?_, fun x => ?_, fun x a h => ?_, r.len⟩, ⟨s1, fun _ _ e _ => e, fun a ha => ?_, fun x a ha => ?_⟩, rd⟩
  · obtain ⟨w, q1, q2⟩ := r.slot j u e
    refine ⟨w, q1, ?_⟩
    rw [setp_ne (by simp)]
    exact q2.mono s1 fun b hb => ⟨s3 _ b (by simp) hb, rfl⟩
  · by_cases hj : j = k
    · subst hj
      rw [List.getElem?_set_self hk] at e
      cases e
      rw [setp_same]
      simp only [RepT]
      exact ⟨trivial, rd⟩
    · rw [List.getElem?_set_ne (Ne.symm hj)] at e
      rw [setp_ne (by simp [hj])]
      exact (r.temp j w t' e).mono s1 fun b hb => ⟨s3 _ b (by simp [hj]) hb, rfl⟩
  · by_cases hj : j = k
    · subst hj
      rw [List.getElem?_set_self hk] at e
      cases e
    · rw [List.getElem?_set_ne (Ne.symm hj)] at e
      exact r.peek j w i e
  · unfold setp at h1 h2
    split at h1 <;> split at h2 <;> first | (simp at h1; done) | (simp at h2; done) | exact r.dis x y a h1 h2
  · unfold setp
    split
    · simp
    · exact r.nod x
  · unfold setp at h
    split at h
    · simp at h
    · rename_i hx
      exact ⟨s3 x a hx h, (r.own x a h).2⟩
  · unfold frzF at ha
    split at ha
    · rename_i q; exact .inr (.inr ⟨_, q⟩)
    · exact .inl ha
  · unfold setp at ha
    split at ha
    · simp at ha
    · exact .inr ⟨x, ha⟩
end
end Z

namespace Z
open PySem L2

inductive Bop | add | sub | mul | fdiv | mod | pow | shl | shr | band | bor
inductive Cop | eq | ne | lt | le | gt | ge | is_ | isnt | in_ | nin
inductive Blt | len | sum | min2 | max2 | min3 | max1 | min1 | abs | int1 | list1 | tuple1 | str1 | repr1 | all1 | any1 | sorted1 | divmod
/-- methods that write to a list that a variable holds -/
inductive Mth | append | insert | pop0 | pop1 | reverse | clear | extend
/-- what a for walks -/
inductive IK | seq | rng1 | rng2 | enm | zp
inductive Tg where
  | nm (i : Nat)
  | tp (ts : List Tg)
inductive E where
  | k (x : D)
  | v (i : Nat)
  | bin (o : Bop) (a b : E)
  | neg (a : E)
  | cmp (o : Cop) (a b : E)
  | chn (o o' : Cop) (a b c : E)
  | band (es : List E)
  | bor (es : List E)
  | bnot (a : E)
  | ite (c a b : E)
  | lst (es : List E)
  | tup (es : List E)
  | sub (a i : E)
  | slc (a : E) (lo hi : Option E)
  | rev (a : E)
  | call (f : Nat) (as : List E)
  | callk (f : Nat) (as : List E)
  | blt (b : Blt) (as : List E)
  | mth (m : Mth) (i : Nat) (as : List E)
  | lc (own : List Nat) (tg : Tg) (ik : IK) (src : List E) (cs : List E) (e : E)
inductive Sm where
  | asg (t : Tg) (e : E)
  | par (is : List Nat) (es : List E)
  | set (i : Nat) (ix e : E)
  | aug (i : Nat) (o : Bop) (e : E)
  | ex (e : E)
  | ret (e : E)
  | ife (c : E) (a b : List Sm)
  | whl (c : E) (b : List Sm)
  | for_ (tg : Tg) (ik : IK) (src : List E) (b : List Sm)
  | brk | cnt | pas
  | nev
  | napp (i : Nat) (e : E)
  | nap (i j l : Nat)
  | nrev (i j : Nat)

/-- what a def promises over data: the arguments; what it hands back and what is left of the arguments; an error's class and value -/
abbrev SpC := List T → (T → List (Option T) → Prop) → (Nat → D → List (Option T) → Prop) → Prop

/-! ### contents -/
def lstT : T → Option (List D)
  | .d (.lst xs) => some xs
  | .l xs => some xs
  | _ => none
def tupT : T → Option (List D)
  | .d (.tup xs) => some xs
  | _ => none
def seqT (t : T) : Option (List D) := match lstT t with
  | some xs => some xs
  | none => tupT t
def intD : D → Option Int
  | .int i => some i
  | _ => none
def intsD : List D → Option (List Int)
  | [] => some []
  | .int i :: r => match intsD r with
    | some l => some (i :: l)
    | none => none
  | _ => none
def blsD : List D → Option (List Bool)
  | [] => some []
  | .bl i :: r => match blsD r with
    | some l => some (i :: l)
    | none => none
  | _ => none
mutual
def toPy : D → Option PyData
  | .non => some .none
  | .bl b => some (.bool b)
  | .int i => some (.int i)
  | .str x => some (.str x)
  | .tup xs => match toPys xs with
    | some l => some (.tuple l)
    | none => none
  | .lst xs => match toPys xs with
    | some l => some (.list l)
    | none => none
  | _ => none
def toPys : List D → Option (List PyData)
  | [] => some []
  | x :: xs => match toPy x, toPys xs with
    | some d, some l => some (d :: l)
    | _, _ => none
end
def isNonD : D → Bool
  | .non => true
  | _ => false
def flatD : D → Bool
  | .non => true | .bl _ => true | .int _ => true | .str _ => true | _ => false
def scV : D → Option V
  | .non => some .non | .bl b => some (.bl b) | .int i => some (.int i) | .str x => some (.str x) | _ => none

/-! ### escape, take -/
def escR : R → Env → (D → Env → Prop) → Prop
  | .t t, env, k => k t.erase env
  | .pk i, env, k => match env[i]? with
    | some (some (.d x)) => k x env
    | some (some t) => k t.erase (env.set i (some (.d t.erase)))
    | _ => False
  | .gone, _, _ => False
def escRs : List R → Env → (List D → Env → Prop) → Prop
  | [], env, k => k [] env
  | r :: rs, env, k => escR r env fun d env1 => escRs rs env1 fun ds env2 => k (d :: ds) env2
def takR : R → Env → (T → Env → Prop) → Prop
  | .t t, env, k => k t env
  | .pk i, env, k => match env[i]? with
    | some (some (.d x)) => k (.d x) env
    | some (some t) => k (.d t.erase) (env.set i (some (.d t.erase)))
    | _ => False
  | .gone, _, _ => False
def takRs : List R → Env → (List T → Env → Prop) → Prop
  | [], env, k => k [] env
  | r :: rs, env, k => takR r env fun d env1 => takRs rs env1 fun ds env2 => k (d :: ds) env2
def conts (env : Env) : List R → Option (List T)
  | [] => some []
  | r :: rs => match cont env r, conts env rs with
    | some t, some ts => some (t :: ts)
    | _, _ => none

/-! ### operators -/
def MulOk (i j : Int) : Prop := (-18446744073709551616 < i ∧ i < 18446744073709551616) ∨ (-18446744073709551616 < j ∧ j < 18446744073709551616) ∨ CMulW i j
def DivOk (j : Int) : Prop := 0 < j ∧ (j < 1073741824 ∨ j.natAbs.log2 < 9000)
def PowOk (i j : Int) : Prop := 0 ≤ j ∧ j ≤ 1000 ∧ i.natAbs < 2 ^ 200
def ShlOk (i j : Int) : Prop := 0 ≤ j ∧ j ≤ 1000000 ∧ i.natAbs < 2 ^ 64
def binI : Bop → Int → Int → (Int → Prop) → Prop
  | .add, i, j, k => k (i + j)
  | .sub, i, j, k => k (i - j)
  | .mul, i, j, k => MulOk i j ∧ k (i * j)
  | .fdiv, i, j, k => DivOk j ∧ k (i / j)
  | .mod, i, j, k => 0 < j ∧ k (i % j)
  | .pow, i, j, k => PowOk i j ∧ k (i ^ j.toNat)
  | .shl, i, j, k => ShlOk i j ∧ k (i * 2 ^ j.toNat)
  | .shr, i, j, k => 0 ≤ j ∧ k (i / 2 ^ j.toNat)
  | .band, i, j, k => k (Builtin.bitAnd i j)
  | .bor, i, j, k => k (Builtin.bitOr i j)
def binL : Bop → List D → T → (T → Prop) → Prop
  | .add, xs, u, k => match lstT u with
    | some ys => xs.length + ys.length ≤ sizeLine ∧ k (.l (xs ++ ys))
    | none => False
  | .mul, xs, .d (.int n), k => -(2 ^ 63) ≤ n ∧ n < 2 ^ 63 ∧ xs.length * n.toNat ≤ sizeLine ∧ k (.l (List.replicate n.toNat xs).flatten)
  | _, _, _, _ => False
def binT (o : Bop) (t u : T) (k : T → Prop) : Prop :=
  match t, u with
  | .d (.int i), .d (.int j) => binI o i j fun z => k (.d (.int z))
  | .d (.str x), .d (.str y) => match o with
    | .add => x.length + y.length ≤ sizeLine ∧ k (.d (.str (x ++ y)))
    | _ => False
  | t, u => match lstT t with
    | some xs => binL o xs u k
    | none => False
def cmpD : Cop → D → D → (Bool → Prop) → Prop
  | .eq, .int i, .int j, k => k (decide (i = j))
  | .ne, .int i, .int j, k => k (!decide (i = j))
  | .lt, .int i, .int j, k => k (decide (i < j))
  | .le, .int i, .int j, k => k (decide (i ≤ j))
  | .gt, .int i, .int j, k => k (decide (j < i))
  | .ge, .int i, .int j, k => k (decide (j ≤ i))
  | .eq, .str i, .str j, k => k (decide (i = j))
  | .ne, .str i, .str j, k => k (!decide (i = j))
  | .eq, .bl i, .bl j, k => k (decide (i = j))
  | .ne, .bl i, .bl j, k => k (!decide (i = j))
  | .is_, x, .non, k => k (isNonD x)
  | .isnt, x, .non, k => k (!isNonD x)
  | .eq, x, y, k => ∃ d e, toPy x = some d ∧ toPy y = some e ∧ SeqAt.shaped d = true ∧ SeqAt.shaped e = true ∧ k (PyData.eqv d e)
  | .ne, x, y, k => ∃ d e, toPy x = some d ∧ toPy y = some e ∧ SeqAt.shaped d = true ∧ SeqAt.shaped e = true ∧ k (!PyData.eqv d e)
  | .in_, x, .lst ys, k => ∃ d es, toPy x = some d ∧ toPys ys = some es ∧ SeqAt.shaped d = true ∧ SeqAt.shaped (.list es) = true ∧ k (es.any fun z => PyData.eqv z d)
  | .nin, x, .lst ys, k => ∃ d es, toPy x = some d ∧ toPys ys = some es ∧ SeqAt.shaped d = true ∧ SeqAt.shaped (.list es) = true ∧ k (!es.any fun z => PyData.eqv z d)
  | _, _, _, _ => False
def cmpT (o : Cop) (t u : T) (k : Bool → Prop) : Prop := cmpD o t.erase u.erase k
def truT : T → (Bool → Prop) → Prop
  | .d .non, k => k false
  | .d (.bl b), k => k b
  | .d (.int i), k => k (i != 0)
  | .d (.str x), k => x.length ≤ sizeLine ∧ k (x.length != 0)
  | .d (.lst xs), k => k (!xs.isEmpty)
  | .d (.tup xs), k => k (!xs.isEmpty)
  | .l xs, k => k (!xs.isEmpty)
  | _, _ => False
/-- an item of a list, a tuple; a text's sign -/
def subT (t u : T) (k : D → Prop) : Prop :=
  match u with
  | .d (.int i) => match seqT t with
    | some xs => match atI xs i with
      | some x => k x
      | none => False
    | none => match t with
      | .d (.str s) => s.length ≤ sizeLine ∧ (match atI s.cps.toList i with
        | some c => k (.str ⟨#[c]⟩)
        | none => False)
      | .d (.scr ns) => match atI ns i with
        | some n => k (.int n)
        | none => False
      | _ => False
  | _ => False
abbrev BT := List T → (T → Prop) → Prop
def lenT : BT
  | [t], k => match seqT t with
    | some xs => k (.d (.int xs.length))
    | none => match t with
      | .d (.str s) => s.length ≤ sizeLine ∧ k (.d (.int s.length))
      | .d (.scr ns) => k (.d (.int ns.length))
      | _ => False
  | _, _ => False
def intsT (t : T) : Option (List Int) := match lstT t with
  | some xs => intsD xs
  | none => none
def blsT (t : T) : Option (List Bool) := match lstT t with
  | some xs => blsD xs
  | none => none
def sumT : BT
  | [t], k => match intsT t with
    | some ns => k (.d (.int ns.sum))
    | none => False
  | _, _ => False
def min2T : BT
  | [.d (.int i), .d (.int j)], k => k (.d (.int (if j < i then j else i)))
  | _, _ => False
def max2T : BT
  | [.d (.int i), .d (.int j)], k => k (.d (.int (if j > i then j else i)))
  | _, _ => False
def min3T : BT
  | [.d (.int i), .d (.int j), .d (.int l)], k => k (.d (.int (if l < (if j < i then j else i) then l else (if j < i then j else i))))
  | _, _ => False
def max1T : BT
  | [t], k => match intsT t with
    | some ns => ns ≠ [] ∧ ∀ m, m ∈ ns → (∀ y ∈ ns, y ≤ m) → k (.d (.int m))
    | none => False
  | _, _ => False
def min1T : BT
  | [t], k => match intsT t with
    | some ns => ns ≠ [] ∧ ∀ m, m ∈ ns → (∀ y ∈ ns, m ≤ y) → k (.d (.int m))
    | none => False
  | _, _ => False
def absT : BT
  | [.d (.int i)], k => k (.d (.int (if i < 0 then -i else i)))
  | _, _ => False
def int1T : BT
  | [.d (.int i)], k => k (.d (.int i))
  | [.d (.bl b)], k => k (.d (.int (if b then 1 else 0)))
  | _, _ => False
def list1T : BT
  | [t], k => match seqT t with
    | some xs => k (.l xs)
    | none => False
  | _, _ => False
def tuple1T : BT
  | [t], k => match lstT t with
    | some xs => k (.d (.tup xs))
    | none => False
  | _, _ => False
def str1T : BT
  | [.d (.int i)], k => i.natAbs.log2 < 1920 ∧ k (.d (.str (toString i)))
  | _, _ => False
def repr1T : BT
  | [.d (.int i)], k => i.natAbs.log2 < 1920 ∧ k (.d (.str (toString i)))
  | [t], k => (seqT t).isSome = true ∧ ∃ d, toPy t.erase = some d ∧ d.showable = true ∧ d.depth < 50 ∧ d.shown.length ≤ sizeLine ∧ k (.d (.str d.shown))
  | _, _ => False
def all1T : BT
  | [t], k => match blsT t with
    | some bs => k (.d (.bl (bs.all id)))
    | none => False
  | _, _ => False
def any1T : BT
  | [t], k => match blsT t with
    | some bs => k (.d (.bl (bs.any id)))
    | none => False
  | _, _ => False
def divmodT : BT
  | [.d (.int i), .d (.int j)], k => 0 < j ∧ j < 1073741824 ∧ k (.d (.tup [.int (i / j), .int (i % j)]))
  | _, _ => False
def sorted1T : BT
  | [t], k => match intsT t with
    | some ns => ns.length < 64 ∧ ∀ ms : List Int, ms.Perm ns → ms.Pairwise (· ≤ ·) → k (.l (ms.map D.int))
    | none => False
  | _, _ => False
def bltT : Blt → BT
  | .len => lenT | .sum => sumT | .min2 => min2T | .max2 => max2T | .min3 => min3T | .max1 => max1T | .min1 => min1T | .abs => absT | .int1 => int1T | .list1 => list1T | .tuple1 => tuple1T
  | .str1 => str1T | .repr1 => repr1T | .all1 => all1T | .any1 => any1T | .sorted1 => sorted1T | .divmod => divmodT
/-- what the items of a walk are -/
def itemsT : IK → List T → (List D → Prop) → Prop
  | .seq, [t], k => match seqT t with
    | some xs => k xs
    | none => False
  | .rng1, [.d (.int j)], k => -(2 ^ 62) ≤ j ∧ j < 2 ^ 62 ∧ k ((List.range j.toNat).map fun (i : Nat) => .int (0 + (i : Int)))
  | .rng2, [.d (.int i), .d (.int j)], k => (-(2 ^ 62) ≤ i ∧ i < 2 ^ 62 ∧ -(2 ^ 62) ≤ j ∧ j < 2 ^ 62) ∧ k ((List.range (j - i).toNat).map fun (n : Nat) => .int (i + (n : Int)))
  | _, _, _ => False
/-- a method that writes: the list, the arguments; the list behind, what it hands back -/
def mthL : Mth → List D → List D → (List D → D → Prop) → Prop
  | .append, xs, [y], k => xs.length < sizeLine ∧ k (xs ++ [y]) .non
  | .insert, xs, [.int i, y], k => xs.length < sizeLine ∧ (0 ≤ i ∧ i ≤ xs.length) ∧ k (xs.take i.toNat ++ y :: xs.drop i.toNat) .non
  | .pop0, xs, [], k => match xs[xs.length - 1]? with
    | some y => k xs.dropLast y
    | none => False
  | .pop1, xs, [.int i], k => xs.length ≤ sizeLine ∧ match ixN xs.length i with
    | some j => (match xs[j]? with
      | some y => k (xs.eraseIdx j) y
      | none => False)
    | none => False
  | .extend, xs, [.lst ys], k => xs.length + ys.length ≤ sizeLine ∧ k (xs ++ ys) .non
  | .reverse, xs, [], k => k xs.reverse .non
  | .clear, xs, [], k => k [] .non
  | _, _, _, _ => False
end Z

namespace Z
open PySem L2

section
variable (C : CT)
/-- an expression over data, as a reading over the heap -/
def tS (w : Env → (R → Env → Prop) → Prop) : TE := fun σ H Q => ∃ (F : Hp) (env : Env) (tm : List (V × R)) (p : Ow) (K : R → Env → Prop), Rel C F H σ env tm p ∧ w env K ∧
  ∀ v r env' F' H' p', Evo F H p F' H' p' → Rel C F' H' σ env' (tm ++ [(v, r)]) p' → K r env' → Q v H'
def tSs (w : Env → (List R → Env → Prop) → Prop) : TA := fun σ H Q => ∃ (F : Hp) (env : Env) (tm : List (V × R)) (p : Ow) (K : List R → Env → Prop), Rel C F H σ env tm p ∧ w env K ∧
  ∀ vs rs env' F' H' p', vs.length = rs.length → Evo F H p F' H' p' → Rel C F' H' σ env' (tm ++ vs.zip rs) p' → K rs env' → Q vs H'
def tST (w : Env → (Bool → Env → Prop) → Prop) : TT := fun σ H Q => ∃ (F : Hp) (env : Env) (tm : List (V × R)) (p : Ow) (K : Bool → Env → Prop), Rel C F H σ env tm p ∧ w env K ∧
  ∀ b env' F' H' p', Evo F H p F' H' p' → Rel C F' H' σ env' tm p' → K b env' → Q b H'
end

theorem PE.imp {X : Cx} {e : Expr} {t t' : TE} (h : PE X e t) (i : ∀ σ H Q, t' σ H Q → t σ H Q) : PE X e t' := ⟨fun pins s σ H Q I q => h.run pins s σ H Q I (i σ H Q q)⟩
theorem PA.imp {X : Cx} {e : List Expr} {t t' : TA} (h : PA X e t) (i : ∀ σ H Q, t' σ H Q → t σ H Q) : PA X e t' := ⟨fun pos pins s σ H Q I q => h.run pos pins s σ H Q I (i σ H Q q)⟩
theorem PT.imp {X : Cx} {e : Expr} {t t' : TT} (h : PT X e t) (i : ∀ σ H Q, t' σ H Q → t σ H Q) : PT X e t' := ⟨fun pins s σ H Q I q => h.run pins s σ H Q I (i σ H Q q)⟩
theorem PW.imp {X : Cx} {e : Expr} {t t' : TT} (h : PW X e t) (i : ∀ σ H Q, t' σ H Q → t σ H Q) : PW X e t' := ⟨fun w pins s σ H Q I q => h.run w pins s σ H Q I (i σ H Q q)⟩
theorem PS.imp {X : Cx} {e : Stmt} {t t' : TS} (h : PS X e t) (i : ∀ D σ H, t' D σ H → t D σ H) : PS X e t' := ⟨fun pins s σ H D I q => h.run pins s σ H D I (i D σ H q)⟩
theorem PSs.imp {X : Cx} {e : List Stmt} {t t' : TS} (h : PSs X e t) (i : ∀ D σ H, t' D σ H → t D σ H) : PSs X e t' := ⟨fun pins s σ H D I q => h.run pins s σ H D I (i D σ H q)⟩

section
variable {C : CT} {F H F1 H1 F2 H2 : Hp} {p p1 p2 : Ow} {σ : St} {env : Env} {tm : List (V × R)}
/-- the temps behind n are dropped -/
theorem Rel.take_app {l : List (V × R)} (r : Rel C F H σ env (tm ++ l) p) : Rel C F H σ env tm p := by
  have := r.take tm.length
  rwa [List.take_left'] at this
  rfl
/-- the reading runs, then goes on -/
theorem tS.go {w : Env → (R → Env → Prop) → Prop} {K : R → Env → Prop} {Q : VK} (r : Rel C F H σ env tm p) (h : w env K)
    (q : ∀ v r env' F' H' p', Evo F H p F' H' p' → Rel C F' H' σ env' (tm ++ [(v, r)]) p' → K r env' → Q v H') : tS C w σ H Q := ⟨F, env, tm, p, K, r, h, q⟩
theorem tSs.go {w : Env → (List R → Env → Prop) → Prop} {K : List R → Env → Prop} {Q : List V → Hp → Prop} (r : Rel C F H σ env tm p) (h : w env K)
    (q : ∀ vs rs env' F' H' p', vs.length = rs.length → Evo F H p F' H' p' → Rel C F' H' σ env' (tm ++ vs.zip rs) p' → K rs env' → Q vs H') : tSs C w σ H Q := ⟨F, env, tm, p, K, r, h, q⟩
theorem tST.go {w : Env → (Bool → Env → Prop) → Prop} {K : Bool → Env → Prop} {Q : Bool → Hp → Prop} (r : Rel C F H σ env tm p) (h : w env K)
    (q : ∀ b env' F' H' p', Evo F H p F' H' p' → Rel C F' H' σ env' tm p' → K b env' → Q b H') : tST C w σ H Q := ⟨F, env, tm, p, K, r, h, q⟩

/-! ### what a tree tells of the heap -/
theorem RepDs.len : ∀ {xs : List D} {vs : List V}, RepDs C F xs vs → vs.length = xs.length
  | [], _, h => by simp only [RepDs] at h; subst h; rfl
  | x :: xs, _, h => by
    simp only [RepDs] at h
    obtain ⟨v, r, rfl, _, h2⟩ := h
    simp [RepDs.len h2]
theorem RepDs.app : ∀ {xs ys : List D} {vs ws : List V}, RepDs C F xs vs → RepDs C F ys ws → RepDs C F (xs ++ ys) (vs ++ ws)
  | [], _, _, _, h, h' => by simp only [RepDs] at h; subst h; exact h'
  | x :: xs, _, _, _, h, h' => by
    simp only [RepDs] at h
    obtain ⟨v, r, rfl, h1, h2⟩ := h
    exact ⟨v, _, rfl, h1, RepDs.app h2 h'⟩
theorem RepDs.get : ∀ {xs : List D} {vs : List V} {i : Nat} {x : D}, RepDs C F xs vs → xs[i]? = some x → ∃ v, vs[i]? = some v ∧ RepD C F x v
  | [], _, _, _, _, e => by simp at e
  | x :: xs, _, 0, y, h, e => by
    simp only [RepDs] at h
    obtain ⟨v, r, rfl, h1, h2⟩ := h
    simp at e; subst e
    exact ⟨v, rfl, h1⟩
  | x :: xs, _, i + 1, y, h, e => by
    simp only [RepDs] at h
    obtain ⟨v, r, rfl, h1, h2⟩ := h
    obtain ⟨w, q1, q2⟩ := RepDs.get (i := i) h2 (by simpa using e)
    exact ⟨w, by simpa using q1, q2⟩
theorem RepDs.take : ∀ {xs : List D} {vs : List V} (n : Nat), RepDs C F xs vs → RepDs C F (xs.take n) (vs.take n)
  | _, _, 0, _ => rfl
  | [], _, n + 1, h => by simp only [RepDs] at h; subst h; rfl
  | x :: xs, _, n + 1, h => by
    simp only [RepDs] at h
    obtain ⟨v, r, rfl, h1, h2⟩ := h
    exact ⟨v, _, rfl, h1, RepDs.take n h2⟩
theorem RepDs.drop : ∀ {xs : List D} {vs : List V} (n : Nat), RepDs C F xs vs → RepDs C F (xs.drop n) (vs.drop n)
  | _, _, 0, h => h
  | [], _, n + 1, h => by simp only [RepDs] at h; subst h; rfl
  | x :: xs, _, n + 1, h => by
    simp only [RepDs] at h
    obtain ⟨v, r, rfl, h1, h2⟩ := h
    exact RepDs.drop n h2
theorem RepDs.set : ∀ {xs : List D} {vs : List V} (i : Nat) {y : D} {w : V}, RepD C F y w → RepDs C F xs vs → RepDs C F (xs.set i y) (vs.set i w)
  | [], _, i, _, _, _, h => by simp only [RepDs] at h; subst h; rfl
  | x :: xs, _, 0, _, _, hy, h => by
    simp only [RepDs] at h
    obtain ⟨v, r, rfl, h1, h2⟩ := h
    exact ⟨_, _, rfl, hy, h2⟩
  | x :: xs, _, i + 1, _, _, hy, h => by
    simp only [RepDs] at h
    obtain ⟨v, r, rfl, h1, h2⟩ := h
    exact ⟨v, _, rfl, h1, RepDs.set i hy h2⟩
theorem RepDs.rev : ∀ {xs : List D} {vs : List V}, RepDs C F xs vs → RepDs C F xs.reverse vs.reverse
  | [], _, h => by simp only [RepDs] at h; subst h; rfl
  | x :: xs, _, h => by
    simp only [RepDs] at h
    obtain ⟨v, r, rfl, h1, h2⟩ := h
    rw [List.reverse_cons, List.reverse_cons]
    exact RepDs.app (RepDs.rev h2) ⟨v, [], rfl, h1, rfl⟩
theorem RepDs.one {x : D} {v : V} (h : RepD C F x v) : RepDs C F [x] [v] := ⟨v, [], rfl, h, rfl⟩
theorem RepDs.one' {x : D} {vs : List V} (h : RepDs C F [x] vs) : ∃ v, vs = [v] ∧ RepD C F x v := by
  simp only [RepDs] at h
  obtain ⟨v, r, rfl, h1, rfl⟩ := h
  exact ⟨v, rfl, h1⟩
theorem RepDs.dropLast {xs : List D} {vs : List V} (h : RepDs C F xs vs) : RepDs C F xs.dropLast vs.dropLast := by
  rw [List.dropLast_eq_take, List.dropLast_eq_take, h.len]
  exact h.take _
theorem RepDs.flat {xs : List D} {vs : List V} (h : RepDs C F xs vs) : ∀ n : Nat, RepDs C F (List.replicate n xs).flatten (List.replicate n vs).flatten
  | 0 => rfl
  | n + 1 => by
    rw [List.replicate_succ, List.replicate_succ, List.flatten_cons, List.flatten_cons]
    exact h.app (RepDs.flat h n)
theorem RepDs.atI {xs : List D} {vs : List V} {i : Int} {x : D} (h : RepDs C F xs vs) (e : L2.atI xs i = some x) : ∃ v, L2.atI vs i = some v ∧ RepD C F x v := by
  unfold L2.atI at e ⊢
  rw [h.len]
  cases q : ixN xs.length i with
  | none => rw [q] at e; cases e
  | some j =>
    rw [q] at e
    exact h.get e
theorem RepDs.ints : ∀ {xs : List D} {vs : List V} {ns : List Int}, RepDs C F xs vs → intsD xs = some ns → vs = ns.map V.int
  | [], _, ns, h, e => by
    simp only [RepDs] at h; subst h
    simp only [intsD, Option.some.injEq] at e; subst e; rfl
  | x :: xs, _, ns, h, e => by
    simp only [RepDs] at h
    obtain ⟨v, r, rfl, h1, h2⟩ := h
    cases x with
    | int i =>
      simp only [intsD] at e
      split at e
      · rename_i l q
        cases e
        simp only [RepD] at h1
        subst h1
        rw [RepDs.ints h2 q]; rfl
      · cases e
    | _ => simp [intsD] at e
theorem RepDs.bls : ∀ {xs : List D} {vs : List V} {ns : List Bool}, RepDs C F xs vs → blsD xs = some ns → vs = ns.map V.bl
  | [], _, ns, h, e => by
    simp only [RepDs] at h; subst h
    simp only [blsD, Option.some.injEq] at e; subst e; rfl
  | x :: xs, _, ns, h, e => by
    simp only [RepDs] at h
    obtain ⟨v, r, rfl, h1, h2⟩ := h
    cases x with
    | bl i =>
      simp only [blsD] at e
      split at e
      · rename_i l q
        cases e
        simp only [RepD] at h1
        subst h1
        rw [RepDs.bls h2 q]; rfl
      · cases e
    | _ => simp [blsD] at e
theorem RepT.lst {t : T} {v : V} {fp : List Addr} {xs : List D} (s : Same F H) (h : RepT C F H t v fp) (e : lstT t = some xs) : ∃ a vs, v = .ref a ∧ H a = some (.lst vs) ∧ RepDs C F xs vs := by
  cases t with
  | d x =>
    cases x with
    | lst ys =>
      simp only [lstT, Option.some.injEq] at e; subst e
      simp only [RepT, RepD] at h
      obtain ⟨_, a, vs, e1, e2, e3⟩ := h
      exact ⟨a, vs, e1, s _ _ e2, e3⟩
    | _ => simp [lstT] at e
  | l ys =>
    simp only [lstT, Option.some.injEq] at e; subst e
    simp only [RepT] at h
    obtain ⟨a, vs, e1, _, _, e2, e3⟩ := h
    exact ⟨a, vs, e1, e2, e3⟩
  | _ => simp [lstT] at e
theorem RepT.tup {t : T} {v : V} {fp : List Addr} {xs : List D} (s : Same F H) (h : RepT C F H t v fp) (e : tupT t = some xs) : ∃ a vs, v = .ref a ∧ H a = some (.tup vs) ∧ RepDs C F xs vs := by
  cases t with
  | d x =>
    cases x with
    | tup ys =>
      simp only [tupT, Option.some.injEq] at e; subst e
      simp only [RepT, RepD] at h
      obtain ⟨_, a, vs, e1, e2, e3⟩ := h
      exact ⟨a, vs, e1, s _ _ e2, e3⟩
    | _ => simp [tupT] at e
  | _ => simp [tupT] at e
theorem RepT.seq {t : T} {v : V} {fp : List Addr} {xs : List D} (s : Same F H) (h : RepT C F H t v fp) (e : seqT t = some xs) :
    ∃ a vs, v = .ref a ∧ (H a = some (.lst vs) ∨ H a = some (.tup vs)) ∧ RepDs C F xs vs := by
  unfold seqT at e
  split at e
  · rename_i ys q
    cases e
    obtain ⟨a, vs, e1, e2, e3⟩ := h.lst s q
    exact ⟨a, vs, e1, .inl e2, e3⟩
  · obtain ⟨a, vs, e1, e2, e3⟩ := h.tup s e
    exact ⟨a, vs, e1, .inr e2, e3⟩
/-- a tree's own datum, wherever it is asked as data -/
theorem RepT.dat {x : D} {v : V} {fp : List Addr} (h : RepT C F H (.d x) v fp) : RepD C F x v := by
  simp only [RepT] at h; exact h.2
mutual
theorem RepD.dp {K : PySem.W.Frag} (s : Same F H) : ∀ {x : D} {v : V} {d : PyData}, RepD C F x v → toPy x = some d → Dp K H v d
  | .non, _, _, h, e => by
    simp only [RepD, toPy, Option.some.injEq] at h e; subst h; subst e; exact .non
  | .bl _, _, _, h, e => by
    simp only [RepD, toPy, Option.some.injEq] at h e; subst h; subst e; exact .bl _
  | .int _, _, _, h, e => by
    simp only [RepD, toPy, Option.some.injEq] at h e; subst h; subst e; exact .int _
  | .str _, _, _, h, e => by
    simp only [RepD, toPy, Option.some.injEq] at h e; subst h; subst e; exact .str _
  | .tup xs, _, _, h, e => by
    simp only [RepD] at h
    simp only [toPy] at e
    split at e
    · rename_i l q
      cases e
      obtain ⟨a, vs, rfl, h1, h2⟩ := h
      exact .tup (SqT.of (s _ _ h1)) (RepDs.dp s h2 q)
    · cases e
  | .lst xs, _, _, h, e => by
    simp only [RepD] at h
    simp only [toPy] at e
    split at e
    · rename_i l q
      cases e
      obtain ⟨a, vs, rfl, h1, h2⟩ := h
      exact .lst (SqL.of (s _ _ h1)) (RepDs.dp s h2 q)
    · cases e
  | .scr _, _, _, _, e => by simp [toPy] at e
  | .ins _ _ _, _, _, _, e => by simp [toPy] at e
  | .dK _ _, _, _, _, e => by simp [toPy] at e
  | .dT _ _, _, _, _, e => by simp [toPy] at e
  | .er _ _, _, _, _, e => by simp [toPy] at e
theorem RepDs.dp {K : PySem.W.Frag} (s : Same F H) : ∀ {xs : List D} {vs : List V} {ds : List PyData}, RepDs C F xs vs → toPys xs = some ds → DpAll K H vs ds
  | [], _, _, h, e => by
    simp only [RepDs, toPys, Option.some.injEq] at h e; subst h; subst e; exact .nil
  | x :: xs, _, _, h, e => by
    simp only [RepDs] at h
    simp only [toPys] at e
    split at e
    · rename_i d l q1 q2
      cases e
      obtain ⟨v, r, rfl, h1, h2⟩ := h
      exact .cons (RepD.dp s h1 q1) (RepDs.dp s h2 q2)
    · cases e
end
mutual
/-- an owned tree as data: its frozen look in the present heap -/
theorem RepT.look (s : Same F H) : ∀ {t : T} {v : V} {fp : List Addr}, RepT C F H t v fp → RepD C H t.erase v
  | .d x, _, _, h => by
    simp only [RepT, T.erase] at h ⊢
    exact h.2.mono s
  | .l xs, _, _, h => by
    simp only [RepT, T.erase, RepD] at h ⊢
    obtain ⟨a, vs, e, _, _, h2, h3⟩ := h
    exact ⟨a, vs, e, h2, h3.mono s⟩
  | .n ts, _, _, h => by
    simp only [RepT, T.erase, RepD] at h ⊢
    obtain ⟨a, vs, f, e, _, _, h2, h3⟩ := h
    exact ⟨a, vs, e, h2, RepTs.look s h3⟩
  | .o c ns ts, _, _, h => by
    simp only [RepT, T.erase, RepD] at h ⊢
    obtain ⟨a, dx, fs, f, e, _, _, _, h3, h4, h5, h6⟩ := h
    exact ⟨a, dx, fs, e, h3, h4, h5, RepTs.look s h6⟩
  | .q ks xs, _, _, h => by
    simp only [RepT, T.erase, RepD] at h ⊢
    obtain ⟨a, vs, e, _, _, h2, h3, h4⟩ := h
    exact ⟨a, vs, e, h2, h3, h4.mono s⟩
  | .qt ks xs, _, _, h => by
    simp only [RepT, T.erase, RepD] at h ⊢
    obtain ⟨a, vs, e, _, _, h2, h3, h4⟩ := h
    exact ⟨a, vs, e, h2, h3, h4.mono s⟩
theorem RepTs.look (s : Same F H) : ∀ {ts : List T} {vs : List V} {fp : List Addr}, RepTs C F H ts vs fp → RepDs C H (T.erases ts) vs
  | [], _, _, h => by
    simp only [RepTs, T.erases, RepDs] at h ⊢
    exact h.1
  | t :: ts, _, _, h => by
    simp only [RepTs, T.erases, RepDs] at h ⊢
    obtain ⟨v, r, f1, f2, e, _, h1, h2⟩ := h
    exact ⟨v, r, e, RepT.look s h1, RepTs.look s h2⟩
end

/-! ### escape -/
theorem set_self {α : Type} {l : List α} {k : Nat} {x : α} (h : l[k]? = some x) : l.set k x = l := by
  apply List.ext_getElem?
  intro i
  by_cases hi : k = i
  · subst hi
    have hk : k < l.length := by
      rcases Nat.lt_or_ge k l.length with q | q
      · exact q
      · rw [List.getElem?_eq_none q] at h; cases h
    rw [List.getElem?_set_self hk, h]
  · rw [List.getElem?_set_ne hi]
theorem esc1 {k : Nat} {v : V} {q : R} {K : D → Env → Prop} (r : Rel C F H σ env tm p) (h : tm[k]? = some (v, q)) (e : escR q env K) :
    ∃ F' env' p' q' d, Rel C F' H σ env' (tm.set k (v, q')) p' ∧ Evo F H p F' H p' ∧ RepD C F' d v ∧ K d env' := by
  have hset : tm.set k (v, q) = tm := set_self h
  cases q with
  | t t =>
    obtain ⟨F', r', ev, rd⟩ := r.freezeTemp h
    exact ⟨F', env, _, _, _, r', ev, rd, e⟩
  | pk i =>
    simp only [escR] at e
    split at e
    · rename_i x q
      obtain ⟨w, e1, e2⟩ := r.slot i _ q
      have := r.peek k v i h
      rw [this] at e1; cases e1
      exact ⟨F, env, p, .pk i, x, by rw [hset]; exact r, Evo.refl, e2.dat, e⟩
    · rename_i t q hx
      obtain ⟨F', r', ev, rd⟩ := r.freezeSlot hx
      exact ⟨F', _, _, .pk i, _, by rw [hset]; exact r', ev, rd v (r.peek k v i h), e⟩
    · exact e.elim
  | gone => exact e.elim
theorem set_mid {α : Type} (a b : List α) (x y : α) : (a ++ x :: b).set a.length y = a ++ y :: b := by
  simp [List.set_append]
theorem get_mid {α : Type} (a b : List α) (x : α) : (a ++ x :: b)[a.length]? = some x := by
  simp
theorem escs : ∀ {rs : List R} {vs : List V} {t0 : List (V × R)} {F : Hp} {env : Env} {p : Ow} {K : List D → Env → Prop}, vs.length = rs.length → Rel C F H σ env (t0 ++ vs.zip rs) p → escRs rs env K →
    ∃ F' env' p' ds, Rel C F' H σ env' t0 p' ∧ Evo F H p F' H p' ∧ RepDs C F' ds vs ∧ K ds env'
  | [], [], t0, F, env, p, K, _, r, e => ⟨F, env, p, [], r.take_app, Evo.refl, rfl, e⟩
  | [], _ :: _, _, _, _, _, _, hl, _, _ => by simp at hl
  | _ :: _, [], _, _, _, _, _, hl, _, _ => by simp at hl
  | q :: rs, v :: vs, t0, F, env, p, K, hl, r, e => by
    simp only [escRs] at e
    rw [List.zip_cons_cons] at r
    obtain ⟨F1, env1, p1, q', d, r1, ev1, rd1, e1⟩ := esc1 r (get_mid _ _ _) e
    rw [set_mid, List.append_cons] at r1
    obtain ⟨F2, env2, p2, ds, r2, ev2, rd2, e2⟩ := escs (by simpa using hl) r1 e1
    exact ⟨F2, env2, p2, d :: ds, r2.take_app, ev1.trans ev2, ⟨v, vs, rfl, rd1.mono ev2.fz, rd2⟩, e2⟩
/-- one thing that escapes -/
theorem esc {q : R} {v : V} {K : D → Env → Prop} (r : Rel C F H σ env (tm ++ [(v, q)]) p) (e : escR q env K) :
    ∃ F' env' p' d, Rel C F' H σ env' tm p' ∧ Evo F H p F' H p' ∧ RepD C F' d v ∧ K d env' := by
  obtain ⟨F1, env1, p1, q', d, r1, ev1, rd1, e1⟩ := esc1 r (get_mid _ _ _) e
  rw [set_mid] at r1
  exact ⟨F1, env1, p1, d, r1.take_app, ev1, rd1, e1⟩
/-- the contents of the things on top -/
theorem contents {q : R} {v : V} {t : T} {k : Nat} (r : Rel C F H σ env tm p) (h : tm[k]? = some (v, q)) (hc : cont env q = some t) : ∃ fp, RepT C F H t v fp :=
  ⟨_, r.content h hc⟩
theorem contentss : ∀ {rs : List R} {vs : List V} {t0 : List (V × R)} {ts : List T}, vs.length = rs.length → Rel C F H σ env (t0 ++ vs.zip rs) p → conts env rs = some ts →
    ts.length = vs.length ∧ ∀ (i : Nat) t v, ts[i]? = some t → vs[i]? = some v → ∃ fp, RepT C F H t v fp
  | [], [], t0, ts, _, r, e => by
    simp only [conts, Option.some.injEq] at e; subst e
    exact ⟨rfl, fun i t v h => by simp at h⟩
  | [], _ :: _, _, _, hl, _, _ => by simp at hl
  | _ :: _, [], _, _, hl, _, _ => by simp at hl
  | q :: rs, v :: vs, t0, ts, hl, r, e => by
    simp only [conts] at e
    split at e
    · rename_i t ts' q1 q2
      cases e
      rw [List.zip_cons_cons] at r
      have h0 := contents r (get_mid _ _ _) q1
      rw [List.append_cons] at r
      obtain ⟨l, ih⟩ := contentss (by simpa using hl) r q2
      refine ⟨by simp [l], fun i t' v' h1 h2 => ?_⟩
      cases i with
      | zero => simp at h1 h2; subst h1; subst h2; exact h0
      | succ i => exact ih i t' v' (by simpa using h1) (by simpa using h2)
    · cases e
end
end Z

namespace Z
open PySem L2 PySem.Spec PyProof.Rows

/-- what is to follow -/
def Kont (C : CT) (σ : St) (tm : List (V × R)) (F H : Hp) (p : Ow) (K : R → Env → Prop) (Q : VK) : Prop :=
  ∀ v r env' F' H' p', Evo F H p F' H' p' → Rel C F' H' σ env' (tm ++ [(v, r)]) p' → K r env' → Q v H'
section
variable {C : CT} {F H F0 H0 F1 H1 F2 H2 : Hp} {p p0 p1 p2 : Ow} {σ : St} {env : Env} {tm l : List (V × R)} {K : R → Env → Prop} {Q : VK}
theorem Kont.on (k : Kont C σ tm F0 H0 p0 K Q) (e : Evo F0 H0 p0 F H p) : Kont C σ tm F H p K Q := fun v r env' F' H' p' ev => k v r env' F' H' p' (e.trans ev)
theorem Evo.push0 {x : Ky} : Evo F H p F H (setp p x []) := ⟨Same.refl _, fun _ _ h _ => h, fun _ h => .inl h, fun y a h => by
  unfold setp at h
  split at h
  · simp at h
  · exact .inr ⟨y, h⟩⟩
theorem Kont.sc (k : Kont C σ tm F H p K Q) (r : Rel C F H σ env (tm ++ l) p) {x : D} {v : V} (h : RepD C F x v) (q : K (.t (.d x)) env) : Q v H :=
  k v _ env F H _ Evo.push0 (r.take_app.pushD h) q
theorem Kont.lst (k : Kont C σ tm F H p K Q) (r : Rel C F H σ env (tm ++ l) p) {xs : List D} {vs : List V} (h : RepDs C F xs vs) (q : K (.t (.l xs)) env) :
    ∀ a, H a = none → Q (.ref a) (upd H a (.lst vs)) := fun a ha => by
  obtain ⟨r', ev⟩ := r.take_app.new (t := .l xs) (o := .lst vs) ha (by
    simp only [RepT]
    exact ⟨a, vs, rfl, rfl, (r.fresh a ha).2, upd_same, h⟩)
  exact k _ _ env _ _ _ ev r' q
theorem Kont.tup (k : Kont C σ tm F H p K Q) (r : Rel C F H σ env (tm ++ l) p) {xs : List D} {vs : List V} (h : RepDs C F xs vs) (q : K (.t (.d (.tup xs))) env) :
    ∀ a, H a = none → Q (.ref a) (upd H a (.tup vs)) := fun a ha => by
  have fa := (r.fresh a ha).2
  obtain ⟨r', ev⟩ := r.take_app.newD (x := .tup xs) (o := .tup vs) ha (by
    simp only [RepD]
    exact ⟨a, vs, rfl, upd_same, h.mono fun b u e => by rw [upd_ne (ne_of_none e fa)]; exact e⟩)
  exact k _ _ env _ _ _ ev r' q

/-- two operands -/
def w2 (wa wb : Env → (R → Env → Prop) → Prop) (o : T → T → (R → Prop) → Prop) : Env → (R → Env → Prop) → Prop := fun env k =>
  wa env fun r1 env1 => wb env1 fun r2 env2 => match cont env2 r1, cont env2 r2 with
    | some t, some u => o t u fun z => k z env2
    | _, _ => False
/-- what two operands tell -/
def Op2 (C : CT) (o : T → T → (R → Prop) → Prop) (r : R2) : Prop := ∀ (F H : Hp) (p : Ow) (σ : St) (env : Env) (tm l : List (V × R)) (K : R → Env → Prop) (Q : VK) (v1 v2 : V) (t u : T) (f1 f2 : List Addr),
  Rel C F H σ env (tm ++ l) p → RepT C F H t v1 f1 → RepT C F H u v2 f2 → (o t u fun z => K z env) → Kont C σ tm F H p K Q → r v1 v2 H Q
theorem op2 {wa wb : Env → (R → Env → Prop) → Prop} {o : T → T → (R → Prop) → Prop} {r : R2} (ho : Op2 C o r) : ∀ σ H Q, tS C (w2 wa wb o) σ H Q → tOp r (tS C wa) (tS C wb) σ H Q := by
  rintro σ H Q ⟨F, env, tm, p, K, rel, h, hQ⟩
  refine tS.go rel h fun v1 r1 env1 F1 H1 p1 ev1 rel1 h1 => ?_
  refine tS.go rel1 h1 fun v2 r2 env2 F2 H2 p2 ev2 rel2 h2 => ?_
  split at h2
  · rename_i t u c1 c2
    obtain ⟨f1, t1⟩ := contents rel2 (k := tm.length) (v := v1) (q := r1) (by simp) c1
    obtain ⟨f2, t2⟩ := contents rel2 (k := tm.length + 1) (v := v2) (q := r2) (by simp) c2
    rw [List.append_assoc] at rel2
    exact ho _ _ _ _ _ _ _ _ _ _ _ _ _ _ _ rel2 t1 t2 h2 (Kont.on hQ (ev1.trans ev2))
  · exact h2.elim
end

section
variable {X : Cx} {C : CT}
theorem PowOk.bits {i j : Int} (h : PowOk i j) : (Builtin.Int.intBits i : Int) * j ≤ 2 ^ 27 := by
  obtain ⟨h1, h2, h3⟩ := h
  have b : Builtin.Int.intBits i ≤ i.natAbs.log2 + 1 := by
    unfold Builtin.Int.intBits
    split <;> omega
  have l : i.natAbs.log2 < 200 := PySem.Flt.log2_lt_of (by decide) h3
  have b2 : Builtin.Int.intBits i ≤ 200 := by omega
  have b3 : (Builtin.Int.intBits i : Int) ≤ 200 := by omega
  have : (Builtin.Int.intBits i : Int) * j ≤ 200 * 1000 := Int.mul_le_mul b3 h2 h1 (by decide)
  have e : (2 : Int) ^ 27 = 134217728 := by decide
  rw [e]; omega
theorem op_powW : OpR X (binaryOp .Pow) (rI PowOk fun i j => .int (i ^ j.toNat)) := opI fun _ _ _ _ _ _ _ hc q => pow_int hc.1 hc.bits q
/-- the operator's own name -/
def bopOf : Bop → Operator
  | .add => .Add | .sub => .Sub | .mul => .Mult | .fdiv => .FloorDiv | .mod => .Mod | .pow => .Pow | .shl => .LShift | .shr => .RShift | .band => .BitAnd | .bor => .BitOr
def rAddA : R2 := fun x y H Q => (rI0 (fun i j => .int (i + j)) x y H Q ∨ (∃ i j, x = .str i ∧ y = .str j ∧ i.length + j.length ≤ sizeLine ∧ Q (.str (i ++ j)) H)) ∨ rCat x y H Q
def rMulA : R2 := fun x y H Q => (rI CMul (fun i j => .int (i * j)) x y H Q ∨ rI CMulW (fun i j => .int (i * j)) x y H Q) ∨ rRep x y H Q
def rDivA : R2 := fun x y H Q => rI CDiv (fun i j => .int (i / j)) x y H Q ∨ rI CDivW (fun i j => .int (i / j)) x y H Q
def rBop : Bop → R2
  | .add => rAddA
  | .sub => rI0 fun i j => .int (i - j)
  | .mul => rMulA
  | .fdiv => rDivA
  | .mod => rI (fun _ j => 0 < j) fun i j => .int (i % j)
  | .pow => rI PowOk fun i j => .int (i ^ j.toNat)
  | .shl => rI CPow fun i j => .int (i * 2 ^ j.toNat)
  | .shr => rI (fun _ j => 0 ≤ j) fun i j => .int (i / 2 ^ j.toNat)
  | .band => rI0 fun i j => .int (Builtin.bitAnd i j)
  | .bor => rI0 fun i j => .int (Builtin.bitOr i j)
theorem op_bop (o : Bop) : OpR X (binaryOp (bopOf o)) (rBop o) := by
  cases o with
  | add => exact OpR.or (OpR.or op_add op_add_str) op_cat
  | sub => exact op_sub
  | mul => exact OpR.or (OpR.or op_mul op_mulW) op_rep
  | fdiv => exact OpR.or op_fdiv op_fdivW
  | mod => exact op_mod
  | pow => exact op_powW
  | shl => exact op_shl
  | shr => exact op_shr
  | band => exact op_and
  | bor => exact op_or
theorem op2_bin (o : Bop) : Op2 C (fun t u k => binT o t u fun z => k (.t z)) (rBop o) := by
  intro F H p σ env tm l K Q v1 v2 t u f1 f2 rel t1 t2 h k
  simp only [binT] at h
  split at h
  · rename_i i j
    have e1 := t1.dat
    have e2 := t2.dat
    simp only [RepD] at e1 e2
    subst e1; subst e2
    have fin : ∀ z : Int, K (.t (.d (.int z))) env → Q (.int z) H := fun z q => k.sc rel (x := .int z) (by simp only [RepD]) q
    cases o <;> simp only [binI] at h
    · exact .inl (.inl ⟨i, j, rfl, rfl, fin _ h⟩)
    · exact ⟨i, j, rfl, rfl, fin _ h⟩
    · obtain ⟨hm, h⟩ := h
      rcases hm with hm | hm | hm
      · exact .inl (.inl ⟨i, j, rfl, rfl, .inl (by simpa using hm), fin _ h⟩)
      · exact .inl (.inl ⟨i, j, rfl, rfl, .inr (by simpa using hm), fin _ h⟩)
      · exact .inl (.inr ⟨i, j, rfl, rfl, hm, fin _ h⟩)
    · obtain ⟨⟨h0, hm⟩, h⟩ := h
      rcases hm with hm | hm
      · exact .inl ⟨i, j, rfl, rfl, ⟨h0, hm⟩, fin _ h⟩
      · exact .inr ⟨i, j, rfl, rfl, ⟨h0, hm⟩, fin _ h⟩
    · exact ⟨i, j, rfl, rfl, h.1, fin _ h.2⟩
    · exact ⟨i, j, rfl, rfl, h.1, fin _ h.2⟩
    · exact ⟨i, j, rfl, rfl, h.1, fin _ h.2⟩
    · exact ⟨i, j, rfl, rfl, h.1, fin _ h.2⟩
    · exact ⟨i, j, rfl, rfl, fin _ h⟩
    · exact ⟨i, j, rfl, rfl, fin _ h⟩
  · rename_i x y
    have e1 := t1.dat
    have e2 := t2.dat
    simp only [RepD] at e1 e2
    subst e1; subst e2
    cases o <;> simp only at h
    exact .inl (.inr ⟨x, y, rfl, rfl, h.1, k.sc rel (x := .str (x ++ y)) (by simp only [RepD]) h.2⟩)
  · split at h
    · rename_i xs q
      obtain ⟨a, vs, rfl, ha, hd⟩ := t1.lst rel.sub q
      unfold binL at h
      split at h
      · split at h
        · rename_i ys q2
          obtain ⟨b, ws, rfl, hb, he⟩ := t2.lst rel.sub q2
          exact .inr ⟨a, b, vs, ws, rfl, rfl, ha, hb, by rw [hd.len, he.len]; exact h.1, k.lst rel (hd.app he) h.2⟩
        · exact h.elim
      · rename_i n _ _
        have e2 := t2.dat
        simp only [RepD] at e2
        subst e2
        exact .inr ⟨a, _, vs, rfl, rfl, ha, h.1, h.2.1, by rw [hd.len]; exact h.2.2.1, k.lst rel (hd.flat _) h.2.2.2⟩
      · exact h.elim
    · exact h.elim

/-! ### comparisons -/
def copOf : Cop → CmpOp
  | .eq => .Eq | .ne => .NotEq | .lt => .Lt | .le => .LtE | .gt => .Gt | .ge => .GtE | .is_ => .Is | .isnt => .IsNot | .in_ => .In | .nin => .NotIn
def rCop (K : PySem.W.Frag) : Cop → R2
  | .eq => fun x y H Q => rEq x y H Q ∨ rEqD K x y H Q
  | .ne => fun x y H Q => rNe x y H Q ∨ rNeD K x y H Q
  | .lt => rI0 fun i j => .bl (decide (i < j))
  | .le => rI0 fun i j => .bl (decide (i ≤ j))
  | .gt => rI0 fun i j => .bl (decide (j < i))
  | .ge => rI0 fun i j => .bl (decide (j ≤ i))
  | .is_ => fun x y H Q => y = .non ∧ Q (.bl (decide (x = .non))) H
  | .isnt => fun x y H Q => y = .non ∧ Q (.bl (!decide (x = .non))) H
  | .in_ => rInD K
  | .nin => rNotInD K
theorem op_cop {k : Nat} (hr : Room k X.A) (o : Cop) : OpR X (compareOp (copOf o)) (rCop X.K o) := by
  cases o with
  | eq => exact OpR.or op_eq (op_eqD hr.units)
  | ne => exact OpR.or op_ne (op_neD hr.units)
  | lt => exact op_lt
  | le => exact op_le
  | gt => exact op_gt
  | ge => exact op_ge
  | is_ => exact op_isN
  | isnt => exact op_notN
  | in_ => exact op_inD (by have := hr.un; omega)
  | nin => exact op_notInD (by have := hr.un; omega)
theorem RepD.non_iff {F : Hp} {x : D} {v : V} (h : RepD C F x v) : decide (v = .non) = isNonD x := by
  cases x <;> simp only [RepD] at h
  case non => subst h; simp [isNonD]
  all_goals (first | (subst h; simp [isNonD]; done) | (obtain ⟨a, h⟩ := h; obtain ⟨b, c, rfl, _⟩ := h; simp [isNonD]; done) | (obtain ⟨a, rfl, _⟩ := h; simp [isNonD]; done) | (obtain ⟨a, vs, rfl, _⟩ := h; simp [isNonD]; done))
theorem op2_cmp (K0 : PySem.W.Frag) (o : Cop) : Op2 C (fun t u k => cmpT o t u fun b => k (.t (.d (.bl b)))) (rCop K0 o) := by
  intro F H p σ env tm l K Q v1 v2 t u f1 f2 rel t1 t2 h k
  have d1 := t1.look rel.sub
  have d2 := t2.look rel.sub
  have fin : ∀ b : Bool, K (.t (.d (.bl b))) env → Q (.bl b) H := fun z q => k.sc rel (x := .bl z) (by simp only [RepD]) q
  unfold cmpT at h
  generalize t.erase = x at h d1
  generalize u.erase = y at h d2
  unfold cmpD at h
  split at h
  all_goals try (simp only [RepD] at d1 d2; subst d1; subst d2)
  · exact .inl ⟨rfl, by have := fin _ h; simpa using this⟩
  · exact .inl ⟨rfl, by have := fin _ h; simpa using this⟩
  · exact ⟨_, _, rfl, rfl, fin _ h⟩
  · exact ⟨_, _, rfl, rfl, fin _ h⟩
  · exact ⟨_, _, rfl, rfl, fin _ h⟩
  · exact ⟨_, _, rfl, rfl, fin _ h⟩
  · exact .inl ⟨rfl, by have := fin _ h; simpa using this⟩
  · exact .inl ⟨rfl, by have := fin _ h; simpa using this⟩
  · exact .inl ⟨rfl, by have := fin _ h; simpa using this⟩
  · exact .inl ⟨rfl, by have := fin _ h; simpa using this⟩
  · simp only [RepD] at d2; subst d2
    refine ⟨rfl, ?_⟩
    rw [d1.non_iff]
    exact fin _ h
  · simp only [RepD] at d2; subst d2
    refine ⟨rfl, ?_⟩
    rw [d1.non_iff]
    exact fin _ h
  · obtain ⟨d, e, q1, q2, s1, s2, h⟩ := h
    exact .inr ⟨d, e, d1.dp (Same.refl _) q1, d2.dp (Same.refl _) q2, s1, s2, fin _ h⟩
  · obtain ⟨d, e, q1, q2, s1, s2, h⟩ := h
    exact .inr ⟨d, e, d1.dp (Same.refl _) q1, d2.dp (Same.refl _) q2, s1, s2, fin _ h⟩
  · obtain ⟨d, es, q1, q2, s1, s2, h⟩ := h
    exact ⟨d, es, d1.dp (Same.refl _) q1, d2.dp (Same.refl _) (by simp only [toPy, q2]), s1, s2, fin _ h⟩
  · obtain ⟨d, es, q1, q2, s1, s2, h⟩ := h
    exact ⟨d, es, d1.dp (Same.refl _) q1, d2.dp (Same.refl _) (by simp only [toPy, q2]), s1, s2, fin _ h⟩
  · exact h.elim
end
end Z

namespace Z
open PySem L2

abbrev W := Env → (R → Env → Prop) → Prop
abbrev Ws := Env → (List R → Env → Prop) → Prop
abbrev WT := Env → (Bool → Env → Prop) → Prop
abbrev XP := Nat → D → Env → Prop

def T.isOwn : T → Bool
  | .d _ => false
  | _ => true
/-- which variables' own trees are handed to a call -/
def brw : List R → List T → List Nat
  | .pk i :: rs, t :: ts => if t.isOwn = true then i :: brw rs ts else brw rs ts
  | _ :: rs, _ :: ts => brw rs ts
  | _, _ => []
/-- what the call left of them -/
def back (env : Env) : List R → List T → List (Option T) → Env
  | .pk i :: rs, t :: ts, o :: os => if t.isOwn = true then (back env rs ts os).set i o else back env rs ts os
  | _ :: rs, _ :: ts, _ :: os => back env rs ts os
  | _, _, _ => env
def callR (sp : SpC) (x : XP) (rs : List R) (env : Env) (k : R → Env → Prop) : Prop :=
  match conts env rs with
  | some ts => (brw rs ts).Nodup ∧ sp ts (fun r outs => outs.length = ts.length ∧ k (.t r) (back env rs ts outs)) (fun c d outs => outs.length = ts.length ∧ x c d (back env rs ts outs))
  | none => False
mutual
/-- a datum to targets -/
def asgT : Tg → D → Env → (Env → Prop) → Prop
  | .nm i, d, env, k => k (env.set i (some (.d d)))
  | .tp ts, .tup ds, env, k => asgTs ts ds env k
  | .tp _, _, _, _ => False
def asgTs : List Tg → List D → Env → (Env → Prop) → Prop
  | [], [], env, k => k env
  | t :: ts, d :: ds, env, k => asgT t d env fun env1 => asgTs ts ds env1 k
  | _, _, _, _ => False
end
/-- a comprehension's own names while it runs, and behind it -/
def wipeE (env : Env) : List Nat → Env
  | [] => env
  | i :: is => (wipeE env is).set i none
def keptE (env : Env) (i : Nat) : Option T := match env[i]? with
  | some (some (.d x)) => some (.d x)
  | _ => none
def restE (old env : Env) : List Nat → Env
  | [] => env
  | i :: is => (restE old env is).set i (keptE old i)
def cutD {α : Type} (xs : List α) (lo hi : Option Int) : List α := (xs.drop (HT.sIx xs.length 0 lo)).take (HT.sIx xs.length xs.length hi - HT.sIx xs.length 0 lo)
/-- the turns of a comprehension -/
def lcL (tg : Tg) (own : List Nat) (cs : WT) (e : W) : List D → Env → List D → (List D → Env → Prop) → Prop
  | [], env, acc, k => k acc env
  | d :: ds, env, acc, k => asgT tg d env fun env1 => cs env1 fun b env2 => if b = true then e env2 fun r env3 => escR r env3 fun y env4 =>
      acc.length < sizeLine ∧ lcL tg own cs e ds (wipeE env4 own) (acc ++ [y]) k
    else lcL tg own cs e ds (wipeE env2 own) acc k
def truW (w : W) : WT := fun env k => w env fun r env1 => match cont env1 r with
  | some t => truT t fun b => k b env1
  | none => False
def noT : WT := fun _ _ => False
def seqW : List (W × WT) → Ws
  | [] => fun env k => k [] env
  | e :: es => fun env k => e.1 env fun r env1 => seqW es env1 fun rs env2 => k (r :: rs) env2
def optW : Option (W × WT) → Env → (Option Int → Env → Prop) → Prop
  | none => fun env k => k none env
  | some e => fun env k => e.1 env fun r env1 => match cont env1 r with
    | some (.d (.int i)) => k (some i) env1
    | _ => False
def andW : List (W × WT) → W
  | [] => fun _ _ => False
  | [e] => e.1
  | e :: e' :: es => fun env k => e.1 env fun r env1 => match cont env1 r with
    | some (.d (.bl c)) => if c = true then andW (e' :: es) env1 k else k (.t (.d (.bl false))) env1
    | _ => False
def orW : List (W × WT) → W
  | [] => fun _ _ => False
  | [e] => e.1
  | e :: e' :: es => fun env k => e.1 env fun r env1 => match cont env1 r with
    | some (.d (.bl c)) => if c = true then k (.t (.d (.bl true))) env1 else orW (e' :: es) env1 k
    | _ => False
def andT : List (W × WT) → WT
  | [] => noT
  | [e] => e.2
  | e :: e' :: es => fun env k => e.2 env fun c env1 => if c = true then andT (e' :: es) env1 k else k false env1
def orT : List (W × WT) → WT
  | [] => noT
  | [e] => e.2
  | e :: e' :: es => fun env k => e.2 env fun c env1 => if c = true then k true env1 else orT (e' :: es) env1 k
def csT : List (W × WT) → WT
  | [] => fun env k => k true env
  | [e] => e.2
  | _ => noT
def both (w : W) : W × WT := (w, truW w)
def chnW (o o' : Cop) (a b c : W) : W := fun env k => a env fun r1 env1 => b env1 fun r2 env2 => match cont env2 r1, cont env2 r2 with
    | some t, some u => cmpT o t u fun b => if b = true then c env2 fun r3 env3 => (match cont env3 r2, cont env3 r3 with
        | some u, some w => cmpT o' u w fun b' => k (.t (.d (.bl b'))) env3
        | _, _ => False) else k (.t (.d (.bl false))) env2
    | _, _ => False
def cmpW (o : Cop) (a b : W) : WT := fun env k => a env fun r1 env1 => b env1 fun r2 env2 => match cont env2 r1, cont env2 r2 with
    | some t, some u => cmpT o t u fun b => k b env2
    | _, _ => False
def chnT (o o' : Cop) (a b c : W) : WT := fun env k => a env fun r1 env1 => b env1 fun r2 env2 => match cont env2 r1, cont env2 r2 with
    | some t, some u => cmpT o t u fun b => if b = true then c env2 fun r3 env3 => (match cont env3 r2, cont env3 r3 with
        | some u, some w => cmpT o' u w fun b' => k b' env3
        | _, _ => False) else k false env2
    | _, _ => False
def notW (a : W) : W := fun env k => truW a env fun b env1 => k (.t (.d (.bl (!b)))) env1
def notTT (a : WT) : WT := fun env k => a env fun b env1 => k (!b) env1
def iteW (c : WT) (a b : W) : W := fun env k => c env fun t env1 => if t = true then a env1 k else b env1 k
def negW (a : W) : W := fun env k => a env fun r env1 => match cont env1 r with
    | some (.d (.int i)) => k (.t (.d (.int (-i)))) env1
    | _ => False
def slcW (a : W) (lo hi : Env → (Option Int → Env → Prop) → Prop) : W := fun env k => a env fun r env1 => lo env1 fun l env2 => hi env2 fun h env3 => match cont env3 r with
    | some t => (match lstT t with
      | some xs => k (.t (.l (cutD xs l h))) env3
      | none => (match t with
        | .d (.str s) => s.length ≤ sizeLine ∧ k (.t (.d (.str (cutS s l h)))) env3
        | _ => False))
    | none => False
def revW (a : W) : W := fun env k => a env fun r env1 => match cont env1 r with
    | some t => (match lstT t with
      | some xs => k (.t (.l xs.reverse)) env1
      | none => False)
    | none => False
def mthW (m : Mth) (i : Nat) (as : Ws) : W := fun env k => (match env[i]? with
    | some (some t) => (lstT t).isSome = true
    | _ => False) ∧ as env fun rs env1 => escRs rs env1 fun ds env2 => match env2[i]? with
    | some (some (.l xs)) => mthL m xs ds fun ys d => k (.t (.d d)) (env2.set i (some (.l ys)))
    | _ => False
def lcW (own : List Nat) (tg : Tg) (ik : IK) (src : Ws) (cs : WT) (e : W) : W := fun env k => src env fun rs env1 => escRs rs env1 fun ds env2 => itemsT ik (ds.map .d) fun its =>
      lcL tg own cs e its (wipeE env2 own) [] fun ys env3 => k (.t (.l ys)) (restE env2 env3 own)
def bltW (b : Blt) (as : Ws) : W := fun env k => as env fun rs env1 => match conts env1 rs with
    | some ts => bltT b ts fun t => k (.t t) env1
    | none => False
def lstW (as : Ws) : W := fun env k => as env fun rs env1 => escRs rs env1 fun ds env2 => ds.length ≤ sizeLine ∧ k (.t (.l ds)) env2
def tupW (as : Ws) : W := fun env k => as env fun rs env1 => escRs rs env1 fun ds env2 => ds.length ≤ sizeLine ∧ k (.t (.d (.tup ds))) env2
def varW (i : Nat) : W := fun env k => match env[i]? with
    | some (some _) => k (.pk i) env
    | _ => False
section
variable (S : Nat → SpC) (x : XP)
mutual
def rd : E → W × WT
  | .k d => both fun env k => k (.t (.d d)) env
  | .v i => both (varW i)
  | .bin o a b => both (w2 (rd a).1 (rd b).1 fun t u k => binT o t u fun z => k (.t z))
  | .neg a => both (negW (rd a).1)
  | .cmp o a b => (w2 (rd a).1 (rd b).1 fun t u k => cmpT o t u fun b => k (.t (.d (.bl b))), cmpW o (rd a).1 (rd b).1)
  | .chn o o' a b c => (chnW o o' (rd a).1 (rd b).1 (rd c).1, chnT o o' (rd a).1 (rd b).1 (rd c).1)
  | .band es => (andW (rdL es), andT (rdL es))
  | .bor es => (orW (rdL es), orT (rdL es))
  | .bnot a => (notW (rd a).1, notTT (rd a).2)
  | .ite c a b => (iteW (rd c).2 (rd a).1 (rd b).1, noT)
  | .lst es => (lstW (seqW (rdL es)), noT)
  | .tup es => (tupW (seqW (rdL es)), noT)
  | .sub a i => both (w2 (rd a).1 (rd i).1 fun t u k => subT t u fun d => k (.t (.d d)))
  | .slc a lo hi => both (slcW (rd a).1 (optW (rdO lo)) (optW (rdO hi)))
  | .rev a => both (revW (rd a).1)
  | .call f as => both fun env k => seqW (rdL as) env fun rs env1 => callR (S f) x rs env1 k
  | .callk f as => both fun env k => seqW (rdL as) env fun rs env1 => callR (S f) x rs env1 k
  | .blt b as => both (bltW b (seqW (rdL as)))
  | .mth m i as => both (mthW m i (seqW (rdL as)))
  | .lc own tg ik src cs e => (lcW own tg ik (seqW (rdL src)) (csT (rdL cs)) (rd e).1, noT)
def rdL : List E → List (W × WT)
  | [] => []
  | e :: es => rd e :: rdL es
def rdO : Option E → Option (W × WT)
  | none => none
  | some e => some (rd e)
end
end

/-! ### statements -/
def nestT : Option (Option T) → Option (List T)
  | some (some (.n ts)) => some ts
  | some (some (.l [])) => some []
  | _ => none
def revAll : List T → Option (List T)
  | [] => some []
  | .l xs :: r => (revAll r).map (T.l xs.reverse :: ·)
  | _ => none
structure Ends where
  nx : Env → Prop
  rt : R → Env → Prop
  bk : Env → Prop
  ct : Env → Prop
abbrev WS := Ends → Env → Prop
def whN (c : WT) (b : WS) (k : Ends) : Nat → Env → Prop
  | 0, _ => False
  | n + 1, env => c env fun t env1 => if t = true then b { k with nx := whN c b k n, ct := whN c b k n, bk := k.nx } env1 else k.nx env1
def forL (tg : Tg) (b : WS) (k : Ends) : List D → Env → Prop
  | [], env => k.nx env
  | d :: ds, env => asgT tg d env fun env1 => b { k with nx := forL tg b k ds, ct := forL tg b k ds, bk := k.nx } env1
def augI : Bop → Int → Int → (Int → Prop) → Prop
  | .add, a, b, k => k (a + b)
  | .sub, a, b, k => k (a - b)
  | _, _, _, _ => False
def setAll (env : Env) : List Nat → List T → Env
  | i :: is, t :: ts => setAll (env.set i (some t)) is ts
  | _, _ => env
section
variable (S : Nat → SpC) (x : XP)
mutual
def rdS : Sm → WS
  | .asg (.nm i) e => fun k env => (rd S x e).1 env fun r env1 => takR r env1 fun t env2 => k.nx (env2.set i (some t))
  | .asg (.tp ts) e => fun k env => (rd S x e).1 env fun r env1 => escR r env1 fun d env2 => asgT (.tp ts) d env2 k.nx
  | .par is es => fun k env => seqW (rdL S x es) env fun rs env1 => takRs rs env1 fun ts env2 => is.length = ts.length ∧ k.nx (setAll env2 is ts)
  | .set i ix e => fun k env => (rd S x e).1 env fun r env1 => (match env1[i]? with
    | some (some _) => True
    | _ => False) ∧ (rd S x ix).1 env1 fun r2 env2 => escRs [r, r2] env2 fun ds env3 => match ds, env3[i]? with
    | [d, .int j], some (some (.l xs)) => (match ixN xs.length j with
      | some n => k.nx (env3.set i (some (.l (xs.set n d))))
      | none => False)
    | _, _ => False
  | .aug i o e => fun k env => (match env[i]? with
    | some (some _) => True
    | _ => False) ∧ (rd S x e).1 env fun r env1 => match env1[i]?, cont env1 r with
    | some (some (.d (.int a))), some (.d (.int b)) => augI o a b fun z => k.nx (env1.set i (some (.d (.int z))))
    | _, _ => False
  | .ex e => fun k env => (rd S x e).1 env fun _ env1 => k.nx env1
  | .ret e => fun k env => (rd S x e).1 env fun r env1 => k.rt r env1
  | .ife c a b => fun k env => (rd S x c).2 env fun t env1 => if t = true then rdSs a k env1 else rdSs b k env1
  | .whl c b => fun k env => ∃ n, whN (rd S x c).2 (rdSs b) k n env
  | .for_ tg ik src b => fun k env => seqW (rdL S x src) env fun rs env1 => escRs rs env1 fun ds env2 => itemsT ik (ds.map .d) fun its => forL tg (rdSs b) k its env2
  | .brk => fun k env => k.bk env
  | .cnt => fun k env => k.ct env
  | .pas => fun k env => k.nx env
  | .nev => fun _ _ => False
  | .napp i e => fun k env => (nestT env[i]?).isSome = true ∧ (rd S x e).1 env fun r env1 => takR r env1 fun t env2 => match nestT env2[i]? with
    | some ts => ts.length < sizeLine ∧ k.nx (env2.set i (some (.n (ts ++ [t]))))
    | none => False
  | .nap i j l => fun k env => match nestT env[i]?, env[j]?, env[l]? with
    | some ts, some (some tj), some (some (.d (.int n))) => (match ts.getLast?, lstT tj with
      | some (.l xs), some ds => (match L2.atI ds n with
        | some d => xs.length < sizeLine ∧ k.nx (env.set i (some (.n (ts.dropLast ++ [.l (xs ++ [d])]))))
        | none => False)
      | _, _ => False)
    | _, _, _ => False
  | .nrev i j => fun k env => match nestT env[i]? with
    | some ts => (match revAll ts with
      | some us => j < env.length ∧ k.nx ((env.set i (some (.n us))).set j none)
      | none => False)
    | none => False
def rdSs : List Sm → WS
  | [] => fun k env => k.nx env
  | s :: ss => fun k env => rdS s { k with nx := rdSs ss k } env
end
end
end Z

namespace Z
open PySem L2 PySem.Spec PyProof.Rows

/-! ### syntax that is no star, no slice, no comprehension -/
def noStar : Expr → Bool
  | .Starred _ _ => false
  | _ => true
def noSlice : Expr → Bool
  | .Slice _ _ _ _ => false
  | _ => true
def noComp : Expr → Bool
  | .ListComp _ _ _ _ => false
  | .SetComp _ _ _ _ => false
  | .DictComp _ _ _ _ _ => false
  | _ => true
theorem star_cons {e : Expr} {es : List Expr} {env : PySem.Env} (h : noStar e = true) : starEach (e :: es) env = (false, eval e env) :: starEach es env := by
  cases e <;> first | rfl | simp [noStar] at h
theorem asgn_cons {e : Expr} {es : List Expr} {env : PySem.Env} (h : noStar e = true) : assignEach (e :: es) env = (false, assign e env) :: assignEach es env := by
  cases e <;> first | rfl | simp [noStar] at h
theorem star_any : ∀ {es : List Expr} {env : PySem.Env} {pos : Pos}, es.all noStar = true → (backTo pos (starEach es env)).any (·.1) = false
  | [], _, _, _ => rfl
  | e :: es, env, pos, h => by
    simp only [List.all_cons, Bool.and_eq_true] at h
    rw [star_cons h.1]
    have ih := star_any (env := env) (pos := pos) h.2
    unfold backTo at ih ⊢
    rw [List.map_cons, List.any_cons, ih]
    rfl
theorem star_all : ∀ {es : List Expr} {env : PySem.Env} {pos : Pos}, es.all noStar = true → (backTo pos (starEach es env)).all (fun x => !x.1) = true
  | [], _, _, _ => rfl
  | e :: es, env, pos, h => by
    simp only [List.all_cons, Bool.and_eq_true] at h
    rw [star_cons h.1]
    have ih := star_all (env := env) (pos := pos) h.2
    unfold backTo at ih ⊢
    rw [List.map_cons, List.all_cons, ih]
    rfl
theorem plainIx {b : Expr} (h : noSlice b = true) : PlainIx b := by
  intro o i
  cases b <;> first | rfl | simp [noSlice] at h
theorem swap_none {e : Expr} {t : Option Expr} {l : Nat} {env : PySem.Env} (h : noComp e = true) : swapsWith e t l env = pure false := by
  cases e <;> first | rfl | simp [noComp] at h

section
variable {X : Cx} {C : CT} {a b c : Expr} {wa wb wc : W} {ws : Ws} {es : List Expr} {pos : Pos}
theorem s_const {v : V} {x : D} {e : Expr} (h : PE X e (tC v)) (r : ∀ F, RepD C F x v) : PE X e (tS C fun env k => k (.t (.d x)) env) := by
  refine PE.imp h ?_
  rintro σ H Q ⟨F, env, tm, p, K, rel, h, hQ⟩
  exact hQ _ _ _ _ _ _ Evo.push0 (rel.pushD (r F)) h
theorem s_var {i : Nat} {e : Expr} (h : PE X e (tVar i)) : PE X e (tS C (varW i)) := by
  refine PE.imp h ?_
  rintro σ H Q ⟨F, env, tm, p, K, rel, h, hQ⟩
  unfold varW at h
  split at h
  · rename_i t e
    obtain ⟨v, e1, _⟩ := rel.slot i t e
    exact ⟨v, e1, hQ _ _ _ _ _ _ Evo.refl (rel.pushV e1) h⟩
  · exact h.elim
theorem s_bin (o : Bop) (ha : PE X a (tS C wa)) (hb : PE X b (tS C wb)) : PE X (.BinOp a (bopOf o) b pos) (tS C (w2 wa wb fun t u k => binT o t u fun z => k (.t z))) :=
  PE.imp (pe_op (op_bop o) ha hb) (op2 (op2_bin o))
theorem s_cmp {k : Nat} (hr : Room k X.A) (o : Cop) (ha : PE X a (tS C wa)) (hb : PE X b (tS C wb)) (hm : behindInMarks (copOf o) b = false) :
    PE X (.Compare a [copOf o] [b] pos) (tS C (w2 wa wb fun t u k => cmpT o t u fun b => k (.t (.d (.bl b))))) :=
  PE.imp (pe_cmpR (op_cop hr o) ha hb hm) (op2 (op2_cmp X.K o))
/-- from a value to a test -/
theorem tru_of {t : T} {v : V} {fp : List Addr} {F H : Hp} {K : Bool → Prop} (K0 : PySem.W.Frag) (s : Same F H) (r : RepT C F H t v fp) (h : truT t K) : ∃ k, TruV K0 v H k ∧ K k := by
  unfold truT at h
  split at h
  · have e := r.dat; simp only [RepD] at e; subst e
    exact ⟨false, rfl, h⟩
  · have e := r.dat; simp only [RepD] at e; subst e
    exact ⟨_, rfl, h⟩
  · have e := r.dat; simp only [RepD] at e; subst e
    exact ⟨_, rfl, h⟩
  · have e := r.dat; simp only [RepD] at e; subst e
    refine ⟨_, ⟨h.1, rfl⟩, ?_⟩
    have := h.2
    rename_i x
    have q : ((x.length : Int) != 0) = (x.length != 0) := by
      cases hx : x.length with
      | zero => rfl
      | succ n => simp [bne]; omega
    rw [q]; exact this
  · obtain ⟨a, vs, rfl, h1, h2⟩ := r.lst (xs := _) s rfl
    exact ⟨_, .inl ⟨vs, SqL.of h1, rfl⟩, by have := h2.len; rename_i xs; cases xs <;> cases vs <;> simp_all⟩
  · obtain ⟨a, vs, rfl, h1, h2⟩ := r.tup (xs := _) s rfl
    exact ⟨_, .inr (.inl ⟨vs, SqT.of h1, rfl⟩), by have := h2.len; rename_i xs; cases xs <;> cases vs <;> simp_all⟩
  · obtain ⟨a, vs, rfl, h1, h2⟩ := r.lst (xs := _) s rfl
    exact ⟨_, .inl ⟨vs, SqL.of h1, rfl⟩, by have := h2.len; rename_i xs; cases xs <;> cases vs <;> simp_all⟩
  · exact h.elim
theorem Evo.take {F H F' H' : Hp} {p p' : Ow} (e : Evo F H p F' H' p') : Evo F H p F' H' p' := e
theorem s_tru (ha : PE X a (tS C wa)) (he : ∀ whole, isTrue a X.env whole = (do let v ← whole; standAt a.pos; holding [v] (truthy v)) := by intro _; rfl) : PT X a (tST C (truW wa)) := by
  refine PT.imp (pt_truth ha he) ?_
  rintro σ H Q ⟨F, env, tm, p, K, rel, h, hQ⟩
  unfold truW at h
  refine tS.go rel h fun v r env1 F1 H1 p1 ev1 rel1 h1 => ?_
  split at h1
  · rename_i t c
    obtain ⟨f, t1⟩ := contents rel1 (k := tm.length) (v := v) (q := r) (by simp) c
    obtain ⟨b, h2, h3⟩ := tru_of X.K rel1.sub t1 h1
    exact ⟨b, h2, hQ _ _ _ _ _ ev1 rel1.take_app h3⟩
  · exact h1.elim
/-- a comparison as a test -/
theorem cmp_any (K0 : PySem.W.Frag) {F H : Hp} {t u : T} {v1 v2 : V} {f1 f2 : List Addr} {o : Cop} {P : Bool → Prop} (s : Same F H) (t1 : RepT C F H t v1 f1) (t2 : RepT C F H u v2 f2) (h : cmpT o t u P) {Q : VK} (fin : ∀ b, P b → Q (.bl b) H) :
    rCop K0 o v1 v2 H Q := by
  have d1 := t1.look s
  have d2 := t2.look s
  unfold cmpT at h
  generalize t.erase = x at h d1
  generalize u.erase = y at h d2
  unfold cmpD at h
  split at h
  all_goals try (simp only [RepD] at d1 d2; subst d1; subst d2)
  · exact .inl ⟨rfl, by have := fin _ h; simpa using this⟩
  · exact .inl ⟨rfl, by have := fin _ h; simpa using this⟩
  · exact ⟨_, _, rfl, rfl, fin _ h⟩
  · exact ⟨_, _, rfl, rfl, fin _ h⟩
  · exact ⟨_, _, rfl, rfl, fin _ h⟩
  · exact ⟨_, _, rfl, rfl, fin _ h⟩
  · exact .inl ⟨rfl, by have := fin _ h; simpa using this⟩
  · exact .inl ⟨rfl, by have := fin _ h; simpa using this⟩
  · exact .inl ⟨rfl, by have := fin _ h; simpa using this⟩
  · exact .inl ⟨rfl, by have := fin _ h; simpa using this⟩
  · simp only [RepD] at d2; subst d2
    refine ⟨rfl, ?_⟩
    rw [d1.non_iff]
    exact fin _ h
  · simp only [RepD] at d2; subst d2
    refine ⟨rfl, ?_⟩
    rw [d1.non_iff]
    exact fin _ h
  · obtain ⟨d, e, q1, q2, s1, s2, h⟩ := h
    exact .inr ⟨d, e, d1.dp (Same.refl _) q1, d2.dp (Same.refl _) q2, s1, s2, fin _ h⟩
  · obtain ⟨d, e, q1, q2, s1, s2, h⟩ := h
    exact .inr ⟨d, e, d1.dp (Same.refl _) q1, d2.dp (Same.refl _) q2, s1, s2, fin _ h⟩
  · obtain ⟨d, es, q1, q2, s1, s2, h⟩ := h
    exact ⟨d, es, d1.dp (Same.refl _) q1, d2.dp (Same.refl _) (by simp only [toPy, q2]), s1, s2, fin _ h⟩
  · obtain ⟨d, es, q1, q2, s1, s2, h⟩ := h
    exact ⟨d, es, d1.dp (Same.refl _) q1, d2.dp (Same.refl _) (by simp only [toPy, q2]), s1, s2, fin _ h⟩
  · exact h.elim
theorem s_cmpT {k : Nat} (hr : Room k X.A) (o : Cop) (ha : PE X a (tS C wa)) (hb : PE X b (tS C wb)) (hm : behindInMarks (copOf o) b = false) :
    PT X (.Compare a [copOf o] [b] pos) (tST C (cmpW o wa wb)) := by
  refine PT.imp (pt_cmpR (op_cop hr o) ha hb hm) ?_
  rintro σ H Q ⟨F, env, tm, p, K, rel, h, hQ⟩
  unfold cmpW at h
  refine tS.go rel h fun v1 r1 env1 F1 H1 p1 ev1 rel1 h1 => ?_
  refine tS.go rel1 h1 fun v2 r2 env2 F2 H2 p2 ev2 rel2 h2 => ?_
  split at h2
  · rename_i t u c1 c2
    obtain ⟨f1, t1⟩ := contents rel2 (k := tm.length) (v := v1) (q := r1) (by simp) c1
    obtain ⟨f2, t2⟩ := contents rel2 (k := tm.length + 1) (v := v2) (q := r2) (by simp) c2
    exact cmp_any X.K rel2.sub t1 t2 h2 fun b hb => ⟨b, rfl, hQ _ _ _ _ _ (ev1.trans ev2) rel2.take_app.take_app hb⟩
  · exact h2.elim
theorem chn_core {k : Nat} (hr : Room k X.A) (o o' : Cop) {Qv : VK} {P : Bool → Env → Prop} {σ : St} {H : Hp} {F : Hp} {env : Env} {tm : List (V × R)} {p : Ow} (rel : Rel C F H σ env tm p)
    (h : chnT o o' wa wb wc env P) (q : ∀ b env' F' H' p', Evo F H p F' H' p' → Rel C F' H' σ env' tm p' → P b env' → Qv (.bl b) H') : tChain (rCop X.K o) (rCop X.K o') (tS C wa) (tS C wb) (tS C wc) σ H Qv := by
  unfold chnT at h
  refine tS.go rel h fun v1 r1 env1 F1 H1 p1 ev1 rel1 h1 => ?_
  refine tS.go rel1 h1 fun v2 r2 env2 F2 H2 p2 ev2 rel2 h2 => ?_
  split at h2
  · rename_i t u c1 c2
    obtain ⟨f1, t1⟩ := contents rel2 (k := tm.length) (v := v1) (q := r1) (by simp) c1
    obtain ⟨f2, t2⟩ := contents rel2 (k := tm.length + 1) (v := v2) (q := r2) (by simp) c2
    refine cmp_any X.K rel2.sub t1 t2 h2 fun b hb => ⟨b, rfl, ?_⟩
    cases b with
    | false =>
      rw [if_neg Bool.false_ne_true] at hb ⊢
      exact q _ _ _ _ _ (ev1.trans ev2) rel2.take_app.take_app hb
    | true =>
      rw [if_pos rfl] at hb ⊢
      refine tS.go rel2 hb fun v3 r3 env3 F3 H3 p3 ev3 rel3 h3 => ?_
      split at h3
      · rename_i u' w c3 c4
        obtain ⟨f3, t3⟩ := contents rel3 (k := tm.length + 1) (v := v2) (q := r2) (by simp) c3
        obtain ⟨f4, t4⟩ := contents rel3 (k := tm.length + 2) (v := v3) (q := r3) (by simp) c4
        exact cmp_any X.K rel3.sub t3 t4 h3 fun b hb => q _ _ _ _ _ ((ev1.trans ev2).trans ev3) rel3.take_app.take_app.take_app hb
      · exact h3.elim
  · exact h2.elim
theorem s_chnT {k : Nat} (hr : Room k X.A) (o o' : Cop) (ha : PE X a (tS C wa)) (hb : PE X b (tS C wb)) (hc : PE X c (tS C wc)) (hm : lastMarks [copOf o, copOf o'] [b, c] = false) :
    PT X (.Compare a [copOf o, copOf o'] [b, c] pos) (tST C (chnT o o' wa wb wc)) := by
  refine PT.imp (pt_chain (op_cop hr o) (op_cop hr o') ha hb hc hm) ?_
  rintro σ H Q ⟨F, env, tm, p, K, rel, h, hQ⟩
  exact chn_core hr o o' rel h fun b env' F' H' p' ev rel' k => ⟨b, rfl, hQ _ _ _ _ _ ev rel' k⟩
theorem s_chn {k : Nat} (hr : Room k X.A) (o o' : Cop) (ha : PE X a (tS C wa)) (hb : PE X b (tS C wb)) (hc : PE X c (tS C wc)) (hm : lastMarks [copOf o, copOf o'] [b, c] = false) :
    PE X (.Compare a [copOf o, copOf o'] [b, c] pos) (tS C (chnW o o' wa wb wc)) := by
  refine PE.imp (pe_chain (op_cop hr o) (op_cop hr o') ha hb hc hm) ?_
  rintro σ H Q ⟨F, env, tm, p, K, rel, h, hQ⟩
  exact chn_core (P := fun b env => K (.t (.d (.bl b))) env) hr o o' rel h fun b env' F' H' p' ev rel' k => hQ _ _ _ _ _ _ (ev.trans Evo.push0) (rel'.pushD (x := .bl b) (by simp only [RepD])) k
theorem s_neg (ha : PE X a (tS C wa)) : PE X (.UnaryOp .USub a pos) (tS C (negW wa)) := by
  refine PE.imp (pe_un un_neg ha) ?_
  rintro σ H Q ⟨F, env, tm, p, K, rel, h, hQ⟩
  refine tS.go rel h fun v r env1 F1 H1 p1 ev1 rel1 h1 => ?_
  split at h1
  · rename_i i c
    obtain ⟨f, t1⟩ := contents rel1 (k := tm.length) (v := v) (q := r) (by simp) c
    have e := t1.dat; simp only [RepD] at e; subst e
    exact ⟨i, rfl, (Kont.on hQ ev1).sc rel1 (x := .int (-i)) (by simp only [RepD]) h1⟩
  · exact h1.elim
/-! ### and, or, not, if -/
variable {es' : List Expr} {e : Expr} {ks : List (W × WT)}
theorem s_not {wt : WT} (ha : PT X a (tST C wt)) : PT X (.UnaryOp .Not a pos) (tST C (notTT wt)) := by
  refine PT.imp (pt_not ha) ?_
  rintro σ H Q ⟨F, env, tm, p, K, rel, h, hQ⟩
  exact tST.go rel h fun b env' F' H' p' ev rel' k => hQ _ _ _ _ _ ev rel' k
theorem s_notV (ha : PE X a (tS C wa)) : PE X (.UnaryOp .Not a pos) (tS C (notW wa)) := by
  refine PE.imp (pe_notT ha) ?_
  rintro σ H Q ⟨F, env, tm, p, K, rel, h, hQ⟩
  unfold notW truW at h
  refine tS.go rel h fun v r env1 F1 H1 p1 ev1 rel1 h1 => ?_
  split at h1
  · rename_i t c
    obtain ⟨f, t1⟩ := contents rel1 (k := tm.length) (v := v) (q := r) (by simp) c
    obtain ⟨b, h2, h3⟩ := tru_of X.K rel1.sub t1 h1
    exact ⟨b, h2, (Kont.on hQ ev1).sc rel1 (x := .bl (!b)) (by simp only [RepD]) h3⟩
  · exact h1.elim
theorem s_ite {wt : WT} (hc : PT X c (tST C wt)) (ha : PE X a (tS C wa)) (hb : PE X b (tS C wb)) : PE X (.IfExp c a b pos) (tS C (iteW wt wa wb)) := by
  refine PE.imp (pe_ifExp hc ha hb) ?_
  rintro σ H Q ⟨F, env, tm, p, K, rel, h, hQ⟩
  refine tST.go rel h fun t env1 F1 H1 p1 ev1 rel1 h1 => ?_
  cases t with
  | true => rw [if_pos rfl] at h1 ⊢; exact ⟨F1, env1, tm, p1, K, rel1, h1, Kont.on hQ ev1⟩
  | false => rw [if_neg Bool.false_ne_true] at h1 ⊢; exact ⟨F1, env1, tm, p1, K, rel1, h1, Kont.on hQ ev1⟩
/-- a list of expressions, each of its own words -/
inductive All2 (X : Cx) (C : CT) : List Expr → List (W × WT) → Prop
  | nil : All2 X C [] []
  | cons {e : Expr} {es : List Expr} {w : W × WT} {ws : List (W × WT)} : PE X e (tS C w.1) → PT X e (tST C w.2) → noStar e = true → All2 X C es ws → All2 X C (e :: es) (w :: ws)
theorem s_and1 : ∀ {es : List Expr} {ks : List (W × WT)}, All2 X C es ks → PE X (.BoolOp .And es pos) (tS C (andW ks))
  | [], [], _ => ⟨fun _ _ _ _ _ _ ⟨_, _, _, _, _, _, h, _⟩ => h.elim⟩
  | [e], [k], h => by
    cases h with
    | cons h1 h2 h3 h4 => exact pe_one h1
  | e :: e' :: es, k :: k' :: ks, h => by
    cases h with
    | cons h1 h2 h3 h4 =>
      refine PE.imp (pe_and h1 (s_and1 h4)) ?_
      rintro σ H Q ⟨F, env, tm, p, K, rel, h, hQ⟩
      unfold andW at h
      refine tS.go rel h fun v r env1 F1 H1 p1 ev1 rel1 h1 => ?_
      split at h1
      · rename_i c q
        obtain ⟨f, t1⟩ := contents rel1 (k := tm.length) (v := v) (q := r) (by simp) q
        have e := t1.dat; simp only [RepD] at e; subst e
        refine ⟨c, rfl, ?_⟩
        cases c with
        | true => rw [if_pos rfl] at h1 ⊢; exact ⟨F1, env1, tm, p1, K, rel1.take_app, h1, Kont.on hQ ev1⟩
        | false => rw [if_neg Bool.false_ne_true] at h1 ⊢; exact (Kont.on hQ ev1).sc rel1 (x := .bl false) (by simp only [RepD]) h1
      · exact h1.elim
theorem s_or1 : ∀ {es : List Expr} {ks : List (W × WT)}, All2 X C es ks → PE X (.BoolOp .Or es pos) (tS C (orW ks))
  | [], [], _ => ⟨fun _ _ _ _ _ _ ⟨_, _, _, _, _, _, h, _⟩ => h.elim⟩
  | [e], [k], h => by
    cases h with
    | cons h1 h2 h3 h4 => exact pe_one h1
  | e :: e' :: es, k :: k' :: ks, h => by
    cases h with
    | cons h1 h2 h3 h4 =>
      refine PE.imp (pe_or h1 (s_or1 h4)) ?_
      rintro σ H Q ⟨F, env, tm, p, K, rel, h, hQ⟩
      unfold orW at h
      refine tS.go rel h fun v r env1 F1 H1 p1 ev1 rel1 h1 => ?_
      split at h1
      · rename_i c q
        obtain ⟨f, t1⟩ := contents rel1 (k := tm.length) (v := v) (q := r) (by simp) q
        have e := t1.dat; simp only [RepD] at e; subst e
        refine ⟨c, rfl, ?_⟩
        cases c with
        | false => rw [if_neg Bool.false_ne_true] at h1 ⊢; exact ⟨F1, env1, tm, p1, K, rel1.take_app, h1, Kont.on hQ ev1⟩
        | true => rw [if_pos rfl] at h1 ⊢; exact (Kont.on hQ ev1).sc rel1 (x := .bl true) (by simp only [RepD]) h1
      · exact h1.elim
theorem s_andT : ∀ {es : List Expr} {ks : List (W × WT)}, All2 X C es ks → PW X (.BoolOp .And es pos) (tST C (andT ks))
  | [], [], _ => ⟨fun _ _ _ _ _ _ _ ⟨_, _, _, _, _, _, h, _⟩ => h.elim⟩
  | [e], [k], h => by
    cases h with
    | cons h1 h2 h3 h4 => exact pw_and1 h2
  | e :: e' :: es, k :: k' :: ks, h => by
    cases h with
    | cons h1 h2 h3 h4 =>
      refine PW.imp (pw_and h2 (s_andT h4)) ?_
      rintro σ H Q ⟨F, env, tm, p, K, rel, h, hQ⟩
      unfold andT at h
      refine tST.go rel h fun c env1 F1 H1 p1 ev1 rel1 h1 => ?_
      cases c with
      | true => rw [if_pos rfl] at h1 ⊢; exact ⟨F1, env1, tm, p1, K, rel1, h1, fun b env' F' H' p' ev rel' k => hQ _ _ _ _ _ (ev1.trans ev) rel' k⟩
      | false => rw [if_neg Bool.false_ne_true] at h1 ⊢; exact hQ _ _ _ _ _ ev1 rel1 h1
theorem s_orT : ∀ {es : List Expr} {ks : List (W × WT)}, All2 X C es ks → PW X (.BoolOp .Or es pos) (tST C (orT ks))
  | [], [], _ => ⟨fun _ _ _ _ _ _ _ ⟨_, _, _, _, _, _, h, _⟩ => h.elim⟩
  | [e], [k], h => by
    cases h with
    | cons h1 h2 h3 h4 => exact pw_or1 h2
  | e :: e' :: es, k :: k' :: ks, h => by
    cases h with
    | cons h1 h2 h3 h4 =>
      refine PW.imp (pw_or h2 (s_orT h4)) ?_
      rintro σ H Q ⟨F, env, tm, p, K, rel, h, hQ⟩
      unfold orT at h
      refine tST.go rel h fun c env1 F1 H1 p1 ev1 rel1 h1 => ?_
      cases c with
      | false => rw [if_neg Bool.false_ne_true] at h1 ⊢; exact ⟨F1, env1, tm, p1, K, rel1, h1, fun b env' F' H' p' ev rel' k => hQ _ _ _ _ _ (ev1.trans ev) rel' k⟩
      | true => rw [if_pos rfl] at h1 ⊢; exact hQ _ _ _ _ _ ev1 rel1 h1
/-! ### argument lists, displays -/
theorem All2.stars {es : List Expr} {ks : List (W × WT)} (h : All2 X C es ks) : es.all noStar = true := by
  induction h with
  | nil => rfl
  | cons _ _ h _ ih => rw [List.all_cons, h, ih]; rfl
theorem s_args : ∀ {es : List Expr} {ks : List (W × WT)}, All2 X C es ks → PA X es (tSs C (seqW ks))
  | [], [], _ => PA.imp pa_nil (by
    rintro σ H Q ⟨F, env, tm, p, K, rel, h, hQ⟩
    exact hQ [] [] env F H p rfl Evo.refl (by simpa using rel) h)
  | e :: es, k :: ks, h => by
    cases h with
    | cons h1 h2 h3 h4 =>
      refine PA.imp (pa_cons h1 (s_args h4) (star_cons h3)) ?_
      rintro σ H Q ⟨F, env, tm, p, K, rel, h, hQ⟩
      unfold seqW at h
      refine tS.go rel h fun v r env1 F1 H1 p1 ev1 rel1 h1 => ?_
      refine tSs.go rel1 h1 fun vs rs env2 F2 H2 p2 hl ev2 rel2 h2 => ?_
      refine hQ (v :: vs) (r :: rs) env2 F2 H2 p2 (by simp [hl]) (ev1.trans ev2) ?_ h2
      rw [List.zip_cons_cons, List.append_cons]
      exact rel2
theorem s_lst (ha : PA X es (tSs C ws)) : PE X (.List es pos) (tS C (lstW ws)) := by
  refine PE.imp (pe_lst ha) ?_
  rintro σ H Q ⟨F, env, tm, p, K, rel, h, hQ⟩
  refine tSs.go rel h fun vs rs env1 F1 H1 p1 hl ev1 rel1 h1 => ?_
  obtain ⟨F2, env2, p2, ds, rel2, ev2, rd, hz, h2⟩ := escs hl rel1 h1
  refine ⟨by rw [rd.len]; exact hz, ?_⟩
  have rel2' : Rel C F2 H1 σ env2 (tm ++ []) p2 := by simpa using rel2
  exact (Kont.on hQ (ev1.trans ev2)).lst rel2' rd h2
theorem s_tup {x1} (ha : PA X es (tSs C ws)) : PE X (.Tuple es x1 pos) (tS C (tupW ws)) := by
  refine PE.imp (pe_tup ha) ?_
  rintro σ H Q ⟨F, env, tm, p, K, rel, h, hQ⟩
  refine tSs.go rel h fun vs rs env1 F1 H1 p1 hl ev1 rel1 h1 => ?_
  obtain ⟨F2, env2, p2, ds, rel2, ev2, rd, hz, h2⟩ := escs hl rel1 h1
  refine ⟨by rw [rd.len]; exact hz, ?_⟩
  have rel2' : Rel C F2 H1 σ env2 (tm ++ []) p2 := by simpa using rel2
  exact (Kont.on hQ (ev1.trans ev2)).tup rel2' rd h2
/-! ### items, slices -/
def rSubA (K : PySem.W.Frag) : R2 := fun x y H Q => (rIxL K x y H Q ∨ rIxT K x y H Q) ∨ rIxS x y H Q
theorem atI_map {α β : Type} (f : α → β) (xs : List α) (i : Int) : L2.atI (xs.map f) i = (L2.atI xs i).map f := by
  unfold L2.atI
  rw [List.length_map]
  cases ixN xs.length i with
  | none => rfl
  | some j => simp
theorem op2_sub : Op2 C (fun t u k => subT t u fun d => k (.t (.d d))) (rSubA C.K) := by
  intro F H p σ env tm l K Q v1 v2 t u f1 f2 rel t1 t2 h k
  unfold subT at h
  split at h
  · rename_i i
    have e2 := t2.dat; simp only [RepD] at e2; subst e2
    split at h
    · rename_i xs q
      obtain ⟨a, vs, rfl, ha, hd⟩ := t1.seq rel.sub q
      split at h
      · rename_i x q2
        obtain ⟨v, h1, h2⟩ := hd.atI q2
        have fin : Q v H := k.sc rel h2 h
        rcases ha with ha | ha
        · exact .inl (.inl ⟨a, vs, i, v, rfl, rfl, SqL.of ha, h1, fin⟩)
        · exact .inl (.inr ⟨a, vs, i, v, rfl, rfl, SqT.of ha, h1, fin⟩)
      · exact h.elim
    · split at h
      · rename_i s _
        have e1 := t1.dat; simp only [RepD] at e1; subst e1
        obtain ⟨hz, h⟩ := h
        split at h
        · rename_i c q2
          exact .inr ⟨s, i, c, rfl, rfl, hz, q2, k.sc rel (x := .str ⟨#[c]⟩) (by simp only [RepD]) h⟩
        · exact h.elim
      · rename_i ns _
        have e1 := t1.dat; simp only [RepD] at e1
        obtain ⟨a, rfl, ha⟩ := e1
        split at h
        · rename_i n q2
          refine .inl (.inl ⟨a, ns.map V.int, i, .int n, rfl, rfl, ?_, by rw [atI_map, q2]; rfl, k.sc rel (x := .int n) (by simp only [RepD]) h⟩)
          exact rel.sub.seq ha
        · exact h.elim
      · exact h.elim
  · exact h.elim
theorem s_sub (hK : X.K = C.K) (ha : PE X a (tS C wa)) (hb : PE X b (tS C wb)) (hs : noSlice b = true) : PE X (.Subscript a b pos) (tS C (w2 wa wb fun t u k => subT t u fun d => k (.t (.d d)))) :=
  PE.imp (pe_ix (IxR.or (IxR.or ix_list ix_tup) ix_str) ha hb (plainIx hs)) (by rw [hK]; exact op2 op2_sub)
/-- the part of a slice -/
inductive OptE (X : Cx) (C : CT) : Option Expr → Option (W × WT) → Prop
  | none : OptE X C none none
  | some {e : Expr} {w : W × WT} : PE X e (tS C w.1) → OptE X C (some e) (some w)
def tO (C : CT) (w : Env → (Option Int → Env → Prop) → Prop) : TO := fun σ H Q => ∃ (F : Hp) (env : Env) (tm : List (V × R)) (p : Ow) (K : Option Int → Env → Prop), Rel C F H σ env tm p ∧ w env K ∧
  ∀ o env' F' H' p', Evo F H p F' H' p' → Rel C F' H' σ env' tm p' → K o env' → Q o H'
theorem s_opt {eo : Option Expr} {wo : Option (W × WT)} (h : OptE X C eo wo) : PO X eo (tO C (optW wo)) := by
  cases h with
  | none =>
    refine ⟨fun pins s σ H Q I q => po_none.run pins s σ H Q I ?_⟩
    obtain ⟨F, env, tm, p, K, rel, h, hQ⟩ := q
    exact hQ _ _ _ _ _ Evo.refl rel h
  | some he =>
    refine ⟨fun pins s σ H Q I q => (po_some he).run pins s σ H Q I ?_⟩
    obtain ⟨F, env, tm, p, K, rel, h, hQ⟩ := q
    refine tS.go rel h fun v r env1 F1 H1 p1 ev1 rel1 h1 => ?_
    split at h1
    · rename_i i q
      obtain ⟨f, t1⟩ := contents rel1 (k := tm.length) (v := v) (q := r) (by simp) q
      have e := t1.dat; simp only [RepD] at e; subst e
      exact ⟨i, rfl, hQ _ _ _ _ _ ev1 rel1.take_app h1⟩
    · exact h1.elim
theorem s_slc {lo hi : Option Expr} {wl wh : Option (W × WT)} {p2 : Pos} (ha : PE X a (tS C wa)) (hl : OptE X C lo wl) (hh : OptE X C hi wh) : PE X (.Subscript a (.Slice lo hi none p2) pos) (tS C (slcW wa (optW wl) (optW wh))) := by
  refine PE.imp (pe_slice (SlR.or sl_list sl_str) ha (s_opt hl) (s_opt hh)) ?_
  rintro σ H Q ⟨F, env, tm, p, K, rel, h, hQ⟩
  unfold slcW at h
  refine tS.go rel h fun v r env1 F1 H1 p1 ev1 rel1 h1 => ?_
  refine ⟨F1, env1, _, p1, _, rel1, h1, fun l env2 F2 H2 p2 ev2 rel2 h2 => ?_⟩
  refine ⟨F2, env2, _, p2, _, rel2, h2, fun u env3 F3 H3 p3 ev3 rel3 h3 => ?_⟩
  have ev := (ev1.trans ev2).trans ev3
  split at h3
  · rename_i t q
    obtain ⟨f, t1⟩ := contents rel3 (k := tm.length) (v := v) (q := r) (by simp) q
    split at h3
    · rename_i xs q2
      obtain ⟨a, vs, rfl, ha, hd⟩ := t1.lst rel3.sub q2
      refine .inl ⟨a, vs, rfl, SqL.of ha, ?_⟩
      have : RepDs C F3 (cutD xs l u) (cutV vs l u) := by
        unfold cutD cutV
        rw [hd.len]
        exact (hd.drop _).take _
      exact (Kont.on hQ ev).lst rel3 this h3
    · split at h3
      · rename_i s _
        have e := t1.dat; simp only [RepD] at e; subst e
        exact .inr ⟨s, rfl, h3.1, (Kont.on hQ ev).sc rel3 (x := .str (cutS s l u)) (by simp only [RepD]) h3.2⟩
      · exact h3.elim
  · exact h3.elim
theorem s_rev {k : Nat} {p1 p2 p3 : Pos} (ha : PE X a (tS C wa)) : PE X (.Subscript a (.Slice none none (some (.UnaryOp .USub (.Constant (.int 1) k p1) p2)) p3) pos) (tS C (revW wa)) := by
  refine PE.imp (pe_revL ha) ?_
  rintro σ H Q ⟨F, env, tm, p, K, rel, h, hQ⟩
  refine tS.go rel h fun v r env1 F1 H1 p1 ev1 rel1 h1 => ?_
  split at h1
  · rename_i t q
    obtain ⟨f, t1⟩ := contents rel1 (k := tm.length) (v := v) (q := r) (by simp) q
    split at h1
    · rename_i xs q2
      obtain ⟨a, vs, rfl, ha, hd⟩ := t1.lst rel1.sub q2
      exact ⟨a, vs, rfl, SqL.of ha, (Kont.on hQ ev1).lst rel1 hd.rev h1⟩
    · exact h1.elim
  · exact h1.elim
end
end Z

/-! Defs whose promise holds where no repr is running (the arounds' guards are none). -/
namespace Z
open PySem L2 PySem.Spec PyProof.Rows

/-- the promise of a def, kept where no repr runs -/
structure FnG (P : Program) (w : World) (K : PySem.W.Frag) (mg : PySem.Str → Option Value) (base : Heap) (cx : CXT) (lev : Nat) (fa : Addr) (fdt : FuncData) (pars : List Str) (pm : Sp) : Prop where
  arity : ∀ vs H Q E, pm vs H Q E → vs.length = pars.length
  runs : ∀ (A : Around) (above : List PySem.Env) (sh : Shared) (H : Hp) (ar : Args) (raw : List Value) (vs : List V) (Q : VK) (E : XK), A.guards = some [] → Room lev A →
    Env0 P w K mg base A above sh H → BindsTo sh fdt ar (pars.zip raw) → Vals vs raw → pm vs H Q E → codeAny (model P w) A (.call (.ref fa) ar) (CR cx above P w H sh Q E) sh
theorem FnG.up {P : Program} {w : World} {K : PySem.W.Frag} {mg : PySem.Str → Option Value} {base : Heap} {cx : CXT} {i j : Nat} {fa : Addr} {fdt : FuncData} {pars : List Str} {pm : Sp}
    (g : FnG P w K mg base cx i fa fdt pars pm) (le : i ≤ j) : FnG P w K mg base cx j fa fdt pars pm :=
  ⟨g.arity, fun A above sh H ar raw vs Q E gd rm => g.runs A above sh H ar raw vs Q E gd (Room.mono rm le)⟩

section
variable {X : Cx} {cx : CXT} {lev : Nat} {fa : Addr} {fdt : FuncData} {pars ks : List Str} {pm : Sp} {E : XK} {nm : Str} {p pos : Pos} {es : List Expr} {kws : List Keyword} {ta tk : TA}
/-- a call's end, in the caller's words -/
def Aft (X : Cx) (pins : List (Addr × Obj)) (σ : St) (Q : VK) : Result → Shared → Prop
  | .ok (.ret u), s' => EP X pins σ Q u s'
  | .ok .next, _ => False
  | .ok .brk, _ => False
  | .ok .cont, _ => False
  | .error e, s' => X.xe e s'
theorem wpG {pins : List (Addr × Obj)} {σ : St} {H : Hp} {sh : Shared} {Q : VK} {us : List Value} {kw : List (PySem.Str × Value)} {raw : List Value} {vs : List V} (g : FnG X.prog X.w X.K X.mg X.base cx lev fa fdt pars pm) (gd : X.A.guards = some []) (rm : Room lev X.A) (hx : Passes cx X E)
    (I : Inv X pins σ H sh) (hb : BindsTo sh fdt ⟨us, kw⟩ (pars.zip raw)) (rv : Vals vs raw) (hp : pm vs H Q E) : wpAny (model X.prog X.w) X.A (call (.ref fa) us kw) (EP X pins σ Q) X.xe sh := by
  have z : codeAny (model X.prog X.w) X.A (.call (.ref fa) ⟨us, kw⟩) (Aft X pins σ Q) sh :=
    codeAny_mono (g.runs X.A X.stack sh H _ raw vs Q E gd rm (Inv.env0 I) hb rv hp) fun r s' q => by
      cases r with
      | error e => exact hx pins σ H sh e s' I q
      | ok fl => cases fl with
        | ret u => exact Inv.after I q
        | next => exact q
        | brk => exact q
        | cont => exact q
  refine wpAny_call (codeAny_mono z fun r s' q => ?_)
  cases r with
  | error e => exact q
  | ok fl => cases fl with
    | ret u => exact q
    | next => exact q.elim
    | brk => exact q.elim
    | cont => exact q.elim
theorem wpG1 {pins : List (Addr × Obj)} {σ : St} {Q : VK} {us : List Value} {s1 : Shared} {vs : List V} {H1 : Hp} (g : FnG X.prog X.w X.K X.mg X.base cx lev fa fdt pars pm) (gd : X.A.guards = some []) (rm : Room lev X.A) (bd : Binds X.K fdt pars []) (hx : Passes cx X E)
    (I1 : Inv X pins σ H1 s1) (rv : Vals vs us) (hp : pm vs H1 Q E) : wpAny (model X.prog X.w) X.A (call (.ref fa) us) (EP X pins σ Q) X.xe s1 := by
  have l1 : us.length = pars.length := by rw [← rv.length]; exact g.arity _ _ _ _ hp
  have b1 := bd s1 us I1.kIn (by simpa using l1)
  rw [List.append_nil] at b1
  exact wpG g gd rm hx I1 b1 rv hp
/-- f(e, ..) -/
theorem callG {e : Expr} (g : FnG X.prog X.w X.K X.mg X.base cx lev fa fdt pars pm) (gd : X.A.guards = some []) (rm : Room lev X.A) (gl : Gl X nm) (at_ : X.mg nm = some (.ref fa)) (kp : PySem.W.keepIn X.K (.ref fa) = true) (bd : Binds X.K fdt pars []) (hx : Passes cx X E)
    (ha : PA X (e :: es) ta) (st : (e :: es).all noStar = true) (nd : (nm == ("__debug__" : Str)) = false) : PE X (.Call (.Name nm p) (e :: es) [] pos) (fun σ H Q => ta σ H fun vs H1 => pm vs H1 Q E) := by
  refine ⟨fun pins sh σ H Q I h => wpAny_Call_Name_kw (ld_glob I gl at_ ?_ nd)⟩
  rw [List.all_cons, Bool.and_eq_true] at st
  refine PySem.W.callWith_K (h₀ := X.base) I.ok.mod.kin kp (thn (ha.run pos pins sh σ H _ I h) ?_) (star_cons st.1) (star_any st.2)
  rintro us s1 ⟨vs, H1, I1, rv, hp⟩
  exact ⟨I1.kIn, wpG1 g gd rm bd hx I1 rv hp⟩
theorem callG0 (g : FnG X.prog X.w X.K X.mg X.base cx lev fa fdt pars pm) (gd : X.A.guards = some []) (rm : Room lev X.A) (gl : Gl X nm) (at_ : X.mg nm = some (.ref fa)) (kp : PySem.W.keepIn X.K (.ref fa) = true) (bd : Binds X.K fdt pars []) (hx : Passes cx X E)
    (nd : (nm == ("__debug__" : Str)) = false) : PE X (.Call (.Name nm p) [] [] pos) (fun σ H Q => pm [] H Q E) := by
  refine ⟨fun pins sh σ H Q I h => wpAny_Call_Name_kw (ld_glob I gl at_ ?_ nd)⟩
  exact PySem.W.callWith_K0 I.kIn kp (wpG1 (us := []) g gd rm bd hx I .nil h)
/-- f(.., k = e, ..): n positional ones, then keywords; ks the names that these bind -/
theorem callGK {n m : Nat} {e : Expr} (g : FnG X.prog X.w X.K X.mg X.base cx lev fa fdt pars pm) (gd : X.A.guards = some []) (rm : Room lev X.A) (gl : Gl X nm) (at_ : X.mg nm = some (.ref fa)) (kp : PySem.W.keepIn X.K (.ref fa) = true)
    (bd : ∀ (s : Shared) (us ws : List Value), us.length = n → ws.length = m → BindsTo s fdt ⟨us, ks.zip ws⟩ (pars.zip (us ++ ws))) (hx : Passes cx X E) (ha : PA X (e :: es) ta) (hk : PK X kws tk) (st : (e :: es).all noStar = true) (nd : (nm == ("__debug__" : Str)) = false)
    (k1 : (backToKw pos (keywordEach kws X.env)).all (·.1.isSome) = true) (k2 : (backToKw pos (keywordEach kws X.env)).filterMap (·.1) = ks) (k3 : (backToKw pos (keywordEach kws X.env)).any (·.1.isNone) = false) :
    PE X (.Call (.Name nm p) (e :: es) kws pos) (fun σ H Q => ta σ H fun vs H1 => vs.length = n ∧ tk σ H1 fun zs H2 => zs.length = m ∧ pm (vs ++ zs) H2 Q E) := by
  refine ⟨fun pins sh σ H Q I h => wpAny_Call_Name_kw (ld_glob I gl at_ ?_ nd)⟩
  have st0 := st
  rw [List.all_cons, Bool.and_eq_true] at st
  refine PySem.W.callWith_KW (h₀ := X.base) I.ok.mod.kin kp k1 (thn (ha.run pos pins sh σ H _ I h) ?_) (by rw [star_any st0, k3]; rfl) (star_cons st.1)
  rintro us s1 ⟨vs, H1, I1, rv, hn, hp⟩
  refine thn (hk.run pos pins s1 σ H1 _ I1 hp) ?_
  rintro ws s2 ⟨zs, H2, I2, rz, hm, hp⟩
  refine ⟨I2.kIn, ?_⟩
  rw [k2]
  exact wpG g gd rm hx I2 (bd s2 us ws (by rw [← rv.length, hn]) (by rw [← rz.length, hm])) (rv.append rz) hp
theorem callGK0 {m : Nat} (g : FnG X.prog X.w X.K X.mg X.base cx lev fa fdt pars pm) (gd : X.A.guards = some []) (rm : Room lev X.A) (gl : Gl X nm) (at_ : X.mg nm = some (.ref fa)) (kp : PySem.W.keepIn X.K (.ref fa) = true)
    (bd : ∀ (s : Shared) (us ws : List Value), us.length = 0 → ws.length = m → BindsTo s fdt ⟨us, ks.zip ws⟩ (pars.zip (us ++ ws))) (hx : Passes cx X E) (hk : PK X kws tk) (nd : (nm == ("__debug__" : Str)) = false)
    (k1 : (backToKw pos (keywordEach kws X.env)).all (·.1.isSome) = true) (k2 : (backToKw pos (keywordEach kws X.env)).filterMap (·.1) = ks) (k3 : (backToKw pos (keywordEach kws X.env)).any (·.1.isNone) = false) :
    PE X (.Call (.Name nm p) [] kws pos) (fun σ H Q => tk σ H fun zs H2 => zs.length = m ∧ pm zs H2 Q E) := by
  refine ⟨fun pins sh σ H Q I h => wpAny_Call_Name_kw (ld_glob I gl at_ ?_ nd)⟩
  refine PySem.W.callWith_KW0 (h₀ := X.base) I.ok.mod.kin kp k1 (thn (hk.run pos pins sh σ H _ I h) ?_) (by rw [k3]; rfl)
  rintro ws s2 ⟨zs, H2, I2, rz, hm, hp⟩
  refine ⟨I2.kIn, ?_⟩
  rw [k2]
  exact wpG (us := []) g gd rm hx I2 (bd s2 [] ws rfl (by rw [← rz.length, hm])) rz hp
end

/-- a def by its body: one reading for each entry -/
theorem fnG_of {cx : CXT} {P : Program} {w : World} {K : PySem.W.Frag} {mg : PySem.Str → Option Value} {base : Heap} {lev : Nat} {x qual : Str} {st : Stmt} {fa : Addr} {fdt : FuncData} {N pars : List Str} {pm : Sp}
    (F : Fun K x qual st fa fdt) (sc : FnScope N pars (defScope st)) (ar : ∀ vs H Q E, pm vs H Q E → vs.length = pars.length)
    (body : ∀ (cdv : Value) (A : Around) (above : List PySem.Env) (sh : Shared) (H : Hp) (vs : List V) (Q : VK) (E : XK), A.guards = some [] → Room lev (A.deeper (envOfC qual (defScope st) sh.heap.objs.size fa cdv)) → pm vs H Q E →
      ∃ t, PSs (cxOf cx P w K mg base N qual (defScope st) fa cdv A above sh H E) (defBody st) t ∧ t { nx := fun _ H' => Q .non H', rt := Q } (start N vs) H) : FnG P w K mg base cx (lev + 1) fa fdt pars pm := by
  refine ⟨ar, fun A above sh H args raw vs Q E gd rm e0 hb rv hp => ?_⟩
  -- the layer's own rule, with a promise that holds at this one around alone
  obtain ⟨oc, od, kV, doc, pmv, an, cdv, ct, osl, rfl, lk, hcd⟩ := F.ex
  have len1 := ar _ _ _ _ hp
  have kin : K.In sh.heap := e0.mod.kin.keeps fun b o e => (e0.bs b o e).1
  have nol : sh.heap.NoLimit := e0.mod.nolimit.keeps fun b o e => (e0.bs b o e).1
  have kinds : ∀ y ∈ pars.zip raw, (defScope st).names.lookup y.1 = some .local ∨ ((defScope st).names.lookup y.1 = some .cell ∧ ((cellsFrom (sh.heap.objs.size + 1) (defScope st).names []).lookup y.1).isSome = true) := by
    rintro ⟨n, v⟩ hy
    refine (sc.par n (List.of_mem_zip hy).1).imp id fun q => ⟨q, ?_⟩
    exact PySem.W.cellsFrom_some _ _ _ (.inl q)
  refine codeAny_call_function (Room.depth rm) (kin _ _ lk) rfl sc.co sc.gen rfl (PySem.W.codeRec_of kin hcd) (hb _ _ _ _ ?_)
  refine wpAny_newFunctionEnv_cells sc.kind kinds ?_
  rintro env rfl s1 ic
  refine ⟨nol.keeps ic.toInCall.keep, codeAny_func ?_⟩
  obtain ⟨t, ht, hq⟩ := body cdv A above sh H vs Q E gd (Room.deeper rm _) hp
  refine wpAny_mono (ht.run [] s1 (start N vs) H _ (inv_start sc rm.hd e0 len1 rv ic) hq) ?_ fun e s' hs => hs
  intro fl s' hs
  match fl, hs with
  | .ret u, ⟨v, σ', H', J, rv', q⟩ => exact ⟨v, H', J.os, J.bare, J.base, J.hok, rv', q⟩
  | .next, ⟨σ', H', J, q⟩ => exact ⟨.non, H', J.os, J.bare, J.base, J.hok, rfl, q⟩
  | .brk, ⟨_, _, _, q⟩ => exact q.elim
  | .cont, ⟨_, _, _, q⟩ => exact q.elim
end Z

namespace Z
open PySem L2 PySem.Spec PyProof.Rows

section
variable {X : Cx} {C : CT}
/-- arguments and their trees -/
def Conts (C : CT) (F H : Hp) (ts : List T) (vs : List V) : Prop := ts.length = vs.length ∧ ∀ (i : Nat) t v, ts[i]? = some t → vs[i]? = some v → ∃ fp, RepT C F H t v fp
theorem Conts.one {F H : Hp} {t : T} {vs : List V} (h : Conts C F H [t] vs) : ∃ v fp, vs = [v] ∧ RepT C F H t v fp := by
  obtain ⟨l, h⟩ := h
  match vs, l with
  | [v], _ =>
    obtain ⟨fp, r⟩ := h 0 t v rfl rfl
    exact ⟨v, fp, rfl, r⟩
theorem Conts.two {F H : Hp} {t u : T} {vs : List V} (h : Conts C F H [t, u] vs) : ∃ v w f1 f2, vs = [v, w] ∧ RepT C F H t v f1 ∧ RepT C F H u w f2 := by
  obtain ⟨l, h⟩ := h
  match vs, l with
  | [v, w], _ =>
    obtain ⟨f1, r1⟩ := h 0 t v rfl rfl
    obtain ⟨f2, r2⟩ := h 1 u w rfl rfl
    exact ⟨v, w, f1, f2, rfl, r1, r2⟩
def OpN (C : CT) (o : List T → (T → Prop) → Prop) (r : List V → Hp → VK → Prop) : Prop := ∀ (F H : Hp) (p : Ow) (σ : St) (env : Env) (tm l : List (V × R)) (K : R → Env → Prop) (Q : VK) (vs : List V) (ts : List T),
  Rel C F H σ env (tm ++ l) p → Conts C F H ts vs → (o ts fun z => K (.t z) env) → Kont C σ tm F H p K Q → r vs H Q
theorem opN {ws : Ws} {b : Blt} {r : List V → Hp → VK → Prop} (ho : OpN C (bltT b) r) : ∀ σ H Q, tS C (bltW b ws) σ H Q → tCB r (tSs C ws) σ H Q := by
  rintro σ H Q ⟨F, env, tm, p, K, rel, h, hQ⟩
  refine tSs.go rel h fun vs rs env1 F1 H1 p1 hl ev1 rel1 h1 => ?_
  split at h1
  · rename_i ts c
    have cs := contentss hl rel1 c
    exact ho _ _ _ _ _ _ _ _ _ _ _ rel1 cs h1 (Kont.on hQ ev1)
  · exact h1.elim
/-- ints told as data -/
theorem seqL {F H : Hp} {t : T} {v : V} {fp : List Addr} {xs : List D} (s : Same F H) (h : RepT C F H t v fp) (e : lstT t = some xs) : ∃ a vs, v = .ref a ∧ SqL C.K H a vs ∧ RepDs C F xs vs :=
  let ⟨a, vs, e1, e2, e3⟩ := h.lst s e
  ⟨a, vs, e1, SqL.of e2, e3⟩

def rLenA (K : PySem.W.Frag) : List V → Hp → VK → Prop := fun xs H Q => ∃ x n, xs = [x] ∧ LenV K x H n ∧ Q (.int n) H
theorem opN_len : OpN C lenT (rLenA C.K) := by
  intro F H p σ env tm l K Q vs ts rel hc h k
  unfold lenT at h
  split at h <;> (try exact h.elim)
  rename_i t _
  obtain ⟨v, fp, rfl, r⟩ := hc.one
  split at h
  · rename_i xs q
    obtain ⟨a, ws, rfl, h1, h2⟩ := r.seq rel.sub q
    refine ⟨_, ws.length, rfl, ?_, ?_⟩
    · rcases h1 with h1 | h1
      · exact .inl ⟨ws, SqL.of h1, rfl⟩
      · exact .inr ⟨ws, SqT.of h1, rfl⟩
    · rw [h2.len]
      exact k.sc rel (x := .int xs.length) (by simp only [RepD]) h
  · split at h <;> (try exact h.elim)
    · have e := r.dat; simp only [RepD] at e; subst e
      exact ⟨_, _, rfl, ⟨h.1, rfl⟩, k.sc rel (x := .int _) (by simp only [RepD]) h.2⟩
    · rename_i ns _
      have e := r.dat; simp only [RepD] at e
      obtain ⟨a, rfl, h1⟩ := e
      exact ⟨_, ns.length, rfl, .inl ⟨_, rel.sub.seq h1, by simp⟩, k.sc rel (x := .int _) (by simp only [RepD]) h⟩
theorem ints_of {F H : Hp} {t : T} {v : V} {fp : List Addr} {ns : List Int} (s : Same F H) (r : RepT C F H t v fp) (e : intsT t = some ns) : ∃ a, v = .ref a ∧ H a = some (.lst (ns.map V.int)) := by
  unfold intsT at e
  split at e
  · rename_i xs q
    obtain ⟨a, ws, rfl, h1, h2⟩ := r.lst s q
    have z := h2.ints e
    subst z
    exact ⟨a, rfl, h1⟩
  · cases e
theorem bls_of {F H : Hp} {t : T} {v : V} {fp : List Addr} {ns : List Bool} (s : Same F H) (r : RepT C F H t v fp) (e : blsT t = some ns) : ∃ a, v = .ref a ∧ H a = some (.lst (ns.map V.bl)) := by
  unfold blsT at e
  split at e
  · rename_i xs q
    obtain ⟨a, ws, rfl, h1, h2⟩ := r.lst s q
    have z := h2.bls e
    subst z
    exact ⟨a, rfl, h1⟩
  · cases e
theorem opN_sum (K0 : PySem.W.Frag) : OpN C sumT (rSum K0) := by
  intro F H p σ env tm l K Q vs ts rel hc h k
  unfold sumT at h
  split at h <;> (try exact h.elim)
  obtain ⟨v, fp, rfl, r⟩ := hc.one
  split at h <;> (try exact h.elim)
  rename_i ns q
  obtain ⟨a, rfl, h1⟩ := ints_of rel.sub r q
  exact ⟨a, ns, rfl, SqL.of h1, k.sc rel (x := .int _) (by simp only [RepD]) h⟩
theorem opN_all (K0 : PySem.W.Frag) : OpN C all1T (rAll K0) := by
  intro F H p σ env tm l K Q vs ts rel hc h k
  unfold all1T at h
  split at h <;> (try exact h.elim)
  obtain ⟨v, fp, rfl, r⟩ := hc.one
  split at h <;> (try exact h.elim)
  rename_i ns q
  obtain ⟨a, rfl, h1⟩ := bls_of rel.sub r q
  exact ⟨a, ns, rfl, SqL.of h1, k.sc rel (x := .bl _) (by simp only [RepD]) h⟩
theorem opN_any (K0 : PySem.W.Frag) : OpN C any1T (rAny K0) := by
  intro F H p σ env tm l K Q vs ts rel hc h k
  unfold any1T at h
  split at h <;> (try exact h.elim)
  obtain ⟨v, fp, rfl, r⟩ := hc.one
  split at h <;> (try exact h.elim)
  rename_i ns q
  obtain ⟨a, rfl, h1⟩ := bls_of rel.sub r q
  exact ⟨a, ns, rfl, SqL.of h1, k.sc rel (x := .bl _) (by simp only [RepD]) h⟩
theorem opN_max1 (K0 : PySem.W.Frag) : OpN C max1T (rMax K0) := by
  intro F H p σ env tm l K Q vs ts rel hc h k
  unfold max1T at h
  split at h <;> (try exact h.elim)
  obtain ⟨v, fp, rfl, r⟩ := hc.one
  split at h <;> (try exact h.elim)
  rename_i ns q
  obtain ⟨a, rfl, h1⟩ := ints_of rel.sub r q
  refine ⟨a, ns, rfl, SqL.of h1, ?_, fun m h2 h3 => k.sc rel (x := .int _) (by simp only [RepD]) (h.2 m h2 h3)⟩
  cases ns with
  | nil => exact absurd rfl h.1
  | cons n ns => simp
theorem opN_min1 (K0 : PySem.W.Frag) : OpN C min1T (rMin K0) := by
  intro F H p σ env tm l K Q vs ts rel hc h k
  unfold min1T at h
  split at h <;> (try exact h.elim)
  obtain ⟨v, fp, rfl, r⟩ := hc.one
  split at h <;> (try exact h.elim)
  rename_i ns q
  obtain ⟨a, rfl, h1⟩ := ints_of rel.sub r q
  refine ⟨a, ns, rfl, SqL.of h1, ?_, fun m h2 h3 => k.sc rel (x := .int _) (by simp only [RepD]) (h.2 m h2 h3)⟩
  cases ns with
  | nil => exact absurd rfl h.1
  | cons n ns => simp
theorem dat_int {F H : Hp} {i : Int} {v : V} {fp : List Addr} (r : RepT C F H (.d (.int i)) v fp) : v = .int i := by
  have e := r.dat; simp only [RepD] at e; exact e
theorem opN_min2 : OpN C min2T (fun xs H Q => ∃ i j, xs = [.int i, .int j] ∧ Q (.int (if j < i then j else i)) H) := by
  intro F H p σ env tm l K Q vs ts rel hc h k
  unfold min2T at h
  split at h <;> (try exact h.elim)
  obtain ⟨v, w, f1, f2, rfl, r1, r2⟩ := hc.two
  rw [dat_int r1, dat_int r2]
  exact ⟨_, _, rfl, k.sc rel (x := .int _) (by simp only [RepD]) h⟩
theorem opN_max2 : OpN C max2T (fun xs H Q => ∃ i j, xs = [.int i, .int j] ∧ Q (.int (if j > i then j else i)) H) := by
  intro F H p σ env tm l K Q vs ts rel hc h k
  unfold max2T at h
  split at h <;> (try exact h.elim)
  obtain ⟨v, w, f1, f2, rfl, r1, r2⟩ := hc.two
  rw [dat_int r1, dat_int r2]
  exact ⟨_, _, rfl, k.sc rel (x := .int _) (by simp only [RepD]) h⟩
theorem opN_divmod : OpN C divmodT (fun xs H Q => ∃ i j, xs = [.int i, .int j] ∧ CDiv i j ∧ ∀ p, H p = none → Q (.ref p) (upd H p (.tup [.int (i / j), .int (i % j)]))) := by
  intro F H p σ env tm l K Q vs ts rel hc h k
  unfold divmodT at h
  split at h <;> (try exact h.elim)
  rename_i i j
  obtain ⟨v, w, f1, f2, rfl, r1, r2⟩ := hc.two
  rw [dat_int r1, dat_int r2]
  exact ⟨_, _, rfl, ⟨h.1, h.2.1⟩, k.tup rel (xs := [.int (i / j), .int (i % j)]) ⟨_, _, rfl, by simp only [RepD], _, _, rfl, by simp only [RepD], rfl⟩ h.2.2⟩
theorem opN_abs : OpN C absT (fun xs H Q => ∃ i, xs = [.int i] ∧ Q (.int (if i < 0 then -i else i)) H) := by
  intro F H p σ env tm l K Q vs ts rel hc h k
  unfold absT at h
  split at h <;> (try exact h.elim)
  obtain ⟨v, fp, rfl, r⟩ := hc.one
  rw [dat_int r]
  exact ⟨_, rfl, k.sc rel (x := .int _) (by simp only [RepD]) h⟩
theorem opN_int1 : OpN C int1T (fun xs H Q => (∃ i, xs = [.int i] ∧ Q (.int i) H) ∨ ∃ k, xs = [.bl k] ∧ Q (.int (if k then 1 else 0)) H) := by
  intro F H p σ env tm l K Q vs ts rel hc h k
  unfold int1T at h
  split at h <;> (try exact h.elim)
  · obtain ⟨v, fp, rfl, r⟩ := hc.one
    rw [dat_int r]
    exact .inl ⟨_, rfl, k.sc rel (x := .int _) (by simp only [RepD]) h⟩
  · obtain ⟨v, fp, rfl, r⟩ := hc.one
    have e := r.dat; simp only [RepD] at e; subst e
    exact .inr ⟨_, rfl, k.sc rel (x := .int _) (by simp only [RepD]) h⟩
theorem opN_list1 : OpN C list1T (fun xs H Q => ∃ p ys, xs = [.ref p] ∧ (SqL C.K H p ys ∨ SqT C.K H p ys) ∧ ∀ l, H l = none → Q (.ref l) (upd H l (.lst ys))) := by
  intro F H p σ env tm l K Q vs ts rel hc h k
  unfold list1T at h
  split at h <;> (try exact h.elim)
  obtain ⟨v, fp, rfl, r⟩ := hc.one
  split at h <;> (try exact h.elim)
  rename_i xs q
  obtain ⟨a, ws, rfl, h1, h2⟩ := r.seq rel.sub q
  exact ⟨a, ws, rfl, h1.imp SqL.of SqT.of, k.lst rel h2 h⟩
theorem opN_tuple1 : OpN C tuple1T (fun xs H Q => ∃ p ys, xs = [.ref p] ∧ ((SqL C.K H p ys ∧ ∀ l, H l = none → Q (.ref l) (upd H l (.tup ys))) ∨ (SqT C.K H p ys ∧ Q (.ref p) H))) := by
  intro F H p σ env tm l K Q vs ts rel hc h k
  unfold tuple1T at h
  split at h <;> (try exact h.elim)
  obtain ⟨v, fp, rfl, r⟩ := hc.one
  split at h <;> (try exact h.elim)
  rename_i xs q
  obtain ⟨a, ws, rfl, h1, h2⟩ := r.lst rel.sub q
  exact ⟨a, ws, rfl, .inl ⟨SqL.of h1, k.tup rel h2 h⟩⟩
theorem opN_str1 : OpN C str1T (fun xs H Q => ∃ i, xs = [.int i] ∧ i.natAbs.log2 < 1920 ∧ Q (.str (toString i)) H) := by
  intro F H p σ env tm l K Q vs ts rel hc h k
  unfold str1T at h
  split at h <;> (try exact h.elim)
  obtain ⟨v, fp, rfl, r⟩ := hc.one
  rw [dat_int r]
  exact ⟨_, rfl, h.1, k.sc rel (x := .str _) (by simp only [RepD]) h.2⟩
theorem Conts.three {F H : Hp} {t u w : T} {vs : List V} (h : Conts C F H [t, u, w] vs) : ∃ v1 v2 v3 f1 f2 f3, vs = [v1, v2, v3] ∧ RepT C F H t v1 f1 ∧ RepT C F H u v2 f2 ∧ RepT C F H w v3 f3 := by
  obtain ⟨l, h⟩ := h
  match vs, l with
  | [v, w', x], _ =>
    obtain ⟨f1, r1⟩ := h 0 t v rfl rfl
    obtain ⟨f2, r2⟩ := h 1 u w' rfl rfl
    obtain ⟨f3, r3⟩ := h 2 w x rfl rfl
    exact ⟨v, w', x, f1, f2, f3, rfl, r1, r2, r3⟩
theorem nuLt_int (i j : Int) : nuLt (.int i) (.int j) = some (decide (i < j)) := rfl
theorem nuMin2_int (i j : Int) : nuMin2 (.int i) (.int j) = some (.int (if j < i then j else i)) := by
  unfold nuMin2
  rw [nuLt_int]
  by_cases h : j < i <;> simp [h]
theorem opN_min3 : OpN C min3T (rNuC3 nuMin3) := by
  intro F H p σ env tm l K Q vs ts rel hc h k
  unfold min3T at h
  split at h <;> (try exact h.elim)
  obtain ⟨v1, v2, v3, f1, f2, f3, rfl, r1, r2, r3⟩ := hc.three
  rw [dat_int r1, dat_int r2, dat_int r3]
  rename_i i j z
  refine ⟨.int i, .int j, .int z, .int (if z < (if j < i then j else i) then z else (if j < i then j else i)), rfl, ?_, k.sc rel (x := .int (if z < (if j < i then j else i) then z else (if j < i then j else i))) (by simp only [RepD]) h⟩
  unfold nuMin3
  rw [nuMin2_int, Option.bind_some, nuMin2_int]
theorem RepDs.ofInts {F : Hp} : ∀ (ns : List Int), RepDs C F (ns.map D.int) (ns.map V.int)
  | [] => rfl
  | n :: ns => ⟨_, _, rfl, by simp only [RepD], RepDs.ofInts ns⟩
theorem opN_sorted (K0 : PySem.W.Frag) : OpN C sorted1T (rSorted K0) := by
  intro F H p σ env tm l K Q vs ts rel hc h k
  unfold sorted1T at h
  split at h <;> (try exact h.elim)
  obtain ⟨v, fp, rfl, r⟩ := hc.one
  split at h <;> (try exact h.elim)
  rename_i ns q
  obtain ⟨a, rfl, h1⟩ := ints_of rel.sub r q
  exact ⟨a, ns, rfl, SqL.of h1, h.1, fun ms p' h2 h3 hp => k.lst rel (RepDs.ofInts ms) (h.2 ms h2 h3) p' hp⟩
/-! ### repr -/
mutual
theorem noDict : ∀ {x : D} {d : PyData}, toPy x = some d → d.hasDict = false
  | .non, _, e => by simp only [toPy, Option.some.injEq] at e; subst e; rfl
  | .bl _, _, e => by simp only [toPy, Option.some.injEq] at e; subst e; rfl
  | .int _, _, e => by simp only [toPy, Option.some.injEq] at e; subst e; rfl
  | .str _, _, e => by simp only [toPy, Option.some.injEq] at e; subst e; rfl
  | .tup xs, _, e => by
    simp only [toPy] at e
    split at e
    · rename_i l q; cases e; simp only [PyData.hasDict]; exact noDicts q
    · cases e
  | .lst xs, _, e => by
    simp only [toPy] at e
    split at e
    · rename_i l q; cases e; simp only [PyData.hasDict]; exact noDicts q
    · cases e
  | .scr _, _, e => by simp [toPy] at e
  | .ins _ _ _, _, e => by simp [toPy] at e
  | .dK _ _, _, e => by simp [toPy] at e
  | .dT _ _, _, e => by simp [toPy] at e
  | .er _ _, _, e => by simp [toPy] at e
theorem noDicts : ∀ {xs : List D} {ds : List PyData}, toPys xs = some ds → PyData.hasDictAll ds = false
  | [], _, e => by simp only [toPys, Option.some.injEq] at e; subst e; rfl
  | x :: xs, _, e => by
    simp only [toPys] at e
    split at e
    · rename_i d l q1 q2
      cases e
      simp only [PyData.hasDictAll, noDict q1, noDicts q2]; rfl
    · cases e
end
def rReprA (K : PySem.W.Frag) : List V → Hp → VK → Prop := fun xs H Q => (∃ i, xs = [.int i] ∧ i.natAbs.log2 < 1920 ∧ Q (.str (toString i)) H) ∨
  ∃ (a : Addr) (d : PyData), xs = [.ref a] ∧ Dp K H (.ref a) d ∧ d.hasDict = false ∧ d.showable = true ∧ d.depth < 50 ∧ d.shown.length ≤ sizeLine ∧ Q (.str d.shown) H
theorem call_reprA {lev : Nat} (rm : Room lev X.A) (gd : X.A.guards = some []) : CallR X (.builtin "repr") (rReprA X.K) := by
  intro pins s σ H xs us Q I rv h
  rcases h with h | ⟨a, d, rfl, dp, nd, sh, dep, sz, q⟩
  · exact SkE.call_repr_int pins s σ H xs us Q I rv h
  · obtain ⟨u, rfl, ru⟩ := Vals.one rv
    obtain rfl : u = Value.ref a := ru
    obtain ⟨as, rd⟩ := Dp.reads I d _ _ dp rfl
    refine repr_of_reads' rd sh (fun z => by rw [nd] at z; cases z) gd (by have := rm.un; omega) (fun _ _ e => e) (fun h' u tk hk => ?_) sz
    exact ⟨.str d.shown, H, I.kept hk, ⟨_, rfl⟩, q⟩
theorem opN_repr : OpN C repr1T (rReprA C.K) := by
  intro F H p σ env tm l K Q vs ts rel hc h k
  unfold repr1T at h
  split at h <;> (try exact h.elim)
  · obtain ⟨v, fp, rfl, r⟩ := hc.one
    rw [dat_int r]
    exact .inl ⟨_, rfl, h.1, k.sc rel (x := .str _) (by simp only [RepD]) h.2⟩
  · obtain ⟨v, fp, rfl, r⟩ := hc.one
    obtain ⟨sq, d, e1, e2, e3, e4, e5⟩ := h
    obtain ⟨xs, q⟩ := Option.isSome_iff_exists.mp sq
    obtain ⟨a, ws, rfl, h1, h2⟩ := r.seq rel.sub q
    exact .inr ⟨a, d, rfl, (r.look rel.sub).dp (Same.refl _) e1, noDict e1, e2, e3, e4, k.sc rel (x := .str _) (by simp only [RepD]) e5⟩

/-! ### methods that write -/
theorem Rel.mut {F H : Hp} {σ : St} {env : Env} {tm : List (V × R)} {p : Ow} (r : Rel C F H σ env tm p) {i : Nat} {xs : List D} (h : env[i]? = some (some (.l xs))) :
    ∃ a vs, σ[i]? = some (some (.ref a)) ∧ H a = some (.lst vs) ∧ RepDs C F xs vs ∧
      ∀ ys ws, RepDs C F ys ws → Rel C F (upd H a (.lst ws)) σ (env.set i (some (.l ys))) tm p ∧ Evo F H p F (upd H a (.lst ws)) p := by
  obtain ⟨v, e1, e2⟩ := r.slot i _ h
  simp only [RepT] at e2
  obtain ⟨a, vs, rfl, e3, e4, e5, e6⟩ := e2
  have hi : i < env.length := by
    rcases Nat.lt_or_ge i env.length with q | q
    · exact q
    · rw [List.getElem?_eq_none q] at h; cases h
  have ap : a ∈ p (.inl i) := by rw [e3]; simp
  have out : ∀ x, x ≠ Sum.inl i → ∀ b ∈ p x, b ≠ a := fun x hx b hb z => hx (r.dis x (.inl i) b hb (by rw [z]; exact ap))
  refine ⟨a, vs, e1, e5, e6, fun ys ws hy => ⟨⟨fun b u e => ?_, fun j t e => ?_, fun k v t e => ?_, r.peek, r.dis, r.nod, fun x b hb => ?_, by rw [List.length_set]; exact r.len⟩, Same.refl _, fun b u e n => ?_, fun b hb => .inl hb, fun x b hb => .inr ⟨x, hb⟩⟩⟩
  · rw [upd_ne (fun z => by rw [z, e4] at e; cases e)]
    exact r.sub b u e
  · by_cases hj : j = i
    · subst hj
      rw [List.getElem?_set_self hi] at e
      cases e
      refine ⟨_, e1, ?_⟩
      simp only [RepT]
      exact ⟨a, ws, rfl, e3, e4, upd_same, hy⟩
    · rw [List.getElem?_set_ne (Ne.symm hj)] at e
      obtain ⟨w, q1, q2⟩ := r.slot j t e
      exact ⟨w, q1, q2.mono (Same.refl F) fun b hb => ⟨(r.own _ b hb).1, upd_ne (out _ (by simp [hj]) b hb)⟩⟩
  · exact (r.temp k v t e).mono (Same.refl F) fun b hb => ⟨(r.own _ b hb).1, upd_ne (out _ (by simp) b hb)⟩
  · refine ⟨(r.own x b hb).1, ?_⟩
    by_cases hba : b = a
    · subst hba; rw [upd_same]; simp
    · rw [upd_ne hba]; exact (r.own x b hb).2
  · rw [upd_ne (fun z => n _ (by rw [z]; exact ap))]; exact e
def rMth : Mth → V → List V → Hp → VK → Prop
  | .append => rAppend
  | .insert => fun x vs H Q => ∃ (l : Addr) (xs : List V) (i : Int) (y : V), x = .ref l ∧ vs = [.int i, y] ∧ H l = some (.lst xs) ∧ xs.length < sizeLine ∧ 0 ≤ i ∧ i < 2 ^ 63 ∧ Q .non (upd H l (.lst (xs.take i.toNat ++ [y] ++ xs.drop i.toNat)))
  | .pop0 => rPop
  | .pop1 => rPopAt
  | .reverse => rReverse
  | .clear => rClear
  | .extend => rExtend
def mthId : Mth → String
  | .append => "list.append" | .insert => "list.insert" | .pop0 => "list.pop" | .pop1 => "list.pop" | .reverse => "list.reverse" | .clear => "list.clear" | .extend => "list.extend"
def mthNm : Mth → PySem.Str
  | .append => "append" | .insert => "insert" | .pop0 => "pop" | .pop1 => "pop" | .reverse => "reverse" | .clear => "clear" | .extend => "extend"
theorem mth_rule (m : Mth) : MtR X (mthId m) (rMth m) := by
  cases m with
  | append => exact mt_append
  | insert => exact mt_insert
  | pop0 => exact mt_pop
  | pop1 => exact mt_popAt
  | reverse => exact mt_reverse
  | clear => exact mt_clear
  | extend => exact mt_extend
theorem mth_slot (m : Mth) : Slot "list" (mthNm m) (mthId m) := by
  cases m with
  | append => exact PySem.F.slot_list_append
  | insert => exact PySem.F.slot_list_insert
  | pop0 => exact PySem.F.slot_list_pop
  | pop1 => exact PySem.F.slot_list_pop
  | reverse => exact PySem.F.slot_list_reverse
  | clear => exact PySem.F.slot_list_clear
  | extend => exact PySem.F.slot_list_extend
theorem mth_type (m : Mth) : typeOf (.builtin (mthId m)) = pure (.type "method_descriptor") := by
  cases m with
  | append => exact PySem.F.type_list_append
  | insert => exact PySem.F.type_list_insert
  | pop0 => exact PySem.F.type_list_pop
  | pop1 => exact PySem.F.type_list_pop
  | reverse => exact PySem.F.type_list_reverse
  | clear => exact PySem.F.type_list_clear
  | extend => exact PySem.F.type_list_extend
theorem RepDs.er {F : Hp} : ∀ {xs : List D} {vs : List V} (j : Nat), RepDs C F xs vs → RepDs C F (xs.eraseIdx j) (vs.eraseIdx j)
  | [], _, j, h => by simp only [RepDs] at h; subst h; rfl
  | x :: xs, _, 0, h => by
    simp only [RepDs] at h
    obtain ⟨v, r, rfl, h1, h2⟩ := h
    exact h2
  | x :: xs, _, j + 1, h => by
    simp only [RepDs] at h
    obtain ⟨v, r, rfl, h1, h2⟩ := h
    exact ⟨v, _, rfl, h1, RepDs.er j h2⟩
theorem mth_read (m : Mth) {F H : Hp} {xs : List D} {vs : List V} {ds : List D} {as : List V} {a : Addr} {P : List D → D → Prop} {Q : VK} (s : Same F H) (ha : H a = some (.lst vs)) (hx : RepDs C F xs vs) (hd : RepDs C F ds as) (h : mthL m xs ds P)
    (q : ∀ ys ws d v, RepDs C F ys ws → RepD C F d v → P ys d → Q v (upd H a (.lst ws))) : rMth m (.ref a) as H Q := by
  unfold mthL at h
  split at h
  · obtain ⟨v, rfl, hv⟩ := hd.one'
    exact ⟨a, vs, v, rfl, rfl, ha, by rw [hx.len]; exact h.1, q _ _ .non _ (hx.app (RepDs.one hv)) (by simp only [RepD]) h.2⟩
  · rename_i i y
    simp only [RepDs] at hd
    obtain ⟨v, r, rfl, h1, w, r', rfl, h2, rfl⟩ := hd
    simp only [RepD] at h1; subst h1
    have e : sizeLine < 2 ^ 63 := by rw [sizeLine_eq]; decide
    refine ⟨a, vs, i, w, rfl, rfl, ha, by rw [hx.len]; exact h.1, h.2.1.1, by have := h.1; have := h.2.1.2; omega, q _ _ .non _ ?_ (by simp only [RepD]) h.2.2⟩
    rw [List.append_assoc]
    exact (hx.take _).app ⟨w, _, rfl, h2, hx.drop _⟩
  · simp only [RepDs] at hd; subst hd
    split at h
    · rename_i y e
      obtain ⟨v, e1, e2⟩ := hx.get e
      exact ⟨a, vs, v, rfl, rfl, ha, by rw [hx.len]; exact e1, q _ _ y _ hx.dropLast e2 h⟩
    · exact h.elim
  · rename_i i
    obtain ⟨v, rfl, hv⟩ := hd.one'
    simp only [RepD] at hv; subst hv
    obtain ⟨hz, h⟩ := h
    split at h
    · rename_i j e
      split at h
      · rename_i y e2
        obtain ⟨v, e3, e4⟩ := hx.get e2
        obtain ⟨f1, f2, f3, f4⟩ := ixN_seq e
        have e9 : sizeLine < 2 ^ 62 := by rw [sizeLine_eq]; decide
        exact ⟨a, vs, i, j, v, rfl, rfl, ha, by omega, by omega, by rw [hx.len]; exact f1, e3, q _ _ y _ (hx.er j) e4 h⟩
      · exact h.elim
    · exact h.elim
  · obtain ⟨v, rfl, hv⟩ := hd.one'
    simp only [RepD] at hv
    obtain ⟨b, zs, rfl, h1, h2⟩ := hv
    exact ⟨a, b, vs, zs, rfl, rfl, ha, s _ _ h1, by rw [hx.len, h2.len]; exact h.1, q _ _ .non _ (hx.app h2) (by simp only [RepD]) h.2⟩
  · simp only [RepDs] at hd; subst hd
    exact ⟨a, vs, rfl, rfl, ha, q _ _ .non _ hx.rev (by simp only [RepD]) h⟩
  · simp only [RepDs] at hd; subst hd
    exact ⟨a, vs, rfl, rfl, ha, q [] [] .non _ (by simp only [RepDs]) (by simp only [RepD]) h⟩
  · exact h.elim
theorem s_mth (m : Mth) {i : Nat} {x nm : PySem.Str} {p1 apos cpos : Pos} {e : Expr} {es : List Expr} {ws : Ws} (hv : PE X (.Name x p1) (tVar i)) (ha : PA X (e :: es) (tSs C ws)) (hn : nm = mthNm m) (st : (e :: es).all noStar = true)
    (hl : (apos.endLine == cpos.line) = true) (hf : (e :: es).length < 29) : PE X (.Call (.Attribute (.Name x p1) nm apos) (e :: es) [] cpos) (tS C (mthW m i ws)) := by
  subst hn
  have st0 := st
  rw [List.all_cons, Bool.and_eq_true] at st
  refine PE.imp (pe_bm PySem.F.plainAttrs_list (mth_slot m) (mth_type m) (mth_rule m) hv ha rfl ?_ hl (star_cons st.1) (star_any st.2)) ?_
  · rw [star_all st0]
    simp only [Bool.true_and]
    have : decide ((e :: es).length + ([] : List Keyword).length + (if ([] : List Keyword).isEmpty then 0 else 1) < 30) = true := decide_eq_true (by simp at hf ⊢; omega)
    rw [this]; rfl
  · rintro σ H Q ⟨F, env, tm, p, K, rel, h, hQ⟩
    unfold mthW at h
    obtain ⟨h0, h⟩ := h
    split at h0
    · rename_i t e0
      obtain ⟨v, e1, e2⟩ := rel.slot i t e0
      obtain ⟨xs, q⟩ := Option.isSome_iff_exists.mp h0
      obtain ⟨a, vs, rfl, h1, h2⟩ := e2.lst rel.sub q
      refine ⟨.ref a, e1, .inl ⟨rfl, _, SqL.of h1⟩, ?_⟩
      refine tSs.go (rel.pushV e1) h fun us rs env1 F1 H1 p1 hl ev1 rel1 h3 => ?_
      obtain ⟨F2, env2, p2, ds, rel2, ev2, rd, h4⟩ := escs hl rel1 h3
      split at h4
      · rename_i ys e5
        obtain ⟨b, ws2, e6, e7, e8, e9⟩ := rel2.mut e5
        rw [e1] at e6
        cases e6
        refine mth_read m rel2.sub e7 e8 rd h4 fun ys' ws' d v hy hd hP => ?_
        obtain ⟨rel3, ev3⟩ := e9 ys' ws' hy
        exact (Kont.on hQ ((ev1.trans ev2).trans ev3)).sc rel3 hd hP
      · exact h4.elim
    · exact h0.elim
theorem s_mth0 (m : Mth) {i : Nat} {x nm : PySem.Str} {p1 apos cpos : Pos} (hv : PE X (.Name x p1) (tVar i)) (hn : nm = mthNm m)
    (hl : (apos.endLine == cpos.line) = true) : PE X (.Call (.Attribute (.Name x p1) nm apos) [] [] cpos) (tS C (mthW m i (seqW []))) := by
  subst hn
  refine PE.imp (pe_bm0 PySem.F.plainAttrs_list (mth_slot m) (mth_type m) (mth_rule m) hv rfl hl) ?_
  rintro σ H Q ⟨F, env, tm, p, K, rel, h, hQ⟩
  unfold mthW at h
  obtain ⟨h0, h⟩ := h
  split at h0
  · rename_i t e0
    obtain ⟨v, e1, e2⟩ := rel.slot i t e0
    obtain ⟨xs, q⟩ := Option.isSome_iff_exists.mp h0
    obtain ⟨a, vs, rfl, h1, h2⟩ := e2.lst rel.sub q
    refine ⟨.ref a, e1, .inl ⟨rfl, _, SqL.of h1⟩, ?_⟩
    simp only [seqW, escRs] at h
    split at h
    · rename_i ys e5
      obtain ⟨b, ws2, e6, e7, e8, e9⟩ := rel.mut e5
      rw [e1] at e6
      cases e6
      refine mth_read m rel.sub e7 e8 (ds := []) (as := []) (by simp only [RepDs]) h fun ys' ws' d v hy hd hP => ?_
      obtain ⟨rel3, ev3⟩ := e9 ys' ws' hy
      have rel3' : Rel C F (upd H a (.lst ws')) σ (env.set i (some (.l ys'))) (tm ++ []) p := by simpa using rel3
      exact (Kont.on hQ ev3).sc rel3' hd hP
    · exact h.elim
  · exact h0.elim
end
end Z

namespace Z
open PySem L2 PySem.Spec PyProof.Rows

section
variable {C : CT} {F H F0 H0 F1 H1 F' H' : Hp} {p p0 p1 p' : Ow} {σ : St} {env : Env} {tm : List (V × R)}
/-! ### temps without peeks -/
def NoPk (tm : List (V × R)) : Prop := ∀ (k : Nat) v i, tm[k]? ≠ some (v, R.pk i)
def hush : V × R → V × R
  | (v, .pk _) => (v, .gone)
  | x => x
theorem noPk_hush (tm : List (V × R)) : NoPk (tm.map hush) := by
  intro k v i e
  rw [List.getElem?_map] at e
  cases q : tm[k]? with
  | none => rw [q] at e; cases e
  | some x =>
    rw [q] at e
    obtain ⟨w, r⟩ := x
    cases r <;> simp [hush] at e
theorem Rel.hush (r : Rel C F H σ env tm p) : Rel C F H σ env (tm.map Z.hush) p where
  sub := r.sub
  slot := r.slot
  temp := fun k v t e => by
    rw [List.getElem?_map] at e
    cases q : tm[k]? with
    | none => rw [q] at e; cases e
    | some x =>
      rw [q] at e
      obtain ⟨w, r'⟩ := x
      cases r' <;> simp [Z.hush] at e
      obtain ⟨rfl, rfl⟩ := e
      exact r.temp k _ _ q
  peek := fun k v i e => absurd e (noPk_hush tm k v i)
  dis := r.dis
  nod := r.nod
  own := r.own
  len := r.len
/-- the peeks told again -/
theorem Rel.unhush (r : Rel C F H σ env (tm.map Z.hush) p) (h : ∀ (k : Nat) v i, tm[k]? = some (v, R.pk i) → σ[i]? = some (some v)) : Rel C F H σ env tm p where
  sub := r.sub
  slot := r.slot
  temp := fun k v t e => r.temp k v t (by rw [List.getElem?_map, e]; rfl)
  peek := h
  dis := r.dis
  nod := r.nod
  own := r.own
  len := r.len
theorem noPk_nil : NoPk [] := fun k v i e => by simp at e
/-- a datum to a slot -/
theorem Rel.setD (r : Rel C F H σ env tm p) (n : NoPk tm) {d : D} {v : V} (h : RepD C F d v) (i : Nat) : Rel C F H (σ.set i (some v)) (env.set i (some (.d d))) tm (setp p (.inl i) []) where
  sub := r.sub
  slot := fun j t e => by
    by_cases hj : j = i
    · subst hj
      have hi : j < env.length := by
        rcases Nat.lt_or_ge j env.length with q | q
        · exact q
        · rw [List.getElem?_eq_none (by simpa using q)] at e; cases e
      rw [List.getElem?_set_self hi] at e
      cases e
      refine ⟨v, List.getElem?_set_self (by rw [← r.len]; exact hi), ?_⟩
      rw [setp_same]
      simp only [RepT]
      exact ⟨trivial, h⟩
    · rw [List.getElem?_set_ne (Ne.symm hj)] at e
      obtain ⟨w, q1, q2⟩ := r.slot j t e
      exact ⟨w, by rw [List.getElem?_set_ne (Ne.symm hj)]; exact q1, by rw [setp_ne (by simp [hj])]; exact q2⟩
  temp := fun k w t e => by rw [setp_ne (by simp)]; exact r.temp k w t e
  peek := fun k w j e => absurd e (n k w j)
  dis := fun x y a h1 h2 => by
    unfold setp at h1 h2
    split at h1 <;> split at h2 <;> first | (simp at h1; done) | (simp at h2; done) | exact r.dis x y a h1 h2
  nod := fun x => by
    unfold setp
    split
    · simp
    · exact r.nod x
  own := fun x a e => by
    unfold setp at e
    split at e
    · simp at e
    · exact r.own x a e
  len := by rw [List.length_set, List.length_set]; exact r.len
/-- a slot forgotten -/
theorem Rel.setN (r : Rel C F H σ env tm p) (n : NoPk tm) (i : Nat) (o : Option V) : Rel C F H (σ.set i o) (env.set i none) tm p where
  sub := r.sub
  slot := fun j t e => by
    by_cases hj : j = i
    · subst hj
      have hi : j < env.length := by
        rcases Nat.lt_or_ge j env.length with q | q
        · exact q
        · rw [List.getElem?_eq_none (by simpa using q)] at e; cases e
      rw [List.getElem?_set_self hi] at e
      cases e
    · rw [List.getElem?_set_ne (Ne.symm hj)] at e ⊢
      exact r.slot j t e
  temp := r.temp
  peek := fun k w j e => absurd e (n k w j)
  dis := r.dis
  nod := r.nod
  own := r.own
  len := by rw [List.length_set, List.length_set]; exact r.len
theorem Rel.wipe (r : Rel C F H σ env tm p) (n : NoPk tm) : ∀ own : List Nat, Rel C F H (L2.wipe σ own) (wipeE env own) tm p
  | [] => r
  | i :: is => by
    unfold L2.wipe wipeE
    exact (Rel.wipe r n is).setN n i none

/-! ### targets -/
mutual
def gT (K : PySem.W.Frag) : Tg → TG
  | .nm i => gName i
  | .tp ts => gTup K ts.length (gTs K ts)
def gTs (K : PySem.W.Frag) : List Tg → TGs
  | [] => gNil
  | t :: ts => gCons (gT K t) (gTs K ts)
end
mutual
/-- the slots of a target -/
def Tg.slots : Tg → List Nat
  | .nm i => [i]
  | .tp ts => Tg.slotss ts
def Tg.slotss : List Tg → List Nat
  | [] => []
  | t :: ts => t.slots ++ Tg.slotss ts
end
/-- slots out of A are as they were -/
def KpS (A : List Nat) (σ σ' : St) : Prop := σ'.length = σ.length ∧ ∀ j, j ∉ A → σ'[j]? = σ[j]?
theorem KpS.refl {A : List Nat} : KpS A σ σ := ⟨rfl, fun _ _ => rfl⟩
theorem KpS.trans {A : List Nat} {σ1 σ2 : St} (a : KpS A σ σ1) (b : KpS A σ1 σ2) : KpS A σ σ2 := ⟨b.1.trans a.1, fun j h => (b.2 j h).trans (a.2 j h)⟩
theorem KpS.set {A : List Nat} {i : Nat} {o : Option V} (h : i ∈ A) : KpS A σ (σ.set i o) := ⟨by simp, fun j hj => List.getElem?_set_ne fun e => hj (by rw [← e]; exact h)⟩
mutual
theorem asgT_ok {A : List Nat} {K0 : PySem.W.Frag} : ∀ {tg : Tg} {d : D} {v : V} {env : Env} {σ : St} {p : Ow} {K : Env → Prop} {Q : St → Hp → Prop}, Rel C F H σ env tm p → NoPk tm → RepD C F d v → (∀ i ∈ tg.slots, i ∈ A) → asgT tg d env K →
    (∀ σ' env' p', KpS A σ σ' → Evo F H p F H p' → Rel C F H σ' env' tm p' → K env' → Q σ' H) → gT K0 tg v σ H Q
  | .nm i, d, v, env, σ, p, K, Q, r, n, hd, hA, h, q => by
    simp only [asgT] at h
    simp only [gT, gName]
    exact q _ _ _ (KpS.set (hA i (by simp [Tg.slots]))) Evo.push0 (r.setD n hd i) h
  | .tp ts, d, v, env, σ, p, K, Q, r, n, hd, hA, h, q => by
    cases d with
    | tup ds =>
      simp only [asgT] at h
      simp only [RepD] at hd
      obtain ⟨a, vs, rfl, h1, h2⟩ := hd
      simp only [gT, gTup]
      have hl : ts.length = ds.length := asgTs_len h
      exact ⟨a, vs, rfl, SqT.of (r.sub _ _ h1), by rw [h2.len, hl], asgTs_ok r n h2 (fun i hi => hA i (by simpa [Tg.slots] using hi)) h q⟩
    | _ => simp [asgT] at h
theorem asgTs_ok {A : List Nat} {K0 : PySem.W.Frag} : ∀ {ts : List Tg} {ds : List D} {vs : List V} {env : Env} {σ : St} {p : Ow} {K : Env → Prop} {Q : St → Hp → Prop}, Rel C F H σ env tm p → NoPk tm → RepDs C F ds vs → (∀ i ∈ Tg.slotss ts, i ∈ A) → asgTs ts ds env K →
    (∀ σ' env' p', KpS A σ σ' → Evo F H p F H p' → Rel C F H σ' env' tm p' → K env' → Q σ' H) → gTs K0 ts vs σ H Q
  | [], [], vs, env, σ, p, K, Q, r, n, hd, hA, h, q => by
    simp only [RepDs] at hd; subst hd
    simp only [asgTs] at h
    simp only [gTs, gNil]
    exact ⟨trivial, q _ _ _ KpS.refl Evo.refl r h⟩
  | [], _ :: _, vs, env, σ, p, K, Q, r, n, hd, hA, h, q => by simp [asgTs] at h
  | _ :: _, [], vs, env, σ, p, K, Q, r, n, hd, hA, h, q => by simp [asgTs] at h
  | t :: ts, d :: ds, vs, env, σ, p, K, Q, r, n, hd, hA, h, q => by
    simp only [RepDs] at hd
    obtain ⟨v, rest, rfl, h1, h2⟩ := hd
    simp only [asgTs] at h
    simp only [gTs, gCons]
    refine ⟨v, rest, rfl, asgT_ok r n h1 (fun i hi => hA i (by simp [Tg.slotss, hi])) h fun σ1 env1 p1 kp1 ev1 r1 h1 => ?_⟩
    exact asgTs_ok r1 n h2 (fun i hi => hA i (by simp [Tg.slotss, hi])) h1 fun σ2 env2 p2 kp2 ev2 r2 k2 => q _ _ _ (kp1.trans kp2) (ev1.trans ev2) r2 k2
theorem asgTs_len : ∀ {ts : List Tg} {ds : List D} {env : Env} {K : Env → Prop}, asgTs ts ds env K → ts.length = ds.length
  | [], [], _, _, _ => rfl
  | [], _ :: _, _, _, h => by simp [asgTs] at h
  | _ :: _, [], _, _, h => by simp [asgTs] at h
  | t :: ts, d :: ds, env, K, h => by
    simp only [asgTs] at h
    obtain ⟨env1, h1⟩ := asgT_ex h
    simp [asgTs_len h1]
theorem asgT_ex : ∀ {t : Tg} {d : D} {env : Env} {K : Env → Prop}, asgT t d env K → ∃ env1, K env1
  | .nm i, d, env, K, h => ⟨_, h⟩
  | .tp ts, d, env, K, h => by
    cases d with
    | tup ds => simp only [asgT] at h; exact asgTs_ex h
    | _ => simp [asgT] at h
theorem asgTs_ex : ∀ {ts : List Tg} {ds : List D} {env : Env} {K : Env → Prop}, asgTs ts ds env K → ∃ env1, K env1
  | [], [], env, K, h => ⟨_, h⟩
  | [], _ :: _, _, _, h => by simp [asgTs] at h
  | _ :: _, [], _, _, h => by simp [asgTs] at h
  | t :: ts, d :: ds, env, K, h => by
    simp only [asgTs] at h
    obtain ⟨env1, h1⟩ := asgT_ex h
    exact asgTs_ex h1
end

/-! ### what is walked -/
structure Walk (C : CT) (J : It) (F0 : Hp) (its : List D) : Prop where
  go : ∀ (i : Nat) F H, Same F0 F → Same F H → i < its.length → J.go i H
  stop : ∀ (i : Nat) F H, Same F0 F → Same F H → its.length ≤ i → J.stop i H
  yld : ∀ (i : Nat) F H x H', Same F0 F → Same F H → i < its.length → J.yld i H x H' → ∃ d, its[i]? = some d ∧
    ((H' = H ∧ RepD C F d x) ∨ ∃ T o, H T = none ∧ H' = upd H T o ∧ RepD C (upd F T o) d x)
theorem walk_l {a : Addr} {vs : List V} {its : List D} (ha : F0 a = some (.lst vs)) (hd : RepDs C F0 its vs) : Walk C (Itl C.K a) F0 its where
  go := fun i F H s1 s2 hi => by
    have hv : i < vs.length := by rw [hd.len]; exact hi
    exact ⟨vs, vs[i], SqL.of (s2 _ _ (s1 _ _ ha)), by simp [hv]⟩
  stop := fun i F H s1 s2 hi => ⟨vs, SqL.of (s2 _ _ (s1 _ _ ha)), by rw [hd.len]; exact hi⟩
  yld := fun i F H x H' s1 s2 hi ⟨e, y⟩ => by
    have hx := y vs (SqL.of (s2 _ _ (s1 _ _ ha)))
    obtain ⟨v, h1, h2⟩ := hd.get (i := i) (x := its[i]) (by simp [hi])
    rw [hx] at h1; cases h1
    exact ⟨its[i], by simp [hi], .inl ⟨e, h2.mono s1⟩⟩
theorem walk_t {a : Addr} {vs : List V} {its : List D} (ha : F0 a = some (.tup vs)) (hd : RepDs C F0 its vs) : Walk C (Itt C.K a) F0 its where
  go := fun i F H s1 s2 hi => by
    have hv : i < vs.length := by rw [hd.len]; exact hi
    exact ⟨vs, vs[i], SqT.of (s2 _ _ (s1 _ _ ha)), by simp [hv]⟩
  stop := fun i F H s1 s2 hi => ⟨vs, SqT.of (s2 _ _ (s1 _ _ ha)), by rw [hd.len]; exact hi⟩
  yld := fun i F H x H' s1 s2 hi ⟨e, y⟩ => by
    have hx := y vs (SqT.of (s2 _ _ (s1 _ _ ha)))
    obtain ⟨v, h1, h2⟩ := hd.get (i := i) (x := its[i]) (by simp [hi])
    rw [hx] at h1; cases h1
    exact ⟨its[i], by simp [hi], .inl ⟨e, h2.mono s1⟩⟩
theorem walk_r (lo : Int) (n : Nat) : Walk C (Itr lo n) F0 ((List.range n).map fun (i : Nat) => D.int (lo + (i : Int))) where
  go := fun i F H s1 s2 hi => by
    have : i < n := by simpa using hi
    exact this
  stop := fun i F H s1 s2 hi => by
    have : n ≤ i := by simpa using hi
    exact this
  yld := fun i F H x H' s1 s2 hi ⟨e, y⟩ => by
    subst y
    have hi' : i < n := by simpa using hi
    exact ⟨.int (lo + i), by simp [hi'], .inl ⟨e, by simp only [RepD]⟩⟩
end

/-- what is walked, told over data -/
def tIt (C : CT) (ik : IK) (ws : Ws) : TI := fun σ H R => ∃ (F : Hp) (env : Env) (tm : List (V × Z.R)) (p : Ow) (K : List D → Env → Prop), Rel C F H σ env tm p ∧
  (ws env fun rs env1 => escRs rs env1 fun ds env2 => itemsT ik (ds.map .d) fun its => K its env2) ∧
  ∀ its env' F' H' p' J, Evo F H p F' H' p' → Rel C F' H' σ env' tm p' → Walk C J F' its → K its env' → R J H'
theorem PI.imp {X : Cx} {tg e : Expr} {t t' : TI} (h : PI X tg e t) (i : ∀ σ H R, t' σ H R → t σ H R) : PI X tg e t' := ⟨fun pins s σ H R I q => h.run pins s σ H R I (i σ H R q)⟩
/-- a list or a tuple -/
def iSq (K : PySem.W.Frag) (tl : TE) : TI := fun σ H R => tl σ H fun x H1 => ∃ a, x = .ref a ∧ ((∃ xs, SqL K H1 a xs ∧ R (Itl K a) H1) ∨ (∃ xs, SqT K H1 a xs ∧ R (Itt K a) H1))
theorem pi_sq {X : Cx} {tg l : Expr} {tl : TE} (hl : PE X l tl) : PI X tg l (iSq X.K tl) := by
  constructor
  intro pins s σ H R I h
  refine thn (hl.run pins s σ H _ I h) ?_
  rintro v s1 ⟨x, H1, I1, r1, a, rfl, h1⟩
  obtain rfl : v = Value.ref a := r1
  have new : ∀ {ob : Obj}, Inv X pins σ H1 { s1 with heap := s1.heap.push ob } := fun {ob} => I1.kept (t' := s1.toks) fun b o e => Heap.get?_push_of_some _ e
  have fre : H1 s1.heap.objs.size = none := I1.hok.fresh (Nat.le_refl _)
  have fp : ∀ b ∈ [s1.heap.objs.size], FpOk X pins H1 b := fun b hb => by
    rw [List.mem_singleton] at hb
    rw [hb]
    exact I1.fpOk (Nat.le_refl _) fre
  rcases h1 with ⟨xs, hq, q⟩ | ⟨xs, hq, q⟩
  · obtain ⟨its, rv, pl, _⟩ := I1.list hq
    refine wpAny_pyIter_list pl.isList ?_
    exact ⟨_, _, _, _, H1, rfl, new, turn_list a _, ⟨_, Heap.get?_push_size _ rfl, rfl, rfl⟩, fp, q⟩
  · obtain ⟨its, rv, pl, _⟩ := I1.tuple hq
    have tp : s1.heap.IsTuple a its.toArray := pl
    refine wpAny_pyIter_tuple tp ?_
    exact ⟨_, _, _, _, H1, rfl, new, turn_tuple a _, ⟨_, Heap.get?_push_size _ rfl, rfl, rfl⟩, fp, q⟩
section
variable {X : Cx} {C : CT} {tg l a b : Expr} {wa wb : W × WT} {p pos : Pos}
theorem it_seq (hK : X.K = C.K) (hl : PE X l (tS C wa.1)) : PI X tg l (tIt C .seq (seqW [wa])) := by
  refine PI.imp (pi_sq hl) ?_
  rintro σ H R ⟨F, env, tm, p, K, rel, h, hR⟩
  rw [hK]
  simp only [seqW] at h
  refine tS.go rel h fun v r env1 F1 H1 p1 ev1 rel1 h1 => ?_
  obtain ⟨F2, env2, p2, ds, rel2, ev2, rd, h2⟩ := escs (rs := [r]) (vs := [v]) rfl rel1 h1
  cases ds with
  | nil => simp [itemsT] at h2
  | cons d ds =>
    cases ds with
    | cons _ _ => simp [itemsT] at h2
    | nil =>
      obtain ⟨w, e, re⟩ := RepDs.one' rd
      have : w = v := by simpa using e.symm
      subst this
      simp only [List.map_cons, List.map_nil, itemsT] at h2
      split at h2
      · rename_i xs q
        have rt : RepT C F2 H1 (.d d) w [] := by simp only [RepT]; exact ⟨trivial, re⟩
        unfold seqT at q
        split at q
        · rename_i ys q2
          cases q
          cases d with
          | lst zs =>
            simp only [lstT, Option.some.injEq] at q2
            subst q2
            simp only [RepD] at re
            obtain ⟨a, vs, rfl, h3, h4⟩ := re
            exact ⟨a, rfl, .inl ⟨vs, SqL.of (rel2.sub _ _ h3), hR _ _ _ _ _ _ (ev1.trans ev2) rel2 (walk_l h3 h4) h2⟩⟩
          | _ => simp [lstT] at q2
        · cases d with
          | tup zs =>
            simp only [tupT, Option.some.injEq] at q
            subst q
            simp only [RepD] at re
            obtain ⟨a, vs, rfl, h3, h4⟩ := re
            exact ⟨a, rfl, .inr ⟨vs, SqT.of (rel2.sub _ _ h3), hR _ _ _ _ _ _ (ev1.trans ev2) rel2 (walk_t h3 h4) h2⟩⟩
          | _ => simp [tupT] at q
      · exact h2.elim
theorem it_rng1 (hg : Gl X "range") (hm : X.mg "range" = none) (ha : PA X [a] (tSs C (seqW [wa]))) (st : noStar a = true) : PI X tg (.Call (.Name "range" p) [a] [] pos) (tIt C .rng1 (seqW [wa])) := by
  refine PI.imp (pi_range1 hg hm ha (star_cons st)) ?_
  rintro σ H R ⟨F, env, tm, p, K, rel, h, hR⟩
  refine tSs.go rel h fun vs rs env1 F1 H1 p1 hl ev1 rel1 h1 => ?_
  obtain ⟨F2, env2, p2, ds, rel2, ev2, rd, h2⟩ := escs hl rel1 h1
  unfold itemsT at h2
  split at h2
  all_goals try (exact h2.elim)
  · rename_i e _; cases e
  · rename_i j _ e
    cases ds with
    | nil => cases e
    | cons d ds =>
      cases ds with
      | cons _ _ => cases e
      | nil =>
        simp only [List.map_cons, List.map_nil, List.cons.injEq, T.d.injEq, and_true] at e
        subst e
        obtain ⟨w, rfl, re⟩ := RepDs.one' rd
        simp only [RepD] at re
        subst re
        exact ⟨j, rfl, h2.1, h2.2.1, hR _ _ _ _ _ _ (ev1.trans ev2) rel2 (walk_r 0 _) h2.2.2⟩
  · rename_i e _; cases e
theorem it_rng2 (hg : Gl X "range") (hm : X.mg "range" = none) (ha : PA X [a, b] (tSs C (seqW [wa, wb]))) (st : noStar a = true) (st2 : noStar b = true) : PI X tg (.Call (.Name "range" p) [a, b] [] pos) (tIt C .rng2 (seqW [wa, wb])) := by
  refine PI.imp (pi_range2 hg hm ha (by rw [star_cons st, star_cons st2]; rfl) (star_cons st2)) ?_
  rintro σ H R ⟨F, env, tm, p, K, rel, h, hR⟩
  refine tSs.go rel h fun vs rs env1 F1 H1 p1 hl ev1 rel1 h1 => ?_
  obtain ⟨F2, env2, p2, ds, rel2, ev2, rd, h2⟩ := escs hl rel1 h1
  unfold itemsT at h2
  split at h2
  all_goals try (exact h2.elim)
  · rename_i e _; cases e
  · rename_i e _; cases e
  · rename_i i j _ e
    match ds, e with
    | [d1, d2], e =>
      simp only [List.map_cons, List.map_nil, List.cons.injEq, T.d.injEq, and_true] at e
      obtain ⟨rfl, rfl⟩ := e
      simp only [RepDs] at rd
      obtain ⟨v1, _, rfl, r1, v2, _, rfl, r2, rfl⟩ := rd
      simp only [RepD] at r1 r2
      subst r1; subst r2
      exact ⟨i, j, rfl, h2.1, hR _ _ _ _ _ _ (ev1.trans ev2) rel2 (walk_r i _) h2.2⟩
end
end Z

namespace Z
open PySem L2 PySem.Spec PyProof.Rows

section
variable {C : CT} {F H F0 H0 F1 H1 F' H' : Hp} {p p0 p1 p' : Ow} {σ : St} {env : Env} {tm : List (V × Z.R)}
theorem wipe_get : ∀ (A : List Nat) (σ : St) (j : Nat), (L2.wipe σ A)[j]? = if j ∈ A ∧ j < σ.length then some none else σ[j]?
  | [], σ, j => by simp [L2.wipe]
  | a :: A, σ, j => by
    have ih := wipe_get A σ j
    unfold L2.wipe
    by_cases h : a = j
    · subst h
      by_cases hl : a < σ.length
      · rw [List.getElem?_set_self (by rw [L2.wipe_length]; exact hl), if_pos ⟨by simp, hl⟩]
      · rw [List.getElem?_eq_none (by rw [List.length_set, L2.wipe_length]; omega), if_neg (fun z => hl z.2), List.getElem?_eq_none (by omega)]
    · rw [List.getElem?_set_ne h, ih]
      have : j ∈ a :: A ↔ j ∈ A := by simp [Ne.symm h]
      simp only [this]
theorem wipe_eq {A : List Nat} {σ σ2 : St} (h : KpS A (L2.wipe σ A) σ2) : L2.wipe σ2 A = L2.wipe σ A := by
  apply List.ext_getElem?
  intro j
  rw [wipe_get, wipe_get]
  have l : σ2.length = σ.length := h.1.trans (L2.wipe_length _ _)
  rw [l]
  by_cases hj : j ∈ A ∧ j < σ.length
  · rw [if_pos hj, if_pos hj]
  · rw [if_neg hj, if_neg hj]
    by_cases ha : j ∈ A
    · have : σ.length ≤ j := by
        rcases Nat.lt_or_ge j σ.length with q | q
        · exact absurd ⟨ha, q⟩ hj
        · exact q
      rw [List.getElem?_eq_none (by omega), List.getElem?_eq_none (by omega)]
    · rw [h.2 j ha, wipe_get, if_neg fun z => ha z.1]
theorem restE_len (old : Env) : ∀ (A : List Nat) (env : Env), (restE old env A).length = env.length
  | [], _ => rfl
  | a :: A, env => by unfold restE; rw [List.length_set, restE_len old A env]
theorem restE_get (old : Env) : ∀ (A : List Nat) (env : Env) (j : Nat), (restE old env A)[j]? = if j ∈ A ∧ j < env.length then some (keptE old j) else env[j]?
  | [], env, j => by simp [restE]
  | a :: A, env, j => by
    have ih := restE_get old A env j
    unfold restE
    by_cases h : a = j
    · subst h
      by_cases hl : a < env.length
      · rw [List.getElem?_set_self (by rw [restE_len]; exact hl), if_pos ⟨by simp, hl⟩]
      · rw [List.getElem?_eq_none (by rw [List.length_set, restE_len]; omega), if_neg (fun z => hl z.2), List.getElem?_eq_none (by omega)]
    · rw [List.getElem?_set_ne h, ih]
      have : j ∈ a :: A ↔ j ∈ A := by simp [Ne.symm h]
      simp only [this]
/-- behind a comprehension the own names hold again what they held -/
def ownOut (p : Ow) (A : List Nat) : Ow := fun k => match k with
  | .inl j => if j ∈ A then [] else p (.inl j)
  | k => p k
theorem Rel.rest {A : List Nat} {env2 : Env} {F2 H2 : Hp} {p2 : Ow} {tm2 : List (V × Z.R)} (n : NoPk tm) (r2 : Rel C F2 H2 σ env2 tm2 p2) (s : Same F2 F) (r : Rel C F H (L2.wipe σ A) env tm p) : Rel C F H σ (restE env2 env A) tm (ownOut p A) where
  sub := r.sub
  slot := fun j t e => by
    rw [restE_get] at e
    by_cases hj : j ∈ A ∧ j < env.length
    · rw [if_pos hj] at e
      unfold keptE at e
      split at e
      · rename_i x q
        cases e
        obtain ⟨v, e1, e2⟩ := r2.slot j _ q
        refine ⟨v, e1, ?_⟩
        simp only [ownOut, if_pos hj.1, RepT]
        exact ⟨trivial, (e2.dat).mono s⟩
      · cases e
    · rw [if_neg hj] at e
      obtain ⟨v, e1, e2⟩ := r.slot j t e
      rw [wipe_get] at e1
      by_cases ha : j ∈ A
      · have hl : env.length ≤ j := by
          rcases Nat.lt_or_ge j env.length with q | q
          · exact absurd ⟨ha, q⟩ hj
          · exact q
        rw [List.getElem?_eq_none hl] at e; cases e
      · rw [if_neg fun z => ha z.1] at e1
        exact ⟨v, e1, by simp only [ownOut, if_neg ha]; exact e2⟩
  temp := fun k v t e => by
    simp only [ownOut]
    exact r.temp k v t e
  peek := fun k v i e => absurd e (n k v i)
  dis := fun x y a h1 h2 => by
    have f : ∀ x a, a ∈ ownOut p A x → a ∈ p x := fun x a h => by
      unfold ownOut at h
      split at h
      · split at h
        · simp at h
        · exact h
      · exact h
    exact r.dis x y a (f x a h1) (f y a h2)
  nod := fun x => by
    unfold ownOut
    split
    · split
      · simp
      · exact r.nod _
    · exact r.nod _
  own := fun x a h => by
    unfold ownOut at h
    split at h
    · split at h
      · simp at h
      · exact r.own _ a h
    · exact r.own _ a h
  len := by
    rw [restE_len, r.len, L2.wipe_length]
theorem Evo.ownOut {A : List Nat} (e : Evo F H p F' H' p') : Evo F H p F' H' (Z.ownOut p' A) := e.sub fun x b h => by
  unfold Z.ownOut at h
  split at h
  · split at h
    · simp at h
    · exact ⟨_, h⟩
  · exact ⟨_, h⟩
theorem Rel.mutTemp (r : Rel C F H σ env tm p) {k : Nat} {a : Addr} {xs : List D} (h : tm[k]? = some (.ref a, .t (.l xs))) :
    ∃ vs, H a = some (.lst vs) ∧ RepDs C F xs vs ∧ ∀ ys ws, RepDs C F ys ws → Rel C F (upd H a (.lst ws)) σ env (tm.set k (.ref a, .t (.l ys))) p ∧ Evo F H p F (upd H a (.lst ws)) p := by
  have e2 := r.temp k _ _ h
  simp only [RepT] at e2
  obtain ⟨b, vs, eb, e3, e4, e5, e6⟩ := e2
  cases eb
  have hk : k < tm.length := by
    rcases Nat.lt_or_ge k tm.length with q | q
    · exact q
    · rw [List.getElem?_eq_none q] at h; cases h
  have ap : a ∈ p (.inr k) := by rw [e3]; simp
  have out : ∀ x, x ≠ Sum.inr k → ∀ b ∈ p x, b ≠ a := fun x hx b hb z => hx (r.dis x (.inr k) b hb (by rw [z]; exact ap))
  refine ⟨vs, e5, e6, fun ys ws hy => ⟨⟨fun b u e => ?_, fun j t e => ?_, fun j v t e => ?_, fun j v i e => ?_, r.dis, r.nod, fun x b hb => ?_, r.len⟩, Same.refl _, fun b u e n => ?_, fun b hb => .inl hb, fun x b hb => .inr ⟨x, hb⟩⟩⟩
  · rw [upd_ne (fun z => by rw [z, e4] at e; cases e)]
    exact r.sub b u e
  · obtain ⟨w, q1, q2⟩ := r.slot j t e
    exact ⟨w, q1, q2.mono (Same.refl F) fun b hb => ⟨(r.own _ b hb).1, upd_ne (out _ (by simp) b hb)⟩⟩
  · by_cases hj : j = k
    · subst hj
      rw [List.getElem?_set_self hk] at e
      cases e
      simp only [RepT]
      exact ⟨a, ws, rfl, e3, e4, upd_same, hy⟩
    · rw [List.getElem?_set_ne (Ne.symm hj)] at e
      exact (r.temp j v t e).mono (Same.refl F) fun b hb => ⟨(r.own _ b hb).1, upd_ne (out _ (by simp [hj]) b hb)⟩
  · by_cases hj : j = k
    · subst hj
      rw [List.getElem?_set_self hk] at e
      cases e
    · rw [List.getElem?_set_ne (Ne.symm hj)] at e
      exact r.peek j v i e
  · refine ⟨(r.own x b hb).1, ?_⟩
    by_cases hba : b = a
    · subst hba; rw [upd_same]; simp
    · rw [upd_ne hba]; exact (r.own x b hb).2
  · rw [upd_ne (fun z => n _ (by rw [z]; exact ap))]; exact e
/-- an item that is walked: perhaps a new tuple -/
theorem Rel.item (r : Rel C F H σ env tm p) {x : V} {d : D} {H' : Hp} (h : (H' = H ∧ RepD C F d x) ∨ ∃ T o, H T = none ∧ H' = upd H T o ∧ RepD C (upd F T o) d x) :
    ∃ F', Rel C F' H' σ env tm p ∧ Evo F H p F' H' p ∧ RepD C F' d x := by
  rcases h with ⟨rfl, h⟩ | ⟨T, o, hT, rfl, h⟩
  · exact ⟨F, r, Evo.refl, h⟩
  · have fa := (r.fresh T hT).2
    have s : Same F (upd F T o) := fun b u e => by rw [upd_ne (ne_of_none e fa)]; exact e
    refine ⟨upd F T o, (r.alloc (o := o) hT).grow s (fun b u e => ?_) fun x b hb => ?_, ⟨s, fun b u e n => ?_, fun b hb => ?_, fun x b hb => .inr ⟨x, hb⟩⟩, h⟩
    · by_cases hb : b = T
      · subst hb; rw [upd_same] at e ⊢; exact e
      · rw [upd_ne hb] at e ⊢; exact r.sub b u e
    · have ne : b ≠ T := fun z => (r.own x b hb).2 (by rw [z]; exact hT)
      rw [upd_ne ne]
      exact (r.own x b hb).1
    · rw [upd_ne (ne_of_none e hT)]; exact e
    · by_cases q : b = T
      · subst q; exact .inr (.inl hT)
      · rw [upd_ne q] at hb; exact .inl hb
theorem noPk_app {tm l : List (V × Z.R)} (h : NoPk tm) (h' : NoPk l) : NoPk (tm ++ l) := fun k v i e => by
  by_cases hk : k < tm.length
  · rw [List.getElem?_append_left hk] at e; exact h k v i e
  · rw [List.getElem?_append_right (by omega)] at e; exact h' _ v i e
theorem noPk_one {v : V} {t : T} : NoPk [(v, Z.R.t t)] := fun k w i e => by
  cases k with
  | zero => simp at e
  | succ k => simp at e
end

section
variable {X : Cx} {C : CT} {tg iter elt : Expr} {ifs : List Expr} {scope : Scope} {pos : Pos} {own : List (PySem.Str × Nat)} {tgt : Tg} {ik : IK} {ws : Ws} {cs : WT} {we : W}
theorem s_lc (hK : X.K = C.K) (hc : X.calm = true) (hN : X.N.Nodup) (hi : PI X tg iter (tIt C ik ws)) (ok : BlkOk X.N X.env.scope scope own) (hsl : ∀ i ∈ tgt.slots, i ∈ own.map (·.2))
    (hg : ∀ (s : Shared) (H : Hp) (A : Addr) (cl : List (PySem.Str × Addr)) (fp : List Addr), PG (X.blk s H scope (compEnvC scope cl A X.env) fp) tg (gT X.K tgt))
    (ht : ∀ (s : Shared) (H : Hp) (A : Addr) (cl : List (PySem.Str × Addr)) (fp : List Addr), PTs (X.blk s H scope (compEnvC scope cl A X.env) fp) ifs (tST C cs))
    (he : ∀ (s : Shared) (H : Hp) (A : Addr) (cl : List (PySem.Str × Addr)) (fp : List Addr), PE (X.blk s H scope (compEnvC scope cl A X.env) fp) elt (tS C we)) (hs : ∀ x, foldedSetIterable iter X.env x = pure x) :
    ∀ σ H Q, tS C (lcW (own.map (·.2)) tgt ik ws cs we) σ H Q → tLc (tIt C ik ws) (gT X.K tgt) (tST C cs) (tS C we) (own.map (·.2)) σ H Q := by
  rintro σ H Q ⟨F, env, tm, p, K, rel, h, hQ⟩
  generalize own.map (·.2) = A at hsl h ⊢
  unfold lcW at h
  refine ⟨F, env, tm, p, _, rel, h, fun its env2 F2 H2 p2 J ev2 rel2 wk h2 D hD => ?_⟩
  let base := tm.map hush
  -- the invariant, by the turn
  refine ⟨fun i m Hn => m = its.length - i ∧ i ≤ its.length ∧ ∃ Fn env' pn acc, Rel C Fn Hn (L2.wipe σ A) env' (base ++ [(.ref D, .t (.l acc))]) pn ∧ Evo F2 H2 p2 Fn Hn pn ∧
    lcL tgt A cs we (its.drop i) env' acc (fun ys env3 => K (.t (.l ys)) (restE env2 env3 A)), ⟨its.length, by simp, Nat.zero_le _, ?_⟩, ?_⟩
  · have r0 : Rel C F2 H2 (L2.wipe σ A) (wipeE env2 A) base p2 := rel2.hush.wipe (noPk_hush tm) A
    obtain ⟨r1, e1⟩ := r0.new (t := .l []) (o := .lst []) hD (by
      simp only [RepT]
      exact ⟨D, [], rfl, rfl, (r0.fresh D hD).2, upd_same, by simp only [RepDs]⟩)
    exact ⟨_, _, _, [], r1, e1, by rw [List.drop_zero]; exact h2⟩
  · rintro i m Hn ⟨rfl, hi, Fn, env', pn, acc, rn, evn, hn⟩
    by_cases hlt : i < its.length
    · refine .inr ⟨wk.go i Fn Hn evn.fz rn.sub hlt, fun H' => ∃ Fn env' pn acc, Rel C Fn H' (L2.wipe σ A) env' (base ++ [(.ref D, .t (.l acc))]) pn ∧ Evo F2 H2 p2 Fn H' pn ∧
        lcL tgt A cs we (its.drop (i + 1)) env' acc (fun ys env3 => K (.t (.l ys)) (restE env2 env3 A)), fun H' hN => ⟨its.length - (i + 1), by omega, rfl, hlt, hN⟩, fun x Hy hy => ?_⟩
      obtain ⟨d, hd, hx⟩ := wk.yld i Fn Hn x Hy evn.fz rn.sub hlt hy
      rw [List.drop_eq_getElem_cons hlt] at hn
      have ed : its[i] = d := by rw [List.getElem?_eq_getElem hlt] at hd; exact Option.some.inj hd
      rw [ed] at hn
      unfold lcL at hn
      obtain ⟨F3, r3, ev3, rd3⟩ := rn.item hx
      refine asgT_ok (A := A) r3 (noPk_app (noPk_hush tm) noPk_one) rd3 hsl hn fun σ4 env4 p4 kp4 ev4 r4 h4 => ?_
      have hw : L2.wipe σ4 A = L2.wipe σ A := wipe_eq kp4
      refine ⟨hw, ?_⟩
      refine tST.go r4 h4 fun b env5 F5 H5 p5 ev5 r5 h5 => ?_
      have npb : NoPk (base ++ [(V.ref D, Z.R.t (.l acc))]) := noPk_app (noPk_hush tm) noPk_one
      cases b with
      | false =>
        rw [if_neg Bool.false_ne_true] at h5 ⊢
        refine ⟨F5, _, p5, acc, ?_, (((evn.trans ev3).trans ev4).trans ev5), h5⟩
        rw [← hw]
        exact r5.wipe npb A
      | true =>
        rw [if_pos rfl] at h5 ⊢
        refine tS.go r5 h5 fun v r env6 F6 H6 p6 ev6 r6 h6 => ?_
        obtain ⟨F7, env7, p7, y, r7, ev7, rd7, hz, h7⟩ := esc r6 h6
        obtain ⟨vs, e8, e9, e10⟩ := r7.mutTemp (k := base.length) (a := D) (xs := acc) (by simp)
        obtain ⟨r11, ev11⟩ := e10 (acc ++ [y]) (vs ++ [v]) (e9.app (RepDs.one rd7))
        rw [set_mid] at r11
        refine ⟨vs, e8, by rw [e9.len]; exact hz, F7, _, p7, acc ++ [y], ?_, (((((evn.trans ev3).trans ev4).trans ev5).trans ev6).trans ev7).trans ev11, h7⟩
        rw [← hw]
        exact r11.wipe (noPk_app (noPk_hush tm) noPk_one) A
    · have e : i = its.length := by omega
      subst e
      rw [List.drop_length] at hn
      unfold lcL at hn
      refine .inl ⟨wk.stop _ Fn Hn evn.fz rn.sub (Nat.le_refl _), ?_⟩
      have r1 : Rel C Fn Hn (L2.wipe σ A) env' (tm ++ [(V.ref D, Z.R.t (.l acc))] |>.map hush) pn := by
        rw [List.map_append]; exact rn
      -- told again without the hush
      have fin : Rel C Fn Hn σ (restE env2 env' A) (tm ++ [(V.ref D, Z.R.t (.l acc))]) (ownOut pn A) := by
        have q := Rel.rest (tm := (tm ++ [(V.ref D, Z.R.t (.l acc))]).map hush) (A := A) (noPk_hush _) rel2 evn.fz r1
        refine q.unhush fun k v j e => ?_
        by_cases hk : k < tm.length
        · rw [List.getElem?_append_left hk] at e; exact rel2.peek k v j e
        · rw [List.getElem?_append_right (by omega)] at e
          cases z : k - tm.length with
          | zero => rw [z] at e; simp at e
          | succ n => rw [z] at e; simp at e
      exact hQ _ _ _ _ _ _ (ev2.trans evn.ownOut) fin hn
end
end Z

namespace Z
open PySem L2 PySem.Spec PyProof.Rows

theorem back_len (env : Env) : ∀ (rs : List Z.R) (ts : List T) (os : List (Option T)), (back env rs ts os).length = env.length
  | [], _, _ => by unfold back; rfl
  | _ :: _, [], _ => by cases ‹Z.R› <;> (unfold back; rfl)
  | _ :: _, _ :: _, [] => by cases ‹Z.R› <;> (unfold back; rfl)
  | .pk i :: rs, t :: ts, o :: os => by
    unfold back
    split
    · rw [List.length_set, back_len env rs ts os]
    · exact back_len env rs ts os
  | .t _ :: rs, t :: ts, o :: os => by unfold back; exact back_len env rs ts os
  | .gone :: rs, t :: ts, o :: os => by unfold back; exact back_len env rs ts os
theorem mem_brw : ∀ {rs : List Z.R} {ts : List T} {k : Nat}, k ∈ brw rs ts → ∃ (j : Nat) (t : T), rs[j]? = some (.pk k) ∧ ts[j]? = some t ∧ t.isOwn = true
  | [], _, _, h => by unfold brw at h; simp at h
  | _ :: _, [], _, h => by cases ‹Z.R› <;> (unfold brw at h; simp at h)
  | .pk i :: rs, t :: ts, k, h => by
    unfold brw at h
    split at h
    · rename_i ho
      rcases List.mem_cons.mp h with rfl | h
      · exact ⟨0, t, rfl, rfl, ho⟩
      · obtain ⟨j, u, h1, h2, h3⟩ := mem_brw h
        exact ⟨j + 1, u, by simpa using h1, by simpa using h2, h3⟩
    · obtain ⟨j, u, h1, h2, h3⟩ := mem_brw h
      exact ⟨j + 1, u, by simpa using h1, by simpa using h2, h3⟩
  | .t _ :: rs, t :: ts, k, h => by
    unfold brw at h
    obtain ⟨j, u, h1, h2, h3⟩ := mem_brw h
    exact ⟨j + 1, u, by simpa using h1, by simpa using h2, h3⟩
  | .gone :: rs, t :: ts, k, h => by
    unfold brw at h
    obtain ⟨j, u, h1, h2, h3⟩ := mem_brw h
    exact ⟨j + 1, u, by simpa using h1, by simpa using h2, h3⟩
theorem brw_mem : ∀ {rs : List Z.R} {ts : List T} {k j : Nat} {t : T}, rs[j]? = some (.pk k) → ts[j]? = some t → t.isOwn = true → k ∈ brw rs ts
  | [], _, _, _, _, h, _, _ => by simp at h
  | _ :: _, [], _, _, _, _, h, _ => by simp at h
  | r :: rs, t :: ts, k, 0, u, h1, h2, h3 => by
    simp at h1 h2; subst h1; subst h2
    unfold brw; rw [if_pos h3]; simp
  | r :: rs, t :: ts, k, j + 1, u, h1, h2, h3 => by
    have ih := brw_mem (rs := rs) (ts := ts) (k := k) (j := j) (by simpa using h1) (by simpa using h2) h3
    cases r with
    | pk i => unfold brw; split <;> simp [ih]
    | t _ => unfold brw; exact ih
    | gone => unfold brw; exact ih
theorem brw_inj : ∀ {rs : List Z.R} {ts : List T} {k j j' : Nat} {t t' : T}, (brw rs ts).Nodup → rs[j]? = some (.pk k) → ts[j]? = some t → t.isOwn = true → rs[j']? = some (.pk k) → ts[j']? = some t' → t'.isOwn = true → j = j'
  | [], _, _, _, _, _, _, _, h, _, _, _, _, _ => by simp at h
  | _ :: _, [], _, _, _, _, _, _, _, h, _, _, _, _ => by simp at h
  | r :: rs, t :: ts, k, 0, 0, _, _, _, _, _, _, _, _, _ => rfl
  | r :: rs, t :: ts, k, 0, j' + 1, u, u', nd, h1, h2, h3, h4, h5, h6 => by
    simp at h1 h2; subst h1; subst h2
    unfold brw at nd; rw [if_pos h3] at nd
    exact absurd (brw_mem (j := j') (by simpa using h4) (by simpa using h5) h6) (List.nodup_cons.mp nd).1
  | r :: rs, t :: ts, k, j + 1, 0, u, u', nd, h1, h2, h3, h4, h5, h6 => by
    simp at h4 h5; subst h4; subst h5
    unfold brw at nd; rw [if_pos h6] at nd
    exact absurd (brw_mem (j := j) (by simpa using h1) (by simpa using h2) h3) (List.nodup_cons.mp nd).1
  | r :: rs, t :: ts, k, j + 1, j' + 1, u, u', nd, h1, h2, h3, h4, h5, h6 => by
    have nd' : (brw rs ts).Nodup := by
      cases r with
      | pk i =>
        unfold brw at nd
        split at nd
        · exact (List.nodup_cons.mp nd).2
        · exact nd
      | t _ => unfold brw at nd; exact nd
      | gone => unfold brw at nd; exact nd
    have := brw_inj nd' (j := j) (j' := j') (by simpa using h1) (by simpa using h2) h3 (by simpa using h4) (by simpa using h5) h6
    omega
theorem back_out (env : Env) : ∀ {rs : List Z.R} {ts : List T} {os : List (Option T)} {k : Nat}, k ∉ brw rs ts → (back env rs ts os)[k]? = env[k]?
  | [], _, _, _, _ => by unfold back; rfl
  | _ :: _, [], _, _, _ => by cases ‹Z.R› <;> (unfold back; rfl)
  | _ :: _, _ :: _, [], _, _ => by cases ‹Z.R› <;> (unfold back; rfl)
  | .pk i :: rs, t :: ts, o :: os, k, h => by
    unfold brw at h
    unfold back
    split at h
    · rename_i ho
      rw [if_pos ho]
      simp only [List.mem_cons, not_or] at h
      rw [List.getElem?_set_ne (Ne.symm h.1)]
      exact back_out env h.2
    · rename_i ho
      rw [if_neg ho]
      exact back_out env h
  | .t _ :: rs, t :: ts, o :: os, k, h => by unfold brw at h; unfold back; exact back_out env h
  | .gone :: rs, t :: ts, o :: os, k, h => by unfold brw at h; unfold back; exact back_out env h
theorem back_in (env : Env) : ∀ {rs : List Z.R} {ts : List T} {os : List (Option T)} {k j : Nat} {t : T}, os.length = ts.length → (brw rs ts).Nodup → rs[j]? = some (.pk k) → ts[j]? = some t → t.isOwn = true → k < env.length →
    (back env rs ts os)[k]? = os[j]?
  | [], _, _, _, _, _, _, _, h, _, _, _ => by simp at h
  | _ :: _, [], _, _, _, _, _, _, _, h, _, _ => by simp at h
  | _ :: _, _ :: _, [], _, _, _, hl, _, _, _, _, _ => by simp at hl
  | r :: rs, t :: ts, o :: os, k, 0, u, hl, nd, h1, h2, h3, hk => by
    simp at h1 h2; subst h1; subst h2
    unfold back; rw [if_pos h3, List.getElem?_set_self (by rw [back_len]; exact hk)]; rfl
  | r :: rs, t :: ts, o :: os, k, j + 1, u, hl, nd, h1, h2, h3, hk => by
    have ih := fun nd => back_in env (rs := rs) (ts := ts) (os := os) (k := k) (j := j) (by simpa using hl) nd (by simpa using h1) (by simpa using h2) h3 hk
    cases r with
    | pk i =>
      unfold brw at nd
      unfold back
      split at nd
      · rename_i ho
        rw [if_pos ho]
        have : i ≠ k := by
          rintro rfl
          exact (List.nodup_cons.mp nd).1 (brw_mem (j := j) (by simpa using h1) (by simpa using h2) h3)
        rw [List.getElem?_set_ne this, ih (List.nodup_cons.mp nd).2]
        simp
      · rename_i ho
        rw [if_neg ho, ih nd]
        simp
    | t _ => unfold brw at nd; unfold back; rw [ih nd]; simp
    | gone => unfold brw at nd; unfold back; rw [ih nd]; simp

/-- the promise of a def, over the heap -/
def spO (C : CT) (np : Nat) (S : SpC) : Sp := fun vs H Q _ => ∃ (F : Hp) (ts : List T) (p : Ow), vs.length = np ∧ ts.length = np ∧ Rel C F H (vs.map some) (ts.map some) [] p ∧
  S ts (fun t outs => ∀ v F' H' p', Evo F H p F' H' p' → Rel C F' H' (vs.map some) outs [(v, .t t)] p' → Q v H') (fun _ _ _ => False)

section
variable {C : CT} {F H : Hp} {p : Ow} {σ : St} {env : Env} {tm : List (V × Z.R)}
theorem conts_get : ∀ {rs : List Z.R} {ts : List T}, conts env rs = some ts → ts.length = rs.length ∧ ∀ (j : Nat) r, rs[j]? = some r → ∃ t, ts[j]? = some t ∧ cont env r = some t
  | [], ts, e => by
    simp only [conts, Option.some.injEq] at e; subst e
    exact ⟨rfl, fun j r h => by simp at h⟩
  | r :: rs, ts, e => by
    simp only [conts] at e
    split at e
    · rename_i t ts' q1 q2
      cases e
      obtain ⟨l, ih⟩ := conts_get q2
      refine ⟨by simp [l], fun j r' h => ?_⟩
      cases j with
      | zero => simp at h; subst h; exact ⟨t, rfl, q1⟩
      | succ j => simpa using ih j r' (by simpa using h)
    · cases e
/-- from whom argument j takes what it owns -/
def keyOf (n : Nat) (rs : List Z.R) (ts : List T) (j : Nat) : Option Ky := match rs[j]?, ts[j]? with
  | some r, some t => if t.isOwn = true then some (keyR (n + j) r) else none
  | _, _ => none
def ownIn (p : Ow) (n : Nat) (rs : List Z.R) (ts : List T) : Ow := fun k => match k with
  | .inl j => match keyOf n rs ts j with
    | some x => p x
    | none => []
  | .inr _ => []
theorem keyOf_some {n : Nat} {rs : List Z.R} {ts : List T} {j : Nat} {x : Ky} (h : keyOf n rs ts j = some x) : ∃ r t, rs[j]? = some r ∧ ts[j]? = some t ∧ t.isOwn = true ∧ x = keyR (n + j) r := by
  unfold keyOf at h
  split at h
  · rename_i r t e1 e2
    split at h
    · rename_i ho
      cases h
      exact ⟨r, t, e1, e2, ho, rfl⟩
    · cases h
  · cases h
theorem keyOf_inj {n : Nat} {rs : List Z.R} {ts : List T} (nd : (brw rs ts).Nodup) {j j' : Nat} {x : Ky} (h : keyOf n rs ts j = some x) (h' : keyOf n rs ts j' = some x) : j = j' := by
  obtain ⟨r, t, e1, e2, ho, rfl⟩ := keyOf_some h
  obtain ⟨r', t', e3, e4, ho', e⟩ := keyOf_some h'
  cases r <;> cases r' <;> simp only [keyR, Sum.inl.injEq, Sum.inr.injEq, reduceCtorEq] at e
  all_goals try omega
  subst e
  exact brw_inj nd e1 e2 ho e3 e4 ho'
theorem isOwn_d {t : T} (h : ¬ t.isOwn = true) : ∃ x, t = .d x := by
  cases t with
  | d x => exact ⟨x, rfl⟩
  | _ => exact absurd rfl h
theorem get_zip {α β : Type} : ∀ {xs : List α} {ys : List β} {j : Nat} {x : α} {y : β}, xs[j]? = some x → ys[j]? = some y → (xs.zip ys)[j]? = some (x, y)
  | [], _, _, _, _, h, _ => by simp at h
  | _ :: _, [], _, _, _, _, h => by simp at h
  | a :: xs, b :: ys, 0, _, _, h1, h2 => by simp at h1 h2 ⊢; exact ⟨h1, h2⟩
  | a :: xs, b :: ys, j + 1, _, _, h1, h2 => by simpa using get_zip (xs := xs) (ys := ys) (j := j) (by simpa using h1) (by simpa using h2)
/-- the callee's words at its entry -/
theorem Rel.enter {vs : List V} {rs : List Z.R} {ts : List T} (hl : vs.length = rs.length) (r : Rel C F H σ env (tm ++ vs.zip rs) p) (hc : conts env rs = some ts) (nd : (brw rs ts).Nodup) :
    Rel C F H (vs.map some) (ts.map some) [] (ownIn p tm.length rs ts) := by
  obtain ⟨lt, hg⟩ := conts_get hc
  have at_ : ∀ {j : Nat} {v : V} {q : Z.R}, vs[j]? = some v → rs[j]? = some q → (tm ++ vs.zip rs)[tm.length + j]? = some (v, q) := fun {j v q} h1 h2 => by
    rw [List.getElem?_append_right (by omega), Nat.add_sub_cancel_left]
    exact get_zip h1 h2
  have mem : ∀ (x : Ky) a, a ∈ ownIn p tm.length rs ts x → ∃ j y, x = .inl j ∧ keyOf tm.length rs ts j = some y ∧ a ∈ p y := fun x a h => by
    cases x with
    | inl j =>
      simp only [ownIn] at h
      cases e : keyOf tm.length rs ts j with
      | none => rw [e] at h; simp at h
      | some y => rw [e] at h; exact ⟨j, y, rfl, e, h⟩
    | inr k => simp [ownIn] at h
  refine ⟨r.sub, fun j t e => ?_, fun k v t e => by simp at e, fun k v i e => by simp at e, fun x y a h1 h2 => ?_, fun x => ?_, fun x a h => ?_, by simp [lt, hl]⟩
  · rw [List.getElem?_map] at e
    cases e1 : ts[j]? with
    | none => rw [e1] at e; cases e
    | some t' =>
      rw [e1] at e
      cases e
      have hj : j < rs.length := by
        rw [← lt]
        rcases Nat.lt_or_ge j ts.length with q | q
        · exact q
        · rw [List.getElem?_eq_none q] at e1; cases e1
      have e2 : rs[j]? = some rs[j] := List.getElem?_eq_getElem hj
      have e3 : vs[j]? = some vs[j] := List.getElem?_eq_getElem (by omega)
      obtain ⟨t2, e4, e5⟩ := hg j _ e2
      rw [e1] at e4; cases e4
      refine ⟨vs[j], by rw [List.getElem?_map, e3]; rfl, ?_⟩
      have h1 := r.content (at_ e3 e2) e5
      by_cases ho : t.isOwn = true
      · have : keyOf tm.length rs ts j = some (keyR (tm.length + j) rs[j]) := by
          unfold keyOf
          rw [e2, e1]
          simp only [ho, if_true]
        simp only [ownIn, this]
        exact h1
      · obtain ⟨x', rfl⟩ := isOwn_d ho
        simp only [RepT] at h1 ⊢
        refine ⟨?_, h1.2⟩
        have : keyOf tm.length rs ts j = none := by
          unfold keyOf
          rw [e2, e1]
          simp only [ho, if_false]
          rfl
        simp only [ownIn, this]
  · obtain ⟨j, y1, rfl, k1, m1⟩ := mem x a h1
    obtain ⟨j', y2, rfl, k2, m2⟩ := mem y a h2
    have := r.dis _ _ a m1 m2
    subst this
    rw [keyOf_inj nd k1 k2]
  · cases x with
    | inl j =>
      simp only [ownIn]
      split
      · exact r.nod _
      · simp
    | inr k => simp [ownIn]
  · obtain ⟨j, y1, rfl, k1, m1⟩ := mem x a h
    exact r.own _ a m1
/-- what the caller owns behind the call -/
def ownOutC (p p' : Ow) (n : Nat) (rs : List Z.R) (ts : List T) : Ow := fun k => match k with
  | .inl i => if i ∈ brw rs ts then (match (List.range rs.length).find? fun j => decide (keyOf n rs ts j = some (.inl i)) with
      | some j => p' (.inl j)
      | none => []) else p (.inl i)
  | .inr k => if k < n then p (.inr k) else if k = n then p' (.inr 0) else []
theorem find_key {n : Nat} {rs : List Z.R} {ts : List T} {i j : Nat} {t : T} (nd : (brw rs ts).Nodup) (h1 : rs[j]? = some (.pk i)) (h2 : ts[j]? = some t) (h3 : t.isOwn = true) :
    (List.range rs.length).find? (fun j => decide (keyOf n rs ts j = some (.inl i))) = some j := by
  have hj : j < rs.length := by
    rcases Nat.lt_or_ge j rs.length with q | q
    · exact q
    · rw [List.getElem?_eq_none q] at h1; cases h1
  have kj : keyOf n rs ts j = some (.inl i) := by
    unfold keyOf; rw [h1, h2]; simp [h3, keyR]
  cases e : (List.range rs.length).find? (fun j => decide (keyOf n rs ts j = some (.inl i))) with
  | none =>
    have := List.find?_eq_none.mp e j (List.mem_range.mpr hj)
    simp [kj] at this
  | some j' =>
    have := List.find?_some e
    simp only [decide_eq_true_eq] at this
    rw [keyOf_inj nd kj this]
theorem Rel.leave {vs : List V} {rs : List Z.R} {ts : List T} {F' H' : Hp} {p' : Ow} {outs : List (Option T)} {v : V} {t : T} (hl : vs.length = rs.length) (r : Rel C F H σ env (tm ++ vs.zip rs) p) (hc : conts env rs = some ts) (nd : (brw rs ts).Nodup)
    (ev : Evo F H (ownIn p tm.length rs ts) F' H' p') (lo : outs.length = ts.length) (r' : Rel C F' H' (vs.map some) outs [(v, .t t)] p') :
    Rel C F' H' σ (back env rs ts outs) (tm ++ [(v, .t t)]) (ownOutC p p' tm.length rs ts) ∧ Evo F H p F' H' (ownOutC p p' tm.length rs ts) := by
  obtain ⟨lt, hg⟩ := conts_get hc
  -- what is not handed over stands
  have keep : ∀ x, (∀ j, keyOf tm.length rs ts j ≠ some x) → ∀ a ∈ p x, F' a = none ∧ H' a = H a := fun x hx a ha => by
    have out : ∀ y, a ∉ ownIn p tm.length rs ts y := fun y hy => by
      cases y with
      | inl j =>
        simp only [ownIn] at hy
        cases e : keyOf tm.length rs ts j with
        | none => rw [e] at hy; simp at hy
        | some z =>
          rw [e] at hy
          have := r.dis _ _ a ha hy
          subst this
          exact hx j e
      | inr k => simp [ownIn] at hy
    obtain ⟨f1, f2⟩ := r.own x a ha
    constructor
    · cases q : F' a with
      | none => rfl
      | some o =>
        rcases ev.fr a (by rw [q]; simp) with z | z | ⟨y, z⟩
        · exact absurd f1 z
        · exact absurd z f2
        · exact absurd z (out y)
    · cases q : H a with
      | none => exact absurd q f2
      | some o => exact ev.kp a o q out
  have nobrw : ∀ {i : Nat}, i ∉ brw rs ts → ∀ j, keyOf tm.length rs ts j ≠ some (.inl i) := fun {i} hi j e => by
    obtain ⟨q, t', e1, e2, ho, ek⟩ := keyOf_some e
    cases q <;> simp only [keyR, Sum.inl.injEq, reduceCtorEq] at ek
    subst ek
    exact hi (brw_mem e1 e2 ho)
  have noinr : ∀ {k : Nat}, k < tm.length → ∀ j, keyOf tm.length rs ts j ≠ some (.inr k) := fun {k} hk j e => by
    obtain ⟨q, t', e1, e2, ho, ek⟩ := keyOf_some e
    cases q <;> simp only [keyR, Sum.inr.injEq, reduceCtorEq] at ek <;> omega
  have pow : ∀ {i : Nat}, i ∈ brw rs ts → ∃ j t', rs[j]? = some (.pk i) ∧ ts[j]? = some t' ∧ t'.isOwn = true ∧ ownOutC p p' tm.length rs ts (.inl i) = p' (.inl j) := fun {i} hi => by
    obtain ⟨j, t', e1, e2, ho⟩ := mem_brw hi
    refine ⟨j, t', e1, e2, ho, ?_⟩
    simp only [ownOutC, if_pos hi]
    rw [find_key nd e1 e2 ho]
  -- whose a part is
  have src : ∀ x a, a ∈ ownOutC p p' tm.length rs ts x → (a ∈ p x ∧ (∀ j, keyOf tm.length rs ts j ≠ some x)) ∨ (∃ i j t', x = .inl i ∧ rs[j]? = some (.pk i) ∧ ts[j]? = some t' ∧ t'.isOwn = true ∧ a ∈ p' (.inl j)) ∨ (x = .inr tm.length ∧ a ∈ p' (.inr 0)) := fun x a h => by
    cases x with
    | inl i =>
      by_cases hi : i ∈ brw rs ts
      · obtain ⟨j, t', e1, e2, ho, e⟩ := pow hi
        rw [e] at h
        exact .inr (.inl ⟨i, j, t', rfl, e1, e2, ho, h⟩)
      · simp only [ownOutC, if_neg hi] at h
        exact .inl ⟨h, nobrw hi⟩
    | inr k =>
      simp only [ownOutC] at h
      by_cases hk : k < tm.length
      · rw [if_pos hk] at h
        exact .inl ⟨h, noinr hk⟩
      · rw [if_neg hk] at h
        by_cases hk2 : k = tm.length
        · rw [if_pos hk2] at h; subst hk2; exact .inr (.inr ⟨rfl, h⟩)
        · rw [if_neg hk2] at h; simp at h
  have live' : ∀ y a, a ∈ p' y → F' a = none ∧ H' a ≠ none := r'.own
  -- a cell of the caller's own is none of the callee's at its end
  have apart : ∀ x a y, a ∈ p x → (∀ j, keyOf tm.length rs ts j ≠ some x) → a ∈ p' y → False := fun x a y h1 h2 h3 => by
    rcases ev.ow y a h3 with z | ⟨z, hz⟩
    · exact (r.own x a h1).2 z
    · cases z with
      | inl j =>
        simp only [ownIn] at hz
        cases e : keyOf tm.length rs ts j with
        | none => rw [e] at hz; simp at hz
        | some w =>
          rw [e] at hz
          have := r.dis _ _ a h1 hz
          subst this
          exact h2 j e
      | inr k => simp [ownIn] at hz
  refine ⟨⟨r'.sub, fun i u e => ?_, fun k w u e => ?_, fun k w i e => ?_, fun x y a h1 h2 => ?_, fun x => ?_, fun x a h => ?_, by rw [back_len]; exact r.len⟩, ⟨ev.fz, fun a o e n => ?_, fun a h => ?_, fun x a h => ?_⟩⟩
  · have hi : i < env.length := by
      rcases Nat.lt_or_ge i env.length with q | q
      · exact q
      · rw [List.getElem?_eq_none (by rw [back_len]; exact q)] at e; cases e
    by_cases hb : i ∈ brw rs ts
    · obtain ⟨j, t', e1, e2, ho, eo⟩ := pow hb
      rw [back_in env lo nd e1 e2 ho hi] at e
      obtain ⟨w, s1, s2⟩ := r'.slot j u e
      rw [eo]
      refine ⟨w, ?_, s2⟩
      rw [List.getElem?_map] at s1
      cases ev' : vs[j]? with
      | none => rw [ev'] at s1; cases s1
      | some vx =>
        rw [ev'] at s1
        have s2 : vx = w := by simpa using s1
        subst s2
        exact r.peek (tm.length + j) vx i (by rw [List.getElem?_append_right (by omega), Nat.add_sub_cancel_left]; exact get_zip ev' e1)
    · rw [back_out env hb] at e
      obtain ⟨w, s1, s2⟩ := r.slot i u e
      refine ⟨w, s1, ?_⟩
      simp only [ownOutC, if_neg hb]
      exact s2.mono ev.fz fun a ha => keep _ (nobrw hb) a ha
  · by_cases hk : k < tm.length
    · rw [List.getElem?_append_left hk] at e
      simp only [ownOutC, if_pos hk]
      exact (r.temp k w u (by rw [List.getElem?_append_left hk]; exact e)).mono ev.fz fun a ha => keep _ (noinr hk) a ha
    · rw [List.getElem?_append_right (by omega)] at e
      have hk0 : k = tm.length := by
        cases z : k - tm.length with
        | zero => omega
        | succ n => rw [z] at e; simp at e
      subst hk0
      simp at e
      obtain ⟨rfl, rfl⟩ := e
      simp only [ownOutC, Nat.lt_irrefl, if_false, if_true]
      exact r'.temp 0 _ _ rfl
  · by_cases hk : k < tm.length
    · rw [List.getElem?_append_left hk] at e
      exact r.peek k w i (by rw [List.getElem?_append_left hk]; exact e)
    · rw [List.getElem?_append_right (by omega)] at e
      cases z : k - tm.length with
      | zero => rw [z] at e; simp at e
      | succ n => rw [z] at e; simp at e
  · rcases src x a h1 with ⟨m1, n1⟩ | ⟨i1, j1, t1, rfl, a1, b1, c1, m1⟩ | ⟨rfl, m1⟩
    · rcases src y a h2 with ⟨m2, n2⟩ | ⟨i2, j2, t2, rfl, a2, b2, c2, m2⟩ | ⟨rfl, m2⟩
      · exact r.dis x y a m1 m2
      · exact (apart x a _ m1 n1 m2).elim
      · exact (apart x a _ m1 n1 m2).elim
    · rcases src y a h2 with ⟨m2, n2⟩ | ⟨i2, j2, t2, rfl, a2, b2, c2, m2⟩ | ⟨rfl, m2⟩
      · exact (apart y a _ m2 n2 m1).elim
      · have := r'.dis _ _ a m1 m2
        cases this
        rw [a1] at a2
        cases a2
        rfl
      · have := r'.dis _ _ a m1 m2
        cases this
    · rcases src y a h2 with ⟨m2, n2⟩ | ⟨i2, j2, t2, rfl, a2, b2, c2, m2⟩ | ⟨rfl, m2⟩
      · exact (apart y a _ m2 n2 m1).elim
      · have := r'.dis _ _ a m1 m2
        cases this
      · rfl
  · cases x with
    | inl i =>
      simp only [ownOutC]
      split
      · split
        · exact r'.nod _
        · simp
      · exact r.nod _
    | inr k =>
      simp only [ownOutC]
      split
      · exact r.nod _
      · split
        · exact r'.nod _
        · simp
  · rcases src x a h with ⟨m1, n1⟩ | ⟨i1, j1, t1, rfl, a1, b1, c1, m1⟩ | ⟨rfl, m1⟩
    · obtain ⟨f1, f2⟩ := keep x n1 a m1
      exact ⟨f1, by rw [f2]; exact (r.own x a m1).2⟩
    · exact live' _ a m1
    · exact live' _ a m1
  · refine ev.kp a o e fun y hy => ?_
    cases y with
    | inl j =>
      simp only [ownIn] at hy
      cases q : keyOf tm.length rs ts j with
      | none => rw [q] at hy; simp at hy
      | some w => rw [q] at hy; exact n w hy
    | inr k => simp [ownIn] at hy
  · rcases ev.fr a h with z | z | ⟨y, z⟩
    · exact .inl z
    · exact .inr (.inl z)
    · cases y with
      | inl j =>
        simp only [ownIn] at z
        cases q : keyOf tm.length rs ts j with
        | none => rw [q] at z; simp at z
        | some w => rw [q] at z; exact .inr (.inr ⟨w, z⟩)
      | inr k => simp [ownIn] at z
  · rcases src x a h with ⟨m1, n1⟩ | ⟨i1, j1, t1, rfl, a1, b1, c1, m1⟩ | ⟨rfl, m1⟩
    · exact .inr ⟨x, m1⟩
    all_goals
      rcases ev.ow _ a m1 with z | ⟨y, z⟩
      · exact .inl z
      · cases y with
        | inl j =>
          simp only [ownIn] at z
          cases q : keyOf tm.length rs ts j with
          | none => rw [q] at z; simp at z
          | some w => rw [q] at z; exact .inr ⟨w, z⟩
        | inr k => simp [ownIn] at z
end
end Z

namespace Z
open PySem L2 PySem.Spec PyProof.Rows

def Mono (sp : SpC) : Prop := ∀ ts k k' e e', (∀ t o, k t o → k' t o) → (∀ c d o, e c d o → e' c d o) → sp ts k e → sp ts k' e'
/-- a def where it stands: its promise, how it is bound -/
structure FnAt (P : Program) (w : World) (K : PySem.W.Frag) (mg : PySem.Str → Option Value) (base : Heap) (C : CT) (lev : Nat) (nm : PySem.Str) (pars : List PySem.Str) (kbs : List Nat) (sp : SpC) : Prop where
  mono : Mono sp
  ar : ∀ ts k e, sp ts k e → ts.length = pars.length
  at_ : ∃ fa fdt, FnG P w K mg base CX0 lev fa fdt pars (spO C pars.length sp) ∧ mg nm = some (.ref fa) ∧ PySem.W.keepIn K (.ref fa) = true ∧ Binds K fdt pars [] ∧
    ∀ n ∈ kbs, ∀ (s : Shared) (us ws : List Value), us.length = n → ws.length = pars.length - n → BindsTo s fdt ⟨us, (pars.drop n).zip ws⟩ (pars.zip (us ++ ws))
abbrev nox : XP := fun _ _ _ => False
section
variable {X : Cx} {C : CT} {lev np : Nat} {kbs : List Nat} {pars : List PySem.Str} {nm : PySem.Str} {p pos : Pos} {es : List Expr} {kws : List Keyword} {sp : SpC} {ks ks2 : List (W × WT)}
theorem callR_spO {F H : Hp} {σ : St} {env1 : Env} {tm : List (V × Z.R)} {p1 : Ow} {vs : List V} {rs : List Z.R} {K : Z.R → Env → Prop} {Q : VK} {E : XK} (mo : Mono sp) (ar : ∀ ts k e, sp ts k e → ts.length = np) (hl : vs.length = rs.length)
    (rel1 : Rel C F H σ env1 (tm ++ vs.zip rs) p1) (h1 : callR sp nox rs env1 K) (hQ : Kont C σ tm F H p1 K Q) : spO C np sp vs H Q E := by
  unfold callR at h1
  split at h1
  · rename_i ts hc
    obtain ⟨nd, h1⟩ := h1
    have lt := ar _ _ _ h1
    refine ⟨F, ts, ownIn p1 tm.length rs ts, by rw [hl, ← (conts_get hc).1, lt], lt, rel1.enter hl hc nd, mo _ _ _ _ _ (fun t outs hk v F' H' p' ev' r' => ?_) (fun _ _ _ hk => hk.2) h1⟩
    obtain ⟨r2, ev2⟩ := rel1.leave hl hc nd ev' hk.1 r'
    exact hQ _ _ _ _ _ _ ev2 r2 hk.2
  · exact h1.elim
theorem s_call (g : FnAt X.prog X.w X.K X.mg X.base C lev nm pars kbs sp) (gd : X.A.guards = some []) (rm : Room lev X.A) (gl : Gl X nm) (nd : (nm == ("__debug__" : Str)) = false) (ha : All2 X C es ks) :
    PE X (.Call (.Name nm p) es [] pos) (tS C fun env k => seqW ks env fun rs env1 => callR sp nox rs env1 k) := by
  obtain ⟨fa, fdt, G, mgf, kp, bd, _⟩ := g.at_
  cases es with
  | nil =>
    cases ha
    refine PE.imp (callG0 G gd rm gl mgf kp bd pass0 nd) ?_
    rintro σ H Q ⟨F, env, tm, p, K, rel, h, hQ⟩
    simp only [seqW] at h
    exact callR_spO (vs := []) (rs := []) g.mono g.ar rfl (by simpa using rel) h hQ
  | cons e es =>
    refine PE.imp (callG G gd rm gl mgf kp bd pass0 (s_args ha) ha.stars nd) ?_
    rintro σ H Q ⟨F, env, tm, p, K, rel, h, hQ⟩
    refine tSs.go rel h fun vs rs env1 F1 H1 p1 hl ev1 rel1 h1 => ?_
    exact callR_spO g.mono g.ar hl rel1 h1 (Kont.on hQ ev1)
/-! ### keywords, in the parameters' order -/
theorem kw_all : ∀ {kws : List Keyword} {env : PySem.Env} {pos : Pos}, kws.all (fun k => k.arg.isSome) = true → (backToKw pos (keywordEach kws env)).all (·.1.isSome) = true
  | [], _, _, _ => rfl
  | ⟨n, v, kp⟩ :: kws, env, pos, h => by
    simp only [List.all_cons, Bool.and_eq_true] at h
    have ih := kw_all (env := env) (pos := pos) h.2
    unfold backToKw at ih ⊢
    show (_ && _) = true
    rw [Bool.and_eq_true]
    exact ⟨h.1, ih⟩
theorem kw_none : ∀ {kws : List Keyword} {env : PySem.Env} {pos : Pos}, kws.all (fun k => k.arg.isSome) = true → (backToKw pos (keywordEach kws env)).any (·.1.isNone) = false
  | [], _, _, _ => rfl
  | ⟨n, v, kp⟩ :: kws, env, pos, h => by
    simp only [List.all_cons, Bool.and_eq_true] at h
    have ih := kw_none (env := env) (pos := pos) h.2
    unfold backToKw at ih ⊢
    show (_ || _) = false
    rw [Bool.or_eq_false_iff]
    refine ⟨?_, ih⟩
    have h1 : n.isSome = true := h.1
    show n.isNone = false
    cases n <;> simp_all
theorem kw_names : ∀ {kws : List Keyword} {env : PySem.Env} {pos : Pos}, (backToKw pos (keywordEach kws env)).filterMap (·.1) = kws.filterMap (·.arg)
  | [], _, _ => rfl
  | ⟨n, v, kp⟩ :: kws, env, pos => by
    have ih := kw_names (kws := kws) (env := env) (pos := pos)
    unfold backToKw at ih ⊢
    show List.filterMap _ ((n, _) :: _) = _
    rw [List.filterMap_cons, List.filterMap_cons, ih]
inductive AllK (X : Cx) (C : CT) : List Keyword → List (W × WT) → Prop
  | nil : AllK X C [] []
  | cons {n : Option PySem.Str} {e : Expr} {kp : Pos} {es : List Keyword} {w : W × WT} {ws : List (W × WT)} : PE X e (tS C w.1) → AllK X C es ws → AllK X C (⟨n, e, kp⟩ :: es) (w :: ws)
theorem s_kws : ∀ {es : List Keyword} {ks : List (W × WT)}, AllK X C es ks → PK X es (tSs C (seqW ks))
  | [], [], _ => ⟨fun pos pins s σ H Q I h => pk_nil.run pos pins s σ H Q I (by
    obtain ⟨F, env, tm, p, K, rel, h, hQ⟩ := h
    exact hQ [] [] env F H p rfl Evo.refl (by simpa using rel) h)⟩
  | ⟨n, e, kp⟩ :: es, k :: ks, h => by
    cases h with
    | cons h1 h4 =>
      refine ⟨fun pos pins s σ H Q I h => (pk_cons h1 (s_kws h4)).run pos pins s σ H Q I ?_⟩
      obtain ⟨F, env, tm, p, K, rel, h, hQ⟩ := h
      unfold seqW at h
      refine tS.go rel h fun v r env1 F1 H1 p1 ev1 rel1 h1 => ?_
      refine tSs.go rel1 h1 fun vs rs env2 F2 H2 p2 hl ev2 rel2 h2 => ?_
      refine hQ (v :: vs) (r :: rs) env2 F2 H2 p2 (by simp [hl]) (ev1.trans ev2) ?_ h2
      rw [List.zip_cons_cons, List.append_cons]
      exact rel2
theorem seqW_app : ∀ (ks ks2 : List (W × WT)) (env : Env) (K : List Z.R → Env → Prop), seqW (ks ++ ks2) env K = seqW ks env fun rs env1 => seqW ks2 env1 fun rs2 env2 => K (rs ++ rs2) env2
  | [], ks2, env, K => rfl
  | k :: ks, ks2, env, K => by
    simp only [List.cons_append, seqW, seqW_app ks ks2]
/-- arguments with their number -/
def tSsN (C : CT) (n : Nat) (w : Ws) : TA := fun σ H Q => ∃ (F : Hp) (env : Env) (tm : List (V × Z.R)) (p : Ow) (K : List Z.R → Env → Prop), Rel C F H σ env tm p ∧ w env K ∧
  ∀ vs rs env' F' H' p', vs.length = rs.length → vs.length = n → Evo F H p F' H' p' → Rel C F' H' σ env' (tm ++ vs.zip rs) p' → K rs env' → Q vs H'
theorem s_argsN : ∀ {es : List Expr} {ks : List (W × WT)}, All2 X C es ks → PA X es (tSsN C es.length (seqW ks))
  | [], [], _ => PA.imp pa_nil (by
    rintro σ H Q ⟨F, env, tm, p, K, rel, h, hQ⟩
    exact hQ [] [] env F H p rfl rfl Evo.refl (by simpa using rel) h)
  | e :: es, k :: ks, h => by
    cases h with
    | cons h1 h2 h3 h4 =>
      refine PA.imp (pa_cons h1 (s_argsN h4) (star_cons h3)) ?_
      rintro σ H Q ⟨F, env, tm, p, K, rel, h, hQ⟩
      unfold seqW at h
      refine tS.go rel h fun v r env1 F1 H1 p1 ev1 rel1 h1 => ?_
      refine ⟨F1, env1, _, p1, _, rel1, h1, fun vs rs env2 F2 H2 p2 hl hn ev2 rel2 h2 => ?_⟩
      refine hQ (v :: vs) (r :: rs) env2 F2 H2 p2 (by simp [hl]) (by simp [hn]) (ev1.trans ev2) ?_ h2
      rw [List.zip_cons_cons, List.append_cons]
      exact rel2
theorem s_kwsN : ∀ {es : List Keyword} {ks : List (W × WT)}, AllK X C es ks → PK X es (tSsN C es.length (seqW ks))
  | [], [], _ => ⟨fun pos pins s σ H Q I h => pk_nil.run pos pins s σ H Q I (by
    obtain ⟨F, env, tm, p, K, rel, h, hQ⟩ := h
    exact hQ [] [] env F H p rfl rfl Evo.refl (by simpa using rel) h)⟩
  | ⟨n, e, kp⟩ :: es, k :: ks, h => by
    cases h with
    | cons h1 h4 =>
      refine ⟨fun pos pins s σ H Q I h => (pk_cons h1 (s_kwsN h4)).run pos pins s σ H Q I ?_⟩
      obtain ⟨F, env, tm, p, K, rel, h, hQ⟩ := h
      unfold seqW at h
      refine tS.go rel h fun v r env1 F1 H1 p1 ev1 rel1 h1 => ?_
      refine ⟨F1, env1, _, p1, _, rel1, h1, fun vs rs env2 F2 H2 p2 hl hn ev2 rel2 h2 => ?_⟩
      refine hQ (v :: vs) (r :: rs) env2 F2 H2 p2 (by simp [hl]) (by simp [hn]) (ev1.trans ev2) ?_ h2
      rw [List.zip_cons_cons, List.append_cons]
      exact rel2
theorem s_callk (g : FnAt X.prog X.w X.K X.mg X.base C lev nm pars kbs sp) (gd : X.A.guards = some []) (rm : Room lev X.A) (gl : Gl X nm) (nd : (nm == ("__debug__" : Str)) = false) (ha : All2 X C es ks) (hk : AllK X C kws ks2)
    (hs : kws.all (fun k => k.arg.isSome) = true) (hn : es.length ∈ kbs) (hm : kws.length = pars.length - es.length)
    (nms : kws.filterMap (·.arg) = pars.drop es.length) :
    PE X (.Call (.Name nm p) es kws pos) (tS C fun env k => seqW (ks ++ ks2) env fun rs env1 => callR sp nox rs env1 k) := by
  obtain ⟨fa, fdt, G, mgf, kp, bd, bk⟩ := g.at_
  have bk1 := bk _ hn
  rw [← hm] at bk1
  cases es with
  | nil =>
    cases ha
    refine PE.imp (callGK0 G gd rm gl mgf kp bk1 pass0 (s_kwsN hk) nd (kw_all hs) (by rw [kw_names, nms]) (kw_none hs)) ?_
    rintro σ H Q ⟨F, env, tm, p, K, rel, h, hQ⟩
    refine ⟨F, env, tm, p, _, rel, h, fun vs rs env2 F2 H2 p2 hl hn ev2 rel2 h2 => ⟨hn, ?_⟩⟩
    exact callR_spO g.mono g.ar hl rel2 h2 (Kont.on hQ ev2)
  | cons e es =>
    refine PE.imp (callGK G gd rm gl mgf kp bk1 pass0 (s_argsN ha) (s_kwsN hk) ha.stars nd (kw_all hs) (by rw [kw_names, nms]) (kw_none hs)) ?_
    rintro σ H Q ⟨F, env, tm, p, K, rel, h, hQ⟩
    rw [seqW_app] at h
    refine ⟨F, env, tm, p, _, rel, h, fun vs rs env2 F2 H2 p2 hl hn ev2 rel2 h2 => ⟨hn, ?_⟩⟩
    refine ⟨F2, env2, _, p2, _, rel2, h2, fun zs rs2 env3 F3 H3 p3 hl3 hn3 ev3 rel3 h3 => ⟨hn3, ?_⟩⟩
    rw [List.append_assoc, ← List.zip_append hl] at rel3
    exact callR_spO g.mono g.ar (by simp [hl, hl3]) rel3 h3 (Kont.on hQ (ev2.trans ev3))
end

/-! ### statements -/
/-- a block over data, as a reading over the heap; A: the slots that it may store -/
def tSt (C : CT) (A : List Nat) (w : WS) : TS := fun D σ H => ∃ (F : Hp) (env : Env) (p : Ow) (k : Z.Ends), Rel C F H σ env [] p ∧ w k env ∧
  (∀ σ' env' F' H' p', KpS A σ σ' → Evo F H p F' H' p' → Rel C F' H' σ' env' [] p' → k.nx env' → D.nx σ' H') ∧
  (∀ σ' env' F' H' p', KpS A σ σ' → Evo F H p F' H' p' → Rel C F' H' σ' env' [] p' → k.bk env' → D.bk σ' H') ∧
  (∀ σ' env' F' H' p', KpS A σ σ' → Evo F H p F' H' p' → Rel C F' H' σ' env' [] p' → k.ct env' → D.ct σ' H') ∧
  (∀ v r σ' env' F' H' p', KpS A σ σ' → Evo F H p F' H' p' → Rel C F' H' σ' env' [(v, r)] p' → k.rt r env' → D.rt v H')
section
variable {X : Cx} {C : CT} {A : List Nat}
theorem st_nil : PSs X [] (tSt C A fun k env => k.nx env) := by
  refine PSs.imp pss_nil ?_
  rintro D σ H ⟨F, env, p, k, rel, h, n, b, c, t⟩
  exact n _ _ _ _ _ KpS.refl Evo.refl rel h
theorem st_cons {s : Stmt} {ss : List Stmt} {w : WS} {wss : WS} (h1 : PS X s (tSt C A w)) (h2 : PSs X ss (tSt C A wss)) : PSs X (s :: ss) (tSt C A fun k env => w { k with nx := wss k } env) := by
  refine PSs.imp (pss_cons h1 h2) ?_
  rintro D σ H ⟨F, env, p, k, rel, h, n, b, c, t⟩
  refine ⟨F, env, p, _, rel, h, fun σ1 env1 F1 H1 p1 kp1 ev1 r1 h1 => ?_, b, c, t⟩
  exact ⟨F1, env1, p1, k, r1, h1, fun σ2 env2 F2 H2 p2 kp2 ev2 r2 h2 => n _ _ _ _ _ (kp1.trans kp2) (ev1.trans ev2) r2 h2, fun σ2 env2 F2 H2 p2 kp2 ev2 r2 h2 => b _ _ _ _ _ (kp1.trans kp2) (ev1.trans ev2) r2 h2,
    fun σ2 env2 F2 H2 p2 kp2 ev2 r2 h2 => c _ _ _ _ _ (kp1.trans kp2) (ev1.trans ev2) r2 h2, fun v r σ2 env2 F2 H2 p2 kp2 ev2 r2 h2 => t _ _ _ _ _ _ _ (kp1.trans kp2) (ev1.trans ev2) r2 h2⟩
theorem st_pass {pos : Pos} : PS X (.Pass pos) (tSt C A fun k env => k.nx env) := by
  refine PS.imp ps_pass ?_
  rintro D σ H ⟨F, env, p, k, rel, h, n, b, c, t⟩
  exact n _ _ _ _ _ KpS.refl Evo.refl rel h
theorem st_break {pos : Pos} : PS X (.Break pos) (tSt C A fun k env => k.bk env) := by
  refine PS.imp ps_break ?_
  rintro D σ H ⟨F, env, p, k, rel, h, n, b, c, t⟩
  exact b _ _ _ _ _ KpS.refl Evo.refl rel h
theorem st_cont {pos : Pos} : PS X (.Continue pos) (tSt C A fun k env => k.ct env) := by
  refine PS.imp ps_continue ?_
  rintro D σ H ⟨F, env, p, k, rel, h, n, b, c, t⟩
  exact c _ _ _ _ _ KpS.refl Evo.refl rel h
theorem st_never {s : Stmt} : PS X s (tSt C A fun _ _ => False) := ⟨fun _ _ _ _ _ _ ⟨_, _, _, _, _, h, _⟩ => h.elim⟩
theorem st_ex {e : Expr} {w : W} {pos : Pos} (he : PE X e (tS C w)) (hs : swapsWith e none pos.line X.env = pure false) : PS X (.Expr e pos) (tSt C A fun k env => w env fun _ env1 => k.nx env1) := by
  refine PS.imp (ps_expr he hs) ?_
  rintro D σ H ⟨F, env, p, k, rel, h, n, b, c, t⟩
  exact tS.go rel h fun v r env1 F1 H1 p1 ev1 r1 h1 => n _ _ _ _ _ KpS.refl ev1 (r1.take 0) h1
theorem st_ret {e : Expr} {w : W} {pos : Pos} (he : PE X e (tS C w)) : PS X (.Return (some e) pos) (tSt C A fun k env => w env fun r env1 => k.rt r env1) := by
  refine PS.imp (ps_ret he) ?_
  rintro D σ H ⟨F, env, p, k, rel, h, n, b, c, t⟩
  exact tS.go rel h fun v r env1 F1 H1 p1 ev1 r1 h1 => t _ _ _ _ _ _ _ KpS.refl ev1 r1 h1
theorem st_if {e : Expr} {a b : List Stmt} {wt : WT} {wa wb : WS} {pos : Pos} (he : PT X e (tST C wt)) (ha : PSs X a (tSt C A wa)) (hb : PSs X b (tSt C A wb)) :
    PS X (.If e a b pos) (tSt C A fun k env => wt env fun t env1 => if t = true then wa k env1 else wb k env1) := by
  refine PS.imp (ps_if he ha hb) ?_
  rintro D σ H ⟨F, env, p, k, rel, h, n, b, c, t⟩
  refine tST.go rel h fun t1 env1 F1 H1 p1 ev1 r1 h1 => ?_
  have rest : ∀ w : WS, w k env1 → tSt C A w D σ H1 := fun w hw => ⟨F1, env1, p1, k, r1, hw, fun σ2 env2 F2 H2 p2 kp2 ev2 r2 h2 => n _ _ _ _ _ kp2 (ev1.trans ev2) r2 h2, fun σ2 env2 F2 H2 p2 kp2 ev2 r2 h2 => b _ _ _ _ _ kp2 (ev1.trans ev2) r2 h2,
    fun σ2 env2 F2 H2 p2 kp2 ev2 r2 h2 => c _ _ _ _ _ kp2 (ev1.trans ev2) r2 h2, fun v r σ2 env2 F2 H2 p2 kp2 ev2 r2 h2 => t _ _ _ _ _ _ _ kp2 (ev1.trans ev2) r2 h2⟩
  cases t1 with
  | true => rw [if_pos rfl] at h1 ⊢; exact rest _ h1
  | false => rw [if_neg Bool.false_ne_true] at h1 ⊢; exact rest _ h1
theorem st_while {e : Expr} {b : List Stmt} {wt : WT} {wb : WS} {pos : Pos} (hp : PassesOwn (model X.prog X.w) X.A X.env X.xe) (he : PT X e (tST C wt)) (hb : PSs X b (tSt C A wb)) :
    PS X (.While e b [] pos) (tSt C A fun k env => ∃ n, whN wt wb k n env) := by
  refine PS.imp (ps_while hp he hb) ?_
  rintro D σ H ⟨F, env, p, k, rel, ⟨m, h⟩, n, b, c, t⟩
  refine ⟨fun m σ' H' => ∃ F' env' p', KpS A σ σ' ∧ Evo F H p F' H' p' ∧ Rel C F' H' σ' env' [] p' ∧ whN wt wb k m env', ⟨m, F, env, p, KpS.refl, Evo.refl, rel, h⟩, ?_⟩
  rintro m σ1 H1 ⟨F1, env1, p1, kp1, ev1, r1, h1⟩
  cases m with
  | zero => exact h1.elim
  | succ m =>
    unfold whN at h1
    refine tST.go r1 h1 fun t1 env2 F2 H2 p2 ev2 r2 h2 => ?_
    cases t1 with
    | false =>
      rw [if_neg Bool.false_ne_true] at h2 ⊢
      exact n _ _ _ _ _ kp1 (ev1.trans ev2) r2 h2
    | true =>
      rw [if_pos rfl] at h2 ⊢
      refine ⟨fun σ' H' => ∃ F' env' p', KpS A σ σ' ∧ Evo F H p F' H' p' ∧ Rel C F' H' σ' env' [] p' ∧ whN wt wb k m env', fun σ' H' z => ⟨m, Nat.lt_succ_self m, z⟩, ?_⟩
      refine ⟨F2, env2, p2, _, r2, h2, fun σ3 env3 F3 H3 p3 kp3 ev3 r3 h3 => ⟨F3, env3, p3, kp1.trans kp3, (ev1.trans ev2).trans ev3, r3, h3⟩, fun σ3 env3 F3 H3 p3 kp3 ev3 r3 h3 => n _ _ _ _ _ (kp1.trans kp3) ((ev1.trans ev2).trans ev3) r3 h3,
        fun σ3 env3 F3 H3 p3 kp3 ev3 r3 h3 => ⟨F3, env3, p3, kp1.trans kp3, (ev1.trans ev2).trans ev3, r3, h3⟩, fun v r σ3 env3 F3 H3 p3 kp3 ev3 r3 h3 => t _ _ _ _ _ _ _ (kp1.trans kp3) ((ev1.trans ev2).trans ev3) r3 h3⟩
theorem st_for {tg iter : Expr} {b : List Stmt} {tgt : Tg} {ik : IK} {ws : Ws} {wb : WS} {pos : Pos} (hp : PassesOwn (model X.prog X.w) X.A X.env X.xe) (hc : X.calm = true) (hi : PI X tg iter (tIt C ik ws)) (hg : PG X tg (gT X.K tgt)) (hsl : ∀ i ∈ tgt.slots, i ∈ A)
    (hb : PSs X b (tSt C A wb)) (hs : ∀ x, foldedSetIterable iter X.env x = pure x) :
    PS X (.For tg iter b [] pos) (tSt C A fun k env => ws env fun rs env1 => escRs rs env1 fun ds env2 => itemsT ik (ds.map .d) fun its => forL tgt wb k its env2) := by
  refine PS.imp (ps_for hp hc hi hg hb hs) ?_
  rintro D σ H ⟨F, env, p, k, rel, h, n, b, c, t⟩
  refine ⟨F, env, [], p, _, rel, h, fun its env2 F2 H2 p2 J ev2 rel2 wk h2 => ?_⟩
  refine ⟨fun i m σ' H' => m = its.length - i ∧ i ≤ its.length ∧ ∃ F' env' p', KpS A σ σ' ∧ Evo F2 H2 p2 F' H' p' ∧ Rel C F' H' σ' env' [] p' ∧ forL tgt wb k (its.drop i) env',
    ⟨its.length, by simp, Nat.zero_le _, F2, env2, p2, KpS.refl, Evo.refl, rel2, by rw [List.drop_zero]; exact h2⟩, ?_⟩
  rintro i m σ1 H1 ⟨rfl, hi, F1, env1, p1, kp1, ev1, r1, h1⟩
  by_cases hlt : i < its.length
  · rw [List.drop_eq_getElem_cons hlt] at h1
    unfold forL at h1
    refine .inr ⟨wk.go i F1 H1 ev1.fz r1.sub hlt, fun σ' H' => ∃ F' env' p', KpS A σ σ' ∧ Evo F2 H2 p2 F' H' p' ∧ Rel C F' H' σ' env' [] p' ∧ forL tgt wb k (its.drop (i + 1)) env', fun σ' H' z => ⟨its.length - (i + 1), by omega, rfl, hlt, z⟩, fun x Hy hy => ?_⟩
    obtain ⟨d, hd, hx⟩ := wk.yld i F1 H1 x Hy ev1.fz r1.sub hlt hy
    have ed : its[i] = d := by rw [List.getElem?_eq_getElem hlt] at hd; exact Option.some.inj hd
    rw [ed] at h1
    obtain ⟨F3, r3, ev3, rd3⟩ := r1.item hx
    refine asgT_ok (A := A) r3 noPk_nil rd3 hsl h1 fun σ4 env4 p4 kp4 ev4 r4 h4 => ?_
    have ev := (ev1.trans ev3).trans ev4
    refine ⟨F3, env4, p4, _, r4, h4, fun σ5 env5 F5 H5 p5 kp5 ev5 r5 h5 => ⟨F5, env5, p5, (kp1.trans kp4).trans kp5, ev.trans ev5, r5, h5⟩, fun σ5 env5 F5 H5 p5 kp5 ev5 r5 h5 => n _ _ _ _ _ ((kp1.trans kp4).trans kp5) ((ev2.trans ev).trans ev5) r5 h5,
      fun σ5 env5 F5 H5 p5 kp5 ev5 r5 h5 => ⟨F5, env5, p5, (kp1.trans kp4).trans kp5, ev.trans ev5, r5, h5⟩, fun v r σ5 env5 F5 H5 p5 kp5 ev5 r5 h5 => t _ _ _ _ _ _ _ ((kp1.trans kp4).trans kp5) ((ev2.trans ev).trans ev5) r5 h5⟩
  · have e : i = its.length := by omega
    subst e
    rw [List.drop_length] at h1
    unfold forL at h1
    exact .inl ⟨wk.stop _ F1 H1 ev1.fz r1.sub (Nat.le_refl _), n _ _ _ _ _ kp1 (ev2.trans ev1) r1 h1⟩
end
end Z

namespace Z
open PySem L2 PySem.Spec PyProof.Rows

section
variable {C : CT} {F H F' H' : Hp} {p p' : Ow} {σ : St} {env : Env} {tm : List (V × Z.R)}
/-- the first temp goes to slot i -/
def shiftP (i : Nat) (p : Ow) : Ow := fun k => match k with
  | .inl j => if j = i then p (.inr 0) else p (.inl j)
  | .inr k => p (.inr (k + 1))
theorem Rel.setT {v : V} {t : T} (r : Rel C F H σ env ((v, .t t) :: tm) p) (n : NoPk tm) (i : Nat) : Rel C F H (σ.set i (some v)) (env.set i (some t)) tm (shiftP i p) ∧ Evo F H p F H (shiftP i p) := by
  have src : ∀ x a, a ∈ shiftP i p x → ∃ y, a ∈ p y := fun x a h => by
    unfold shiftP at h
    split at h
    · split at h
      · exact ⟨_, h⟩
      · exact ⟨_, h⟩
    · exact ⟨_, h⟩
  refine ⟨⟨r.sub, fun j u e => ?_, fun k w u e => ?_, fun k w j e => absurd e (n k w j), fun x y a h1 h2 => ?_, fun x => ?_, fun x a h => ?_, by rw [List.length_set, List.length_set]; exact r.len⟩, Evo.refl.sub src⟩
  · by_cases hj : j = i
    · subst hj
      have hi : j < env.length := by
        rcases Nat.lt_or_ge j env.length with q | q
        · exact q
        · rw [List.getElem?_eq_none (by simpa using q)] at e; cases e
      rw [List.getElem?_set_self hi] at e
      cases e
      refine ⟨v, List.getElem?_set_self (by rw [← r.len]; exact hi), ?_⟩
      simp only [shiftP, if_true]
      exact r.temp 0 v t rfl
    · rw [List.getElem?_set_ne (Ne.symm hj)] at e
      obtain ⟨w, q1, q2⟩ := r.slot j u e
      exact ⟨w, by rw [List.getElem?_set_ne (Ne.symm hj)]; exact q1, by simp only [shiftP, if_neg hj]; exact q2⟩
  · simp only [shiftP]
    exact r.temp (k + 1) w u (by simpa using e)
  · cases x with
    | inl a1 =>
      cases y with
      | inl a2 =>
        simp only [shiftP] at h1 h2
        split at h1 <;> split at h2
        · rename_i e1 e2; rw [e1, e2]
        · have := r.dis _ _ a h1 h2; cases this
        · have := r.dis _ _ a h1 h2; cases this
        · have := r.dis _ _ a h1 h2; cases this; rfl
      | inr b2 =>
        simp only [shiftP] at h1 h2
        split at h1
        · have := r.dis _ _ a h1 h2; cases this
        · have := r.dis _ _ a h1 h2; cases this
    | inr b1 =>
      cases y with
      | inl a2 =>
        simp only [shiftP] at h1 h2
        split at h2
        · have := r.dis _ _ a h1 h2; cases this
        · have := r.dis _ _ a h1 h2; cases this
      | inr b2 =>
        simp only [shiftP] at h1 h2
        have := r.dis _ _ a h1 h2; cases this; rfl
  · unfold shiftP
    split
    · split <;> exact r.nod _
    · exact r.nod _
  · obtain ⟨y, hy⟩ := src x a h
    exact r.own y a hy
/-- temp k told as a datum -/
theorem Rel.tempD (r : Rel C F H σ env tm p) {k : Nat} {v : V} {q : Z.R} {x : D} (h : tm[k]? = some (v, q)) (hx : RepD C F x v) : Rel C F H σ env (tm.set k (v, .t (.d x))) (setp p (.inr k) []) := by
  have hk : k < tm.length := by
    rcases Nat.lt_or_ge k tm.length with q | q
    · exact q
    · rw [List.getElem?_eq_none q] at h; cases h
  refine ⟨r.sub, fun j u e => ?_, fun j w u e => ?_, fun j w i e => ?_, fun x y a h1 h2 => ?_, fun x => ?_, fun x a h => ?_, r.len⟩
  · obtain ⟨w, q1, q2⟩ := r.slot j u e
    exact ⟨w, q1, by rw [setp_ne (by simp)]; exact q2⟩
  · by_cases hj : j = k
    · subst hj
      rw [List.getElem?_set_self hk] at e
      cases e
      rw [setp_same]
      simp only [RepT]
      exact ⟨trivial, hx⟩
    · rw [List.getElem?_set_ne (Ne.symm hj)] at e
      rw [setp_ne (by simp [hj])]
      exact r.temp j w u e
  · by_cases hj : j = k
    · subst hj
      rw [List.getElem?_set_self hk] at e
      cases e
    · rw [List.getElem?_set_ne (Ne.symm hj)] at e
      exact r.peek j w i e
  · unfold setp at h1 h2
    split at h1 <;> split at h2 <;> first | (simp at h1; done) | (simp at h2; done) | exact r.dis x y a h1 h2
  · unfold setp
    split
    · simp
    · exact r.nod x
  · unfold setp at h
    split at h
    · simp at h
    · exact r.own x a h
theorem tak1 {k : Nat} {v : V} {q : Z.R} {K : T → Env → Prop} (r : Rel C F H σ env tm p) (h : tm[k]? = some (v, q)) (e : takR q env K) :
    ∃ F' env' p' t, Rel C F' H σ env' (tm.set k (v, .t t)) p' ∧ Evo F H p F' H p' ∧ K t env' := by
  cases q with
  | t t => exact ⟨F, env, p, t, by rw [set_self h]; exact r, Evo.refl, e⟩
  | pk i =>
    simp only [takR] at e
    split at e
    · rename_i x q
      obtain ⟨w, e1, e2⟩ := r.slot i _ q
      have := r.peek k v i h
      rw [this] at e1; cases e1
      exact ⟨F, env, _, .d x, r.tempD h e2.dat, Evo.push0, e⟩
    · rename_i t q hx
      obtain ⟨F', r', ev, re⟩ := r.freezeSlot hx
      exact ⟨F', _, _, .d t.erase, r'.tempD h (re v (r.peek k v i h)), ev.trans Evo.push0, e⟩
    · exact e.elim
  | gone => exact e.elim
theorem taks : ∀ {rs : List Z.R} {vs : List V} {t0 : List (V × Z.R)} {F : Hp} {env : Env} {p : Ow} {K : List T → Env → Prop}, vs.length = rs.length → Rel C F H σ env (t0 ++ vs.zip rs) p → takRs rs env K →
    ∃ F' env' p' ts, ts.length = vs.length ∧ Rel C F' H σ env' (t0 ++ vs.zip (ts.map Z.R.t)) p' ∧ Evo F H p F' H p' ∧ K ts env'
  | [], [], t0, F, env, p, K, _, r, e => ⟨F, env, p, [], rfl, r, Evo.refl, e⟩
  | [], _ :: _, _, _, _, _, _, hl, _, _ => by simp at hl
  | _ :: _, [], _, _, _, _, _, hl, _, _ => by simp at hl
  | q :: rs, v :: vs, t0, F, env, p, K, hl, r, e => by
    simp only [takRs] at e
    rw [List.zip_cons_cons] at r
    obtain ⟨F1, env1, p1, t, r1, ev1, e1⟩ := tak1 r (get_mid _ _ _) e
    rw [set_mid, List.append_cons] at r1
    obtain ⟨F2, env2, p2, ts, l2, r2, ev2, e2⟩ := taks (by simpa using hl) r1 e1
    refine ⟨F2, env2, p2, t :: ts, by simp [l2], ?_, ev1.trans ev2, e2⟩
    rw [List.map_cons, List.zip_cons_cons, List.append_cons]
    exact r2
def setS (σ : St) : List Nat → List V → St
  | i :: is, v :: vs => setS (σ.set i (some v)) is vs
  | _, _ => σ
theorem noPk_ts : ∀ {vs : List V} {ts : List T}, NoPk (vs.zip (ts.map Z.R.t)) := by
  intro vs ts k v i e
  rw [List.getElem?_zip_eq_some] at e
  obtain ⟨e1, e2⟩ := e
  rw [List.getElem?_map] at e2
  cases q : ts[k]? with
  | none => rw [q] at e2; cases e2
  | some x => rw [q] at e2; cases e2
theorem Rel.setsT {A : List Nat} : ∀ {is : List Nat} {vs : List V} {ts : List T} {σ : St} {env : Env} {p : Ow}, is.length = ts.length → ts.length = vs.length → (∀ i ∈ is, i ∈ A) → Rel C F H σ env (vs.zip (ts.map Z.R.t)) p →
    ∃ p', Rel C F H (setS σ is vs) (setAll env is ts) [] p' ∧ Evo F H p F H p' ∧ KpS A σ (setS σ is vs)
  | [], [], [], σ, env, p, _, _, _, r => ⟨p, by unfold setS setAll; simpa using r, Evo.refl, by unfold setS; exact KpS.refl⟩
  | i :: is, v :: vs, t :: ts, σ, env, p, h1, h2, hA, r => by
    rw [List.map_cons, List.zip_cons_cons] at r
    obtain ⟨r1, ev1⟩ := r.setT noPk_ts i
    obtain ⟨p', r2, ev2, kp⟩ := Rel.setsT (A := A) (by simpa using h1) (by simpa using h2) (fun j hj => hA j (by simp [hj])) r1
    unfold setS setAll
    exact ⟨p', r2, ev1.trans ev2, (KpS.set (hA i (by simp))).trans kp⟩
  | [], _ :: _, [], _, _, _, _, h2, _, _ => by simp at h2
  | [], _, _ :: _, _, _, _, h1, _, _, _ => by simp at h1
  | _ :: _, _, [], _, _, _, h1, _, _, _ => by simp at h1
  | _ :: _, [], _ :: _, _, _, _, _, h2, _, _ => by simp at h2
end

section
variable {X : Cx} {C : CT} {A : List Nat}
/-- name = e, whatever the value's reading is -/
theorem st_asg_core {st : Stmt} {t : TE} {w : W} {i : Nat} (h : PS X st (tAsg t (gName i))) (ht : ∀ σ H Q, tS C w σ H Q → t σ H Q) (hi : i ∈ A) :
    PS X st (tSt C A fun k env => w env fun r env1 => takR r env1 fun t env2 => k.nx (env2.set i (some t))) := by
  refine PS.imp h ?_
  rintro D σ H ⟨F, env, p, k, rel, h, n, b, c, tt⟩
  refine ht _ _ _ (tS.go rel h fun v r env1 F1 H1 p1 ev1 r1 h1 => ?_)
  obtain ⟨F2, env2, p2, t, r2, ev2, h2⟩ := tak1 (k := 0) r1 rfl h1
  obtain ⟨r3, ev3⟩ := Rel.setT (tm := []) (v := v) (t := t) (by simpa using r2) noPk_nil i
  exact n _ _ _ _ _ (KpS.set hi) ((ev1.trans ev2).trans ev3) r3 h2
/-- targets = e -/
theorem st_asgT {tg e : Expr} {tgt : Tg} {w : W} {pos : Pos} (he : PE X e (tS C w)) (hg : PG X tg (gT X.K tgt)) (hsl : ∀ i ∈ tgt.slots, i ∈ A) (hs : swapsWithSole [tg] e pos.line X.env = pure false) (hw : swappedStores [tg] e X.env = pure none)
    (h1 : (assignEach [tg] X.env).map (·.2) = [assign tg X.env]) : PS X (.Assign [tg] e pos) (tSt C A fun k env => w env fun r env1 => escR r env1 fun d env2 => asgT tgt d env2 k.nx) := by
  refine PS.imp (ps_asg he hg hs hw h1) ?_
  rintro D σ H ⟨F, env, p, k, rel, h, n, b, c, tt⟩
  refine tS.go rel h fun v r env1 F1 H1 p1 ev1 r1 h1 => ?_
  obtain ⟨F2, env2, p2, d, r2, ev2, rd2, h2⟩ := esc r1 h1
  exact asgT_ok (A := A) r2 noPk_nil rd2 hsl h2 fun σ3 env3 p3 kp3 ev3 r3 h3 => n _ _ _ _ _ kp3 ((ev1.trans ev2).trans ev3) r3 h3
theorem len2 {α : Type} {l : List α} (h : l.length = 2) : ∃ a b, l = [a, b] := by
  match l with
  | [a, b] => exact ⟨a, b, rfl⟩
  | [] => simp at h
  | [_] => simp at h
  | _ :: _ :: _ :: _ => simp at h
/-- a, b = x, y: one after the other -/
theorem st_par2 {st : Stmt} {i j : Nat} {ws : Ws} (h : PS X st (tPar i j (tSs C ws))) (hi : i ∈ A) (hj : j ∈ A) :
    PS X st (tSt C A fun k env => ws env fun rs env1 => takRs rs env1 fun ts env2 => [i, j].length = ts.length ∧ k.nx (setAll env2 [i, j] ts)) := by
  refine PS.imp h ?_
  rintro D σ H ⟨F, env, p, k, rel, h, n, b, c, tt⟩
  refine tSs.go rel h fun vs rs env1 F1 H1 p1 hl ev1 r1 h1 => ?_
  obtain ⟨F2, env2, p2, ts, l2, r2, ev2, h2, h3⟩ := taks hl r1 h1
  obtain ⟨v, w, rfl⟩ := len2 (l := vs) (by rw [← l2, ← h2]; rfl)
  obtain ⟨t, u, rfl⟩ := len2 (l := ts) (by rw [← h2]; rfl)
  obtain ⟨p3, r3, ev3, kp3⟩ := Rel.setsT (A := A) (is := [i, j]) (vs := [v, w]) (ts := [t, u]) rfl rfl (by simp [hi, hj]) r2
  exact ⟨v, w, rfl, n _ _ _ _ _ kp3 ((ev1.trans ev2).trans ev3) r3 h3⟩
/-- the same by a real tuple -/
theorem gTs_names {K0 : PySem.W.Frag} : ∀ {is : List Nat} {vs : List V} {σ : St} {H : Hp} {Q : St → Hp → Prop}, is.length = vs.length → Q (setS σ is vs) H → gTs K0 (is.map Tg.nm) vs σ H Q
  | [], [], σ, H, Q, _, h => by
    simp only [List.map_nil, gTs, gNil]
    exact ⟨trivial, h⟩
  | i :: is, v :: vs, σ, H, Q, hl, h => by
    simp only [List.map_cons, gTs, gCons]
    refine ⟨v, vs, rfl, ?_⟩
    simp only [gT, gName]
    exact gTs_names (by simpa using hl) h
theorem st_parT {tg e : Expr} {is : List Nat} {es : List Expr} {x1 : Nat} {tp : Pos} {ws : Ws} {pos : Pos} (ha : PA X es (tSs C ws)) (hg : PG X tg (gT X.K (.tp (is.map Tg.nm)))) (hA : ∀ i ∈ is, i ∈ A) (hn : is.length ≤ 1000)
    (hs : swapsWithSole [tg] (.Tuple es x1 tp) pos.line X.env = pure false) (hw : swappedStores [tg] (.Tuple es x1 tp) X.env = pure none) (h1 : (assignEach [tg] X.env).map (·.2) = [assign tg X.env]) :
    PS X (.Assign [tg] (.Tuple es x1 tp) pos) (tSt C A fun k env => ws env fun rs env1 => takRs rs env1 fun ts env2 => is.length = ts.length ∧ k.nx (setAll env2 is ts)) := by
  refine PS.imp (ps_asg (pe_tup ha) hg hs hw h1) ?_
  rintro D σ H ⟨F, env, p, k, rel, h, n, b, c, tt⟩
  refine tSs.go rel h fun vs rs env1 F1 H1 p1 hl ev1 r1 h1 => ?_
  obtain ⟨F2, env2, p2, ts, l2, r2, ev2, h2, h3⟩ := taks hl r1 h1
  have hz : vs.length ≤ sizeLine := by rw [← l2, ← h2, sizeLine_eq]; omega
  refine ⟨hz, fun q hq => ?_⟩
  have r3 : Rel C F2 (upd H1 q (.tup vs)) σ env2 ([] ++ vs.zip (ts.map Z.R.t)) p2 := r2.alloc hq
  have ev3 : Evo F2 H1 p2 F2 (upd H1 q (.tup vs)) p2 := ⟨Same.refl _, fun b u e n => by rw [upd_ne (ne_of_none e hq)]; exact e, fun b hb => .inl hb, fun x b hb => .inr ⟨x, hb⟩⟩
  obtain ⟨p4, r4, ev4, kp4⟩ := Rel.setsT (A := A) (is := is) h2 l2 hA (by simpa using r3)
  simp only [gT, gTup]
  refine ⟨q, vs, rfl, SqT.of upd_same, by rw [List.length_map, h2, l2], gTs_names (by rw [h2, l2]) ?_⟩
  exact n _ _ _ _ _ kp4 (((ev1.trans ev2).trans ev3).trans ev4) r4 h3
/-- x[i] = e -/
theorem st_set {o ix e : Expr} {i : Nat} {wi w : W} {pos spos : Pos} (ho : PE X o (tVar i)) (hi : PE X ix (tS C wi)) (he : PE X e (tS C w)) (hs : swapsWithSole [.Subscript o ix spos] e pos.line X.env = pure false) (hw : swappedStores [.Subscript o ix spos] e X.env = pure none) (hsl : noSlice ix = true) :
    PS X (.Assign [.Subscript o ix spos] e pos) (tSt C A fun k env => w env fun r env1 => (match env1[i]? with
    | some (some _) => True
    | _ => False) ∧ wi env1 fun r2 env2 => escRs [r, r2] env2 fun ds env3 => match ds, env3[i]? with
    | [d, .int j], some (some (.l xs)) => (match ixN xs.length j with
      | some n => k.nx (env3.set i (some (.l (xs.set n d))))
      | none => False)
    | _, _ => False) := by
  refine PS.imp (ps_asg he (pg_sub ho hi set_list (fun v => by cases ix <;> first | rfl | simp [noSlice] at hsl)) hs hw (by rfl)) ?_
  rintro D σ H ⟨F, env, p, k, rel, h, n, b, c, tt⟩
  refine tS.go rel h fun v r env1 F1 H1 p1 ev1 r1 h1 => ?_
  obtain ⟨h0, h1⟩ := h1
  split at h0
  · rename_i t0 e0
    obtain ⟨vx, e1, _⟩ := r1.slot i t0 e0
    refine ⟨vx, e1, ?_⟩
    refine tS.go r1 h1 fun v2 r2' env2 F2 H2 p2 ev2 r2 h2 => ?_
    obtain ⟨F3, env3, p3, ds, r3, ev3, rd3, h3⟩ := escs (t0 := []) (rs := [r, r2']) (vs := [v, v2]) rfl (by simpa using r2) h2
    split at h3
    · rename_i d j xs e3
      simp only [RepDs] at rd3
      obtain ⟨v', _, q1, rd1, v2', _, rfl, rd2, rfl⟩ := rd3
      simp only [List.cons.injEq, and_true] at q1
      obtain ⟨rfl, rfl⟩ := q1
      simp only [RepD] at rd2
      subst rd2
      split at h3
      · rename_i n' en
        obtain ⟨a, vs, e4, e5, e6, e7⟩ := r3.mut e3
        rw [e1] at e4
        cases e4
        obtain ⟨r8, ev8⟩ := e7 (xs.set n' d) (vs.set n' v) (e6.set n' rd1)
        exact ⟨a, vs, j, n', rfl, rfl, e5, by rw [e6.len]; exact en, n _ _ _ _ _ KpS.refl (((ev1.trans ev2).trans ev3).trans ev8) r8 h3⟩
      · exact h3.elim
    · exact h3.elim
  · exact h0.elim
/-- x += e, x -= e -/
def augWS (i : Nat) (o : Bop) (w : W) : WS := fun k env => (match env[i]? with
    | some (some _) => True
    | _ => False) ∧ w env fun r env1 => match env1[i]?, cont env1 r with
    | some (some (.d (.int a))), some (.d (.int b)) => augI o a b fun z => k.nx (env1.set i (some (.d (.int z))))
    | _, _ => False
theorem st_aug_core {o : Bop} {op : Operator} {f : Int → Int → Int} {x : PySem.Str} {i : Nat} {e : Expr} {w : W} {pos p1 : Pos} (hop : PIp X op (ipI f)) (hk : ∀ a b k, augI o a b k → k (f a b)) (hN : X.N.Nodup) (hi : X.N[i]? = some x) (hx : Loc X.env.scope x) (he : PE X e (tS C w)) (hf : X.fn x = true ∨ X.env.scope.names.lookup x = some .local) (hA : i ∈ A) :
    PS X (.AugAssign (.Name x p1) op e pos) (tSt C A (augWS i o w)) := by
  refine PS.imp (ps_aug hN hi hx he hop hf) ?_
  rintro D σ H ⟨F, env, p, k, rel, ⟨h0, h⟩, n, b, c, tt⟩
  split at h0
  · rename_i t0 e0
    obtain ⟨vx, e1, _⟩ := rel.slot i t0 e0
    refine ⟨vx, e1, ?_⟩
    refine tS.go rel h fun v r env1 F1 H1 p1 ev1 r1 h1 => ?_
    split at h1
    · rename_i a b' e3 e4
      obtain ⟨f1, t1⟩ := contents r1 (k := 0) (v := v) (q := r) rfl e4
      have q1 := dat_int t1
      subst q1
      obtain ⟨vy, e5, e6⟩ := r1.slot i _ e3
      have q2 := dat_int e6
      subst q2
      rw [e1] at e5
      cases e5
      refine ⟨a, b', rfl, rfl, n _ _ _ _ _ (KpS.set hA) (ev1.trans (Evo.push0 (x := .inl i))) ?_ (hk a b' _ h1)⟩
      exact (r1.take 0).setD (d := .int (f a b')) (by simpa using noPk_nil) (by simp only [RepD]) i
    · exact h1.elim
  · exact h0.elim
theorem st_aug {o : Bop} {op : Operator} {x : PySem.Str} {i : Nat} {e : Expr} {w : W} {pos p1 : Pos} (hop : (o = .add ∧ op = .Add) ∨ (o = .sub ∧ op = .Sub)) (hN : X.N.Nodup) (hi : X.N[i]? = some x) (hx : Loc X.env.scope x) (he : PE X e (tS C w)) (hf : X.fn x = true ∨ X.env.scope.names.lookup x = some .local) (hA : i ∈ A) :
    PS X (.AugAssign (.Name x p1) op e pos) (tSt C A (augWS i o w)) := by
  rcases hop with ⟨rfl, rfl⟩ | ⟨rfl, rfl⟩
  · exact st_aug_core ip_add (fun a b k h => h) hN hi hx he hf hA
  · exact st_aug_core ip_sub (fun a b k h => h) hN hi hx he hf hA
end
end Z

/-! A list of own lists. -/
namespace Z
open PySem L2 PySem.Spec PyProof.Rows

section
variable {C : CT} {F H H' : Hp} {p : Ow} {σ : St} {env : Env} {tm : List (V × Z.R)}
theorem RepTs.app : ∀ {ts us : List T} {vs ws : List V} {f1 f2 : List Addr}, RepTs C F H ts vs f1 → RepTs C F H us ws f2 → RepTs C F H (ts ++ us) (vs ++ ws) (f1 ++ f2)
  | [], us, vs, ws, f1, f2, h1, h2 => by
    simp only [RepTs] at h1
    obtain ⟨rfl, rfl⟩ := h1
    exact h2
  | t :: ts, us, vs, ws, f1, f2, h1, h2 => by
    simp only [RepTs] at h1
    obtain ⟨v, r, g1, g2, rfl, rfl, a, b⟩ := h1
    simp only [List.cons_append, RepTs]
    exact ⟨v, r ++ ws, g1, g2 ++ f2, rfl, by simp, a, RepTs.app b h2⟩
theorem RepTs.cut : ∀ {ts us : List T} {vs : List V} {f : List Addr}, RepTs C F H (ts ++ us) vs f → ∃ v1 v2 f1 f2, vs = v1 ++ v2 ∧ f = f1 ++ f2 ∧ RepTs C F H ts v1 f1 ∧ RepTs C F H us v2 f2
  | [], us, vs, f, h => ⟨[], vs, [], f, rfl, rfl, by simp [RepTs], h⟩
  | t :: ts, us, vs, f, h => by
    simp only [List.cons_append, RepTs] at h
    obtain ⟨v, r, g1, g2, rfl, rfl, a, b⟩ := h
    obtain ⟨v1, v2, f1, f2, rfl, rfl, c, d⟩ := RepTs.cut b
    exact ⟨v :: v1, v2, g1 ++ f1, f2, rfl, by simp, by simp only [RepTs]; exact ⟨v, v1, g1, f1, rfl, rfl, a, c⟩, d⟩
theorem RepTs.len : ∀ {ts : List T} {vs : List V} {f : List Addr}, RepTs C F H ts vs f → vs.length = ts.length
  | [], vs, f, h => by simp only [RepTs] at h; rw [h.1]; rfl
  | t :: ts, vs, f, h => by
    simp only [RepTs] at h
    obtain ⟨v, r, g1, g2, rfl, rfl, a, b⟩ := h
    simp [RepTs.len b]
theorem RepTs.one {t : T} {v : V} {f : List Addr} (h : RepT C F H t v f) : RepTs C F H [t] [v] f := by
  simp only [RepTs]
  exact ⟨v, [], f, [], rfl, by simp, h, rfl, rfl⟩
theorem RepTs.one' {t : T} {vs : List V} {f : List Addr} (h : RepTs C F H [t] vs f) : ∃ v, vs = [v] ∧ RepT C F H t v f := by
  simp only [RepTs] at h
  obtain ⟨v, r, g1, g2, rfl, rfl, a, rfl, rfl⟩ := h
  exact ⟨v, rfl, by simpa using a⟩
theorem Rel.nest (r : Rel C F H σ env tm p) {i : Nat} {ts : List T} (h : nestT env[i]? = some ts) : ∃ t a vs f, env[i]? = some (some t) ∧ σ[i]? = some (some (.ref a)) ∧ p (.inl i) = a :: f ∧ F a = none ∧ H a = some (.lst vs) ∧ RepTs C F H ts vs f := by
  unfold nestT at h
  split at h
  · rename_i us e
    cases h
    obtain ⟨v, e1, e2⟩ := r.slot i _ e
    simp only [RepT] at e2
    obtain ⟨a, vs, f, rfl, e3, e4, e5, e6⟩ := e2
    exact ⟨_, a, vs, f, e, e1, e3, e4, e5, e6⟩
  · rename_i e
    cases h
    obtain ⟨v, e1, e2⟩ := r.slot i _ e
    simp only [RepT] at e2
    obtain ⟨a, vs, rfl, e3, e4, e5, e6⟩ := e2
    simp only [RepDs] at e6
    subst e6
    exact ⟨_, a, [], [], e, e1, e3, e4, e5, by simp [RepTs]⟩
  · cases h
/-- a variable's own tree is another one now -/
theorem Rel.put (r : Rel C F H σ env tm p) {i : Nat} {v : V} {t0 t : T} {fp : List Addr} (h0 : env[i]? = some (some t0)) (hv : σ[i]? = some (some v)) (same : ∀ b, b ∉ p (.inl i) → H' b = H b) (live : ∀ b ∈ p (.inl i), H' b ≠ none)
    (rep : RepT C F H' t v fp) (sub : ∀ b ∈ fp, b ∈ p (.inl i) ∨ ∃ k, b ∈ p (.inr k)) (nd : fp.Nodup) : ∃ p', Rel C F H' σ (env.set i (some t)) [] p' ∧ Evo F H p F H' p' ∧ p' (.inl i) = fp := by
  have hi : i < env.length := by
    rcases Nat.lt_or_ge i env.length with q | q
    · exact q
    · rw [List.getElem?_eq_none q] at h0; cases h0
  let p' : Ow := fun k => match k with
    | .inl j => if j = i then fp else p (.inl j)
    | .inr _ => []
  have pi : p' (.inl i) = fp := if_pos rfl
  have pj : ∀ {j}, j ≠ i → p' (.inl j) = p (.inl j) := fun h => if_neg h
  have src : ∀ {x a}, a ∈ p' x → ∃ y, a ∈ p y ∧ (x = .inl i ∧ (y = .inl i ∨ ∃ k, y = .inr k) ∨ ∃ j, j ≠ i ∧ x = .inl j ∧ y = .inl j) := fun {x a} h => by
    match x, h with
    | .inl j, h =>
      by_cases q : j = i
      · subst q
        rw [pi] at h
        rcases sub a h with z | ⟨k, z⟩
        · exact ⟨_, z, .inl ⟨rfl, .inl rfl⟩⟩
        · exact ⟨_, z, .inl ⟨rfl, .inr ⟨k, rfl⟩⟩⟩
      · rw [pj q] at h
        exact ⟨_, h, .inr ⟨j, q, rfl, rfl⟩⟩
    | .inr k, h => simp [p'] at h
  have lv : ∀ x a, a ∈ p x → H' a ≠ none := fun x a h => by
    by_cases q : a ∈ p (.inl i)
    · exact live a q
    · rw [same a q]; exact (r.own x a h).2
  refine ⟨p', ⟨fun b u e => ?_, fun j u e => ?_, fun k w u e => by simp at e, fun k w j e => by simp at e, fun x y a h1 h2 => ?_, fun x => ?_, fun x a h => ?_, by rw [List.length_set]; exact r.len⟩, ⟨Same.refl _, fun b u e n => ?_, fun b h => .inl h, fun x a h => ?_⟩, pi⟩
  · rw [same b (fun z => by rw [(r.own _ b z).1] at e; cases e)]
    exact r.sub b u e
  · by_cases q : j = i
    · subst q
      rw [List.getElem?_set_self hi] at e
      cases e
      exact ⟨v, hv, by rw [pi]; exact rep⟩
    · rw [List.getElem?_set_ne (Ne.symm q)] at e
      obtain ⟨w, q1, q2⟩ := r.slot j u e
      refine ⟨w, q1, ?_⟩
      rw [pj q]
      exact q2.mono (Same.refl F) fun b hb => ⟨(r.own _ b hb).1, same b fun z => q (by have := r.dis _ _ b hb z; simpa using this)⟩
  · obtain ⟨y1, a1, b1⟩ := src h1
    obtain ⟨y2, a2, b2⟩ := src h2
    have e := r.dis _ _ a a1 a2
    subst e
    rcases b1 with ⟨c1, c2⟩ | ⟨j, c1, c2, c3⟩ <;> rcases b2 with ⟨d1, d2⟩ | ⟨j', d1, d2, d3⟩
    · rw [c1, d1]
    · subst d3
      rcases c2 with z | ⟨k, z⟩
      · simp at z; exact absurd z d1
      · cases z
    · subst c3
      rcases d2 with z | ⟨k, z⟩
      · simp at z; exact absurd z c1
      · cases z
    · rw [c2, d2, ← c3, ← d3]
  · match x with
    | .inl j =>
      by_cases q : j = i
      · subst q; rw [pi]; exact nd
      · rw [pj q]; exact r.nod _
    | .inr k => simp [p']
  · obtain ⟨y, q, _⟩ := src h
    exact ⟨(r.own y a q).1, lv y a q⟩
  · rw [same b (n _)]; exact e
  · obtain ⟨y, q, _⟩ := src h
    exact .inr ⟨y, q⟩
end
section
variable {X : Cx} {C : CT} {A : List Nat}
theorem no_swap {f : Expr} {as : List Expr} {ks : List Keyword} {p : Pos} {l : Nat} {env : PySem.Env} : swapsWith (.Call f as ks p) none l env = pure false := swap_none rfl
/-- x.append(e) where x holds own lists -/
theorem st_napp {i : Nat} {x : PySem.Str} {p1 apos cpos pos : Pos} {e : Expr} {w : W × WT} (hv : PE X (.Name x p1) (tVar i)) (he : PE X e (tS C w.1)) (st : noStar e = true) (hl : (apos.endLine == cpos.line) = true) :
    PS X (.Expr (.Call (.Attribute (.Name x p1) "append" apos) [e] [] cpos) pos) (tSt C A fun k env => (nestT env[i]?).isSome = true ∧ w.1 env fun r env1 => takR r env1 fun t env2 => match nestT env2[i]? with
      | some ts => ts.length < sizeLine ∧ k.nx (env2.set i (some (.n (ts ++ [t]))))
      | none => False) := by
  refine PS.imp (ps_expr (pe_bm PySem.F.plainAttrs_list (mth_slot .append) (mth_type .append) (mth_rule .append) hv (pa_cons he pa_nil (star_cons st)) rfl ?_ hl (star_cons st) rfl) no_swap) ?_
  · rw [star_all (by simpa using st)]
    rfl
  rintro D σ H ⟨F, env, p, k, rel, ⟨h0, h⟩, n, _, _, _⟩
  obtain ⟨ts0, e0⟩ := Option.isSome_iff_exists.mp h0
  obtain ⟨t0, a, vs0, f0, _, e1, _, _, e4, _⟩ := rel.nest e0
  refine ⟨.ref a, e1, .inl ⟨rfl, _, SqL.of e4⟩, ?_⟩
  refine tS.go rel h fun v r env1 F1 H1 p1 ev1 rel1 h1 => ?_
  obtain ⟨F2, env2, p2, t, rel2, ev2, h2⟩ := tak1 (k := 0) rel1 rfl h1
  split at h2
  · rename_i ts e5
    obtain ⟨t2, b, vs, f, q1, q2, q3, q4, q5, q6⟩ := rel2.nest e5
    rw [e1] at q2; cases q2
    have rv : RepT C F2 H1 t v (p2 (.inr 0)) := rel2.temp 0 v t rfl
    have ap : a ∈ p2 (.inl i) := by rw [q3]; simp
    have na : ∀ y c, c ∈ p2 y → y ≠ .inl i → c ≠ a := fun y c hc hy z => hy (rel2.dis y _ c hc (by rw [z]; exact ap))
    have nf : a ∉ f := by
      have := rel2.nod (.inl i)
      rw [q3] at this
      exact (List.nodup_cons.mp this).1
    have live : ∀ c ∈ f, F2 c = none := fun c hc => (rel2.own (.inl i) c (by rw [q3]; simp [hc])).1
    obtain ⟨p3, rel3, ev3, _⟩ := rel2.put (H' := upd H1 a (.lst (vs ++ [v]))) (t := .n (ts ++ [t])) (fp := a :: (f ++ p2 (.inr 0))) q1 e1 (fun b hb => upd_ne fun z => hb (by rw [z]; exact ap)) (fun b hb => by
      by_cases z : b = a
      · rw [z, upd_same]; simp
      · rw [upd_ne z]; exact (rel2.own _ b hb).2) (by
      simp only [RepT]
      refine ⟨a, vs ++ [v], f ++ p2 (.inr 0), rfl, rfl, q4, upd_same, RepTs.app (q6.mono (Same.refl _) fun c hc => ⟨live c hc, upd_ne fun z => nf (by rw [← z]; exact hc)⟩) (RepTs.one (rv.mono (Same.refl _) fun c hc => ⟨(rel2.own _ c hc).1, upd_ne (na _ c hc (by simp))⟩))⟩) (fun b hb => by
      rcases List.mem_cons.mp hb with rfl | hb
      · exact .inl ap
      · rcases List.mem_append.mp hb with hb | hb
        · exact .inl (by rw [q3]; simp [hb])
        · exact .inr ⟨0, hb⟩) (by
      have n1 := rel2.nod (.inl i)
      rw [q3] at n1
      have n1 := List.nodup_cons.mp n1
      refine List.nodup_cons.mpr ⟨fun z => ?_, List.nodup_append.mpr ⟨n1.2, rel2.nod _, fun c hc d hd z => ?_⟩⟩
      · rcases List.mem_append.mp z with z | z
        · exact n1.1 z
        · exact na _ a z (by simp) rfl
      · subst z
        have := rel2.dis _ _ c (show c ∈ p2 (.inl i) by rw [q3]; simp [hc]) hd
        cases this)
    exact ⟨a, vs, v, rfl, rfl, q5, by rw [q6.len]; exact h2.1, n _ _ _ _ _ KpS.refl ((ev1.trans ev2).trans ev3) rel3 h2.2⟩
  · exact h2.elim
/-- x[-1].append(y[z]) where x holds own lists -/
theorem st_nap {i j l : Nat} {o ix : Expr} {p0 apos cpos pos : Pos} {d1 d2 : Expr} {p2 : Pos} (hK : X.K = C.K) (ho : PE X o (tVar i)) (hx : PE X ix (tC (.int (-1)))) (h1 : PE X d1 (tVar j)) (h2 : PE X d2 (tVar l)) (s1 : noSlice ix = true) (s2 : noSlice d2 = true) (hl : (apos.endLine == cpos.line) = true) :
    PS X (.Expr (.Call (.Attribute (.Subscript o ix p0) "append" apos) [.Subscript d1 d2 p2] [] cpos) pos) (tSt C A fun k env => match nestT env[i]?, env[j]?, env[l]? with
      | some ts, some (some tj), some (some (.d (.int n))) => (match ts.getLast?, lstT tj with
        | some (.l xs), some ds => (match L2.atI ds n with
          | some d => xs.length < sizeLine ∧ k.nx (env.set i (some (.n (ts.dropLast ++ [.l (xs ++ [d])]))))
          | none => False)
        | _, _ => False)
      | _, _, _ => False) := by
  refine PS.imp (ps_expr (pe_bm PySem.F.plainAttrs_list (mth_slot .append) (mth_type .append) (mth_rule .append) (pe_ix ix_list ho hx (plainIx s1)) (pa_cons (pe_ix ix_list h1 h2 (plainIx s2)) pa_nil) rfl rfl hl rfl rfl) no_swap) ?_
  rintro D σ H ⟨F, env, p, k, rel, h, n, _, _, _⟩
  split at h
  · rename_i ts tj m e0 e1 e2
    split at h
    · rename_i xs ds e3 e4
      split at h
      · rename_i d e5
        obtain ⟨t0, a, vs, f, q1, q2, q3, q4, q5, q6⟩ := rel.nest e0
        have ets : ts = ts.dropLast ++ [.l xs] := by
          have ne : ts ≠ [] := by rintro rfl; simp at e3
          have := List.dropLast_concat_getLast ne
          rw [List.getLast?_eq_some_getLast ne] at e3
          simp only [Option.some.injEq] at e3
          rw [e3] at this
          exact this.symm
        rw [ets] at q6
        obtain ⟨v1, v2, f1, f2, rfl, rfl, r1, r2⟩ := q6.cut
        obtain ⟨v, rfl, r3⟩ := r2.one'
        simp only [RepT] at r3
        obtain ⟨b, ws, rfl, rfl, b1, b2, b3⟩ := r3
        obtain ⟨vj, g1, g2⟩ := rel.slot j _ e1
        obtain ⟨c, us, rfl, g3, g4⟩ := g2.lst rel.sub e4
        obtain ⟨vl, g5, g6⟩ := rel.slot l _ e2
        simp only [RepT, RepD] at g6
        obtain ⟨_, rfl⟩ := g6
        obtain ⟨u, g7, g8⟩ := g4.atI e5
        have last : L2.atI (v1 ++ [V.ref b]) (-1) = some (.ref b) := by
          have e : L2.ixN (v1 ++ [V.ref b]).length (-1) = some v1.length := by
            unfold L2.ixN
            rw [if_neg (by decide), if_pos (by simp only [List.length_append, List.length_singleton]; omega)]
            simp only [List.length_append, List.length_singleton, Option.some.injEq]
            omega
          unfold L2.atI
          rw [e]
          simp
        have n1 := rel.nod (.inl i)
        rw [q3] at n1
        have n1 := List.nodup_cons.mp n1
        have ab : b ≠ a := fun z => n1.1 (by rw [← z]; simp)
        have bp : b ∈ p (.inl i) := by rw [q3]; simp
        have b1f : b ∉ f1 := fun z => by
          have := (List.nodup_append.mp n1.2).2.2 b z b (by simp)
          exact this rfl
        refine ⟨.ref a, q2, a, v1 ++ [.ref b], -1, .ref b, rfl, rfl, SqL.of q5, last, .inl ⟨rfl, _, SqL.of b2⟩, .ref c, g1, .int m, g5, c, us, m, u, rfl, rfl, SqL.of g3, g7, b, ws, u, rfl, rfl, b2, by rw [b3.len]; exact h.1, ?_⟩
        obtain ⟨p3, rel3, ev3, _⟩ := rel.put (H' := upd H b (.lst (ws ++ [u]))) (t := .n (ts.dropLast ++ [.l (xs ++ [d])])) (fp := a :: (f1 ++ [b])) q1 q2 (fun y hy => upd_ne fun z => hy (by rw [z]; exact bp)) (fun y hy => by
          by_cases z : y = b
          · rw [z, upd_same]; simp
          · rw [upd_ne z]; exact (rel.own _ y hy).2) (by
          simp only [RepT]
          refine ⟨a, v1 ++ [.ref b], f1 ++ [b], rfl, rfl, q4, by rw [upd_ne (Ne.symm ab)]; exact q5, RepTs.app (r1.mono (Same.refl _) fun y hy => ⟨(r1.live y hy).1, upd_ne fun z => b1f (by rw [← z]; exact hy)⟩) (RepTs.one ?_)⟩
          simp only [RepT]
          exact ⟨b, ws ++ [u], rfl, rfl, b1, upd_same, b3.app (RepDs.one g8)⟩) (fun y hy => .inl (by rw [q3]; exact hy)) (by rw [← q3]; exact rel.nod _)
        exact n _ _ _ _ _ KpS.refl ev3 rel3 h.2
      · exact h.elim
    · exact h.elim
  · exact h.elim
theorem pe_m1 {k : Nat} {q1 q2 : Pos} : PE X (.UnaryOp .USub (.Constant (.int 1) k q1) q2) (tC (.int (-1))) := PE.imp (pe_un un_neg pe_int) fun σ H Q h => ⟨1, rfl, h⟩
theorem revAll_cut : ∀ {ts us : List T}, revAll ts = some us → ts.length = us.length ∧ ∀ (m : Nat) t, ts[m]? = some t → ∃ xs, t = .l xs ∧ us[m]? = some (.l xs.reverse)
  | [], us, h => by
    simp only [revAll, Option.some.injEq] at h; subst h
    exact ⟨rfl, fun m t e => by simp at e⟩
  | t :: ts, us, h => by
    cases t with
    | l xs =>
      simp only [revAll] at h
      cases q : revAll ts with
      | none => rw [q] at h; cases h
      | some vs =>
        rw [q] at h; cases h
        obtain ⟨h1, h2⟩ := revAll_cut q
        refine ⟨by simp [h1], fun m t e => ?_⟩
        cases m with
        | zero => simp at e; subst e; exact ⟨xs, rfl, rfl⟩
        | succ m => simpa using h2 m t (by simpa using e)
    | _ => simp [revAll] at h
theorem tree {F H1 : Hp} {us ts : List T} {v1 w : List V} {b : Addr} {ws : List V} {xs : List D} {f1 f4 : List Addr} {vs : List V} {m : Nat} (b1 : RepTs C F H1 (us.take m) v1 f1) (b4 : RepTs C F H1 (ts.drop (m + 1)) w f4) (c1 : F b = none) (c3 : RepDs C F xs ws) (bf1 : b ∉ f1) (bf4 : b ∉ f4)
    (ev : vs = v1 ++ V.ref b :: w) (g2 : us[m]? = some (.l xs.reverse)) : RepTs C F (upd H1 b (.lst ws.reverse)) (us.take (m + 1) ++ ts.drop (m + 1)) vs (f1 ++ ([b] ++ f4)) := by
  have et : us.take (m + 1) = us.take m ++ [.l xs.reverse] := by
    rw [List.take_add_one, g2]; rfl
  rw [et, List.append_assoc, ev]
  refine RepTs.app (b1.mono (Same.refl _) fun y hy => ⟨(b1.live y hy).1, upd_ne fun z => bf1 (by rw [← z]; exact hy)⟩) ?_
  show RepTs C F _ ([.l xs.reverse] ++ _) ([V.ref b] ++ w) _
  refine RepTs.app (RepTs.one ?_) (b4.mono (Same.refl _) fun y hy => ⟨(b4.live y hy).1, upd_ne fun z => bf4 (by rw [← z]; exact hy)⟩)
  simp only [RepT]
  exact ⟨b, ws.reverse, rfl, rfl, c1, upd_same, c3.rev⟩
/-- for y in x: y.reverse() where x holds own lists -/
theorem st_nrev {i j : Nat} {tg it o : Expr} {apos cpos pos ps : Pos} (po : PassesOwn (model X.prog X.w) X.A X.env X.xe) (hc : X.calm = true) (hx : PE X it (tVar i)) (hg : PG X tg (gT X.K (.nm j))) (ho : PE X o (tVar j)) (hj : j ∈ A) (ij : i ≠ j)
    (hl : (apos.endLine == cpos.line) = true) (hb : attributeBase o "reverse" X.env (eval o X.env) = eval o X.env) (fs : ∀ x, foldedSetIterable it X.env x = pure x) :
    PS X (.For tg it [.Expr (.Call (.Attribute o "reverse" apos) [] [] cpos) ps] [] pos) (tSt C A fun k env => match nestT env[i]? with
      | some ts => (match revAll ts with
        | some us => j < env.length ∧ k.nx ((env.set i (some (.n us))).set j none)
        | none => False)
      | none => False) := by
  refine PS.imp (ps_for po hc (pi_list hx) hg (pss_one (ps_expr (pe_bm0 PySem.F.plainAttrs_list (mth_slot .reverse) (mth_type .reverse) (mth_rule .reverse) ho hb hl) no_swap)) fs) ?_
  rintro D σ H ⟨F, env, p, k, rel, h, n, _, _, _⟩
  split at h
  · rename_i ts e0
    split at h
    · rename_i us e1
      obtain ⟨t0, a, vs, f, q1, q2, q3, q4, q5, q6⟩ := rel.nest e0
      obtain ⟨l1, l2⟩ := revAll_cut e1
      refine ⟨.ref a, q2, a, rfl, ⟨vs, SqL.of q5⟩, for_list (K := X.K) (a := a) (xs := vs) (fun m σ' H' => ∃ env' p' g, KpS A σ σ' ∧ Evo F H p F H' p' ∧ Rel C F H' σ' env' [] p' ∧ (∃ t, env'[i]? = some (some t)) ∧ σ'[i]? = some (some (.ref a)) ∧ p' (.inl i) = a :: g ∧ H' a = some (.lst vs) ∧
        RepTs C F H' (us.take m ++ ts.drop m) vs g ∧ (env'.set i (some (.n us))).set j none = (env.set i (some (.n us))).set j none) ?_ (fun m σ' H' _ ⟨_, _, _, _, _, _, _, _, _, hh, _⟩ => SqL.of hh) ?_ ?_⟩
      · exact ⟨env, p, f, KpS.refl, Evo.refl, rel, ⟨_, q1⟩, q2, q3, q5, by simpa using q6, rfl⟩
      · rintro m x σ1 H1 hm ⟨env1, p1, g, kp1, ev1, r1, ⟨t1, s1⟩, s2, s3, s4, s5, s6⟩
        have hv := s5.len
        have hmv : m < vs.length := (List.getElem?_eq_some_iff.mp hm).1
        have lts : m < ts.length := by
          simp only [List.length_append, List.length_take, List.length_drop] at hv
          omega
        have eu := List.getElem?_eq_getElem lts
        obtain ⟨xs, g1, g2⟩ := l2 m _ eu
        have ed : ts.drop m = .l xs :: ts.drop (m + 1) := by rw [List.drop_eq_getElem_cons lts, g1]
        rw [ed] at s5
        obtain ⟨v1, v2, f1, f2, ev, eg, b1, b2⟩ := s5.cut
        simp only [RepTs] at b2
        obtain ⟨v, w, f3, f4, rfl, rfl, b3, b4⟩ := b2
        have lv1 : v1.length = m := by
          rw [b1.len, List.length_take]
          omega
        have ex : x = v := by
          rw [ev, List.getElem?_append_right (by omega), lv1, Nat.sub_self] at hm
          simpa using hm.symm
        subst ex
        simp only [RepT] at b3
        obtain ⟨b, ws, rfl, rfl, c1, c2, c3⟩ := b3
        have n1 := r1.nod (.inl i)
        rw [s3, eg] at n1
        have n1 := List.nodup_cons.mp n1
        have bp : b ∈ p1 (.inl i) := by rw [s3, eg]; simp
        have ap : a ∈ p1 (.inl i) := by rw [s3]; simp
        have ab : a ≠ b := fun z => n1.1 (by rw [z]; simp)
        have n2 := List.nodup_append.mp n1.2
        have n3 := List.nodup_cons.mp n2.2.1
        have bf1 : b ∉ f1 := fun z => n2.2.2 b z b (by simp) rfl
        have bf4 : b ∉ f4 := n3.1
        obtain ⟨p2, r2, ev2, e2⟩ := r1.put (H' := upd H1 b (.lst ws.reverse)) (t := .n (us.take (m + 1) ++ ts.drop (m + 1))) (fp := a :: (f1 ++ ([b] ++ f4))) s1 s2 (fun y hy => upd_ne fun z => hy (by rw [z]; exact bp)) (fun y hy => by
            by_cases z : y = b
            · rw [z, upd_same]; simp
            · rw [upd_ne z]; exact (r1.own _ y hy).2) (by
            simp only [RepT]
            refine ⟨a, vs, _, rfl, rfl, q4, by rw [upd_ne ab]; exact s4, ?_⟩
            exact tree b1 b4 c1 c3 bf1 bf4 ev g2) (fun y hy => .inl (by rw [s3, eg]; exact hy)) (by
            have := r1.nod (.inl i)
            rw [s3, eg] at this
            exact this)
        have hij : j ≠ i := Ne.symm ij
        have lj : j < σ1.length := by rw [kp1.1, ← rel.len]; exact h.1
        have li : i < σ1.length := (List.getElem?_eq_some_iff.mp s2).1
        refine ⟨.ref b, List.getElem?_set_self lj, .inl ⟨rfl, _, SqL.of c2⟩, b, ws, rfl, rfl, c2, ?_⟩
        refine ⟨_, p2, _, kp1.trans (KpS.set hj), ev1.trans ev2, r2.setN noPk_nil j _, ⟨T.n (us.take (m + 1) ++ ts.drop (m + 1)), ?_⟩, ?_, e2, by rw [upd_ne ab]; exact s4, tree b1 b4 c1 c3 bf1 bf4 ev g2, ?_⟩
        · rw [List.getElem?_set_ne hij, List.getElem?_set_self (by rw [r1.len]; exact li)]
        · rw [List.getElem?_set_ne hij]; exact s2
        · rw [List.set_comm _ _ hij, List.set_set, List.set_set]; exact s6
      · rintro σ1 H1 ⟨env1, p1, g, kp1, ev1, r1, ⟨t1, s1⟩, s2, s3, s4, s5, s6⟩
        have lv := q6.len
        rw [lv, List.take_of_length_le (by omega), List.drop_length, List.append_nil] at s5
        obtain ⟨p2, r2, ev2, e2⟩ := r1.put (H' := H1) (t := .n us) (fp := a :: g) s1 s2 (fun _ _ => rfl) (fun y hy => (r1.own _ y hy).2) (by
          simp only [RepT]
          exact ⟨a, vs, g, rfl, rfl, q4, s4, s5⟩) (fun y hy => .inl (by rw [s3]; exact hy)) (by rw [← s3]; exact r1.nod _)
        have lj : j < σ1.length := by rw [kp1.1, ← rel.len]; exact h.1
        have r3 := r2.setN noPk_nil j (σ1[j])
        rw [List.set_getElem_self] at r3
        refine n _ _ _ _ _ kp1 (ev1.trans ev2) r3 ?_
        rw [s6]; exact h.2
    · exact h.elim
  · exact h.elim
end
end Z

/-! Does a small text stand for a piece of the program's text? Computed by the kernel. -/
namespace Z
open PySem L2

structure Fi where
  nm : PySem.Str
  pars : List PySem.Str
  kbs : List Nat
structure G where
  N : List PySem.Str
  fns : List Fi
  asg : List Nat
structure Sx where
  sc : Scope
  fn : PySem.Str → Bool

def noSet : Expr → Bool
  | .Set _ _ _ => false
  | _ => true
def visB (sc : Scope) (x : PySem.Str) : Bool := match sc.names.lookup x with
  | some .local => true
  | some .cell => true
  | some .free => true
  | _ => false
def varB (g : G) (s : Sx) (i : Nat) : Expr → Bool
  | .Name x _ => decide (g.N[i]? = some x) && visB s.sc x && !(x == ("__debug__" : Str)) && !(x == ("__classdict__" : Str))
  | _ => false
/-- a name that may be stored -/
def stoB (g : G) (s : Sx) (i : Nat) : Expr → Bool
  | .Name x _ => decide (g.N[i]? = some x) && (match s.sc.names.lookup x with
    | some .local => true
    | some .cell => s.fn x
    | _ => false)
  | _ => false
mutual
def tgB (g : G) (s : Sx) : Tg → Expr → Bool
  | .nm i, e => stoB g s i e
  | .tp ts, .Tuple es _ _ => tgsB g s ts es
  | .tp _, _ => false
def tgsB (g : G) (s : Sx) : List Tg → List Expr → Bool
  | [], [] => true
  | t :: ts, e :: es => noStar e && tgB g s t e && tgsB g s ts es
  | _, _ => false
end
def glB (s : Sx) (x : PySem.Str) : Bool := decide (s.sc.names.lookup x = some .globalImplicit) && !(x == ("__debug__" : Str))
def bltNm : Blt → PySem.Str
  | .len => "len" | .sum => "sum" | .min2 => "min" | .max2 => "max" | .min3 => "min" | .max1 => "max" | .min1 => "min" | .abs => "abs" | .int1 => "int" | .list1 => "list" | .tuple1 => "tuple"
  | .str1 => "str" | .repr1 => "repr" | .all1 => "all" | .any1 => "any" | .sorted1 => "sorted" | .divmod => "divmod"
def cstB : D → Const → Bool
  | .non, .none => true
  | .bl b, .bool c => b == c
  | .int i, .int j => decide (i = j)
  | .str x, .str y => decide (x = y)
  | _, _ => false
/-- the scope of a comprehension's block -/
def blkS (s : Sx) (scope : Scope) : Sx := ⟨relS scope s.sc, fun x => scope.names.lookup x == some .cell⟩
def ownN (g : G) (own : List Nat) : List (PySem.Str × Nat) := own.map fun i => (g.N.getD i Str.empty, i)
def kwsNm (kws : List Keyword) : List PySem.Str := kws.filterMap (·.arg)
def isRev : Expr → Option Expr
  | .Subscript x (.Slice none none (some (.UnaryOp .USub (.Constant (.int 1) _ _) _)) _) _ => some x
  | _ => none
def isCall : Expr → Option (PySem.Str × List Expr × List Keyword)
  | .Call (.Name y _) args kws _ => some (y, args, kws)
  | _ => none
def isMth : Expr → Option (PySem.Str × Pos × PySem.Str × Pos × Pos × List Expr)
  | .Call (.Attribute (.Name x p1) nm apos) args [] cpos => some (x, p1, nm, apos, cpos, args)
  | _ => none
def isLc : Expr → Option (Expr × Expr × Expr × List Expr × Scope)
  | .ListComp elt [⟨tgA, iter, ifs, 0⟩] scope _ => some (elt, tgA, iter, ifs, scope)
  | _ => none
theorem isRev_spec {e x : Expr} (h : isRev e = some x) : ∃ k p1 p2 p3 pos, e = .Subscript x (.Slice none none (some (.UnaryOp .USub (.Constant (.int 1) k p1) p2)) p3) pos := by
  unfold isRev at h
  split at h
  · cases h; exact ⟨_, _, _, _, _, rfl⟩
  · cases h
theorem isCall_spec {e : Expr} {y : PySem.Str} {args : List Expr} {kws : List Keyword} (h : isCall e = some (y, args, kws)) : ∃ p pos, e = .Call (.Name y p) args kws pos := by
  unfold isCall at h
  split at h
  · cases h; exact ⟨_, _, rfl⟩
  · cases h
theorem isMth_spec {e : Expr} {x nm : PySem.Str} {p1 apos cpos : Pos} {args : List Expr} (h : isMth e = some (x, p1, nm, apos, cpos, args)) : e = .Call (.Attribute (.Name x p1) nm apos) args [] cpos := by
  unfold isMth at h
  split at h
  · cases h; rfl
  · cases h
theorem isLc_spec {e elt tgA iter : Expr} {ifs : List Expr} {scope : Scope} (h : isLc e = some (elt, tgA, iter, ifs, scope)) : ∃ pos, e = .ListComp elt [⟨tgA, iter, ifs, 0⟩] scope pos := by
  unfold isLc at h
  split at h
  · cases h; exact ⟨_, rfl⟩
  · cases h
section
variable (g : G)
mutual
def chkE (s : Sx) : E → Expr → Bool
  | .k d, .Constant c _ _ => cstB d c
  | .v i, e => varB g s i e
  | .bin o a b, .BinOp l op r _ => decide (op = bopOf o) && chkE s a l && chkE s b r
  | .neg a, .UnaryOp .USub x _ => chkE s a x
  | .cmp o a b, .Compare l [op] [r] _ => decide (op = copOf o) && noSet r && chkE s a l && chkE s b r
  | .chn o o' a b c, .Compare l [op, op'] [m, r] _ => decide (op = copOf o) && decide (op' = copOf o') && noSet r && chkE s a l && chkE s b m && chkE s c r
  | .band es, .BoolOp .And vs _ => chkEs s es vs
  | .bor es, .BoolOp .Or vs _ => chkEs s es vs
  | .bnot a, .UnaryOp .Not x _ => chkE s a x
  | .ite c a b, .IfExp t x y _ => chkE s c t && chkE s a x && chkE s b y
  | .lst es, .List vs _ => chkEs s es vs
  | .tup es, .Tuple vs _ _ => chkEs s es vs
  | .sub a i, .Subscript x ix _ => noSlice ix && chkE s a x && chkE s i ix
  | .slc a lo hi, .Subscript x (.Slice l h none _) _ => chkE s a x && chkO s lo l && chkO s hi h
  | .rev a, e => match isRev e with
    | some x => chkE s a x
    | none => false
  | .call f as, e => match isCall e with
    | some (y, args, []) => (match g.fns[f]? with
      | some fi => decide (y = fi.nm) && glB s y
      | none => false) && chkEs s as args
    | _ => false
  | .callk f as, e => match isCall e with
    | some (y, args, kws) => (match g.fns[f]? with
      | some fi => decide (y = fi.nm) && glB s y && decide (args.length ∈ fi.kbs) && decide (kws.length = fi.pars.length - args.length) && decide (kwsNm kws = fi.pars.drop args.length) && kws.all (fun k => k.arg.isSome)
      | none => false) && chkAs s as args kws
    | _ => false
  | .blt b as, e => match isCall e with
    | some (y, args, []) => decide (y = bltNm b) && glB s y && !args.isEmpty && chkEs s as args
    | _ => false
  | .mth m i as, e => match isMth e with
    | some (x, p1, nm, apos, cpos, args) => varB g s i (.Name x p1) && decide (nm = mthNm m) && (apos.endLine == cpos.line) && decide (args.length < 29) && chkEs s as args
    | none => false
  | .lc own tg ik src cs e, a => match isLc a with
    | some (elt, tgA, iter, ifs, scope) => blkC g.N s.sc scope (ownN g own) && tgB g (blkS s scope) tg tgA && tg.slots.all (fun i => own.contains i) && noSet iter && chkIt s ik src iter && decide (ifs.length ≤ 1) && chkEs (blkS s scope) cs ifs && chkE (blkS s scope) e elt
    | none => false
  | _, _ => false
def chkIt (s : Sx) : IK → List E → Expr → Bool
  | .seq, [e], iter => chkE s e iter
  | .rng1, [a], iter => match isCall iter with
    | some (y, [x], []) => decide (y = ("range" : Str)) && glB s y && chkE s a x
    | _ => false
  | .rng2, [a, b], iter => match isCall iter with
    | some (y, [x, z], []) => decide (y = ("range" : Str)) && glB s y && chkE s a x && chkE s b z
    | _ => false
  | _, _, _ => false
def chkEs (s : Sx) : List E → List Expr → Bool
  | [], [] => true
  | e :: es, a :: as => chkE s e a && chkEs s es as
  | _, _ => false
def chkAs (s : Sx) : List E → List Expr → List Keyword → Bool
  | [], [], [] => true
  | e :: es, a :: as, ks => chkE s e a && chkAs s es as ks
  | e :: es, [], ⟨_, v, _⟩ :: ks => chkE s e v && chkAs s es [] ks
  | _, _, _ => false
def chkO (s : Sx) : Option E → Option Expr → Bool
  | none, none => true
  | some e, some a => chkE s e a
  | _, _ => false
end
/-- what the stores of a, b = x, y do: none: a tuple is made; some names: one after the other -/
def swpB (sc : Scope) (ts vs : List Expr) : Option (Option (List PySem.Str)) :=
  if !(ts.length == 2 || ts.length == 3) || vs.length != ts.length then some none else
  if vs.any fun | .Starred .. => true | _ => false then some none else
  let line := (ts.head?.map (·.pos.line)).getD 0
  let names := ts.filterMap fun
    | .Name id pos => if sc.names.lookup id == some .local && pos.line == line then some id else none
    | _ => none
  if names.length != ts.length || names.eraseDups.length != names.length then some none else
  if vs.all (foldedForSure 8) then some none else
  if vs.all (constantsAlone 8) then none else some (some names)
def stosB (s : Sx) : List Nat → List Expr → Bool
  | [], [] => true
  | i :: is, e :: es => g.asg.contains i && stoB g s i e && stosB s is es
  | _, _ => false
/-- one target that is a name -/
def isSet : Stmt → Option (PySem.Str × Pos × Expr × Pos)
  | .Assign [.Name x p] v pos => some (x, p, v, pos)
  | _ => none
def isTup : Stmt → Option (List Expr × Nat × Pos × Expr × Pos)
  | .Assign [.Tuple tgs k p] v pos => some (tgs, k, p, v, pos)
  | _ => none
def isSub : Stmt → Option (Expr × Expr × Pos × Expr × Pos)
  | .Assign [.Subscript o ix p] v pos => some (o, ix, p, v, pos)
  | _ => none
def isAug : Stmt → Option (PySem.Str × Pos × Operator × Expr × Pos)
  | .AugAssign (.Name x p) op v pos => some (x, p, op, v, pos)
  | _ => none
def isTupE : Expr → Option (List Expr × Nat × Pos)
  | .Tuple vs k p => some (vs, k, p)
  | _ => none
theorem isSet_spec {s : Stmt} {x : PySem.Str} {p : Pos} {v : Expr} {pos : Pos} (h : isSet s = some (x, p, v, pos)) : s = .Assign [.Name x p] v pos := by
  unfold isSet at h
  split at h
  · cases h; rfl
  · cases h
theorem isTup_spec {s : Stmt} {tgs : List Expr} {k : Nat} {p : Pos} {v : Expr} {pos : Pos} (h : isTup s = some (tgs, k, p, v, pos)) : s = .Assign [.Tuple tgs k p] v pos := by
  unfold isTup at h
  split at h
  · cases h; rfl
  · cases h
theorem isSub_spec {s : Stmt} {o ix : Expr} {p : Pos} {v : Expr} {pos : Pos} (h : isSub s = some (o, ix, p, v, pos)) : s = .Assign [.Subscript o ix p] v pos := by
  unfold isSub at h
  split at h
  · cases h; rfl
  · cases h
theorem isAug_spec {s : Stmt} {x : PySem.Str} {p : Pos} {op : Operator} {v : Expr} {pos : Pos} (h : isAug s = some (x, p, op, v, pos)) : s = .AugAssign (.Name x p) op v pos := by
  unfold isAug at h
  split at h
  · cases h; rfl
  · cases h
theorem isTupE_spec {e : Expr} {vs : List Expr} {k : Nat} {p : Pos} (h : isTupE e = some (vs, k, p)) : e = .Tuple vs k p := by
  unfold isTupE at h
  split at h
  · cases h; rfl
  · cases h
/-- both ways of storing a, b = x, y -/
def parB (s : Sx) (is : List Nat) (tgs vs : List Expr) : Bool := match swpB s.sc tgs vs with
  | some none => true
  | some (some ns) => (match is, tgs with
    | [i, j], [.Name x _, .Name y _] => decide (ns = [x, y]) && decide (i ≠ j) && decide (s.sc.names.lookup x = some .local) && decide (s.sc.names.lookup y = some .local)
    | [i, j, l], [.Name x _, .Name y _, .Name z _] => decide (ns = [x, y, z]) && decide (i ≠ j) && decide (i ≠ l) && decide (j ≠ l) && decide (s.sc.names.lookup x = some .local) && decide (s.sc.names.lookup y = some .local) && decide (s.sc.names.lookup z = some .local)
    | _, _ => false)
  | none => false
def augB : Bop → Operator → Bool
  | .add, .Add => true
  | .sub, .Sub => true
  | _, _ => false
def isNap : Expr → Option (Expr × PySem.Str × Pos × Expr × Expr × Pos)
  | .Call (.Attribute (.Subscript o (.UnaryOp .USub (.Constant (.int 1) _ _) _) _) nm apos) [.Subscript d1 d2 _] [] cpos => some (o, nm, apos, d1, d2, cpos)
  | _ => none
theorem isNap_spec {e o d1 d2 : Expr} {nm : PySem.Str} {apos cpos : Pos} (h : isNap e = some (o, nm, apos, d1, d2, cpos)) : ∃ k q1 q2 q3 q4, e = .Call (.Attribute (.Subscript o (.UnaryOp .USub (.Constant (.int 1) k q1) q2) q3) nm apos) [.Subscript d1 d2 q4] [] cpos := by
  unfold isNap at h
  split at h
  · cases h; exact ⟨_, _, _, _, _, rfl⟩
  · cases h
def isNrev : Stmt → Option (Expr × Expr × Expr × PySem.Str × Pos × Pos)
  | .For tg it [.Expr (.Call (.Attribute o nm apos) [] [] cpos) _] [] _ => some (tg, it, o, nm, apos, cpos)
  | _ => none
theorem isNrev_spec {s : Stmt} {tg it o : Expr} {nm : PySem.Str} {apos cpos : Pos} (h : isNrev s = some (tg, it, o, nm, apos, cpos)) : ∃ q1 q2, s = .For tg it [.Expr (.Call (.Attribute o nm apos) [] [] cpos) q1] [] q2 := by
  unfold isNrev at h
  split at h
  · cases h; exact ⟨_, _, rfl⟩
  · cases h
mutual
def chkS (s : Sx) : Sm → Stmt → Bool
  | .asg (.nm i) e, a => match isSet a with
    | some (x, p, v, _) => g.asg.contains i && stoB g s i (.Name x p) && chkE g s e v
    | none => false
  | .asg (.tp ts) e, a => match isTup a with
    | some (tgs, k, p, v, _) => tgsB g s ts tgs && (Tg.slotss ts).all (fun i => g.asg.contains i) && noComp v && (isTupE v).isNone && chkE g s e v
    | none => false
  | .par is es, a => match isTup a with
    | some (tgs, k, p, v, _) => (match isTupE v with
      | some (vs, _, _) => stosB g s is tgs && decide (is.length ≤ 1000) && parB s is tgs vs && chkEs g s es vs
      | none => false)
    | none => false
  | .set i ix e, a => match isSub a with
    | some (o, ixA, _, v, _) => varB g s i o && noSlice ixA && noComp v && chkE g s ix ixA && chkE g s e v
    | none => false
  | .aug i o e, a => match isAug a with
    | some (x, p, op, v, _) => g.asg.contains i && stoB g s i (.Name x p) && augB o op && chkE g s e v
    | none => false
  | .ex e, .Expr v _ => noComp v && chkE g s e v
  | .ret e, .Return (some v) _ => chkE g s e v
  | .ife c a b, .If t x y _ => chkE g s c t && chkSs s a x && chkSs s b y
  | .whl c b, .While t x [] _ => chkE g s c t && chkSs s b x
  | .for_ tg ik src b, .For tgA iter x [] _ => tgB g s tg tgA && tg.slots.all (fun i => g.asg.contains i) && noSet iter && chkIt g s ik src iter && chkSs s b x
  | .brk, .Break _ => true
  | .cnt, .Continue _ => true
  | .pas, .Pass _ => true
  | .nev, _ => true
  | .napp i e, .Expr v _ => (match isMth v with
    | some (x, p1, nm, apos, cpos, [a]) => varB g s i (.Name x p1) && decide (nm = "append") && (apos.endLine == cpos.line) && noStar a && chkE g s e a
    | _ => false)
  | .nap i j l, .Expr v _ => (match isNap v with
    | some (o, nm, apos, d1, d2, cpos) => varB g s i o && decide (nm = "append") && varB g s j d1 && varB g s l d2 && noSlice d2 && (apos.endLine == cpos.line)
    | none => false)
  | .nrev i j, a => (match isNrev a with
    | some (tg, it, o, nm, apos, cpos) => tgB g s (.nm j) tg && g.asg.contains j && decide (i ≠ j) && varB g s i it && varB g s j o && decide (nm = "reverse") && (apos.endLine == cpos.line) && noSet it
    | none => false)
  | _, _ => false
def chkSs (s : Sx) : List Sm → List Stmt → Bool
  | [], [] => true
  | a :: as, b :: bs => chkS s a b && chkSs s as bs
  | _, _ => false
end
end
end Z

namespace Z
open PySem L2 PySem.Spec PyProof.Rows

theorem marks_of {op : CmpOp} {e : Expr} (h : noSet e = true) : behindInMarks op e = false := by
  cases e <;> first | rfl | simp [noSet] at h
theorem last_of {op op' : CmpOp} {b c : Expr} (h : noSet c = true) : lastMarks [op, op'] [b, c] = false := by
  show behindInMarks op' c = false
  exact marks_of h
theorem fold_of {e : Expr} {env : PySem.Env} (h : noSet e = true) : ∀ x, foldedSetIterable e env x = pure x := by
  intro x
  cases e <;> first | rfl | simp [noSet] at h

/-- where the code stands -/
structure Ok (g : G) (s : Sx) (C : CT) (S : Nat → SpC) (lev : Nat) (X : Cx) : Prop where
  hN : X.N = g.N
  nd : g.N.Nodup
  sc : X.env.scope = s.sc
  kd : s.sc.kind = .function
  fn : X.fn = s.fn
  calm : X.calm = true
  gd : X.A.guards = some []
  hK : X.K = C.K
  room : Room lev X.A
  fns : ∀ (f : Nat) (fi : Fi), g.fns[f]? = some fi → FnAt X.prog X.w X.K X.mg X.base C lev fi.nm fi.pars fi.kbs (S f)
  blt : ∀ b, X.mg (bltNm b) = none
  rng : X.mg "range" = none
theorem Ok.blk {g : G} {s : Sx} {C : CT} {S : Nat → SpC} {lev : Nat} {X : Cx} (o : Ok g s C S lev X) (scope : Scope) (hk : scope.kind = .function) (sh : Shared) (H : Hp) (A : Addr) (cl : List (PySem.Str × Addr)) (fp : List Addr) :
    Ok g (blkS s scope) C S lev (X.blk sh H scope (compEnvC scope cl A X.env) fp) where
  hN := o.hN
  nd := o.nd
  sc := by
    show relS scope X.env.scope = relS scope s.sc
    rw [o.sc]
  kd := hk
  fn := rfl
  calm := o.calm
  gd := o.gd
  hK := o.hK
  room := o.room
  fns := o.fns
  blt := o.blt
  rng := o.rng

section
variable {g : G} {s : Sx} {C : CT} {S : Nat → SpC} {lev : Nat} {X : Cx}
theorem Ok.vis (o : Ok g s C S lev X) {x : PySem.Str} (h : visB s.sc x = true) : Vis X.env.scope x := by
  rw [o.sc]
  unfold visB at h
  split at h
  · rename_i e; exact .inl e
  · rename_i e; exact .inr (.inl e)
  · rename_i e; exact .inr (.inr e)
  · cases h
theorem Ok.gl (o : Ok g s C S lev X) {x : PySem.Str} (h : glB s x = true) : Gl X x ∧ (x == ("__debug__" : Str)) = false := by
  unfold glB at h
  simp only [Bool.and_eq_true, decide_eq_true_eq, Bool.not_eq_true'] at h
  refine ⟨?_, h.2⟩
  show X.env.scope.names.lookup x = some .globalImplicit
  rw [o.sc]
  exact h.1
theorem Ok.var (o : Ok g s C S lev X) {i : Nat} {e : Expr} (h : varB g s i e = true) : PE X e (tVar i) ∧ ∃ x p, e = .Name x p := by
  cases e with
  | Name x p =>
    simp only [varB, Bool.and_eq_true, decide_eq_true_eq, Bool.not_eq_true'] at h
    exact ⟨pe_var (by rw [o.hN]; exact h.1.1.1) (o.vis h.1.1.2) h.1.2 h.2, x, p, rfl⟩
  | _ => simp [varB] at h
theorem Ok.sto (o : Ok g s C S lev X) {i : Nat} {x : PySem.Str} {p : Pos} (h : stoB g s i (.Name x p) = true) : X.N[i]? = some x ∧ Loc X.env.scope x ∧ (X.fn x = true ∨ X.env.scope.names.lookup x = some .local) := by
  simp only [stoB, Bool.and_eq_true, decide_eq_true_eq] at h
  obtain ⟨h1, h2⟩ := h
  rw [o.hN, o.sc, o.fn]
  refine ⟨h1, ?_⟩
  split at h2
  · rename_i e; exact ⟨.inl e, .inr e⟩
  · rename_i e; exact ⟨.inr e, .inl h2⟩
  · cases h2
mutual
theorem Ok.tg (o : Ok g s C S lev X) : ∀ {t : Tg} {e : Expr}, tgB g s t e = true → PG X e (gT X.K t)
  | .nm i, e, h => by
    simp only [tgB] at h
    cases e with
    | Name x p =>
      obtain ⟨h1, h2, h3⟩ := o.sto h
      simp only [gT]
      exact pg_name (by rw [o.hN]; exact o.nd) h1 h2 h3
    | _ => simp [stoB] at h
  | .tp ts, e, h => by
    cases e with
    | Tuple es k p =>
      simp only [tgB] at h
      obtain ⟨h1, h2, h3⟩ := Ok.tgs o h
      simp only [gT]
      exact pg_tup o.calm h1 h2 h3
    | _ => simp [tgB] at h
theorem Ok.tgs (o : Ok g s C S lev X) : ∀ {ts : List Tg} {es : List Expr}, tgsB g s ts es = true → PGs X es (gTs X.K ts) ∧ (assignEach es X.env).length = ts.length ∧ (assignEach es X.env).findIdx? (·.1) = none
  | [], [], h => by
    simp only [gTs]
    exact ⟨pgs_nil, rfl, rfl⟩
  | [], _ :: _, h => by simp [tgsB] at h
  | _ :: _, [], h => by simp [tgsB] at h
  | t :: ts, e :: es, h => by
    simp only [tgsB, Bool.and_eq_true] at h
    obtain ⟨⟨h1, h2⟩, h3⟩ := h
    obtain ⟨i1, i2, i3⟩ := Ok.tgs o h3
    simp only [gTs]
    rw [asgn_cons h1]
    refine ⟨pgs_cons (Ok.tg o h2) i1 (by rw [asgn_cons h1]; rfl), by simp [i2], ?_⟩
    rw [List.findIdx?_cons]
    simp [i3]
end
theorem blt_len {args : List Expr} {n : Nat} (h : (match args with | [] => false | _ => true) = true) : ∃ e es, args = e :: es := by
  cases args with
  | nil => simp at h
  | cons e es => exact ⟨e, es, rfl⟩
theorem s_blt (o : Ok g s C S lev X) (b : Blt) {y : PySem.Str} {p pos : Pos} {e : Expr} {es : List Expr} {ks : List (W × WT)} (hy : y = bltNm b) (hg : glB s y = true) (ha : All2 X C (e :: es) ks) : PE X (.Call (.Name y p) (e :: es) [] pos) (tS C (bltW b (seqW ks))) := by
  subst hy
  obtain ⟨gl, nd⟩ := o.gl hg
  have st := ha.stars
  have st1 := st
  rw [List.all_cons, Bool.and_eq_true] at st1
  have pa := s_args ha
  have mk : ∀ {id : String} {r : List V → Hp → VK → Prop}, CallR X (.builtin id) r → bootBuiltins (bltNm b) = some (.builtin id) → OpN C (bltT b) r → (bltNm b) ≠ "__name__" → PE X (.Call (.Name (bltNm b) p) (e :: es) [] pos) (tS C (bltW b (seqW ks))) := fun hc hb ho hn =>
    PE.imp (pe_callB hc gl (o.blt b) hb pa hn nd (star_cons st1.1) (star_any st1.2)) (opN ho)
  have mkT : ∀ {id : String} {r : List V → Hp → VK → Prop}, CallR X (.type id) r → bootBuiltins (bltNm b) = some (.type id) → OpN C (bltT b) r → (bltNm b) ≠ "__name__" → PE X (.Call (.Name (bltNm b) p) (e :: es) [] pos) (tS C (bltW b (seqW ks))) := fun hc hb ho hn =>
    PE.imp (pe_callTy hc gl (o.blt b) hb pa hn nd (star_cons st1.1) (star_any st1.2)) (opN ho)
  have hK := o.hK
  cases b with
  | len => exact mk (call_len (X := X)) PySem.boot_len (by rw [hK]; exact opN_len) (by decide)
  | sum => exact mk (cr_sum o.calm) (by decide +kernel) (opN_sum _) (by decide)
  | min2 => exact mk (call_min2 o.calm) (by decide +kernel) opN_min2 (by decide)
  | max2 => exact mk (call_max2 o.calm) (by decide +kernel) opN_max2 (by decide)
  | min3 => exact mk (call_min3Nu o.calm) (by decide +kernel) opN_min3 (by decide)
  | max1 => exact mk (cr_max o.calm) (by decide +kernel) (opN_max1 _) (by decide)
  | min1 => exact mk (cr_min o.calm) (by decide +kernel) (opN_min1 _) (by decide)
  | abs => exact mk call_abs (by decide +kernel) opN_abs (by decide)
  | int1 => exact mkT call_int1 (by decide +kernel) opN_int1 (by decide)
  | list1 => exact mkT call_list_of (by decide +kernel) (by rw [hK]; exact opN_list1) (by decide)
  | tuple1 => exact mkT call_tuple_of (by decide +kernel) (by rw [hK]; exact opN_tuple1) (by decide)
  | str1 => exact mkT call_str_int (by decide +kernel) opN_str1 (by decide)
  | repr1 => exact mk (call_reprA o.room o.gd) (by decide +kernel) (by rw [hK]; exact opN_repr) (by decide)
  | all1 => exact mk (cr_all o.calm) (by decide +kernel) (opN_all _) (by decide)
  | any1 => exact mk (cr_any o.calm) (by decide +kernel) (opN_any _) (by decide)
  | sorted1 => exact mk cr_sorted (by decide +kernel) (opN_sorted _) (by decide)
  | divmod => exact mk call_divmod (by decide +kernel) opN_divmod (by decide)
theorem s_cst {d : D} {c : Const} {k : Nat} {pos : Pos} (h : cstB d c = true) : PE X (.Constant c k pos) (tS C fun env K => K (.t (.d d)) env) := by
  unfold cstB at h
  split at h
  · exact s_const pe_non fun F => by simp only [RepD]
  · simp only [beq_iff_eq] at h; subst h
    exact s_const pe_bl fun F => by simp only [RepD]
  · simp only [decide_eq_true_eq] at h; subst h
    exact s_const pe_int fun F => by simp only [RepD]
  · simp only [decide_eq_true_eq] at h; subst h
    exact s_const pe_str fun F => by simp only [RepD]
  · cases h
theorem pt_no {e : Expr} : PT X e (tST C noT) := ⟨fun _ _ _ _ _ _ ⟨_, _, _, _, _, _, h, _⟩ => h.elim⟩
end

section
variable {g : G} {C : CT} {S : Nat → SpC} {lev : Nat}
mutual
theorem snd : ∀ (e : E) {s : Sx} {X : Cx} {a : Expr}, Ok g s C S lev X → chkE g s e a = true → PE X a (tS C (rd S nox e).1) ∧ PT X a (tST C (rd S nox e).2) ∧ noStar a = true
  | .k d, s, X, a, o, h => by
    cases a with
    | Constant c k pos =>
      simp only [chkE] at h
      have q := s_cst (X := X) (C := C) (k := k) (pos := pos) h
      simp only [rd, both]
      exact ⟨q, s_tru q, rfl⟩
    | _ => simp [chkE] at h
  | .v i, s, X, a, o, h => by
    simp only [chkE] at h
    obtain ⟨q, x, p, rfl⟩ := o.var h
    have q2 := s_var (C := C) q
    simp only [rd, both]
    exact ⟨q2, s_tru q2, rfl⟩
  | .bin op l r, s, X, a, o, h => by
    cases a with
    | BinOp al aop ar pos =>
      simp only [chkE, Bool.and_eq_true, decide_eq_true_eq] at h
      obtain ⟨⟨rfl, h1⟩, h2⟩ := h
      have q := s_bin (pos := pos) op (snd l o h1).1 (snd r o h2).1
      simp only [rd, both]
      exact ⟨q, s_tru q, rfl⟩
    | _ => simp [chkE] at h
  | .neg x, s, X, a, o, h => by
    cases a with
    | UnaryOp aop ax pos =>
      cases aop with
      | USub =>
        simp only [chkE] at h
        have q := s_neg (pos := pos) (snd x o h).1
        simp only [rd, both]
        exact ⟨q, s_tru q, rfl⟩
      | _ => simp [chkE] at h
    | _ => simp [chkE] at h
  | .cmp op l r, s, X, a, o, h => by
    cases a with
    | Compare al ops ars pos =>
      match ops, ars with
      | [aop], [ar] =>
        simp only [chkE, Bool.and_eq_true, decide_eq_true_eq] at h
        obtain ⟨⟨⟨rfl, h0⟩, h1⟩, h2⟩ := h
        simp only [rd]
        exact ⟨s_cmp o.room op (snd l o h1).1 (snd r o h2).1 (marks_of h0), s_cmpT o.room op (snd l o h1).1 (snd r o h2).1 (marks_of h0), rfl⟩
      | [], _ => simp [chkE] at h
      | [_], [] => simp [chkE] at h
      | [_], _ :: _ :: _ => simp [chkE] at h
      | _ :: _ :: _, _ => simp [chkE] at h
    | _ => simp [chkE] at h
  | .chn op op' l m r, s, X, a, o, h => by
    cases a with
    | Compare al ops ars pos =>
      match ops, ars with
      | [aop, aop'], [am, ar] =>
        simp only [chkE, Bool.and_eq_true, decide_eq_true_eq] at h
        obtain ⟨⟨⟨⟨⟨rfl, rfl⟩, h0⟩, h1⟩, h2⟩, h3⟩ := h
        simp only [rd]
        exact ⟨s_chn o.room op op' (snd l o h1).1 (snd m o h2).1 (snd r o h3).1 (last_of h0), s_chnT o.room op op' (snd l o h1).1 (snd m o h2).1 (snd r o h3).1 (last_of h0), rfl⟩
      | [], _ => simp [chkE] at h
      | [_], _ => simp [chkE] at h
      | [_, _], [] => simp [chkE] at h
      | [_, _], [_] => simp [chkE] at h
      | [_, _], _ :: _ :: _ :: _ => simp [chkE] at h
      | _ :: _ :: _ :: _, _ => simp [chkE] at h
    | _ => simp [chkE] at h
  | .band es, s, X, a, o, h => by
    cases a with
    | BoolOp bop vs pos =>
      cases bop with
      | And =>
        simp only [chkE] at h
        have q := sndL es o h
        simp only [rd]
        exact ⟨s_and1 q, (s_andT q).pt, rfl⟩
      | Or => simp [chkE] at h
    | _ => simp [chkE] at h
  | .bor es, s, X, a, o, h => by
    cases a with
    | BoolOp bop vs pos =>
      cases bop with
      | Or =>
        simp only [chkE] at h
        have q := sndL es o h
        simp only [rd]
        exact ⟨s_or1 q, (s_orT q).pt, rfl⟩
      | And => simp [chkE] at h
    | _ => simp [chkE] at h
  | .bnot x, s, X, a, o, h => by
    cases a with
    | UnaryOp aop ax pos =>
      cases aop with
      | Not =>
        simp only [chkE] at h
        have q := snd x o h
        simp only [rd]
        exact ⟨s_notV q.1, s_not q.2.1, rfl⟩
      | _ => simp [chkE] at h
    | _ => simp [chkE] at h
  | .ite c x y, s, X, a, o, h => by
    cases a with
    | IfExp ac ax ay pos =>
      simp only [chkE, Bool.and_eq_true] at h
      simp only [rd]
      exact ⟨s_ite (snd c o h.1.1).2.1 (snd x o h.1.2).1 (snd y o h.2).1, pt_no, rfl⟩
    | _ => simp [chkE] at h
  | .lst es, s, X, a, o, h => by
    cases a with
    | List vs pos =>
      simp only [chkE] at h
      simp only [rd]
      exact ⟨s_lst (s_args (sndL es o h)), pt_no, rfl⟩
    | _ => simp [chkE] at h
  | .tup es, s, X, a, o, h => by
    cases a with
    | Tuple vs k pos =>
      simp only [chkE] at h
      simp only [rd]
      exact ⟨s_tup (s_args (sndL es o h)), pt_no, rfl⟩
    | _ => simp [chkE] at h
  | .sub x i, s, X, a, o, h => by
    cases a with
    | Subscript ax ai pos =>
      simp only [chkE, Bool.and_eq_true] at h
      have q := s_sub (pos := pos) o.hK (snd x o h.1.2).1 (snd i o h.2).1 h.1.1
      simp only [rd, both]
      exact ⟨q, s_tru q, rfl⟩
    | _ => simp [chkE] at h
  | .slc x lo hi, s, X, a, o, h => by
    cases a with
    | Subscript ax ai pos =>
      cases ai with
      | Slice l u st p =>
        cases st with
        | none =>
          simp only [chkE, Bool.and_eq_true] at h
          have q := s_slc (pos := pos) (p2 := p) (snd x o h.1.1).1 (sndO lo o h.1.2) (sndO hi o h.2)
          simp only [rd, both]
          exact ⟨q, s_tru q, rfl⟩
        | some _ => simp [chkE] at h
      | _ => simp [chkE] at h
    | _ => simp [chkE] at h
  | .rev x, s, X, a, o, h => by
    simp only [chkE] at h
    split at h
    · rename_i y e
      obtain ⟨k, p1, p2, p3, pos, rfl⟩ := isRev_spec e
      have q := s_rev (k := k) (p1 := p1) (p2 := p2) (p3 := p3) (pos := pos) (snd x o h).1
      simp only [rd, both]
      exact ⟨q, s_tru q, rfl⟩
    · cases h
  | .call f as, s, X, a, o, h => by
    simp only [chkE] at h
    split at h
    · rename_i y args e
      obtain ⟨p, pos, rfl⟩ := isCall_spec e
      simp only [Bool.and_eq_true] at h
      obtain ⟨h1, h2⟩ := h
      split at h1
      · rename_i fi ef
        simp only [Bool.and_eq_true, decide_eq_true_eq] at h1
        obtain ⟨rfl, h3⟩ := h1
        obtain ⟨gl, nd⟩ := o.gl h3
        have q := s_call (p := p) (pos := pos) (o.fns f fi ef) o.gd o.room gl nd (sndL as o h2)
        simp only [rd, both]
        exact ⟨q, s_tru q, rfl⟩
      · cases h1
    · cases h
  | .callk f as, s, X, a, o, h => by
    simp only [chkE] at h
    split at h
    · rename_i y args kws e
      obtain ⟨p, pos, rfl⟩ := isCall_spec e
      simp only [Bool.and_eq_true] at h
      obtain ⟨h1, h2⟩ := h
      split at h1
      · rename_i fi ef
        simp only [Bool.and_eq_true, decide_eq_true_eq] at h1
        obtain ⟨⟨⟨⟨⟨rfl, h3⟩, h4⟩, h5⟩, h6⟩, h7⟩ := h1
        obtain ⟨gl, nd⟩ := o.gl h3
        obtain ⟨ks, ks2, ek, ha, hk⟩ := sndA as o h2
        have q := s_callk (p := p) (pos := pos) (o.fns f fi ef) o.gd o.room gl nd ha hk h7 h4 h5 h6
        rw [← ek] at q
        simp only [rd, both]
        exact ⟨q, s_tru q, rfl⟩
      · cases h1
    · cases h
  | .blt b as, s, X, a, o, h => by
    simp only [chkE] at h
    split at h
    · rename_i y args e
      obtain ⟨p, pos, rfl⟩ := isCall_spec e
      simp only [Bool.and_eq_true, decide_eq_true_eq] at h
      obtain ⟨⟨⟨h0, h1⟩, h2⟩, h3⟩ := h
      cases args with
      | nil => simp at h2
      | cons x xs =>
        have q := s_blt (p := p) (pos := pos) o b h0 h1 (sndL as o h3)
        simp only [rd, both]
        exact ⟨q, s_tru q, rfl⟩
    · cases h
  | .mth m i as, s, X, a, o, h => by
    simp only [chkE] at h
    split at h
    · rename_i x p1 nm apos cpos args e
      have e := isMth_spec e
      subst e
      simp only [Bool.and_eq_true, decide_eq_true_eq] at h
      obtain ⟨⟨⟨⟨h0, h1⟩, h2⟩, h3⟩, h4⟩ := h
      obtain ⟨hv, _⟩ := o.var h0
      have ha := sndL as o h4
      cases args with
      | nil =>
        have q := s_mth0 (C := C) m (cpos := cpos) hv h1 h2
        cases as with
        | cons _ _ => simp [chkEs] at h4
        | nil =>
          simp only [rd, both, rdL]
          exact ⟨q, s_tru q, rfl⟩
      | cons x xs =>
        have q := s_mth (C := C) m hv (s_args ha) h1 ha.stars h2 h3
        simp only [rd, both]
        exact ⟨q, s_tru q, rfl⟩
    · cases h
  | .lc own tg ik src cs e, s, X, a, o, h => by
    simp only [chkE] at h
    split at h
    · rename_i elt tgA iter ifs scope ea
      obtain ⟨pos, rfl⟩ := isLc_spec ea
      simp only [Bool.and_eq_true, decide_eq_true_eq] at h
      obtain ⟨⟨⟨⟨⟨⟨⟨h0, h1⟩, h2⟩, h3⟩, h4⟩, h5⟩, h6⟩, h7⟩ := h
      have bo := blkOk_by h0
      have ob := fun (sh : Shared) (H : Hp) (A : Addr) (cl : List (PySem.Str × Addr)) (fp : List Addr) => o.blk scope bo.kind sh H A cl fp
      have own_eq : (ownN g own).map (·.2) = own := by
        unfold ownN
        rw [List.map_map]
        exact List.map_id'' (fun _ => rfl) own
      have bo' : BlkOk X.N X.env.scope scope (ownN g own) := by rw [o.hN, o.sc]; exact bo
      have sl : ∀ i ∈ tg.slots, i ∈ (ownN g own).map (·.2) := by
        rw [own_eq]
        intro i hi
        have := List.all_eq_true.mp h2 i hi
        simpa using this
      have it := sndI ik src (tg := tgA) o h4
      have tests : ∀ (sh : Shared) (H : Hp) (A : Addr) (cl : List (PySem.Str × Addr)) (fp : List Addr), PTs (X.blk sh H scope (compEnvC scope cl A X.env) fp) ifs (tST C (csT (rdL S nox cs))) := fun sh H A cl fp => by
        have q := sndL cs (ob sh H A cl fp) h6
        match ifs, cs, q, h5 with
        | [], [], _, _ =>
          simp only [rdL]
          refine ⟨fun pins sx σ Hx Q I hh => pts_nil.run pins sx σ Hx Q I ?_⟩
          obtain ⟨F, env, tm, p, K, rel, h, hQ⟩ := hh
          exact hQ _ _ _ _ _ Evo.refl rel h
        | [x], [c], q, _ =>
          simp only [rdL] at q ⊢
          cases q with
          | cons q1 q2 q3 q4 => exact pts_one q2
      have q : PE X (.ListComp elt [⟨tgA, iter, ifs, 0⟩] scope pos) (tS C (lcW own tg ik (seqW (rdL S nox src)) (csT (rdL S nox cs)) (rd S nox e).1)) := by
        refine PE.imp (pe_lc (g := gT X.K tg) (own := ownN g own) o.calm (by rw [o.hN]; exact o.nd) it bo' (fun sh H A cl fp => (ob sh H A cl fp).tg h1) tests (fun sh H A cl fp => (snd e (ob sh H A cl fp) h7).1) (fold_of h3)) ?_
        have z := s_lc (C := C) (own := ownN g own) (tgt := tg) o.hK o.calm (by rw [o.hN]; exact o.nd) it bo' sl (fun sh H A cl fp => (ob sh H A cl fp).tg h1) tests (fun sh H A cl fp => (snd e (ob sh H A cl fp) h7).1) (fold_of h3)
        rw [own_eq] at z ⊢
        exact z
      simp only [rd]
      exact ⟨q, pt_no, rfl⟩
    · cases h
theorem sndI : ∀ (ik : IK) (src : List E) {s : Sx} {X : Cx} {iter tg : Expr}, Ok g s C S lev X → chkIt g s ik src iter = true → PI X tg iter (tIt C ik (seqW (rdL S nox src)))
  | .seq, [e], s, X, iter, tg, o, h => by
    simp only [chkIt] at h
    simp only [rdL]
    exact it_seq o.hK (snd e o h).1
  | .rng1, [a], s, X, iter, tg, o, h => by
    simp only [chkIt] at h
    split at h
    · rename_i y x e
      obtain ⟨p, pos, rfl⟩ := isCall_spec e
      simp only [Bool.and_eq_true, decide_eq_true_eq] at h
      obtain ⟨⟨rfl, h1⟩, h2⟩ := h
      obtain ⟨gl, nd⟩ := o.gl h1
      obtain ⟨q1, q2, q3⟩ := snd a o h2
      simp only [rdL]
      exact it_rng1 gl o.rng (s_args (.cons q1 q2 q3 .nil)) q3
    · cases h
  | .rng2, [a, b], s, X, iter, tg, o, h => by
    simp only [chkIt] at h
    split at h
    · rename_i y x z e
      obtain ⟨p, pos, rfl⟩ := isCall_spec e
      simp only [Bool.and_eq_true, decide_eq_true_eq] at h
      obtain ⟨⟨⟨rfl, h1⟩, h2⟩, h3⟩ := h
      obtain ⟨gl, nd⟩ := o.gl h1
      obtain ⟨q1, q2, q3⟩ := snd a o h2
      obtain ⟨r1, r2, r3⟩ := snd b o h3
      simp only [rdL]
      exact it_rng2 gl o.rng (s_args (.cons q1 q2 q3 (.cons r1 r2 r3 .nil))) q3 r3
    · cases h
  | .seq, [], s, X, iter, tg, o, h => by simp [chkIt] at h
  | .seq, _ :: _ :: _, s, X, iter, tg, o, h => by simp [chkIt] at h
  | .rng1, [], s, X, iter, tg, o, h => by simp [chkIt] at h
  | .rng1, _ :: _ :: _, s, X, iter, tg, o, h => by simp [chkIt] at h
  | .rng2, [], s, X, iter, tg, o, h => by simp [chkIt] at h
  | .rng2, [_], s, X, iter, tg, o, h => by simp [chkIt] at h
  | .rng2, _ :: _ :: _ :: _, s, X, iter, tg, o, h => by simp [chkIt] at h
  | .enm, _, s, X, iter, tg, o, h => by simp [chkIt] at h
  | .zp, _, s, X, iter, tg, o, h => by simp [chkIt] at h
theorem sndA : ∀ (es : List E) {s : Sx} {X : Cx} {as : List Expr} {ks : List Keyword}, Ok g s C S lev X → chkAs g s es as ks = true → ∃ k1 k2, rdL S nox es = k1 ++ k2 ∧ All2 X C as k1 ∧ AllK X C ks k2
  | [], s, X, as, ks, o, h => by
    match as, ks with
    | [], [] => exact ⟨[], [], rfl, .nil, .nil⟩
    | [], _ :: _ => simp [chkAs] at h
    | _ :: _, _ => simp [chkAs] at h
  | e :: es, s, X, as, ks, o, h => by
    match as, ks with
    | a :: as, ks =>
      simp only [chkAs, Bool.and_eq_true] at h
      obtain ⟨q1, q2, q3⟩ := snd e o h.1
      obtain ⟨k1, k2, e1, e2, e3⟩ := sndA es o h.2
      exact ⟨(rd S nox e) :: k1, k2, by simp only [rdL, e1, List.cons_append], .cons q1 q2 q3 e2, e3⟩
    | [], ⟨n, v, p⟩ :: ks =>
      simp only [chkAs, Bool.and_eq_true] at h
      obtain ⟨q1, q2, q3⟩ := snd e o h.1
      obtain ⟨k1, k2, e1, e2, e3⟩ := sndA es o h.2
      cases e2
      exact ⟨[], (rd S nox e) :: k2, by simp only [rdL, e1, List.nil_append], .nil, .cons q1 e3⟩
    | [], [] => simp [chkAs] at h
theorem sndL : ∀ (es : List E) {s : Sx} {X : Cx} {as : List Expr}, Ok g s C S lev X → chkEs g s es as = true → All2 X C as (rdL S nox es)
  | [], s, X, as, o, h => by
    cases as with
    | nil => simp only [rdL]; exact .nil
    | cons a as => simp [chkEs] at h
  | e :: es, s, X, as, o, h => by
    cases as with
    | nil => simp [chkEs] at h
    | cons a as =>
      simp only [chkEs, Bool.and_eq_true] at h
      obtain ⟨q1, q2, q3⟩ := snd e o h.1
      simp only [rdL]
      exact .cons q1 q2 q3 (sndL es o h.2)
theorem sndO : ∀ (eo : Option E) {s : Sx} {X : Cx} {ao : Option Expr}, Ok g s C S lev X → chkO g s eo ao = true → OptE X C ao (rdO S nox eo)
  | none, s, X, ao, o, h => by
    cases ao with
    | none => simp only [rdO]; exact .none
    | some a => simp [chkO] at h
  | some e, s, X, ao, o, h => by
    cases ao with
    | none => simp [chkO] at h
    | some a =>
      simp only [chkO] at h
      simp only [rdO]
      exact .some (snd e o h).1
end
end
end Z

namespace Z
open PySem L2 PySem.Spec PyProof.Rows

theorem chain5 {α : Type} (b1 b2 b3 b4 b5 : Bool) (n : α) (u : Sem (Option α)) (r : Option α) (h : (if b1 = true then some none else if b2 = true then some none else if b3 = true then some none else if b4 = true then some none else if b5 = true then none else some (some n)) = some r) :
    (if b1 = true then pure none else if b2 = true then pure none else if b3 = true then pure none else if b4 = true then pure none else if b5 = true then u else pure (some n) : Sem (Option α)) = pure r := by
  cases b1 <;> cases b2 <;> cases b3 <;> cases b4 <;> cases b5 <;> simp at h ⊢ <;> rw [h]
section
variable {env : PySem.Env}
theorem swap_of {sc : Scope} {ts vs : List Expr} {k k2 : Nat} {p p2 : Pos} {r : Option (List PySem.Str)} (hs : env.scope = sc) (hk : sc.kind = .function) (h : swpB sc ts vs = some r) : swappedStores [.Tuple ts k p] (.Tuple vs k2 p2) env = pure r := by
  have bk : env.blockKind = .function := by unfold Env.blockKind; rw [hs, hk]; rfl
  have kd : ∀ x, env.kindOf x = sc.names.lookup x := fun x => by rw [← hs]; rfl
  unfold swpB at h
  unfold swappedStores
  dsimp only at h ⊢
  simp only [bk, kd] at h ⊢
  have e0 : (ScopeKind.function != ScopeKind.function) = false := rfl
  rw [e0, Bool.or_false]
  exact chain5 _ _ _ _ _ _ _ _ h
end
/-- a comprehension stored to a name -/
theorem swapLc {elt : Expr} {gs : List Comprehension} {scope : Scope} {pos p : Pos} {y : PySem.Str} {l : Nat} {env : PySem.Env} :
    swapsWith (.ListComp elt gs scope pos) (some (.Name y p)) l env = pure (env.blockKind == .function && env.kindOf y == some .local && p.line == pos.line && !(scope.names.any fun (n, k) => n == y && (k == .local || k == .cell))) := rfl

theorem st_par3 {X : Cx} {C : CT} {A : List Nat} {st : Stmt} {i j l : Nat} {ws : Ws} (h : PS X st (tPar3 i j l (tSs C ws))) (hi : i ∈ A) (hj : j ∈ A) (hl : l ∈ A) :
    PS X st (tSt C A fun k env => ws env fun rs env1 => takRs rs env1 fun ts env2 => [i, j, l].length = ts.length ∧ k.nx (setAll env2 [i, j, l] ts)) := by
  refine PS.imp h ?_
  rintro D σ H ⟨F, env, p, k, rel, h, n, b, c, tt⟩
  refine tSs.go rel h fun vs rs env1 F1 H1 p1 hl1 ev1 r1 h1 => ?_
  obtain ⟨F2, env2, p2, ts, l2, r2, ev2, h2, h3⟩ := taks hl1 r1 h1
  obtain ⟨v, w, x, rfl⟩ : ∃ v w x, vs = [v, w, x] := by
    have : vs.length = 3 := by rw [← l2, ← h2]; rfl
    match vs, this with
    | [v, w, x], _ => exact ⟨v, w, x, rfl⟩
  obtain ⟨t, u, z, rfl⟩ : ∃ v w x, ts = [v, w, x] := by
    have : ts.length = 3 := by rw [← h2]; rfl
    match ts, this with
    | [v, w, x], _ => exact ⟨v, w, x, rfl⟩
  obtain ⟨p3, r3, ev3, kp3⟩ := Rel.setsT (A := A) (is := [i, j, l]) (vs := [v, w, x]) (ts := [t, u, z]) rfl rfl (by simp [hi, hj, hl]) r2
  exact ⟨v, w, x, rfl, n _ _ _ _ _ kp3 ((ev1.trans ev2).trans ev3) r3 h3⟩

section
variable {g : G} {C : CT} {S : Nat → SpC} {lev : Nat}
theorem Ok.stos {s : Sx} {X : Cx} (o : Ok g s C S lev X) : ∀ {is : List Nat} {es : List Expr}, stosB g s is es = true → tgsB g s (is.map Tg.nm) es = true ∧ (∀ i ∈ is, i ∈ g.asg) ∧ is.length = es.length
  | [], [], h => ⟨rfl, by simp, rfl⟩
  | [], _ :: _, h => by simp [stosB] at h
  | _ :: _, [], h => by simp [stosB] at h
  | i :: is, e :: es, h => by
    simp only [stosB, Bool.and_eq_true] at h
    obtain ⟨⟨h1, h2⟩, h3⟩ := h
    obtain ⟨q1, q2, q3⟩ := Ok.stos o h3
    refine ⟨?_, ?_, by simp [q3]⟩
    · have : noStar e = true := by cases e <;> first | rfl | simp [stoB] at h2
      simp only [List.map_cons, tgsB, tgB, this, h2, q1]
      rfl
    · intro j hj
      rcases List.mem_cons.mp hj with rfl | hj
      · simpa using h1
      · exact q2 j hj
theorem mem_all {l : List Nat} (h : l.all (fun i => g.asg.contains i) = true) : ∀ i ∈ l, i ∈ g.asg := fun i hi => by
  have := List.all_eq_true.mp h i hi
  simpa using this
/-- a name stored: by a comprehension on the same line it is stored within -/
theorem asg_ok {s : Sx} {X : Cx} {x : PySem.Str} {p pos : Pos} {v : Expr} {i : Nat} {w : W} (o : Ok g s C S lev X) (po : PassesOwn (model X.prog X.w) X.A X.env X.xe) (hi : i ∈ g.asg) (hs : stoB g s i (.Name x p) = true) (he : PE X v (tS C w))
    (hc : noComp v = false → ∃ elt gs sc q, v = .ListComp elt gs sc q ∧ (swapsWith v (some (.Name x p)) pos.line X.env = pure true → ∃ t, PS X (.Assign [.Name x p] v pos) (tAsg t (gName i)) ∧ ∀ σ H Q, tS C w σ H Q → t σ H Q)) :
    PS X (.Assign [.Name x p] v pos) (tSt C g.asg fun k env => w env fun r env1 => takR r env1 fun t env2 => k.nx (env2.set i (some t))) := by
  obtain ⟨q1, q2, q3⟩ := o.sto hs
  have nd : X.N.Nodup := by rw [o.hN]; exact o.nd
  cases hv : noComp v with
  | true => exact st_asg_core (ps_set nd q1 q2 he (swap_none hv) q3) (fun _ _ _ h => h) hi
  | false =>
    obtain ⟨elt, gs, sc, q, rfl, hsw⟩ := hc hv
    have e := @swapLc elt gs sc q p x pos.line X.env
    cases hb : (X.env.blockKind == .function && X.env.kindOf x == some .local && p.line == q.line && !(sc.names.any fun (n, k) => n == x && (k == .local || k == .cell))) with
    | false =>
      rw [hb] at e
      exact st_asg_core (ps_set nd q1 q2 he e q3) (fun _ _ _ h => h) hi
    | true =>
      rw [hb] at e
      obtain ⟨t, h1, h2⟩ := hsw e
      exact st_asg_core h1 h2 hi
theorem swap_sole {v t : Expr} {l : Nat} {env : PySem.Env} (h : noComp v = true) : swapsWithSole [t] v l env = pure false := by
  have := @swap_none v (some t) l env h
  simpa [swapsWithSole] using this
theorem lc_of {s : Sx} {X : Cx} {x : PySem.Str} {p pos : Pos} {v : Expr} {e : E} {i : Nat} (o : Ok g s C S lev X) (hs : stoB g s i (.Name x p) = true) (h : chkE g s e v = true) (hc : noComp v = false) :
    ∃ elt gs sc q, v = .ListComp elt gs sc q ∧ (swapsWith v (some (.Name x p)) pos.line X.env = pure true → ∃ t, PS X (.Assign [.Name x p] v pos) (tAsg t (gName i)) ∧ ∀ σ H Q, tS C (rd S nox e).1 σ H Q → t σ H Q) := by
  obtain ⟨q1, q2, q3⟩ := o.sto hs
  have lcE : ∀ {e : E}, chkE g s e v = true → noComp v = false → ∃ own tg ik src cs e', e = .lc own tg ik src cs e' := fun {e} h hc => by
    cases e with
    | lc own tg ik src cs e' => exact ⟨own, tg, ik, src, cs, e', rfl⟩
    | call f as =>
      simp only [chkE] at h
      split at h
      · rename_i e1; obtain ⟨_, _, rfl⟩ := isCall_spec e1; simp [noComp] at hc
      · cases h
    | callk f as =>
      simp only [chkE] at h
      split at h
      · rename_i e1; obtain ⟨_, _, rfl⟩ := isCall_spec e1; simp [noComp] at hc
      · cases h
    | blt b as =>
      simp only [chkE] at h
      split at h
      · rename_i e1; obtain ⟨_, _, rfl⟩ := isCall_spec e1; simp [noComp] at hc
      · cases h
    | mth m i as =>
      simp only [chkE] at h
      split at h
      · rename_i e1; have := isMth_spec e1; subst this; simp [noComp] at hc
      · cases h
    | rev a =>
      simp only [chkE] at h
      split at h
      · rename_i e1; obtain ⟨_, _, _, _, _, rfl⟩ := isRev_spec e1; simp [noComp] at hc
      · cases h
    | v i => simp only [chkE] at h; obtain ⟨_, y, q, rfl⟩ := o.var h; simp [noComp] at hc
    | _ => cases v <;> first | (simp [noComp] at hc; done) | (simp [chkE] at h; done)
  obtain ⟨own, tg, ik, src, cs, e', rfl⟩ := lcE h hc
  simp only [chkE] at h
  split at h
  · rename_i elt tgA iter ifs scope ea
    obtain ⟨lpos, rfl⟩ := isLc_spec ea
    refine ⟨_, _, _, _, rfl, fun hsw => ?_⟩
    simp only [Bool.and_eq_true, decide_eq_true_eq] at h
    obtain ⟨⟨⟨⟨⟨⟨⟨h0, h1⟩, h2⟩, h3⟩, h4⟩, h5⟩, h6⟩, h7⟩ := h
    have bo := blkOk_by h0
    have ob := fun (sh : Shared) (H : Hp) (A : Addr) (cl : List (PySem.Str × Addr)) (fp : List Addr) => o.blk scope bo.kind sh H A cl fp
    have own_eq : (ownN g own).map (·.2) = own := by
      unfold ownN
      rw [List.map_map]
      exact List.map_id'' (fun _ => rfl) own
    have bo' : BlkOk X.N X.env.scope scope (ownN g own) := by rw [o.hN, o.sc]; exact bo
    have sl : ∀ i ∈ tg.slots, i ∈ (ownN g own).map (·.2) := by
      rw [own_eq]
      intro i hi
      have := List.all_eq_true.mp h2 i hi
      simpa using this
    have it := sndI ik src (tg := tgA) o h4
    have tests : ∀ (sh : Shared) (H : Hp) (A : Addr) (cl : List (PySem.Str × Addr)) (fp : List Addr), PTs (X.blk sh H scope (compEnvC scope cl A X.env) fp) ifs (tST C (csT (rdL S nox cs))) := fun sh H A cl fp => by
      have q := sndL cs (ob sh H A cl fp) h6
      match ifs, cs, q, h5 with
      | [], [], _, _ =>
        simp only [rdL]
        refine ⟨fun pins sx σ Hx Q I hh => pts_nil.run pins sx σ Hx Q I ?_⟩
        obtain ⟨F, env, tm, p, K, rel, h, hQ⟩ := hh
        exact hQ _ _ _ _ _ Evo.refl rel h
      | [x], [c], q, _ =>
        simp only [rdL] at q ⊢
        cases q with
        | cons q1 q2 q3 q4 => exact pts_one q2
    have loc : X.env.scope.names.lookup x = some .local := by
      have e := @swapLc elt [⟨tgA, iter, ifs, 0⟩] scope lpos p x pos.line X.env
      rw [hsw] at e
      have e2 : true = (X.env.blockKind == .function && X.env.kindOf x == some .local && p.line == lpos.line && !(scope.names.any fun (n, k) => n == x && (k == .local || k == .cell))) := by
        have inj : ∀ {a b : Bool}, (pure a : Sem Bool) = pure b → a = b := fun {a b} h => by
          have := congrArg (fun s : Sem Bool => s) h
          cases h
          rfl
        exact inj e
      have e3 := e2.symm
      simp only [Bool.and_eq_true, beq_iff_eq] at e3
      exact e3.1.1.2
    have nd : X.N.Nodup := by rw [o.hN]; exact o.nd
    refine ⟨_, ps_setLc (g := gT X.K tg) (own := ownN g own) o.calm nd q1 loc hsw it bo' (fun sh H A cl fp => (ob sh H A cl fp).tg h1) tests (fun sh H A cl fp => (snd e' (ob sh H A cl fp) h7).1) (fold_of h3), ?_⟩
    have z := s_lc (C := C) (own := ownN g own) (tgt := tg) o.hK o.calm nd it bo' sl (fun sh H A cl fp => (ob sh H A cl fp).tg h1) tests (fun sh H A cl fp => (snd e' (ob sh H A cl fp) h7).1) (fold_of h3)
    rw [own_eq] at z ⊢
    simp only [rd]
    exact z
  · cases h
theorem names_nil {α : Type} {es : List Expr} : True := trivial
theorem par_ok {s : Sx} {X : Cx} {tgs vs : List Expr} {is : List Nat} {k k2 : Nat} {p p2 pos : Pos} {ks : List (W × WT)} (o : Ok g s C S lev X) (po : PassesOwn (model X.prog X.w) X.A X.env X.xe) (h0 : stosB g s is tgs = true) (h1 : is.length ≤ 1000) (h2 : parB s is tgs vs = true) (ha : All2 X C vs ks) :
    PS X (.Assign [.Tuple tgs k p] (.Tuple vs k2 p2) pos) (tSt C g.asg fun kk env => seqW ks env fun rs env1 => takRs rs env1 fun ts env2 => is.length = ts.length ∧ kk.nx (setAll env2 is ts)) := by
  obtain ⟨t1, t2, t3⟩ := o.stos h0
  have nd : X.N.Nodup := by rw [o.hN]; exact o.nd
  have kd : X.env.scope.kind = .function := by rw [o.sc]; exact o.kd
  unfold parB at h2
  split at h2
  · rename_i es
    have hw := swap_of (env := X.env) (k := k) (k2 := k2) (p := p) (p2 := p2) o.sc o.kd es
    have tg := Ok.tg o (t := .tp (is.map Tg.nm)) (e := .Tuple tgs k p) (by simp only [tgB]; exact t1)
    exact st_parT (e := .Tuple vs k2 p2) (s_args ha) tg t2 h1 rfl hw rfl
  · rename_i ns es
    have hw := swap_of (env := X.env) (k := k) (k2 := k2) (p := p) (p2 := p2) o.sc o.kd es
    split at h2
    · rename_i i j x px y py
      simp only [Bool.and_eq_true, decide_eq_true_eq] at h2
      obtain ⟨⟨⟨rfl, n1⟩, l1⟩, l2⟩ := h2
      simp only [stosB, Bool.and_eq_true] at h0
      obtain ⟨⟨_, s1⟩, ⟨_, s2⟩, _⟩ := h0
      obtain ⟨q1, _, _⟩ := o.sto s1
      obtain ⟨q2, _, _⟩ := o.sto s2
      have vl : ∃ a b, vs = [a, b] := by
        unfold swpB at es
        split at es
        · cases es
        · rename_i c
          have : vs.length = 2 := by simp at c; exact c
          exact len2 this
      obtain ⟨a, b, rfl⟩ := vl
      exact st_par2 (ps_par o.calm nd q1 q2 n1 (by rw [o.sc]; exact l1) (by rw [o.sc]; exact l2) (s_args ha) hw) (t2 i (by simp)) (t2 j (by simp))
    · rename_i i j l x px y py z pz
      simp only [Bool.and_eq_true, decide_eq_true_eq] at h2
      obtain ⟨⟨⟨⟨⟨⟨rfl, n1⟩, n2⟩, n3⟩, l1⟩, l2⟩, l3⟩ := h2
      simp only [stosB, Bool.and_eq_true] at h0
      obtain ⟨⟨_, s1⟩, ⟨_, s2⟩, ⟨_, s3⟩, _⟩ := h0
      obtain ⟨q1, _, _⟩ := o.sto s1
      obtain ⟨q2, _, _⟩ := o.sto s2
      obtain ⟨q3, _, _⟩ := o.sto s3
      have vl : ∃ a b c, vs = [a, b, c] := by
        unfold swpB at es
        split at es
        · cases es
        · rename_i c
          have : vs.length = 3 := by simp at c; exact c
          match vs, this with
          | [a, b, c], _ => exact ⟨a, b, c, rfl⟩
      obtain ⟨a, b, c, rfl⟩ := vl
      exact st_par3 (ps_par3 o.calm nd q1 q2 q3 n1 n2 n3 (by rw [o.sc]; exact l1) (by rw [o.sc]; exact l2) (by rw [o.sc]; exact l3) (s_args ha) hw) (t2 i (by simp)) (t2 j (by simp)) (t2 l (by simp))
    · cases h2
  · cases h2
mutual
theorem sndS : ∀ (e : Sm) {s : Sx} {X : Cx} {a : Stmt}, Ok g s C S lev X → PassesOwn (model X.prog X.w) X.A X.env X.xe → chkS g s e a = true → PS X a (tSt C g.asg (rdS S nox e))
  | .asg (.nm i) e, s, X, a, o, po, h => by
    simp only [chkS] at h
    split at h
    · rename_i x p v pos ea
      have ea := isSet_spec ea
      subst ea
      simp only [Bool.and_eq_true] at h
      obtain ⟨⟨h0, h1⟩, h2⟩ := h
      simp only [rdS]
      exact asg_ok o po (by simpa using h0) h1 (snd e o h2).1 (fun hc => lc_of o h1 h2 hc)
    · cases h
  | .asg (.tp ts) e, s, X, a, o, po, h => by
    simp only [chkS] at h
    split at h
    · rename_i tgs k p v pos ea
      have ea := isTup_spec ea
      subst ea
      simp only [Bool.and_eq_true] at h
      obtain ⟨⟨⟨⟨h0, h1⟩, h2⟩, h3⟩, h4⟩ := h
      simp only [rdS]
      have tg := Ok.tg o (t := .tp ts) (e := .Tuple tgs k p) (by simp only [tgB]; exact h0)
      refine st_asgT (tgt := .tp ts) (snd e o h4).1 tg (fun i hi => mem_all h1 i (by simpa [Tg.slots] using hi)) (swap_sole h2) ?_ rfl
      cases v <;> first | rfl | simp [isTupE] at h3
    · cases h
  | .par is es, s, X, a, o, po, h => by
    simp only [chkS] at h
    split at h
    · rename_i tgs k p v pos ea
      have ea := isTup_spec ea
      subst ea
      split at h
      · rename_i vs k2 p2 ev
        have ev := isTupE_spec ev
        subst ev
        simp only [Bool.and_eq_true, decide_eq_true_eq] at h
        obtain ⟨⟨⟨h0, h1⟩, h2⟩, h3⟩ := h
        simp only [rdS]
        exact par_ok o po h0 h1 h2 (sndL es o h3)
      · cases h
    · cases h
  | .set i ix e, s, X, a, o, po, h => by
    simp only [chkS] at h
    split at h
    · rename_i oA ixA sp v pos ea
      have ea := isSub_spec ea
      subst ea
      simp only [Bool.and_eq_true] at h
      obtain ⟨⟨⟨⟨h0, h1⟩, h2⟩, h3⟩, h4⟩ := h
      simp only [rdS]
      refine st_set (o.var h0).1 (snd ix o h3).1 (snd e o h4).1 (swap_sole h2) ?_ h1
      cases v <;> rfl
    · cases h
  | .aug i op e, s, X, a, o, po, h => by
    simp only [chkS] at h
    split at h
    · rename_i x p aop v pos ea
      have ea := isAug_spec ea
      subst ea
      simp only [Bool.and_eq_true] at h
      obtain ⟨⟨⟨h0, h1⟩, h2⟩, h3⟩ := h
      obtain ⟨q1, q2, q3⟩ := o.sto h1
      simp only [rdS]
      refine st_aug ?_ (by rw [o.hN]; exact o.nd) q1 q2 (snd e o h3).1 q3 (by simpa using h0)
      cases op <;> cases aop <;> first | exact .inl ⟨rfl, rfl⟩ | exact .inr ⟨rfl, rfl⟩ | (simp [augB] at h2)
    · cases h
  | .ex e, s, X, a, o, po, h => by
    cases a with
    | Expr v pos =>
      simp only [chkS, Bool.and_eq_true] at h
      simp only [rdS]
      exact st_ex (snd e o h.2).1 (swap_none h.1)
    | _ => simp [chkS] at h
  | .ret e, s, X, a, o, po, h => by
    cases a with
    | Return v pos =>
      cases v with
      | some v =>
        simp only [chkS] at h
        simp only [rdS]
        exact st_ret (snd e o h).1
      | none => simp [chkS] at h
    | _ => simp [chkS] at h
  | .ife c x y, s, X, a, o, po, h => by
    cases a with
    | If t ax ay pos =>
      simp only [chkS, Bool.and_eq_true] at h
      simp only [rdS]
      exact st_if (snd c o h.1.1).2.1 (sndSs x o po h.1.2) (sndSs y o po h.2)
    | _ => simp [chkS] at h
  | .whl c b, s, X, a, o, po, h => by
    cases a with
    | While t ax ae pos =>
      cases ae with
      | nil =>
        simp only [chkS, Bool.and_eq_true] at h
        simp only [rdS]
        exact st_while po (snd c o h.1).2.1 (sndSs b o po h.2)
      | cons _ _ => simp [chkS] at h
    | _ => simp [chkS] at h
  | .for_ tg ik src b, s, X, a, o, po, h => by
    cases a with
    | For at_ iter ax ae pos =>
      cases ae with
      | nil =>
        simp only [chkS, Bool.and_eq_true] at h
        obtain ⟨⟨⟨⟨h0, h1⟩, h2⟩, h3⟩, h4⟩ := h
        simp only [rdS]
        exact st_for po o.calm (sndI ik src o h3) (o.tg h0) (mem_all h1) (sndSs b o po h4) (fold_of h2)
      | cons _ _ => simp [chkS] at h
    | _ => simp [chkS] at h
  | .brk, s, X, a, o, po, h => by
    cases a with
    | Break pos => simp only [rdS]; exact st_break
    | _ => simp [chkS] at h
  | .cnt, s, X, a, o, po, h => by
    cases a with
    | Continue pos => simp only [rdS]; exact st_cont
    | _ => simp [chkS] at h
  | .pas, s, X, a, o, po, h => by
    cases a with
    | Pass pos => simp only [rdS]; exact st_pass
    | _ => simp [chkS] at h
  | .nev, s, X, a, o, po, h => by
    simp only [rdS]
    exact st_never
  | .napp i e, s, X, a, o, po, h => by
    cases a with
    | Expr v pos =>
      simp only [chkS] at h
      split at h
      · rename_i x p1 nm apos cpos a ea
        have ea := isMth_spec ea
        subst ea
        simp only [Bool.and_eq_true, decide_eq_true_eq] at h
        obtain ⟨⟨⟨⟨h0, rfl⟩, h2⟩, h3⟩, h4⟩ := h
        simp only [rdS]
        exact st_napp (o.var h0).1 (snd e o h4).1 h3 h2
      · cases h
    | _ => simp [chkS] at h
  | .nap i j l, s, X, a, o, po, h => by
    cases a with
    | Expr v pos =>
      simp only [chkS] at h
      split at h
      · rename_i oA nm apos d1 d2 cpos ea
        obtain ⟨k, q1, q2, q3, q4, rfl⟩ := isNap_spec ea
        simp only [Bool.and_eq_true, decide_eq_true_eq] at h
        obtain ⟨⟨⟨⟨⟨h0, rfl⟩, h2⟩, h3⟩, h4⟩, h5⟩ := h
        simp only [rdS]
        exact st_nap o.hK (o.var h0).1 pe_m1 (o.var h2).1 (o.var h3).1 rfl h4 h5
      · cases h
    | _ => simp [chkS] at h
  | .nrev i j, s, X, a, o, po, h => by
    simp only [chkS] at h
    split at h
    · rename_i tg it oA nm apos cpos ea
      obtain ⟨q1, q2, rfl⟩ := isNrev_spec ea
      simp only [Bool.and_eq_true, decide_eq_true_eq] at h
      obtain ⟨⟨⟨⟨⟨⟨⟨h0, h1⟩, h2⟩, h3⟩, h4⟩, rfl⟩, h6⟩, h7⟩ := h
      obtain ⟨v, x, p, rfl⟩ := o.var h4
      simp only [rdS]
      exact st_nrev po o.calm (o.var h3).1 (o.tg h0) v (by simpa using h1) h2 h6 rfl (fold_of h7)
    · cases h
theorem sndSs : ∀ (es : List Sm) {s : Sx} {X : Cx} {as : List Stmt}, Ok g s C S lev X → PassesOwn (model X.prog X.w) X.A X.env X.xe → chkSs g s es as = true → PSs X as (tSt C g.asg (rdSs S nox es))
  | [], s, X, as, o, po, h => by
    cases as with
    | nil => simp only [rdSs]; exact st_nil
    | cons _ _ => simp [chkSs] at h
  | e :: es, s, X, as, o, po, h => by
    cases as with
    | nil => simp [chkSs] at h
    | cons a as =>
      simp only [chkSs, Bool.and_eq_true] at h
      simp only [rdSs]
      exact st_cons (sndS e o po h.1) (sndSs es o po h.2)
end
end
end Z

/-! A def by its small text. -/
namespace Z
open PySem L2 PySem.Spec PyProof.Rows

/-- what is left of the arguments: a name that is stored tells nothing of its argument -/
def outsOf (np : Nat) (asg : List Nat) (env : Env) : List (Option T) := (List.range np).map fun j => if asg.contains j then none else env[j]?.join
def endsOf (np : Nat) (asg : List Nat) (k : T → List (Option T) → Prop) : Z.Ends where
  nx env := k (.d .non) (outsOf np asg env)
  rt r env := match r with
    | .t t => k t (outsOf np asg env)
    | .pk i => if i < np && !asg.contains i then takR (.pk i) env fun t env1 => k t (outsOf np asg env1) else match env[i]? with
      | some (some t) => k t (outsOf np asg (env.set i none))
      | _ => False
    | .gone => False
  bk _ := False
  ct _ := False

section
variable {C : CT} {F H : Hp} {p : Ow} {σ : St} {env : Env} {tm : List (V × Z.R)}
def outP (np : Nat) (asg : List Nat) (p : Ow) : Ow := fun k => match k with
  | .inl j => if j < np ∧ asg.contains j = false then p (.inl j) else []
  | .inr j => p (.inr j)
theorem outP_sub {np : Nat} {asg : List Nat} {x : Ky} {a : Addr} (h : a ∈ outP np asg p x) : a ∈ p x := by
  unfold outP at h
  split at h
  · split at h
    · exact h
    · simp at h
  · exact h
/-- a def's end: the caller's words -/
theorem Rel.out {N : List PySem.Str} {vs : List V} {np : Nat} {asg : List Nat} {v : V} {t : T} (hn : vs.length = np) (kp : KpS asg (L2.start N vs) σ) (r : Rel C F H σ env [(v, .t t)] p) :
    Rel C F H (vs.map some) (outsOf np asg env) [(v, .t t)] (outP np asg p) where
  sub := r.sub
  slot := fun i t e => by
    unfold outsOf at e
    rw [List.getElem?_map] at e
    have hi : i < np := by
      rcases Nat.lt_or_ge i np with q | q
      · exact q
      · rw [List.getElem?_eq_none (by simpa using q)] at e; cases e
    rw [List.getElem?_range hi] at e
    simp only [Option.map_some, Option.some.injEq] at e
    split at e
    · cases e
    · rename_i ha
      have ha : asg.contains i = false := by simpa using ha
      have e1 : env[i]? = some (some t) := by
        cases q : env[i]? with
        | none => rw [q] at e; cases e
        | some o => rw [q] at e; simp at e; rw [e]
      obtain ⟨w, e2, e3⟩ := r.slot i t e1
      refine ⟨w, ?_, ?_⟩
      · rw [kp.2 i (by simpa using ha)] at e2
        unfold L2.start at e2
        rwa [List.getElem?_append_left (by simpa [hn] using hi)] at e2
      · have : outP np asg p (.inl i) = p (.inl i) := by show (if i < np ∧ asg.contains i = false then p (.inl i) else []) = _; rw [if_pos ⟨hi, ha⟩]
        rw [this]; exact e3
  temp := fun k w u e => r.temp k w u e
  peek := fun k w i e => by
    cases k with
    | zero => simp at e
    | succ k => simp at e
  dis := fun x y a h1 h2 => r.dis x y a (outP_sub h1) (outP_sub h2)
  nod := fun x => by
    cases x with
    | inl j =>
      unfold outP
      dsimp only
      split
      · exact r.nod _
      · simp
    | inr j => exact r.nod _
  own := fun x a h => r.own x a (outP_sub h)
  len := by simp [outsOf, hn]
/-- a variable's own tree moves out -/
theorem Rel.move {i : Nat} {v : V} {t : T} (r : Rel C F H σ env [(v, .pk i)] p) (h : env[i]? = some (some t)) :
    ∃ p', Rel C F H σ (env.set i none) [(v, .t t)] p' ∧ Evo F H p F H p' := by
  obtain ⟨w, e1, e2⟩ := r.slot i t h
  have e3 := r.peek 0 v i rfl
  rw [e3] at e1; cases e1
  let p' : Ow := fun k => match k with
    | .inl j => if j = i then [] else p (.inl j)
    | .inr 0 => p (.inl i)
    | .inr (_ + 1) => []
  have mem : ∀ {x a}, a ∈ p' x → ∃ y, a ∈ p y ∧ (y = .inl i ∧ x = .inr 0 ∨ y = x ∧ y ≠ .inl i) := fun {x a} h => by
    match x with
    | .inl j =>
      by_cases q : j = i
      · simp [p', q] at h
      · simp only [p', if_neg q] at h
        exact ⟨.inl j, h, .inr ⟨rfl, by simpa using q⟩⟩
    | .inr 0 => exact ⟨.inl i, h, .inl ⟨rfl, rfl⟩⟩
    | .inr (_ + 1) => simp [p'] at h
  refine ⟨p', ⟨r.sub, fun j u e => ?_, fun k w u e => ?_, fun k w j e => ?_, fun x y a h1 h2 => ?_, fun x => ?_, fun x a h => ?_, by simp [r.len]⟩, ⟨Same.refl _, fun _ _ h _ => h, fun _ h => .inl h, fun x a h => ?_⟩⟩
  · by_cases q : i = j
    · subst q
      rw [List.getElem?_set] at e
      simp at e
    · rw [List.getElem?_set_ne q] at e
      obtain ⟨w, q1, q2⟩ := r.slot j u e
      refine ⟨w, q1, ?_⟩
      have : p' (.inl j) = p (.inl j) := by simp only [p', if_neg (Ne.symm q)]
      rw [this]; exact q2
  · cases k with
    | zero => simp at e; obtain ⟨rfl, rfl⟩ := e; exact e2
    | succ k => simp at e
  · cases k with
    | zero => simp at e
    | succ k => simp at e
  · obtain ⟨y1, a1, b1⟩ := mem h1
    obtain ⟨y2, a2, b2⟩ := mem h2
    have e := r.dis _ _ a a1 a2
    subst e
    rcases b1 with ⟨c1, c2⟩ | ⟨c1, c2⟩ <;> rcases b2 with ⟨d1, d2⟩ | ⟨d1, d2⟩
    · rw [c2, d2]
    · exact absurd c1 d2
    · exact absurd d1 c2
    · rw [← c1, ← d1]
  · match x with
    | .inl j =>
      by_cases q : j = i
      · simp [p', q]
      · simp only [p', if_neg q]; exact r.nod _
    | .inr 0 => exact r.nod _
    | .inr (_ + 1) => simp [p']
  · obtain ⟨y, q, _⟩ := mem h
    exact r.own y a q
  · obtain ⟨y, q, _⟩ := mem h
    exact .inr ⟨y, q⟩
end
/-- the slots at a def's entry -/
def env0 (N : List PySem.Str) (ts : List T) : Env := ts.map some ++ List.replicate (N.length - ts.length) none
theorem Rel.entry {C : CT} {F H : Hp} {p : Ow} {N : List PySem.Str} {vs : List V} {ts : List T} (h : vs.length = ts.length) (r : Rel C F H (vs.map some) (ts.map some) [] p) : Rel C F H (L2.start N vs) (env0 N ts) [] p := by
  refine ⟨r.sub, fun i t e => ?_, r.temp, fun k v i e => by simp at e, r.dis, r.nod, r.own, by simp [env0, L2.start, h]⟩
  unfold env0 at e
  have hi : i < ts.length := by
    rcases Nat.lt_or_ge i ts.length with q | q
    · exact q
    · rw [List.getElem?_append_right (by simpa using q)] at e
      rw [List.getElem?_replicate] at e
      split at e <;> simp at e
  rw [List.getElem?_append_left (by simpa using hi)] at e
  obtain ⟨v, e1, e2⟩ := r.slot i t e
  refine ⟨v, ?_, e2⟩
  unfold L2.start
  rw [List.getElem?_append_left (by simpa [h] using hi)]
  exact e1

/-- THE DEF: its small text's reading gives its promise -/
theorem fn_snd {P : Program} {w : World} {K : PySem.W.Frag} {mg : PySem.Str → Option Value} {base : Heap} {C : CT} {lev : Nat} {x qual : Str} {st : Stmt} {fa : Addr} {fdt : FuncData} {g : G} {pars : List PySem.Str} {sp : SpC} {S : Nat → SpC} {ir : List Sm}
    (hK : K = C.K) (Fu : Fun K x qual st fa fdt) (sc : FnScope g.N pars (defScope st)) (ar : ∀ ts k e, sp ts k e → ts.length = pars.length)
    (fns : ∀ (f : Nat) (fi : Fi), g.fns[f]? = some fi → FnAt P w K mg base C lev fi.nm fi.pars fi.kbs (S f)) (blt : ∀ b, mg (bltNm b) = none) (rng : mg "range" = none)
    (chk : chkSs g ⟨defScope st, fun _ => true⟩ ir (defBody st) = true)
    (law : ∀ ts k e, sp ts k e → rdSs S nox ir (endsOf pars.length g.asg k) (env0 g.N ts)) : FnG P w K mg base CX0 (lev + 1) fa fdt pars (spO C pars.length sp) := by
  refine fnG_of Fu sc (fun vs H Q E ⟨F, ts, p, h, _⟩ => h) fun cdv A above sh H vs Q E gd rm ⟨F, ts, p, hv, ht, rel, hs⟩ => ?_
  refine ⟨_, PSs.nox (sndSs (g := g) (S := S) (C := C) (lev := lev) ir (s := ⟨defScope st, fun _ => true⟩) (X := (cxOf CX0 P w K mg base g.N qual (defScope st) fa cdv A above sh H E).nox)
    ⟨rfl, sc.nd, rfl, sc.kind, ?_, ?_, gd, hK, rm, fns, blt, rng⟩ ?_ chk), ?_⟩
  · rfl
  · rfl
  · exact PassesOwn.never
  · refine ⟨F, env0 g.N ts, p, endsOf pars.length g.asg _, rel.entry (by rw [hv, ht]), law _ _ _ hs, fun σ' env' F' H' p' kp ev r h => ?_, fun σ' env' F' H' p' kp ev r h => h.elim, fun σ' env' F' H' p' kp ev r h => h.elim, fun v r0 σ' env' F' H' p' kp ev r h => ?_⟩
    · exact h _ F' H' _ (ev.trans (Evo.push0.sub fun x b hb => ⟨x, outP_sub hb⟩)) ((r.pushD (v := .non) (x := .non) rfl).out hv kp)
    · cases r0 with
      | t t => exact h v F' H' _ (ev.sub fun x b hb => ⟨x, outP_sub hb⟩) (r.out hv kp)
      | gone => exact h.elim
      | pk i =>
        have h0 : (if (i < pars.length && !g.asg.contains i) = true then _ else _) := h
        split at h0
        · obtain ⟨F2, env2, p2, t, r2, ev2, h2⟩ := tak1 (k := 0) r rfl h0
          exact h2 v F2 H' _ ((ev.trans ev2).sub fun x b hb => ⟨x, outP_sub hb⟩) (Rel.out hv kp r2)
        · split at h0
          · rename_i t e
            obtain ⟨p2, r2, ev2⟩ := r.move e
            exact h0 v F' H' _ ((ev.trans ev2).sub fun x b hb => ⟨x, outP_sub hb⟩) (r2.out hv kp)
          · exact h0.elim
end Z

/-! The table of the defs; a law by its def. -/
namespace Z
open PySem L2 PySem.Spec PyProof.Rows

/-- a def stands in the module -/
structure Has (K : PySem.W.Frag) (mg : PySem.Str → Option Value) (fi : Fi) (st : Stmt) : Prop where
  ex : ∃ (fa : Addr) (fdt : FuncData), Fun K fi.nm fi.nm st fa fdt ∧ mg fi.nm = some (.ref fa) ∧ Binds K fdt fi.pars [] ∧
    ∀ n ∈ fi.kbs, ∀ (s : Shared) (us ws : List Value), us.length = n → ws.length = fi.pars.length - n → BindsTo s fdt ⟨us, (fi.pars.drop n).zip ws⟩ (fi.pars.zip (us ++ ws))
/-- a look at a def's scope -/
def scB (N ps : List PySem.Str) (sc : Scope) : Bool :=
  decide (sc.kind = .function) && (!sc.isCoroutine && (!sc.isGenerator && (decide N.Nodup && (decide (N.take ps.length = ps) && (ps.all (fun x => match sc.names.lookup x with
    | some .local => true
    | some .cell => true
    | _ => false) && sc.names.all (fun y => match y.2 with
    | .free => false
    | _ => true))))))
theorem fnScope_of {N ps : List PySem.Str} {sc : Scope} (h : scB N ps sc = true) : FnScope N ps sc := by
  unfold scB at h
  simp only [Bool.and_eq_true, Bool.not_eq_true', decide_eq_true_eq, List.all_eq_true] at h
  obtain ⟨h1, h2, h3, h4, h5, h6, h7⟩ := h
  refine ⟨h1, h2, h3, h4, h5, fun x hx => ?_, fun y hy e => ?_⟩
  · have := h6 x hx
    split at this
    · rename_i e; exact .inl e
    · rename_i e; exact .inr e
    · cases this
  · have := h7 y hy
    rw [e] at this
    cases this
section
variable {P : Program} {w : World} {K : PySem.W.Frag} {mg : PySem.Str → Option Value} {base : Heap} {C : CT}
theorem FnAt.up {i j : Nat} {nm : PySem.Str} {pars : List PySem.Str} {kbs : List Nat} {sp : SpC} (h : FnAt P w K mg base C i nm pars kbs sp) (le : i ≤ j) : FnAt P w K mg base C j nm pars kbs sp :=
  ⟨h.mono, h.ar, let ⟨fa, fdt, G, r⟩ := h.at_; ⟨fa, fdt, G.up le, r⟩⟩
/-- the first j defs keep their promises, each within j calls -/
def Tab (P : Program) (w : World) (K : PySem.W.Frag) (mg : PySem.Str → Option Value) (base : Heap) (C : CT) (fis : List Fi) (S : Nat → SpC) (j : Nat) : Prop :=
  ∀ (f : Nat) (fi : Fi), (fis.take j)[f]? = some fi → FnAt P w K mg base C j fi.nm fi.pars fi.kbs (S f)
theorem Tab.zero {fis : List Fi} {S : Nat → SpC} : Tab P w K mg base C fis S 0 := fun f fi h => by simp at h
/-- what stands around the defs -/
structure Arnd (K : PySem.W.Frag) (mg : PySem.Str → Option Value) (C : CT) : Prop where
  hK : K = C.K
  blt : ∀ b, mg (bltNm b) = none
  rng : mg "range" = none
theorem Tab.one {fis : List Fi} {S : Nat → SpC} {j : Nat} {fi : Fi} {st : Stmt} {N : List PySem.Str} {asg : List Nat} {ir : List Sm} (T : Tab P w K mg base C fis S j) (ar : Arnd K mg C) (hj : fis[j]? = some fi) (h : Has K mg fi st)
    (sc : scB N fi.pars (defScope st) = true) (mo : Mono (S j)) (len : ∀ ts k e, S j ts k e → ts.length = fi.pars.length)
    (chk : chkSs ⟨N, fis.take j, asg⟩ ⟨defScope st, fun _ => true⟩ ir (defBody st) = true)
    (law : ∀ ts k e, S j ts k e → rdSs S nox ir (endsOf fi.pars.length asg k) (env0 N ts)) : Tab P w K mg base C fis S (j + 1) := by
  have sc' : FnScope N fi.pars (defScope st) := by
    have := fnScope_of sc
    exact this
  intro f fi' hf
  have hlt : f < j + 1 := by
    rcases Nat.lt_or_ge f (j + 1) with q | q
    · exact q
    · rw [List.getElem?_eq_none (by simp; omega)] at hf; cases hf
  rw [List.getElem?_take_of_lt hlt] at hf
  rcases Nat.lt_or_ge f j with q | q
  · exact (T f fi' (by rw [List.getElem?_take_of_lt q]; exact hf)).up (Nat.le_succ _)
  · obtain rfl : f = j := by omega
    rw [hj] at hf; cases hf
    obtain ⟨fa, fdt, Fu, mgf, bd, bk⟩ := h.ex
    exact ⟨mo, len, fa, fdt, fn_snd (g := ⟨N, fis.take f, asg⟩) (S := S) ar.hK Fu sc' len T ar.blt ar.rng chk law, mgf, Fu.kp, bd, bk⟩
end
/-- the script stands nowhere but where the head may look at it -/
def scrH (K : PySem.W.Frag) (a : Addr) (vs : List Value) (ns : List Int) : Hp := fun b => if b = a ∧ K.lookup a = none then some (.frz { cls := .type "list", data := .seq vs.toArray } (.lst (ns.map V.int))) else none
section
variable {K : PySem.W.Frag} {a b : Addr} {vs : List Value} {ns : List Int}
theorem scrH_some {u : HO} (h : scrH K a vs ns b = some u) : b = a ∧ K.lookup a = none ∧ u = .frz { cls := .type "list", data := .seq vs.toArray } (.lst (ns.map V.int)) := by
  unfold scrH at h
  split at h
  · rename_i c
    cases h
    exact ⟨c.1, c.2, rfl⟩
  · cases h
theorem scrH_seq {s : Shared} (KX : K.In s.heap) (ha : s.heap.get? a = some { cls := .type "list", data := .seq vs.toArray }) (hi : IntsAre vs ns) (hl : ns.length ≤ sizeLine) : SqL K (scrH K a vs ns) a (ns.map V.int) := by
  cases e : K.lookup a with
  | none => exact .inl (.inr ⟨_, if_pos ⟨rfl, e⟩⟩)
  | some o =>
    have q := (KX a o e).symm.trans ha
    cases q
    exact .inr ⟨_, vs.toArray, _, e, rfl, rfl, rfl, by rw [List.size_toArray, hi.length]; exact hl, by simpa using vals_ints hi⟩
end
/-- A LAW: its def's promise answers True at each script -/
theorem law_at {P : Program} {w : World} {K : PySem.W.Frag} {mg mb : PySem.Str → Option Value} {C : CT} {k : Nat} {fa a : Addr} {nm x : PySem.Str} {sp : SpC} {s : Shared} {vs : List Value} {ns : List Int}
    (KX : K.In s.heap) (hns : s.heap.Ns mainGlobals mg) (hb : s.heap.Ns builtinsNs mb) (hbb : ∀ y : PySem.Str, y ≠ "__name__" → mb y = bootBuiltins y) (nolim : s.heap.NoLimit) (gens : s.gens = #[])
    (ha : s.heap.get? a = some { cls := .type "list", data := .seq vs.toArray }) (hi : IntsAre vs ns) (hl : ns.length ≤ sizeLine) (rm : Room k callerA) (hfa : mg nm = some (.ref fa)) (hK : K = C.K)
    (F : ∀ base : Heap, K.In base → base.Ns mainGlobals mg → FnAt P w K mg base C k nm [x] [] sp)
    (hsp : sp [.d (.scr ns)] (fun t _ => t = .d (.bl true)) fun _ _ _ => False) :
    codeAny (model P w) callerA (.call (.ref fa) ⟨[.ref a], []⟩) (fun r s' => r = .ok (.ret (.bool true)) ∧ OldK s.heap s'.heap ∧ s'.os = s.os ∧ AllBare s'.gens) s := by
  let H := scrH K a vs ns
  have untr : ∀ {b : Addr} {o : Obj}, s.heap.get? b = some o → (∀ its n, o.data ≠ .seq its n) → H b = none := fun {b o} e d => by
    cases q : H b with
    | none => rfl
    | some u =>
      obtain ⟨rfl, _, _⟩ := scrH_some q
      have e2 := e.symm.trans ha
      cases e2
      exact absurd rfl (d _ _)
  have vis : ∀ {b : Addr} {o : Obj}, s.heap.get? b = some o → H b = none → (hidT s.heap H).get? b = some o := fun e n => hidT_get e n
  have hns' : ∀ {b : Addr} {m : PySem.Str → Option Value}, s.heap.Ns b m → (hidT s.heap H).Ns b m := fun {b m} ⟨o, es, ep, e, d, r⟩ => ⟨o, es, ep, vis e (untr e fun its n q => by rw [q] at d; cases d), d, r⟩
  have inB : K.In (hidT s.heap H) := fun b o e => vis (KX b o e) (by
    cases q : H b with
    | none => rfl
    | some u =>
      obtain ⟨rfl, q2, _⟩ := scrH_some q
      rw [q2] at e; cases e)
  have mod : Mod K mg (hidT s.heap H) := by
    refine ⟨inB, hns' hns, ⟨mb, hns' hb, hbb⟩, ?_⟩
    obtain ⟨mc, q1, q2⟩ := nolim
    exact ⟨mc, hns' q1, q2⟩
  have hok : HOk P w H s.heap := fun b u q => by
    obtain ⟨rfl, _, rfl⟩ := scrH_some q
    exact ⟨ha, by rw [List.length_map]; exact hl, vs, _, vals_ints hi, ha⟩
  have e0 : Env0 P w K mg (hidT s.heap H) callerA [] s H := by
    refine ⟨rfl, mod, fun b o e => of_hidT e, ?_, trivial, ?_, hok, .of_eq gens⟩
    · exact Nat.le_of_eq (hidT_size _ _)
    · intro b hb
      have hb : b ∈ ([] : List Addr) := hb
      simp at hb
  obtain ⟨fa', fdt, G, e1, _, bd, _⟩ := (F _ inB (hns' hns)).at_
  rw [hfa] at e1; cases e1
  have bs : BindsTo s fdt ⟨[.ref a], []⟩ ([x].zip [.ref a]) := by
    have := bd s [.ref a] KX rfl
    rwa [List.append_nil] at this
  have rel : Rel C H H ([V.ref a].map some) ([T.d (.scr ns)].map some) [] (fun _ => []) := by
    refine ⟨Same.refl _, fun i t e => ?_, fun k v t e => by simp at e, fun k v i e => by simp at e, fun x y a h => by simp at h, fun x => by simp, fun x a h => by simp at h, rfl⟩
    cases i with
    | succ i => simp at e
    | zero =>
      simp at e; subst e
      refine ⟨.ref a, rfl, ?_⟩
      simp only [RepT, RepD]
      exact ⟨trivial, a, rfl, by rw [← hK]; exact scrH_seq KX ha hi hl⟩
  have run := G.runs callerA [] s H ⟨[.ref a], []⟩ [.ref a] [.ref a] (fun v _ => v = .bl true) (fun _ _ _ => False) rfl rm e0 bs (.cons rfl .nil)
    ⟨H, [.d (.scr ns)], _, rfl, rfl, rel, (F _ inB (hns' hns)).mono _ _ _ _ _ (fun t outs ht v F' H' p' ev r => by
      subst ht
      have := r.temp 0 v _ rfl
      simp only [RepT, RepD] at this
      exact this.2) (fun _ _ _ q => q) hsp⟩
  refine codeAny_mono run fun r s' q => ?_
  match r, q with
  | .error e, q => exact q.elim
  | .ok .next, q => exact q.elim
  | .ok .brk, q => exact q.elim
  | .ok .cont, q => exact q.elim
  | .ok (.ret u), ⟨v, H', os, bare, un, hok', rv, hv⟩ =>
    subst hv
    have rv : u = Value.bool true := rv
    subst rv
    refine ⟨rfl, OldK.of_keep fun b o e => ?_, os, bare⟩
    cases q : H b with
    | none => exact un.keep b o e q (fun z => by have z : b ∈ ([] : List Addr) := z; simp at z) (by simp)
    | some u =>
      obtain ⟨rfl, _, rfl⟩ := scrH_some q
      obtain ⟨e1, _⟩ := hok b _ q
      obtain ⟨e2, _⟩ := hok' b _ (un.frzs b _ _ q)
      rw [e] at e1; cases e1
      exact e2
/-- the head's goal -/
theorem walk_at {l : PySem.W.OpenLaw} {n k : Nat} {q : Program} {loose : List PySem.Str} {XP : (PySem.Str → Option Value) → Heap → Prop} {YP : World → Heap → Prop} {d : DefRec} {K : Params → PySem.W.Frag} {x : PySem.Str} {sp : SpC} {C : World → CT}
    (hn : l.most = some n) (hn2 : n ≤ sizeLine) (nod : d.params.defaults = []) (rm : Room k callerA) (hC : ∀ w, K w.params = (C w).K)
    (hY : ∀ (w : World) (h : Heap), YP w h → (K w.params).In h)
    (F : ∀ (w : World) (mg : PySem.Str → Option Value) (fa : Addr) (h : Heap), (K w.params).In h → h.Ns mainGlobals mg → mg d.name = some (.ref fa) →
      ∀ base : Heap, (K w.params).In base → base.Ns mainGlobals mg → FnAt l.prog w (K w.params) mg base (C w) k d.name [x] [] sp)
    (hsp : ∀ ns : List Int, ns.length ≤ n → sp [.d (.scr ns)] (fun t _ => t = .d (.bl true)) fun _ _ _ => False) :
    PySem.W.WalkO q loose XP YP l.row.toRowW d [] (fun f vs => PySem.call f vs) := by
  refine Att.attach_call hn nod fun w s₀ s mg mb fa o pm cd doc a vs ns G Y ho hd hcd hmg hobj hns len gens => ?_
  have KX := hY w _ Y
  exact law_at KX G.T.g G.T.b G.T.builtins G.T.nolimit gens hobj hns (Nat.le_trans len hn2) rm hmg (hC w) (F w mg fa _ KX G.T.g hmg) (hsp ns len)
end Z
namespace Z
open PySem L2 PySem.Spec PyProof.Rows
theorem has_mk {K : PySem.W.Frag} {h : Heap} {mg : PySem.Str → Option Value} {fi : Fi} {st : Stmt} {f : Addr} {od an : Option Addr} {sl : Array (Option Value)} {oc kV dc pm cd ct : Value} (X : K.In h) (G : h.Ns mainGlobals mg) (a : PySem.W.nsIn K mainGlobals fi.nm = some (some (.ref f)))
    (l : K.lookup f = some ⟨oc, od, .func (PySem.W.fnOf fi.nm fi.nm (defArgs st) (defBody st) (defScope st) .none kV dc pm an cd ct), sl⟩) (c : PySem.W.codeIn K cd fi.nm = true) (k : PySem.W.keepIn K (.ref f) = true)
    (b : ∀ us : List Value, us.length = fi.pars.length → bindArgs (PySem.W.fnOf fi.nm fi.nm (defArgs st) (defBody st) (defScope st) .none kV dc pm an cd ct) ⟨us, []⟩ = pure (fi.pars.zip us))
    (kb : ∀ n ∈ fi.kbs, ∀ (s : Shared) (us ws : List Value), us.length = n → ws.length = fi.pars.length - n → BindsTo s (PySem.W.fnOf fi.nm fi.nm (defArgs st) (defBody st) (defScope st) .none kV dc pm an cd ct) ⟨us, (fi.pars.drop n).zip ws⟩ (fi.pars.zip (us ++ ws))) : Has K mg fi st :=
  ⟨f, _, fun_mk l c k, PySem.W.mg_of X G a, .all b, kb⟩
end Z

/-! Reading a small text step by step: each rule takes the head of what is to be read. -/
namespace Z
namespace V
open PySem L2

def B2 (o : Bop) (env : Env) (r1 r2 : R) (K : R → Env → Prop) : Prop := match cont env r1, cont env r2 with
  | some t, some u => binT o t u fun z => K (.t z) env
  | _, _ => False
def C2 (o : Cop) (env : Env) (r1 r2 : R) (K : Bool → Prop) : Prop := match cont env r1, cont env r2 with
  | some t, some u => cmpT o t u K
  | _, _ => False
def G2 (env : Env) (r1 r2 : R) (K : R → Env → Prop) : Prop := match cont env r1, cont env r2 with
  | some t, some u => subT t u fun d => K (.t (.d d)) env
  | _, _ => False
def U1 (env : Env) (r : R) (K : Bool → Env → Prop) : Prop := match cont env r with
  | some t => truT t fun b => K b env
  | none => False
def Bl (b : Blt) (env : Env) (rs : List R) (K : R → Env → Prop) : Prop := match conts env rs with
  | some ts => bltT b ts fun t => K (.t t) env
  | none => False
def NegE (env : Env) (r : R) (K : R → Env → Prop) : Prop := match cont env r with
  | some (.d (.int i)) => K (.t (.d (.int (-i)))) env
  | _ => False
def RevE (env : Env) (r : R) (K : R → Env → Prop) : Prop := match cont env r with
  | some t => (match lstT t with
    | some xs => K (.t (.l xs.reverse)) env
    | none => False)
  | none => False
section
variable {S : Nat → SpC} {x : XP} {env env1 env2 : Env} {K : R → Env → Prop} {KT : Bool → Env → Prop} {Ks : List R → Env → Prop} {a b c : E} {as es : List E} {r r1 r2 : R} {rs : List R} {k : Ends} {t u : T} {ts : List T} {i j : Nat} {s : Sm} {ss : List Sm}
/-! ### expressions -/
theorem e_k {d : D} (h : K (.t (.d d)) env) : (rd S x (.k d)).1 env K := by simp only [rd, both]; exact h
theorem e_v (e : env[i]? = some (some t)) (h : K (.pk i) env) : (rd S x (.v i)).1 env K := by
  simp only [rd, both, varW, e]; exact h
theorem e_bin {o : Bop} (h : (rd S x a).1 env fun r1 env1 => (rd S x b).1 env1 fun r2 env2 => B2 o env2 r1 r2 K) : (rd S x (.bin o a b)).1 env K := by simp only [rd, both, w2]; exact h
theorem e_neg (h : (rd S x a).1 env fun r env1 => NegE env1 r K) : (rd S x (.neg a)).1 env K := by simp only [rd, both, negW]; exact h
theorem neg_go {z : Int} (e : cont env r = some (.d (.int z))) (h : K (.t (.d (.int (-z)))) env) : NegE env r K := by unfold NegE; rw [e]; exact h
theorem e_cmp {o : Cop} (h : (rd S x a).1 env fun r1 env1 => (rd S x b).1 env1 fun r2 env2 => C2 o env2 r1 r2 fun c => K (.t (.d (.bl c))) env2) : (rd S x (.cmp o a b)).1 env K := by simp only [rd, both, w2]; exact h
theorem e_ite (h : (rd S x c).2 env fun q env1 => if q = true then (rd S x a).1 env1 K else (rd S x b).1 env1 K) : (rd S x (.ite c a b)).1 env K := by simp only [rd, iteW]; exact h
theorem e_lst (h : seqW (rdL S x es) env fun rs env1 => escRs rs env1 fun ds env2 => ds.length ≤ sizeLine ∧ K (.t (.l ds)) env2) : (rd S x (.lst es)).1 env K := by simp only [rd, lstW]; exact h
theorem e_tup (h : seqW (rdL S x es) env fun rs env1 => escRs rs env1 fun ds env2 => ds.length ≤ sizeLine ∧ K (.t (.d (.tup ds))) env2) : (rd S x (.tup es)).1 env K := by simp only [rd, tupW]; exact h
theorem e_sub (h : (rd S x a).1 env fun r1 env1 => (rd S x b).1 env1 fun r2 env2 => G2 env2 r1 r2 K) : (rd S x (.sub a b)).1 env K := by simp only [rd, both, w2, G2]; exact h
theorem e_rev (h : (rd S x a).1 env fun r env1 => RevE env1 r K) : (rd S x (.rev a)).1 env K := by simp only [rd, both, revW]; exact h
theorem rev_go {xs : List D} (e : cont env r = some t) (e2 : lstT t = some xs) (h : K (.t (.l xs.reverse)) env) : RevE env r K := by unfold RevE; rw [e]; dsimp only; rw [e2]; exact h
theorem e_call {f : Nat} (h : seqW (rdL S x as) env fun rs env1 => callR (S f) x rs env1 K) : (rd S x (.call f as)).1 env K := by simp only [rd, both]; exact h
theorem e_callk {f : Nat} (h : seqW (rdL S x as) env fun rs env1 => callR (S f) x rs env1 K) : (rd S x (.callk f as)).1 env K := by simp only [rd, both]; exact h
theorem e_blt {o : Blt} (h : seqW (rdL S x as) env fun rs env1 => Bl o env1 rs K) : (rd S x (.blt o as)).1 env K := by simp only [rd, both, bltW]; exact h
theorem e_mth {m : Mth} (h : mthW m i (seqW (rdL S x as)) env K) : (rd S x (.mth m i as)).1 env K := by simp only [rd, both]; exact h
theorem e_lc {own : List Nat} {tg : Tg} {ik : IK} {src cs : List E} {e : E} (h : seqW (rdL S x src) env fun rs env1 => escRs rs env1 fun ds env2 => itemsT ik (ds.map .d) fun its =>
      lcL tg own (csT (rdL S x cs)) (rd S x e).1 its (wipeE env2 own) [] fun ys env3 => K (.t (.l ys)) (restE env2 env3 own)) : (rd S x (.lc own tg ik src cs e)).1 env K := by simp only [rd, lcW]; exact h
theorem e_and1 (h : (rd S x a).1 env K) : andW (rdL S x [a]) env K := by simp only [rdL, andW]; exact h
theorem s_nl (h : Ks [] env) : seqW (rdL S x []) env Ks := by simp only [rdL, seqW]; exact h
theorem s_cn (h : (rd S x a).1 env fun r env1 => seqW (rdL S x es) env1 fun rs env2 => Ks (r :: rs) env2) : seqW (rdL S x (a :: es)) env Ks := by simp only [rdL, seqW]; exact h
/-! ### operands -/
theorem b2_go {o : Bop} (e1 : cont env r1 = some t) (e2 : cont env r2 = some u) (h : binT o t u fun z => K (.t z) env) : B2 o env r1 r2 K := by unfold B2; rw [e1, e2]; exact h
theorem c2_go {o : Cop} {KB : Bool → Prop} (e1 : cont env r1 = some t) (e2 : cont env r2 = some u) (h : cmpT o t u KB) : C2 o env r1 r2 KB := by unfold C2; rw [e1, e2]; exact h
theorem g2_go (e1 : cont env r1 = some t) (e2 : cont env r2 = some u) (h : subT t u fun d => K (.t (.d d)) env) : G2 env r1 r2 K := by unfold G2; rw [e1, e2]; exact h
theorem bl_go {o : Blt} (e : conts env rs = some ts) (h : bltT o ts fun t => K (.t t) env) : Bl o env rs K := by unfold Bl; rw [e]; exact h
theorem c_t : cont env (.t t) = some t := rfl
theorem c_pk (e : env[i]? = some (some t)) : cont env (.pk i) = some t := by simp only [cont, e]
theorem cs_nl : conts env [] = some [] := rfl
theorem cs_cn (e : cont env r = some t) (e2 : conts env rs = some ts) : conts env (r :: rs) = some (t :: ts) := by simp only [conts, e, e2]
section
variable {KI : T → Prop} {p q : Int}
theorem i_add (h : KI (.d (.int (p + q)))) : binT .add (.d (.int p)) (.d (.int q)) KI := h
theorem i_sub (h : KI (.d (.int (p - q)))) : binT .sub (.d (.int p)) (.d (.int q)) KI := h
theorem i_mul (o : MulOk p q) (h : KI (.d (.int (p * q)))) : binT .mul (.d (.int p)) (.d (.int q)) KI := ⟨o, h⟩
theorem i_fdiv (o : DivOk q) (h : KI (.d (.int (p / q)))) : binT .fdiv (.d (.int p)) (.d (.int q)) KI := ⟨o, h⟩
theorem i_mod (o : 0 < q) (h : KI (.d (.int (p % q)))) : binT .mod (.d (.int p)) (.d (.int q)) KI := ⟨o, h⟩
theorem i_pow (o : PowOk p q) (h : KI (.d (.int (p ^ q.toNat)))) : binT .pow (.d (.int p)) (.d (.int q)) KI := ⟨o, h⟩
theorem i_shl (o : ShlOk p q) (h : KI (.d (.int (p * 2 ^ q.toNat)))) : binT .shl (.d (.int p)) (.d (.int q)) KI := ⟨o, h⟩
theorem i_shr (o : 0 ≤ q) (h : KI (.d (.int (p / 2 ^ q.toNat)))) : binT .shr (.d (.int p)) (.d (.int q)) KI := ⟨o, h⟩
theorem i_band (h : KI (.d (.int (Builtin.bitAnd p q)))) : binT .band (.d (.int p)) (.d (.int q)) KI := h
theorem l_add {xs ys : List D} (e1 : lstT t = some xs) (e2 : lstT u = some ys) (o : xs.length + ys.length ≤ sizeLine) (h : KI (.l (xs ++ ys))) : binT .add t u KI := by
  unfold binT
  split
  · simp [lstT] at e1
  · simp [lstT] at e1
  · rw [e1]; unfold binL; dsimp only; rw [e2]; exact ⟨o, h⟩
theorem l_mul {xs : List D} (e1 : lstT t = some xs) (o1 : -(2 ^ 63) ≤ q) (o2 : q < 2 ^ 63) (o : xs.length * q.toNat ≤ sizeLine) (h : KI (.l (List.replicate q.toNat xs).flatten)) : binT .mul t (.d (.int q)) KI := by
  unfold binT
  split
  · simp [lstT] at e1
  · simp [lstT] at e1
  · rw [e1]; exact ⟨o1, o2, o, h⟩
end
section
variable {KB : Bool → Prop} {p q : Int}
theorem q_eq (h : KB (decide (p = q))) : cmpT .eq (.d (.int p)) (.d (.int q)) KB := h
theorem q_ne (h : KB (!decide (p = q))) : cmpT .ne (.d (.int p)) (.d (.int q)) KB := h
theorem q_lt (h : KB (decide (p < q))) : cmpT .lt (.d (.int p)) (.d (.int q)) KB := h
theorem q_le (h : KB (decide (p ≤ q))) : cmpT .le (.d (.int p)) (.d (.int q)) KB := h
theorem q_gt (h : KB (decide (q < p))) : cmpT .gt (.d (.int p)) (.d (.int q)) KB := h
theorem q_ge (h : KB (decide (q ≤ p))) : cmpT .ge (.d (.int p)) (.d (.int q)) KB := h
end
theorem g_go {KD : D → Prop} {xs : List D} {d : D} {p : Int} (e1 : seqT t = some xs) (e2 : L2.atI xs p = some d) (h : KD d) : subT t (.d (.int p)) KD := by
  unfold subT; dsimp only; rw [e1]; dsimp only; rw [e2]; exact h
theorem g_scr {KD : D → Prop} {ns : List Int} {n p : Int} (e2 : L2.atI ns p = some n) (h : KD (.int n)) : subT (.d (.scr ns)) (.d (.int p)) KD := by
  unfold subT; dsimp only [seqT, lstT, tupT]; rw [e2]; exact h
theorem at0 {α : Type} {y : α} {ys : List α} : L2.atI (y :: ys) 0 = some y := by
  unfold L2.atI L2.ixN
  rw [if_pos (by decide), if_pos (by simp only [List.length_cons]; omega)]
  rfl
theorem at_nat {α : Type} {xs : List α} {n : Nat} {y : α} (h : xs[n]? = some y) : L2.atI xs (n : Int) = some y := by
  have hl : n < xs.length := (List.getElem?_eq_some_iff.mp h).1
  unfold L2.atI L2.ixN
  rw [if_pos (by omega), if_pos (by omega)]
  simpa using h
theorem at_int {α : Type} {xs : List α} {p : Int} {y : α} (h0 : 0 ≤ p) (h : xs[p.toNat]? = some y) : L2.atI xs p = some y := by
  have := at_nat h
  rwa [Int.toNat_of_nonneg h0] at this
theorem a_nm {d : D} {KE : Env → Prop} (h : KE (env.set i (some (.d d)))) : asgT (.nm i) d env KE := by simp only [asgT]; exact h
theorem a_tp {ts : List Tg} {ds : List D} {KE : Env → Prop} (h : asgTs ts ds env KE) : asgT (.tp ts) (.tup ds) env KE := by simp only [asgT]; exact h
theorem as_nl {KE : Env → Prop} (h : KE env) : asgTs [] [] env KE := by simp only [asgTs]; exact h
theorem as_cn {g : Tg} {gs : List Tg} {d : D} {ds : List D} {KE : Env → Prop} (h : asgT g d env fun env1 => asgTs gs ds env1 KE) : asgTs (g :: gs) (d :: ds) env KE := by simp only [asgTs]; exact h
theorem set_same {o : Option T} (e : env[i]? = some o) : env.set i o = env := by
  have hi : i < env.length := (List.getElem?_eq_some_iff.mp e).1
  refine List.ext_getElem? fun j => ?_
  rw [List.getElem?_set]
  split
  · rename_i hj; subst hj; rw [e]; try rw [if_pos hi]
  · rfl
theorem back1 (e : env[i]? = some (some t)) : back env [.pk i] [t] [some t] = env := by
  unfold back
  split
  · have : back env [] [] [] = env := by unfold back; rfl
    rw [this]; exact set_same e
  · unfold back; rfl
theorem back_t {o : Option T} : back env [.t u] [t] [o] = env := by unfold back; unfold back; rfl
/-! ### tests -/
theorem t_cmp {o : Cop} (h : (rd S x a).1 env fun r1 env1 => (rd S x b).1 env1 fun r2 env2 => C2 o env2 r1 r2 fun c => KT c env2) : (rd S x (.cmp o a b)).2 env KT := by simp only [rd, cmpW]; exact h
theorem t_not (h : (rd S x a).2 env fun q env1 => KT (!q) env1) : (rd S x (.bnot a)).2 env KT := by simp only [rd, notTT]; exact h
theorem t_and (h : andT (rdL S x es) env KT) : (rd S x (.band es)).2 env KT := by simp only [rd]; exact h
theorem t_or (h : orT (rdL S x es) env KT) : (rd S x (.bor es)).2 env KT := by simp only [rd]; exact h
theorem a_one (h : (rd S x a).2 env KT) : andT (rdL S x [a]) env KT := by simp only [rdL, andT]; exact h
theorem a_cn (h : (rd S x a).2 env fun q env1 => if q = true then andT (rdL S x (b :: es)) env1 KT else KT false env1) : andT (rdL S x (a :: b :: es)) env KT := by simp only [rdL, andT]; exact h
theorem o_one (h : (rd S x a).2 env KT) : orT (rdL S x [a]) env KT := by simp only [rdL, orT]; exact h
theorem o_cn (h : (rd S x a).2 env fun q env1 => if q = true then KT true env1 else orT (rdL S x (b :: es)) env1 KT) : orT (rdL S x (a :: b :: es)) env KT := by simp only [rdL, orT]; exact h
theorem t_call {f : Nat} (h : (rd S x (.call f as)).1 env fun r env1 => U1 env1 r KT) : (rd S x (.call f as)).2 env KT := by simp only [rd, both, truW]; exact h
theorem t_v (h : (rd S x (.v i)).1 env fun r env1 => U1 env1 r KT) : (rd S x (.v i)).2 env KT := by simp only [rd, both, truW]; exact h
theorem t_k {d : D} (h : (rd S x (.k d)).1 env fun r env1 => U1 env1 r KT) : (rd S x (.k d)).2 env KT := by simp only [rd, both, truW]; exact h
theorem u_bl {q : Bool} (e : cont env r = some (.d (.bl q))) (h : KT q env) : U1 env r KT := by unfold U1; rw [e]; exact h
theorem cs_0 (h : KT true env) : csT (rdL S x []) env KT := by simp only [rdL, csT]; exact h
theorem cs_1 (h : (rd S x a).2 env KT) : csT (rdL S x [a]) env KT := by simp only [rdL, csT]; exact h
theorem if_d {p : Prop} [Decidable p] {A B : Prop} (h1 : p → A) (h2 : ¬ p → B) : if decide p = true then A else B := by
  by_cases h : p
  · rw [if_pos (decide_eq_true h)]; exact h1 h
  · rw [if_neg (by simpa using h)]; exact h2 h
theorem if_n {p : Prop} [Decidable p] {A B : Prop} (h1 : ¬ p → A) (h2 : p → B) : if (!decide p) = true then A else B := by
  by_cases h : p
  · rw [if_neg (by simpa using h)]; exact h2 h
  · rw [if_pos (by simpa using h)]; exact h1 h
theorem if_T {A B : Prop} (h : A) : if true = true then A else B := by rwa [if_pos rfl]
theorem if_nT {A B : Prop} (h : B) : if (!true) = true then A else B := by rwa [if_neg (by decide)]
theorem if_nF {A B : Prop} (h : A) : if (!false) = true then A else B := by rwa [if_pos (by decide)]
theorem if_F {A B : Prop} (h : B) : if false = true then A else B := by rwa [if_neg (by decide)]
/-! ### escape, take -/
section
variable {Kd : D → Env → Prop} {Kds : List D → Env → Prop} {Kt : T → Env → Prop} {Kts : List T → Env → Prop} {d : D}
theorem x_t (h : Kd t.erase env) : escR (.t t) env Kd := h
theorem x_td (h : Kd d env) : escR (.t (.d d)) env Kd := by
  have : T.erase (.d d) = d := by simp only [T.erase]
  show Kd (T.erase (.d d)) env
  rw [this]; exact h
theorem x_tl {xs : List D} (h : Kd (.lst xs) env) : escR (.t (.l xs)) env Kd := by
  have : T.erase (.l xs) = .lst xs := by simp only [T.erase]
  show Kd (T.erase (.l xs)) env
  rw [this]; exact h
theorem x_d (e : env[i]? = some (some (.d d))) (h : Kd d env) : escR (.pk i) env Kd := by simp only [escR, e]; exact h
theorem x_l {xs : List D} (e : env[i]? = some (some (.l xs))) (h : Kd (.lst xs) (env.set i (some (.d (.lst xs))))) : escR (.pk i) env Kd := by
  simp only [escR, e]
  have : T.erase (.l xs) = .lst xs := by simp only [T.erase]
  rw [this]; exact h
theorem x_nl (h : Kds [] env) : escRs [] env Kds := h
theorem x_cn (h : escR r env fun d env1 => escRs rs env1 fun ds env2 => Kds (d :: ds) env2) : escRs (r :: rs) env Kds := h
theorem y_t (h : Kt t env) : takR (.t t) env Kt := h
theorem y_d (e : env[i]? = some (some (.d d))) (h : Kt (.d d) env) : takR (.pk i) env Kt := by simp only [takR, e]; exact h
theorem y_l {xs : List D} (e : env[i]? = some (some (.l xs))) (h : Kt (.d (.lst xs)) (env.set i (some (.d (.lst xs))))) : takR (.pk i) env Kt := by
  simp only [takR, e]
  have : T.erase (.l xs) = .lst xs := by simp only [T.erase]
  rw [this]; exact h
theorem y_nl (h : Kts [] env) : takRs [] env Kts := h
theorem y_cn (h : takR r env fun d env1 => takRs rs env1 fun ds env2 => Kts (d :: ds) env2) : takRs (r :: rs) env Kts := h
end
/-! ### statements -/
variable {n bk ct : Env → Prop} {rt : R → Env → Prop}
theorem z_nl (h : n env) : rdSs S x [] ⟨n, rt, bk, ct⟩ env := by simp only [rdSs]; exact h
theorem z_cn (h : rdS S x s ⟨rdSs S x ss ⟨n, rt, bk, ct⟩, rt, bk, ct⟩ env) : rdSs S x (s :: ss) ⟨n, rt, bk, ct⟩ env := by simp only [rdSs]; exact h
theorem z_asg (h : (rd S x a).1 env fun r env1 => takR r env1 fun t env2 => n (env2.set i (some t))) : rdS S x (.asg (.nm i) a) ⟨n, rt, bk, ct⟩ env := by simp only [rdS]; exact h
theorem z_par {is : List Nat} (h : seqW (rdL S x es) env fun rs env1 => takRs rs env1 fun ts env2 => is.length = ts.length ∧ n (setAll env2 is ts)) : rdS S x (.par is es) ⟨n, rt, bk, ct⟩ env := by simp only [rdS]; exact h
theorem z_ex (h : (rd S x a).1 env fun _ env1 => n env1) : rdS S x (.ex a) ⟨n, rt, bk, ct⟩ env := by simp only [rdS]; exact h
theorem z_ret (h : (rd S x a).1 env fun r env1 => rt r env1) : rdS S x (.ret a) ⟨n, rt, bk, ct⟩ env := by simp only [rdS]; exact h
theorem z_pas (h : n env) : rdS S x .pas ⟨n, rt, bk, ct⟩ env := by simp only [rdS]; exact h
theorem z_brk (h : bk env) : rdS S x .brk ⟨n, rt, bk, ct⟩ env := by simp only [rdS]; exact h
theorem z_cnt (h : ct env) : rdS S x .cnt ⟨n, rt, bk, ct⟩ env := by simp only [rdS]; exact h
theorem z_if {s1 s2 : List Sm} (h : (rd S x a).2 env fun q env1 => if q = true then rdSs S x s1 ⟨n, rt, bk, ct⟩ env1 else rdSs S x s2 ⟨n, rt, bk, ct⟩ env1) : rdS S x (.ife a s1 s2) ⟨n, rt, bk, ct⟩ env := by simp only [rdS]; exact h
def SetE (i : Nat) (n : Env → Prop) (ds : List D) (env3 : Env) : Prop := match ds, env3[i]? with
    | [d, .int j], some (some (.l xs)) => (match ixN xs.length j with
      | some m => n (env3.set i (some (.l (xs.set m d))))
      | none => False)
    | _, _ => False
def There (i : Nat) (env : Env) : Prop := match env[i]? with
    | some (some _) => True
    | _ => False
theorem there (e : env[i]? = some (some t)) : There i env := by unfold There; rw [e]; trivial
theorem z_set (h : (rd S x b).1 env fun r env1 => There i env1 ∧ (rd S x a).1 env1 fun r2 env2 => escRs [r, r2] env2 fun ds env3 => SetE i n ds env3) : rdS S x (.set i a b) ⟨n, rt, bk, ct⟩ env := by simp only [rdS]; exact h
theorem set_there (e : env[i]? = some (some t)) {P : Prop} (h : P) : There i env ∧ P := ⟨there e, h⟩
theorem set_go {d : D} {j : Int} {xs : List D} {m : Nat} (e : env[i]? = some (some (.l xs))) (e2 : ixN xs.length j = some m) (h : n (env.set i (some (.l (xs.set m d))))) : SetE i n [d, .int j] env := by unfold SetE; rw [e]; dsimp only; rw [e2]; exact h
def AugE (i : Nat) (o : Bop) (n : Env → Prop) (r : R) (env1 : Env) : Prop := match env1[i]?, cont env1 r with
    | some (some (.d (.int a))), some (.d (.int b)) => augI o a b fun z => n (env1.set i (some (.d (.int z))))
    | _, _ => False
theorem z_aug {o : Bop} (e : env[i]? = some (some t)) (h : (rd S x a).1 env fun r env1 => AugE i o n r env1) : rdS S x (.aug i o a) ⟨n, rt, bk, ct⟩ env := by
  simp only [rdS]
  exact ⟨there e, h⟩
theorem aug_go {o : Bop} {p q : Int} (e : env[i]? = some (some (.d (.int p)))) (e2 : cont env r = some (.d (.int q))) (h : augI o p q fun z => n (env.set i (some (.d (.int z))))) : AugE i o n r env := by unfold AugE; rw [e, e2]; exact h
theorem z_for {tg : Tg} {ik : IK} {src : List E} {bd : List Sm} (h : seqW (rdL S x src) env fun rs env1 => escRs rs env1 fun ds env2 => itemsT ik (ds.map .d) fun its => forL tg (rdSs S x bd) ⟨n, rt, bk, ct⟩ its env2) : rdS S x (.for_ tg ik src bd) ⟨n, rt, bk, ct⟩ env := by simp only [rdS]; exact h
theorem z_whl {bd : List Sm} (h : ∃ m, whN (rd S x c).2 (rdSs S x bd) ⟨n, rt, bk, ct⟩ m env) : rdS S x (.whl c bd) ⟨n, rt, bk, ct⟩ env := by simp only [rdS]; exact h
theorem it_seq {xs : List D} {KD : List D → Prop} (e : seqT t = some xs) (h : KD xs) : itemsT .seq [t] KD := by unfold itemsT; dsimp only; rw [e]; exact h
/-- a loop over data, by what holds ahead of each turn -/
theorem forL_by {tg : Tg} {bd : WS} (I : List D → Env → Prop) (nil : ∀ env, I [] env → n env)
    (cons : ∀ d ds env (N : Env → Prop), I (d :: ds) env → (∀ env', I ds env' → N env') → asgT tg d env fun env1 => bd ⟨N, rt, n, N⟩ env1) : ∀ (ds : List D) (env : Env), I ds env → forL tg bd ⟨n, rt, bk, ct⟩ ds env
  | [], env, h => nil env h
  | d :: ds, env, h => cons d ds env _ h fun env' h' => forL_by I nil cons ds env' h'
theorem whN_by {c : WT} {bd : WS} (I : Nat → Env → Prop) (step : ∀ m env (N : Env → Prop), I m env → (∀ m' env', m' < m → I m' env' → N env') → c env fun q env1 => if q = true then bd ⟨N, rt, n, N⟩ env1 else n env1) {m : Nat} (h : I m env) :
    ∃ j, whN c bd ⟨n, rt, bk, ct⟩ j env := by
  have : ∀ (j m : Nat) (env : Env), m < j → I m env → whN c bd ⟨n, rt, bk, ct⟩ j env := fun j => by
    induction j with
    | zero => intro m env h; omega
    | succ j ih =>
      intro m env hm hI
      exact step m env _ hI fun m' env' h1 h2 => ih m' env' (by omega) h2
  exact ⟨m + 1, this _ _ _ (Nat.lt_succ_self _) h⟩
/-- a comprehension: what holds ahead of each turn, with what is made so far -/
theorem lcL_by {tg : Tg} {own : List Nat} {cs : WT} {e : W} {kk : List D → Env → Prop} (I : List D → Env → List D → Prop) (nil : ∀ env acc, I [] env acc → kk acc env)
    (cons : ∀ d ds env acc (N : Env → List D → Prop), I (d :: ds) env acc → (∀ env' acc', I ds env' acc' → N env' acc') → asgT tg d env fun env1 => cs env1 fun b env2 => if b = true then e env2 fun r env3 => escR r env3 fun y env4 =>
      acc.length < sizeLine ∧ N (wipeE env4 own) (acc ++ [y]) else N (wipeE env2 own) acc) : ∀ (ds : List D) (env : Env) (acc : List D), I ds env acc → lcL tg own cs e ds env acc kk
  | [], env, acc, h => nil env acc h
  | d :: ds, env, acc, h => cons d ds env acc (fun env acc => lcL tg own cs e ds env acc kk) h fun env' acc' h' => lcL_by I nil cons ds env' acc' h'
theorem call_go {sp : SpC} (e : conts env rs = some ts) (nd : (brw rs ts).Nodup) (h : sp ts (fun r outs => outs.length = ts.length ∧ K (.t r) (back env rs ts outs)) (fun c d outs => outs.length = ts.length ∧ x c d (back env rs ts outs))) : callR sp x rs env K := by
  unfold callR; rw [e]; exact ⟨nd, h⟩
def MthE (m : Mth) (i : Nat) (K : R → Env → Prop) (ds : List D) (env2 : Env) : Prop := match env2[i]? with
    | some (some (.l xs)) => mthL m xs ds fun ys d => K (.t (.d d)) (env2.set i (some (.l ys)))
    | _ => False
theorem mth_go {m : Mth} {as : Ws} {xs0 : List D} (e : env[i]? = some (some t)) (e2 : lstT t = some xs0) (h : as env fun rs env1 => escRs rs env1 fun ds env2 => MthE m i K ds env2) : mthW m i as env K := by
  unfold mthW
  rw [e]
  exact ⟨by dsimp only; rw [e2]; rfl, h⟩
theorem mth_go2 {m : Mth} {ds xs : List D} (e : env[i]? = some (some (.l xs))) (h : mthL m xs ds fun ys d => K (.t (.d d)) (env.set i (some (.l ys)))) : MthE m i K ds env := by unfold MthE; rw [e]; exact h
section
variable {KI : T → Prop} {p q : Int}
theorem j_min2 (h : KI (.d (.int (if q < p then q else p)))) : bltT .min2 [.d (.int p), .d (.int q)] KI := h
theorem j_max2 (h : KI (.d (.int (if q > p then q else p)))) : bltT .max2 [.d (.int p), .d (.int q)] KI := h
theorem j_abs (h : KI (.d (.int (if p < 0 then -p else p)))) : bltT .abs [.d (.int p)] KI := h
theorem j_int (h : KI (.d (.int p))) : bltT .int1 [.d (.int p)] KI := h
theorem j_bool {b : Bool} (h : KI (.d (.int (if b then 1 else 0)))) : bltT .int1 [.d (.bl b)] KI := h
theorem j_len {xs : List D} (e : seqT t = some xs) (h : KI (.d (.int xs.length))) : bltT .len [t] KI := by
  show lenT [t] KI
  unfold lenT; dsimp only; rw [e]; exact h
theorem j_lenS {ns : List Int} (h : KI (.d (.int ns.length))) : bltT .len [.d (.scr ns)] KI := h
theorem j_list {xs : List D} (e : seqT t = some xs) (h : KI (.l xs)) : bltT .list1 [t] KI := by
  show list1T [t] KI
  unfold list1T; dsimp only; rw [e]; exact h
theorem j_sum {xs : List D} {ns : List Int} (e : lstT t = some xs) (e2 : intsD xs = some ns) (h : KI (.d (.int ns.sum))) : bltT .sum [t] KI := by
  show sumT [t] KI
  unfold sumT intsT; dsimp only; rw [e]; dsimp only; rw [e2]; exact h
end
end
end V
end Z

local macro_rules | `(tactic| walk_at "ev1") => `(tactic| first
  | (with_reducible refine Z.V.z_cn ?_; try dsimp only [List.set, Z.setAll])
  | with_reducible refine Z.V.z_nl ?_
  | (with_reducible refine Z.V.a_nm ?_; try dsimp only [List.set])
  | with_reducible refine Z.V.a_tp ?_
  | with_reducible refine Z.V.as_nl ?_
  | with_reducible refine Z.V.as_cn ?_
  | with_reducible refine Z.V.z_pas ?_
  | with_reducible refine Z.V.z_brk ?_
  | with_reducible refine Z.V.z_cnt ?_
  | with_reducible refine Z.V.z_asg ?_
  | with_reducible refine Z.V.z_par ?_
  | with_reducible refine Z.V.z_ex ?_
  | with_reducible refine Z.V.z_ret ?_
  | with_reducible refine Z.V.z_if ?_
  | with_reducible refine Z.V.z_set ?_
  | with_reducible refine Z.V.z_for ?_
  | with_reducible refine Z.V.z_whl ?_
  | with_reducible refine Z.V.e_k ?_
  | with_reducible refine Z.V.e_bin ?_
  | with_reducible refine Z.V.e_neg ?_
  | with_reducible refine Z.V.e_cmp ?_
  | with_reducible refine Z.V.e_lst ?_
  | with_reducible refine Z.V.e_tup ?_
  | with_reducible refine Z.V.e_sub ?_
  | with_reducible refine Z.V.e_rev ?_
  | with_reducible refine Z.V.e_call ?_
  | with_reducible refine Z.V.e_callk ?_
  | with_reducible refine Z.V.e_blt ?_
  | with_reducible refine Z.V.e_lc ?_
  | with_reducible refine Z.V.e_ite ?_
  | with_reducible refine Z.V.s_nl ?_
  | with_reducible refine Z.V.s_cn ?_
  | with_reducible refine Z.V.i_add ?_
  | with_reducible refine Z.V.i_sub ?_
  | with_reducible refine Z.V.i_band ?_
  | with_reducible refine Z.V.q_eq ?_
  | with_reducible refine Z.V.q_ne ?_
  | with_reducible refine Z.V.q_lt ?_
  | with_reducible refine Z.V.q_le ?_
  | with_reducible refine Z.V.q_gt ?_
  | with_reducible refine Z.V.q_ge ?_
  | with_reducible refine Z.V.t_cmp ?_
  | with_reducible refine Z.V.t_not ?_
  | with_reducible refine Z.V.t_and ?_
  | with_reducible refine Z.V.t_or ?_
  | with_reducible refine Z.V.a_one ?_
  | with_reducible refine Z.V.a_cn ?_
  | with_reducible refine Z.V.o_one ?_
  | with_reducible refine Z.V.o_cn ?_
  | with_reducible refine Z.V.t_call ?_
  | with_reducible refine Z.V.t_v ?_
  | with_reducible refine Z.V.t_k ?_
  | with_reducible refine Z.V.cs_0 ?_
  | with_reducible refine Z.V.cs_1 ?_
  | with_reducible refine Z.V.if_T ?_
  | with_reducible refine Z.V.if_F ?_
  | with_reducible refine Z.V.if_nT ?_
  | with_reducible refine Z.V.if_nF ?_
  | with_reducible refine Z.V.x_nl ?_
  | with_reducible refine Z.V.x_cn ?_
  | with_reducible refine Z.V.x_td ?_
  | with_reducible refine Z.V.x_tl ?_
  | with_reducible refine Z.V.y_nl ?_
  | with_reducible refine Z.V.y_cn ?_
  | with_reducible refine Z.V.y_t ?_
  | with_reducible refine Z.V.j_min2 ?_
  | with_reducible refine Z.V.j_max2 ?_
  | with_reducible refine Z.V.j_abs ?_
  | with_reducible refine Z.V.j_int ?_
  | with_reducible refine Z.V.j_bool ?_
  | with_reducible refine Z.V.e_mth ?_
  | with_reducible refine Z.V.z_aug (by with_unfolding_all rfl) ?_
  | with_reducible refine Z.V.e_v (by with_unfolding_all rfl) ?_
  | with_reducible refine Z.V.bl_go (by with_unfolding_all rfl) ?_
  | with_reducible refine Z.V.u_bl (by with_unfolding_all rfl) ?_
  | with_reducible refine Z.V.x_d (by with_unfolding_all rfl) ?_
  | with_reducible refine Z.V.x_l (by with_unfolding_all rfl) ?_
  | with_reducible refine Z.V.y_d (by with_unfolding_all rfl) ?_
  | with_reducible refine Z.V.y_l (by with_unfolding_all rfl) ?_
  | with_reducible refine Z.V.neg_go (by with_unfolding_all rfl) ?_
  | with_reducible refine Z.V.set_there (by with_unfolding_all rfl) ?_
  | with_reducible refine Z.V.mth_go2 (by with_unfolding_all rfl) ?_
  | with_reducible refine Z.V.j_len (by with_unfolding_all rfl) ?_
  | with_reducible refine Z.V.j_list (by with_unfolding_all rfl) ?_
  | with_reducible refine Z.V.b2_go (by with_unfolding_all rfl) (by with_unfolding_all rfl) ?_
  | with_reducible refine Z.V.c2_go (by with_unfolding_all rfl) (by with_unfolding_all rfl) ?_
  | with_reducible refine Z.V.g2_go (by with_unfolding_all rfl) (by with_unfolding_all rfl) ?_
  | with_reducible refine Z.V.aug_go (by with_unfolding_all rfl) (by with_unfolding_all rfl) ?_
  | with_reducible refine Z.V.set_go (by with_unfolding_all rfl) (by with_unfolding_all rfl) ?_
  | with_reducible refine Z.V.g_go (by with_unfolding_all rfl) (by with_unfolding_all rfl) ?_
  | with_reducible refine Z.V.rev_go (by with_unfolding_all rfl) (by with_unfolding_all rfl) ?_
  | with_reducible refine Z.V.mth_go (by with_unfolding_all rfl) (by with_unfolding_all rfl) ?_
  | with_reducible refine Z.V.j_sum (by with_unfolding_all rfl) (by with_unfolding_all rfl) ?_)
local macro_rules | `(tactic| walk_at "ev") => `(tactic| repeat walk_at "ev1")
local macro_rules | `(tactic| walk_at "nd") => `(tactic| first | decide | (simp [Z.brw, Z.T.isOwn]; done) | (unfold Z.brw; split <;> simp [Z.brw]))

/-! Lists of whole numbers. -/
namespace Z
namespace V
open PySem L2
def zs (ds : List Int) : List D := ds.map .int
theorem zs_len (ds : List Int) : (zs ds).length = ds.length := List.length_map ..
theorem zs_app (a b : List Int) : zs (a ++ b) = zs a ++ zs b := List.map_append ..
theorem zs_get {ds : List Int} {n : Nat} : (zs ds)[n]? = (ds[n]?).map .int := List.getElem?_map ..
theorem intsD_zs : ∀ ds : List Int, intsD (zs ds) = some ds
  | [] => rfl
  | d :: ds => by
    show (match intsD (zs ds) with
      | some l => some (d :: l)
      | none => none) = _
    rw [intsD_zs ds]
theorem toPys_zs : ∀ ds : List Int, toPys (zs ds) = some (ds.map .int)
  | [] => by simp only [zs, List.map_nil, toPys]
  | d :: ds => by
    have ih := toPys_zs ds
    unfold zs at ih ⊢
    simp only [List.map_cons, toPys, toPy, ih]
theorem toPy_zs (ds : List Int) : toPy (.lst (zs ds)) = some (.list (ds.map .int)) := by simp only [toPy, toPys_zs]
theorem lay_zs : ∀ ds : List Int, PyData.canLayAll0 (ds.map .int) = true
  | [] => by simp only [List.map_nil, PyData.canLayAll0]
  | d :: ds => by simp only [List.map_cons, PyData.canLayAll0, PyData.canLay0, lay_zs ds, Bool.true_and]
theorem depth_zs : ∀ ds : List Int, PyData.depthAll (ds.map .int) = 0
  | [] => by simp only [List.map_nil, PyData.depthAll]
  | d :: ds => by simp only [List.map_cons, PyData.depthAll, PyData.depth, depth_zs ds]; rfl
theorem shaped_zs (ds : List Int) : SeqAt.shaped (.list (ds.map .int)) = true := by
  unfold SeqAt.shaped
  simp only [PyData.canLay0, PyData.depth, lay_zs, depth_zs]
  decide
theorem eqv_zs : ∀ xs ys : List Int, PyData.eqvAll (xs.map .int) (ys.map .int) = decide (xs = ys)
  | [], [] => by simp [PyData.eqvAll]
  | [], y :: ys => by simp [PyData.eqvAll]
  | x :: xs, [] => by simp [PyData.eqvAll]
  | x :: xs, y :: ys => by
    simp only [List.map_cons, PyData.eqvAll, PyData.eqv, eqv_zs xs ys]
    by_cases h : x = y <;> simp [h]
section
variable {S : Nat → SpC} {x : XP} {env : Env} {t u : T} {i : Nat} {KB : Bool → Prop} {KI : T → Prop} {xs ys : List Int}
theorem q_eqL (e1 : t.erase = .lst (zs xs)) (e2 : u.erase = .lst (zs ys)) (h : KB (decide (xs = ys))) : cmpT .eq t u KB := by
  unfold cmpT
  rw [e1, e2]
  refine ⟨_, _, toPy_zs xs, toPy_zs ys, shaped_zs xs, shaped_zs ys, ?_⟩
  simp only [PyData.eqv, eqv_zs]
  exact h
theorem q_neL (e1 : t.erase = .lst (zs xs)) (e2 : u.erase = .lst (zs ys)) (h : KB (!decide (xs = ys))) : cmpT .ne t u KB := by
  unfold cmpT
  rw [e1, e2]
  refine ⟨_, _, toPy_zs xs, toPy_zs ys, shaped_zs xs, shaped_zs ys, ?_⟩
  simp only [PyData.eqv, eqv_zs]
  exact h
theorem er_l {xs : List D} : (T.l xs).erase = .lst xs := by simp only [T.erase]
theorem er_d {d : D} : (T.d d).erase = d := by simp only [T.erase]
theorem er_n {ts : List T} : (T.n ts).erase = .lst (T.erases ts) := by simp only [T.erase]
theorem x_n {ts : List T} {Kd : D → Env → Prop} (e : env[i]? = some (some (.n ts))) (h : Kd (.lst (T.erases ts)) (env.set i (some (.d (.lst (T.erases ts)))))) : escR (.pk i) env Kd := by
  simp only [escR, e, er_n]
  exact h
theorem erases_l : ∀ (L : List (List Int)), T.erases (L.map fun g => .l (zs g)) = L.map fun g => .lst (zs g)
  | [] => by simp only [List.map_nil, T.erases]
  | g :: L => by simp only [List.map_cons, T.erases, er_l, erases_l L]
theorem lst_or {ds : List D} (h : lstT t = some ds) : t = .l ds ∨ t = .d (.lst ds) := by
  unfold lstT at h
  split at h
  · cases h; exact .inr rfl
  · cases h; exact .inl rfl
  · cases h
theorem seq_of_lst {ds : List D} (h : lstT t = some ds) : seqT t = some ds := by unfold seqT; rw [h]
theorem er_lst {ds : List D} (h : lstT t = some ds) : t.erase = .lst ds := by
  rcases lst_or h with rfl | rfl
  · exact er_l
  · exact er_d
/-- a list walked: frozen -/
theorem x_lst {ds : List D} {Kd : D → Env → Prop} (e : env[i]? = some (some t)) (h0 : lstT t = some ds) (h : Kd (.lst ds) (env.set i (some (.d (.lst ds))))) : escR (.pk i) env Kd := by
  rcases lst_or h0 with rfl | rfl
  · exact x_l e h
  · refine x_d e ?_
    have hi : i < env.length := (List.getElem?_eq_some_iff.mp e).1
    have : env.set i (some (.d (.lst ds))) = env := by
      refine List.ext_getElem? fun j => ?_
      rw [List.getElem?_set]
      split
      · rename_i hj; subst hj; rw [e]
      · rfl
    rw [this] at h
    exact h
theorem i_sumL (e : lstT t = some (zs xs)) (h : KI (.d (.int xs.sum))) : bltT .sum [t] KI := j_sum e (intsD_zs xs) h
theorem i_lenL (e : lstT t = some (zs xs)) (h : KI (.d (.int xs.length))) : bltT .len [t] KI := j_len (seq_of_lst e) (by rw [zs_len]; exact h)
end
end V
end Z

namespace Z26
open PySem L2 Z Z.V
def st (i : Nat) : Stmt := PySem.Challenge.pw_owedafresh_k26_fewest_payments.main.body.getD i (.Pass ⟨0, 0, 0, 0⟩)
def fis : List Fi := [⟨"_law_coin", ["purse", "many"], []⟩, ⟨"_law_debts", ["purse"], []⟩, ⟨"_law_most_lots", ["debts"], []⟩, ⟨"_law_fewest_owed", ["debts"], []⟩, ⟨"check_even", ["balances"], []⟩, ⟨"sums_of", ["amounts"], []⟩, ⟨"last_ones", ["amounts"], []⟩, ⟨"groups", ["balances"], []⟩, ⟨"fewest", ["balances"], [0]⟩, ⟨"_law_right", ["purse"], []⟩, ⟨"_law_purse", ["script", "place"], []⟩, ⟨"law", ["script"], []⟩]
/-- 0: _law_coin(purse, many); slots 0 purse, 1 many, 2 stirred, 3 drawn -/
def ir0 : List Sm := [.ife (.cmp .gt (.sub (.v 0) (.k (.int 0))) (.k (.int 0))) [.asg (.nm 3) (.bin .mod (.blt .int1 [(.sub (.v 0) (.k (.int 0)))]) (.v 1)), .set 0 (.k (.int 0)) (.bin .fdiv (.sub (.v 0) (.k (.int 0))) (.v 1)), .ret (.v 3)] [],
  .set 0 (.k (.int 2)) (.bin .add (.sub (.v 0) (.k (.int 2))) (.k (.int 1))),
  .asg (.nm 2) (.bin .mod (.bin .pow (.blt .int1 [(.bin .add (.sub (.v 0) (.k (.int 1))) (.bin .mul (.k (.int 2038074743)) (.sub (.v 0) (.k (.int 2)))))]) (.k (.int 3))) (.bin .add (.bin .pow (.k (.int 10)) (.k (.int 25))) (.k (.int 13)))),
  .asg (.nm 2) (.bin .mod (.bin .pow (.blt .int1 [(.bin .add (.v 2) (.bin .mul (.k (.int 982451653)) (.sub (.v 0) (.k (.int 2)))))]) (.k (.int 2))) (.bin .add (.bin .pow (.k (.int 10)) (.k (.int 24))) (.k (.int 7)))),
  .ret (.bin .mod (.blt .int1 [(.bin .fdiv (.v 2) (.k (.int 1024)))]) (.v 1))]
def N0 : List PySem.Str := ["purse", "many", "stirred", "drawn"]
def A0 : List Nat := [3, 2]
theorem sc0 : scB N0 ["purse", "many"] (defScope (st 11)) = true := by decide +kernel
theorem ck0 : chkSs ⟨N0, fis.take 0, A0⟩ ⟨defScope (st 11), fun _ => true⟩ ir0 (defBody (st 11)) = true := by decide +kernel
/-- 1: _law_debts(purse); slots 0 purse, 1 found, 2 turn, 3 rank, 4 cents, 5 size, 6 scale, 7 lot, 8 total -/
def ir1 : List Sm := [.asg (.nm 1) (.lst []),
  .for_ (.nm 2) .rng1 [(.call 0 [(.v 0), (.k (.int 5))])] [.par [5, 6] [(.blt .min2 [(.bin .add (.k (.int 1)) (.call 0 [(.v 0), (.k (.int 8))])), (.bin .sub (.k (.int 8)) (.blt .len [(.v 1)]))]), (.sub (.lst [(.k (.int 2)), (.k (.int 9)), (.k (.int 1428)), (.k (.int 10000))]) (.call 0 [(.v 0), (.k (.int 4))]))], .par [7, 8] [(.lst []), (.k (.int 0))], .for_ (.nm 3) .rng1 [(.bin .sub (.v 5) (.k (.int 1)))] [.asg (.nm 4) (.bin .sub (.call 0 [(.v 0), (.bin .add (.bin .mul (.k (.int 2)) (.v 6)) (.k (.int 1)))]) (.v 6)), .asg (.nm 4) (.blt .max2 [(.bin .sub (.neg (.k (.int 10000))) (.v 8)), (.blt .min2 [(.bin .sub (.k (.int 10000)) (.v 8)), (.v 4)])]), .asg (.nm 8) (.bin .add (.v 8) (.v 4)), .ex (.mth .append 7 [(.v 4)])], .ife (.cmp .gt (.v 5) (.k (.int 0))) [.ex (.mth .append 7 [(.bin .sub (.k (.int 0)) (.v 8))])] [], .for_ (.nm 4) .seq [(.v 7)] [.ex (.mth .insert 1 [(.call 0 [(.v 0), (.bin .add (.blt .len [(.v 1)]) (.k (.int 1)))]), (.v 4)])]],
  .ret (.v 1)]
def N1 : List PySem.Str := ["purse", "found", "turn", "rank", "cents", "size", "scale", "lot", "total"]
def A1 : List Nat := [1, 2, 5, 6, 7, 8, 3, 4]
theorem sc1 : scB N1 ["purse"] (defScope (st 12)) = true := by decide +kernel
theorem ck1 : chkSs ⟨N1, fis.take 1, A1⟩ ⟨defScope (st 12), fun _ => true⟩ ir1 (defBody (st 12)) = true := by decide +kernel
/-- 2: _law_most_lots(debts); slots 0 debts, 1 cents, 2 choice, 3 sums, 4 best, 5 most, 6 lot, 7 some -/
def ir2 : List Sm := [.par [3, 4] [(.lst [(.k (.int 0))]), (.lst [(.k (.int 0))])],
  .for_ (.nm 1) .seq [(.v 0)] [.ife (.cmp .ne (.v 1) (.k (.int 0))) [.asg (.nm 3) (.bin .add (.v 3) (.lc [7] (.nm 7) .seq [(.v 3)] [] (.bin .add (.v 7) (.v 1))))] []],
  .for_ (.nm 2) .rng2 [(.k (.int 1)), (.blt .len [(.v 3)])] [.par [5, 6] [(.neg (.k (.int 1))), (.v 2)], .whl (.cmp .gt (.bin .mul (.k (.int 2)) (.v 6)) (.v 2)) [.ife (.band [(.cmp .eq (.sub (.v 3) (.v 6)) (.k (.int 0))), (.cmp .ge (.sub (.v 4) (.bin .sub (.v 2) (.v 6))) (.blt .max2 [(.k (.int 0)), (.v 5)]))]) [.asg (.nm 5) (.bin .add (.sub (.v 4) (.bin .sub (.v 2) (.v 6))) (.k (.int 1)))] [], .asg (.nm 6) (.bin .band (.bin .sub (.v 6) (.k (.int 1))) (.v 2))], .ex (.mth .append 4 [(.v 5)])],
  .ret (.sub (.v 4) (.neg (.k (.int 1))))]
def N2 : List PySem.Str := ["debts", "cents", "choice", "sums", "best", "most", "lot", "some"]
def A2 : List Nat := [3, 4, 1, 2, 5, 6]
theorem sc2 : scB N2 ["debts"] (defScope (st 13)) = true := by decide +kernel
theorem ck2 : chkSs ⟨N2, fis.take 2, A2⟩ ⟨defScope (st 13), fun _ => true⟩ ir2 (defBody (st 13)) = true := by decide +kernel
/-- 3: _law_fewest_owed(debts); slots 0 debts, 1 cents -/
def ir3 : List Sm := [.ret (.bin .sub (.blt .len [(.lc [1] (.nm 1) .seq [(.v 0)] [(.cmp .ne (.v 1) (.k (.int 0)))] (.v 1))]) (.call 2 [(.v 0)]))]
def N3 : List PySem.Str := ["debts", "cents"]
def A3 : List Nat := []
theorem sc3 : scB N3 ["debts"] (defScope (st 14)) = true := by decide +kernel
theorem ck3 : chkSs ⟨N3, fis.take 3, A3⟩ ⟨defScope (st 14), fun _ => true⟩ ir3 (defBody (st 14)) = true := by decide +kernel
/-- 4: check_even(balances); slots 0 balances -/
def ir4 : List Sm := [.ife (.cmp .ne (.blt .sum [(.v 0)]) (.k (.int 0))) [.nev] []]
def N4 : List PySem.Str := ["balances"]
def A4 : List Nat := []
theorem sc4 : scB N4 ["balances"] (defScope (st 4)) = true := by decide +kernel
theorem ck4 : chkSs ⟨N4, fis.take 4, A4⟩ ⟨defScope (st 4), fun _ => true⟩ ir4 (defBody (st 4)) = true := by decide +kernel
/-- 5: sums_of(amounts); slots 0 amounts, 1 sums, 2 amount, 3 before -/
def ir5 : List Sm := [.asg (.nm 1) (.lst [(.k (.int 0))]),
  .for_ (.nm 2) .seq [(.v 0)] [.asg (.nm 1) (.bin .add (.v 1) (.lc [3] (.nm 3) .seq [(.v 1)] [] (.bin .add (.v 3) (.v 2))))],
  .ret (.v 1)]
def N5 : List PySem.Str := ["amounts", "sums", "amount", "before"]
def A5 : List Nat := [1, 2]
theorem sc5 : scB N5 ["amounts"] (defScope (st 5)) = true := by decide +kernel
theorem ck5 : chkSs ⟨N5, fis.take 5, A5⟩ ⟨defScope (st 5), fun _ => true⟩ ir5 (defBody (st 5)) = true := by decide +kernel
/-- 6: last_ones(amounts); slots 0 amounts, 1 sums, 2 best, 3 choice, 4 rank, 5 most, 6 last -/
def ir6 : List Sm := [.asg (.nm 1) (.call 5 [(.v 0)]),
  .asg (.nm 2) (.lst [(.tup [(.k (.int 0)), (.k (.int 0))])]),
  .for_ (.nm 3) .rng2 [(.k (.int 1)), (.blt .len [(.v 1)])] [.par [5, 6] [(.neg (.k (.int 1))), (.k (.int 0))], .for_ (.nm 4) .rng1 [(.blt .len [(.v 0)])] [.ife (.band [(.cmp .eq (.bin .band (.bin .shr (.v 3) (.v 4)) (.k (.int 1))) (.k (.int 1))), (.cmp .gt (.sub (.sub (.v 2) (.bin .sub (.v 3) (.bin .shl (.k (.int 1)) (.v 4)))) (.k (.int 0))) (.v 5))]) [.par [5, 6] [(.sub (.sub (.v 2) (.bin .sub (.v 3) (.bin .shl (.k (.int 1)) (.v 4)))) (.k (.int 0))), (.v 4)]] []], .ex (.mth .append 2 [(.tup [(.bin .add (.v 5) (.blt .int1 [(.cmp .eq (.sub (.v 1) (.v 3)) (.k (.int 0)))])), (.v 6)])])],
  .ret (.v 2)]
def N6 : List PySem.Str := ["amounts", "sums", "best", "choice", "rank", "most", "last"]
def A6 : List Nat := [1, 2, 3, 5, 6, 4]
theorem sc6 : scB N6 ["amounts"] (defScope (st 6)) = true := by decide +kernel
theorem ck6 : chkSs ⟨N6, fis.take 6, A6⟩ ⟨defScope (st 6), fun _ => true⟩ ir6 (defBody (st 6)) = true := by decide +kernel
/-- 7: groups(balances); slots 0 balances, 1 owing, 2 best, 3 choice, 4 found, 5 left, 6 some, 7 rank, 8 index -/
def ir7 : List Sm := [.ex (.call 4 [(.v 0)]),
  .asg (.nm 1) (.lc [8] (.nm 8) .rng1 [(.blt .len [(.v 0)])] [(.cmp .ne (.sub (.v 0) (.v 8)) (.k (.int 0)))] (.v 8)),
  .asg (.nm 2) (.call 6 [(.lc [8] (.nm 8) .seq [(.v 1)] [] (.sub (.v 0) (.v 8)))]),
  .asg (.nm 3) (.bin .sub (.blt .len [(.v 2)]) (.k (.int 1))),
  .asg (.nm 4) (.lst []),
  .asg (.nm 5) (.k (.int 0)),
  .whl (.cmp .ne (.v 3) (.k (.int 0))) [.ife (.cmp .eq (.v 5) (.k (.int 0))) [.napp 4 (.lst [])] [], .asg (.nm 7) (.sub (.sub (.v 2) (.v 3)) (.k (.int 1))), .nap 4 1 7, .aug 5 .add (.sub (.v 0) (.sub (.v 1) (.v 7))), .aug 3 .sub (.bin .shl (.k (.int 1)) (.v 7))],
  .nrev 4 6,
  .ret (.v 4)]
def N7 : List PySem.Str := ["balances", "owing", "best", "choice", "found", "left", "some", "rank", "index"]
def A7 : List Nat := [1, 2, 3, 4, 5, 7, 6]
theorem sc7 : scB N7 ["balances"] (defScope (st 7)) = true := by decide +kernel
theorem ck7 : chkSs ⟨N7, fis.take 7, A7⟩ ⟨defScope (st 7), fun _ => true⟩ ir7 (defBody (st 7)) = true := by decide +kernel
/-- 8: fewest(balances); slots 0 balances, 1 found, 2 some -/
def ir8 : List Sm := [.asg (.nm 1) (.call 7 [(.v 0)]),
  .ret (.bin .sub (.blt .sum [(.lc [2] (.nm 2) .seq [(.v 1)] [] (.blt .len [(.v 2)]))]) (.blt .len [(.v 1)]))]
def N8 : List PySem.Str := ["balances", "found", "some"]
def A8 : List Nat := [1]
theorem sc8 : scB N8 ["balances"] (defScope (st 8)) = true := by decide +kernel
theorem ck8 : chkSs ⟨N8, fis.take 8, A8⟩ ⟨defScope (st 8), fun _ => true⟩ ir8 (defBody (st 8)) = true := by decide +kernel
/-- 9: _law_right(purse); slots 0 purse, 1 debts, 2 found, 3 due, 4 handed, 5 cents -/
def ir9 : List Sm := [.asg (.nm 1) (.call 1 [(.v 0)]),
  .par [3, 4] [(.call 3 [(.v 1)]), (.blt .list1 [(.v 1)])],
  .asg (.nm 2) (.lst [(.call 8 [(.v 4)]), (.callk 8 [(.v 4)]), (.call 8 [(.rev (.v 1))]), (.call 8 [(.lc [5] (.nm 5) .seq [(.v 1)] [] (.bin .sub (.k (.int 0)) (.v 5)))])]),
  .ife (.cmp .ne (.v 4) (.v 1)) [.ret (.k (.bl false))] [],
  .ife (.cmp .lt (.blt .len [(.v 4)]) (.k (.int 8))) [.ex (.mth .insert 4 [(.call 0 [(.v 0), (.bin .add (.blt .len [(.v 4)]) (.k (.int 1)))]), (.k (.int 0))])] [],
  .ex (.mth .append 2 [(.call 8 [(.v 4)])]),
  .ret (.cmp .eq (.blt .repr1 [(.v 2)]) (.blt .repr1 [(.bin .mul (.lst [(.v 3)]) (.k (.int 5)))]))]
def N9 : List PySem.Str := ["purse", "debts", "found", "due", "handed", "cents"]
def A9 : List Nat := [1, 3, 4, 2]
theorem sc9 : scB N9 ["purse"] (defScope (st 15)) = true := by decide +kernel
theorem ck9 : chkSs ⟨N9, fis.take 9, A9⟩ ⟨defScope (st 15), fun _ => true⟩ ir9 (defBody (st 15)) = true := by decide +kernel
/-- 10: _law_purse(script, place); slots 0 script, 1 place, 2 cell -/
def ir10 : List Sm := [.asg (.nm 2) (.ite (.cmp .lt (.v 1) (.blt .len [(.v 0)])) (.sub (.v 0) (.v 1)) (.k (.int 0))),
  .ret (.lst [(.blt .max2 [(.k (.int 0)), (.bin .sub (.blt .abs [(.v 2)]) (.bin .pow (.k (.int 10)) (.k (.int 18))))]), (.bin .mod (.blt .int1 [(.bin .add (.bin .add (.bin .mul (.v 2) (.k (.int 30011))) (.bin .mul (.v 1) (.k (.int 7368787)))) (.k (.int 104729)))]) (.bin .add (.bin .pow (.k (.int 10)) (.k (.int 24))) (.k (.int 7)))), (.k (.int 0))])]
def N10 : List PySem.Str := ["script", "place", "cell"]
def A10 : List Nat := [2]
theorem sc10 : scB N10 ["script", "place"] (defScope (st 10)) = true := by decide +kernel
theorem ck10 : chkSs ⟨N10, fis.take 10, A10⟩ ⟨defScope (st 10), fun _ => true⟩ ir10 (defBody (st 10)) = true := by decide +kernel
/-- 11: law(script); slots 0 script, 1 place -/
def ir11 : List Sm := [.for_ (.nm 1) .rng1 [(.blt .max2 [(.k (.int 1)), (.blt .min2 [(.k (.int 24)), (.blt .len [(.v 0)])])])] [.ife (.bnot (.call 9 [(.call 10 [(.v 0), (.v 1)])])) [.ret (.k (.bl false))] []],
  .ret (.k (.bl true))]
def N11 : List PySem.Str := ["script", "place"]
def A11 : List Nat := [1]
theorem sc11 : scB N11 ["script"] (defScope (st 16)) = true := by decide +kernel
theorem ck11 : chkSs ⟨N11, fis.take 11, A11⟩ ⟨defScope (st 16), fun _ => true⟩ ir11 (defBody (st 16)) = true := by decide +kernel
end Z26

namespace Z26
open PySem L2 Z Z.V
def Prs (N : Int) (t : T) : Prop := ∃ a b c : Int, t = .l [.int a, .int b, .int c] ∧ 0 ≤ a ∧ (0 ≤ b ∧ b < 10 ^ 25) ∧ 0 ≤ c ∧ c ≤ N
def LotsOf (A : List Int) (m : Nat) : Prop := ∃ L : List (List Int), L.length = m ∧ (∀ l ∈ L, l ≠ [] ∧ l.sum = 0) ∧ A.Perm L.flatten
def Most (A : List Int) (m : Nat) : Prop := LotsOf A m ∧ ∀ j, LotsOf A j → j ≤ m
def nz (ds : List Int) : List Int := ds.filter fun d => !decide (d = 0)
def sumsF (A : List Int) : List Int := A.foldl (fun s a => s ++ s.map (· + a)) [0]
def sp0 : SpC := fun ts k _ => ∃ t m N, ts = [t, .d (.int m)] ∧ Prs N t ∧ N < 1000000 ∧ 0 < m ∧ m < 1000000 ∧ ∀ r t', 0 ≤ r → r < m → Prs (N + 1) t' → k (.d (.int r)) [some t', some (.d (.int m))]
def sp1 : SpC := fun ts k _ => ∃ t N, ts = [t] ∧ Prs N t ∧ N < 1000 ∧ ∀ ds t', ds.length ≤ 8 → ds.sum = 0 → Prs (N + 100) t' → k (.l (zs ds)) [some t']
def sp2 : SpC := fun ts k _ => ∃ t ds, ts = [t] ∧ lstT t = some (zs ds) ∧ ds.length ≤ 8 ∧ ds.sum = 0 ∧ ∀ m : Nat, Most (nz ds) m → k (.d (.int m)) [some (.d (.lst (zs ds)))]
def sp3 : SpC := fun ts k _ => ∃ t ds, ts = [t] ∧ lstT t = some (zs ds) ∧ ds.length ≤ 8 ∧ ds.sum = 0 ∧ ∀ m : Nat, Most (nz ds) m → k (.d (.int ((nz ds).length - m))) [some (.d (.lst (zs ds)))]
def sp4 : SpC := fun ts k _ => ∃ t ds, ts = [t] ∧ lstT t = some (zs ds) ∧ ds.sum = 0 ∧ k (.d .non) [some t]
def sp5 : SpC := fun ts k _ => ∃ t A, ts = [t] ∧ lstT t = some (zs A) ∧ A.length ≤ 8 ∧ k (.l (zs (sumsF A))) [some (.d (.lst (zs A)))]
/-- the table of last_ones -/
def Best (A : List Int) (B : List (Nat × Nat)) : Prop := B.length = 2 ^ A.length ∧ B[0]? = some (0, 0) ∧ ∀ c, 0 < c → c < 2 ^ A.length → ∃ m r x y, B[c]? = some (m, r) ∧ r < A.length ∧ c.testBit r = true ∧ B[c - 2 ^ r]? = some (x, y) ∧
  m = x + (if (sumsF A)[c]? = some 0 then 1 else 0) ∧ ∀ r', r' < A.length → c.testBit r' = true → ∀ x' y', B[c - 2 ^ r']? = some (x', y') → x' ≤ x
def pairD (p : Nat × Nat) : D := .tup [.int p.1, .int p.2]
def sp6 : SpC := fun ts k _ => ∃ t A, ts = [t] ∧ lstT t = some (zs A) ∧ A.length ≤ 8 ∧ ∀ B, Best A B → k (.l (B.map pairD)) [some (.d (.lst (zs A)))]
def sp7 : SpC := fun ts k _ => ∃ t ds, ts = [t] ∧ lstT t = some (zs ds) ∧ ds.length ≤ 9 ∧ (nz ds).length ≤ 8 ∧ ds.sum = 0 ∧ ∀ L : List (List Int), L.flatten.length = (nz ds).length → Most (nz ds) L.length → k (.n (L.map fun g => .l (zs g))) [some t]
def sp8 : SpC := fun ts k _ => ∃ t ds, ts = [t] ∧ lstT t = some (zs ds) ∧ ds.length ≤ 9 ∧ (nz ds).length ≤ 8 ∧ ds.sum = 0 ∧ ∀ m : Nat, Most (nz ds) m → k (.d (.int ((nz ds).length - m))) [some t]
def sp9 : SpC := fun ts k _ => ∃ t, ts = [t] ∧ Prs 0 t ∧ ∀ o, k (.d (.bl true)) [o]
def sp10 : SpC := fun ts k _ => ∃ ns p, ts = [.d (.scr ns), .d (.int p)] ∧ 0 ≤ p ∧ p < 1000 ∧ ∀ t, Prs 0 t → k t [some (.d (.scr ns)), some (.d (.int p))]
def sp11 : SpC := fun ts k _ => ∃ ns, ts = [.d (.scr ns)] ∧ ns.length ≤ 63 ∧ k (.d (.bl true)) [some (.d (.scr ns))]
def S : Nat → SpC
  | 0 => sp0 | 1 => sp1 | 2 => sp2 | 3 => sp3 | 4 => sp4 | 5 => sp5 | 6 => sp6 | 7 => sp7 | 8 => sp8 | 9 => sp9 | 10 => sp10 | 11 => sp11
  | _ => fun _ _ _ => False
theorem mo0 : Mono (S 0) := fun ts k k' e e' hk _ ⟨t, m, N, h1, h2, h3, h4, h5, h⟩ => ⟨t, m, N, h1, h2, h3, h4, h5, fun r t' a b c => hk _ _ (h r t' a b c)⟩
theorem mo1 : Mono (S 1) := fun ts k k' e e' hk _ ⟨t, N, h1, h2, h3, h⟩ => ⟨t, N, h1, h2, h3, fun ds t' a b c => hk _ _ (h ds t' a b c)⟩
theorem mo2 : Mono (S 2) := fun ts k k' e e' hk _ ⟨t, ds, h1, h2, h3, h4, h⟩ => ⟨t, ds, h1, h2, h3, h4, fun m hm => hk _ _ (h m hm)⟩
theorem mo3 : Mono (S 3) := fun ts k k' e e' hk _ ⟨t, ds, h1, h2, h3, h4, h⟩ => ⟨t, ds, h1, h2, h3, h4, fun m hm => hk _ _ (h m hm)⟩
theorem mo4 : Mono (S 4) := fun ts k k' e e' hk _ ⟨t, ds, h1, h2, h3, h⟩ => ⟨t, ds, h1, h2, h3, hk _ _ h⟩
theorem mo5 : Mono (S 5) := fun ts k k' e e' hk _ ⟨t, ds, h1, h2, h3, h⟩ => ⟨t, ds, h1, h2, h3, hk _ _ h⟩
theorem mo6 : Mono (S 6) := fun ts k k' e e' hk _ ⟨t, ds, h1, h2, h3, h⟩ => ⟨t, ds, h1, h2, h3, fun m hm => hk _ _ (h m hm)⟩
theorem mo7 : Mono (S 7) := fun ts k k' e e' hk _ ⟨t, ds, h1, h2, h3, h4, h5, h⟩ => ⟨t, ds, h1, h2, h3, h4, h5, fun L a b => hk _ _ (h L a b)⟩
theorem mo8 : Mono (S 8) := fun ts k k' e e' hk _ ⟨t, ds, h1, h2, h3, h4, h5, h⟩ => ⟨t, ds, h1, h2, h3, h4, h5, fun m hm => hk _ _ (h m hm)⟩
theorem mo9 : Mono (S 9) := fun ts k k' e e' hk _ ⟨t, h1, h2, h⟩ => ⟨t, h1, h2, fun o => hk _ _ (h o)⟩
theorem mo10 : Mono (S 10) := fun ts k k' e e' hk _ ⟨ns, p, h1, h2, h3, h⟩ => ⟨ns, p, h1, h2, h3, fun t ht => hk _ _ (h t ht)⟩
theorem mo11 : Mono (S 11) := fun ts k k' e e' hk _ ⟨ns, h1, h2, h⟩ => ⟨ns, h1, h2, hk _ _ h⟩
theorem ln0 : ∀ ts k e, S 0 ts k e → ts.length = 2 := fun ts k e ⟨_, _, _, h, _⟩ => by rw [h]; rfl
theorem ln1 : ∀ ts k e, S 1 ts k e → ts.length = 1 := fun ts k e ⟨_, _, h, _⟩ => by rw [h]; rfl
theorem ln2 : ∀ ts k e, S 2 ts k e → ts.length = 1 := fun ts k e ⟨_, _, h, _⟩ => by rw [h]; rfl
theorem ln3 : ∀ ts k e, S 3 ts k e → ts.length = 1 := fun ts k e ⟨_, _, h, _⟩ => by rw [h]; rfl
theorem ln4 : ∀ ts k e, S 4 ts k e → ts.length = 1 := fun ts k e ⟨_, _, h, _⟩ => by rw [h]; rfl
theorem ln5 : ∀ ts k e, S 5 ts k e → ts.length = 1 := fun ts k e ⟨_, _, h, _⟩ => by rw [h]; rfl
theorem ln6 : ∀ ts k e, S 6 ts k e → ts.length = 1 := fun ts k e ⟨_, _, h, _⟩ => by rw [h]; rfl
theorem ln7 : ∀ ts k e, S 7 ts k e → ts.length = 1 := fun ts k e ⟨_, _, h, _⟩ => by rw [h]; rfl
theorem ln8 : ∀ ts k e, S 8 ts k e → ts.length = 1 := fun ts k e ⟨_, _, h, _⟩ => by rw [h]; rfl
theorem ln9 : ∀ ts k e, S 9 ts k e → ts.length = 1 := fun ts k e ⟨_, h, _⟩ => by rw [h]; rfl
theorem ln10 : ∀ ts k e, S 10 ts k e → ts.length = 2 := fun ts k e ⟨_, _, h, _⟩ => by rw [h]; rfl
theorem ln11 : ∀ ts k e, S 11 ts k e → ts.length = 1 := fun ts k e ⟨_, h, _⟩ => by rw [h]; rfl
theorem law_ok : ∀ ns : List Int, ns.length ≤ 63 → S 11 [.d (.scr ns)] (fun t _ => t = .d (.bl true)) fun _ _ _ => False := fun ns h => ⟨ns, rfl, h, rfl⟩
theorem pow_lt {b c : Int} (h0 : 0 ≤ b) (h1 : b < 10 ^ 25) (h2 : 0 ≤ c) (h3 : c < 10 ^ 25) : (b + c).natAbs < 2 ^ 200 := by omega
theorem ok0 : ∀ ts k e, S 0 ts k e → rdSs S nox ir0 (endsOf 2 A0 k) (env0 N0 ts) := by
  rintro ts k e ⟨t, m, N, rfl, ⟨a, b, c, rfl, ha, hb, hc⟩, hN, hm, hm2, h⟩
  unfold ir0
  show rdSs _ _ _ _ [some (.l [.int a, .int b, .int c]), some (.d (.int m)), none, none]
  walk_at "ev"
  refine if_d (fun hp => ?_) (fun hp => ?_)
  · walk_at "ev"
    refine i_mod hm ?_
    walk_at "ev"
    refine i_fdiv ⟨hm, .inl (by omega)⟩ ?_
    walk_at "ev"
    exact h _ _ (Int.emod_nonneg _ (by omega)) (Int.emod_lt_of_pos _ hm) ⟨a / m, b, c, rfl, Int.ediv_nonneg ha (by omega), hb, hc.1, by omega⟩
  · walk_at "ev"
    refine i_mul (.inl (by decide)) ?_
    walk_at "ev"
    refine i_pow ⟨by decide, by decide, by omega⟩ ?_
    walk_at "ev"
    refine i_pow ⟨by decide, by decide, by decide⟩ ?_
    walk_at "ev"
    refine i_mod (by decide) ?_
    walk_at "ev"
    refine i_mul (.inl (by decide)) ?_
    walk_at "ev"
    refine i_pow ⟨by decide, by decide, ?_⟩ ?_
    · have h1 := Int.emod_nonneg ((b + 2038074743 * (c + 1)) ^ (Int.toNat 3)) (show (10 ^ (Int.toNat 25) + 13 : Int) ≠ 0 by decide)
      have h2 := Int.emod_lt_of_pos ((b + 2038074743 * (c + 1)) ^ (Int.toNat 3)) (show (0 : Int) < 10 ^ (Int.toNat 25) + 13 by decide)
      generalize (b + 2038074743 * (c + 1)) ^ (Int.toNat 3) % (10 ^ (Int.toNat 25) + 13) = z at h1 h2 ⊢
      have h2 : z < 10 ^ 25 + 13 := h2
      show (z + 982451653 * (c + 1)).natAbs < 2 ^ 200
      omega
    walk_at "ev"
    refine i_pow ⟨by decide, by decide, by decide⟩ ?_
    walk_at "ev"
    refine i_mod (by decide) ?_
    walk_at "ev"
    refine i_fdiv ⟨by decide, .inl (by decide)⟩ ?_
    walk_at "ev"
    refine i_mod hm ?_
    walk_at "ev"
    exact h _ _ (Int.emod_nonneg _ (by omega)) (Int.emod_lt_of_pos _ hm) ⟨a, b, c + 1, rfl, ha, hb, by omega, by omega⟩
theorem ok10 : ∀ ts k e, S 10 ts k e → rdSs S nox ir10 (endsOf 2 A10 k) (env0 N10 ts) := by
  rintro ts k e ⟨ns, p, rfl, hp, hp2, h⟩
  unfold ir10
  show rdSs _ _ _ _ [some (.d (.scr ns)), some (.d (.int p)), none]
  have fin : ∀ cell : Int, rdSs S nox [Sm.ret (.lst [(.blt .max2 [(.k (.int 0)), (.bin .sub (.blt .abs [(.v 2)]) (.bin .pow (.k (.int 10)) (.k (.int 18))))]), (.bin .mod (.blt .int1 [(.bin .add (.bin .add (.bin .mul (.v 2) (.k (.int 30011))) (.bin .mul (.v 1) (.k (.int 7368787)))) (.k (.int 104729)))]) (.bin .add (.bin .pow (.k (.int 10)) (.k (.int 24))) (.k (.int 7)))), (.k (.int 0))])] (endsOf 2 A10 k) [some (.d (.scr ns)), some (.d (.int p)), some (.d (.int cell))] := by
    intro cell
    walk_at "ev"
    refine i_pow ⟨by decide, by decide, by decide⟩ ?_
    walk_at "ev"
    refine i_mul (.inr (.inl (by decide))) ?_
    walk_at "ev"
    refine i_mul (.inr (.inl (by decide))) ?_
    walk_at "ev"
    refine i_pow ⟨by decide, by decide, by decide⟩ ?_
    walk_at "ev"
    refine i_mod (by decide) ?_
    walk_at "ev"
    refine ⟨by rw [sizeLine_eq]; simp only [List.length_cons, List.length_nil]; decide, ?_⟩
    refine h _ ⟨_, _, _, rfl, ?_, ⟨Int.emod_nonneg _ (by decide), ?_⟩, by decide, by decide⟩
    · split <;> omega
    · refine Int.lt_trans (Int.emod_lt_of_pos _ (by decide)) (by decide)
  walk_at "ev"
  refine j_lenS ?_
  walk_at "ev"
  refine if_d (fun hq => ?_) (fun hq => ?_)
  · walk_at "ev"
    have hl : p.toNat < ns.length := by omega
    refine g_scr (at_int hp (List.getElem?_eq_getElem hl)) ?_
    walk_at "ev"
    exact fin _
  · walk_at "ev"
    exact fin _
theorem ok11 : ∀ ts k e, S 11 ts k e → rdSs S nox ir11 (endsOf 1 A11 k) (env0 N11 ts) := by
  rintro ts k e ⟨ns, rfl, hn, h⟩
  unfold ir11
  show rdSs _ _ _ _ [some (.d (.scr ns)), none]
  walk_at "ev"
  refine j_lenS ?_
  walk_at "ev"
  refine ⟨by split <;> split <;> omega, by split <;> split <;> omega, ?_⟩
  refine forL_by (fun ds env => (∀ d ∈ ds, ∃ p : Int, d = .int p ∧ 0 ≤ p ∧ p < 1000) ∧ ∃ o, env = [some (.d (.scr ns)), o]) ?_ ?_ _ _ ⟨?_, none, rfl⟩
  · rintro env ⟨_, o, rfl⟩
    walk_at "ev"
    exact h
  · rintro d ds env N ⟨hd, o, rfl⟩ go
    obtain ⟨p, rfl, hp, hp2⟩ := hd d (by simp)
    show rdSs _ _ _ _ [some (.d (.scr ns)), some (.d (.int p))]
    walk_at "ev"
    refine call_go rfl (by walk_at "nd") ⟨ns, p, rfl, hp, hp2, fun t ht => ⟨rfl, ?_⟩⟩
    show seqW (rdL S nox []) [some (.d (.scr ns)), some (.d (.int p))] _
    walk_at "ev"
    refine call_go rfl (by walk_at "nd") ⟨t, rfl, ht, fun o => ⟨rfl, ?_⟩⟩
    walk_at "ev"
    exact go _ ⟨fun d hd' => hd d (by simp [hd']), _, rfl⟩
  · intro d hd
    simp only [List.mem_map, List.mem_range] at hd
    obtain ⟨i, hi, rfl⟩ := hd
    refine ⟨_, rfl, by omega, ?_⟩
    split at hi <;> split at hi <;> omega
/-! ### what is most -/
theorem LotsOf.perm {A B : List Int} {m : Nat} (p : A.Perm B) (h : LotsOf A m) : LotsOf B m := by
  obtain ⟨L, h1, h2, h3⟩ := h
  exact ⟨L, h1, h2, p.symm.trans h3⟩
theorem Most.perm {A B : List Int} {m : Nat} (p : A.Perm B) (h : Most A m) : Most B m := ⟨h.1.perm p, fun j hj => h.2 j (hj.perm p.symm)⟩
theorem Most.uniq {A : List Int} {m j : Nat} (h : Most A m) (h' : Most A j) : m = j := Nat.le_antisymm (h'.2 _ h.1) (h.2 _ h'.1)
theorem neg_sum : ∀ l : List Int, (l.map (0 - ·)).sum = - l.sum
  | [] => by simp
  | a :: l => by simp only [List.map_cons, List.sum_cons, neg_sum l]; omega
theorem LotsOf.neg {A : List Int} {m : Nat} (h : LotsOf A m) : LotsOf (A.map (0 - ·)) m := by
  obtain ⟨L, h1, h2, h3⟩ := h
  refine ⟨L.map fun l => l.map (0 - ·), by simp [h1], fun l hl => ?_, ?_⟩
  · obtain ⟨l', hl', rfl⟩ := List.mem_map.mp hl
    obtain ⟨a, b⟩ := h2 l' hl'
    refine ⟨by simpa using a, ?_⟩
    rw [neg_sum, b]; rfl
  · have := h3.map (0 - ·)
    rwa [List.map_flatten] at this
theorem neg_neg_map (A : List Int) : (A.map (0 - ·)).map (0 - ·) = A := by
  rw [List.map_map]
  have : ((fun x : Int => 0 - x) ∘ fun x => 0 - x) = id := by funext x; simp
  rw [this, List.map_id]
theorem Most.neg {A : List Int} {m : Nat} (h : Most A m) : Most (A.map (0 - ·)) m := ⟨h.1.neg, fun j hj => h.2 j (by have := hj.neg; rwa [neg_neg_map] at this)⟩
theorem lots_le {A : List Int} {m : Nat} (h : LotsOf A m) : m ≤ A.length := by
  obtain ⟨L, rfl, h2, h3⟩ := h
  rw [h3.length_eq]
  clear h3
  induction L with
  | nil => simp
  | cons l L ih =>
    have h1 := ih fun l hl => h2 l (by simp [hl])
    have h0 : l.length ≠ 0 := by simpa using (h2 l (by simp)).1
    simp only [List.length_cons, List.flatten_cons, List.length_append]
    omega
theorem nz_len (ds : List Int) : (nz ds).length ≤ ds.length := List.length_filter_le ..
theorem nz_neg (ds : List Int) : nz (ds.map (0 - ·)) = (nz ds).map (0 - ·) := by
  unfold nz
  rw [List.filter_map]
  congr 1
  refine List.filter_congr fun x _ => ?_
  simp only [Function.comp]
  by_cases h : x = 0
  · simp [h]
  · have : ¬ (0 - x = 0) := by omega
    simp [h, this]
theorem nz_rev (ds : List Int) : (nz ds.reverse).Perm (nz ds) := by
  unfold nz
  exact (List.reverse_perm ds).filter _
theorem nz_ins (a b : List Int) : nz (a ++ 0 :: b) = nz (a ++ b) := by simp [nz]
theorem sum_perm {a b : List Int} (p : a.Perm b) : a.sum = b.sum := by
  induction p with
  | nil => rfl
  | cons x _ ih => simp [ih]
  | swap x y l => simp; omega
  | trans _ _ ih1 ih2 => rw [ih1, ih2]
theorem repr5 : ∀ v : Nat, v ≤ 8 → (PyData.list [.int v, .int v, .int v, .int v, .int v]).showable = true ∧ (PyData.list [.int v, .int v, .int v, .int v, .int v]).depth < 50 ∧ (PyData.list [.int v, .int v, .int v, .int v, .int v]).shown.length ≤ 100 := by
  intro v hv
  have : v = 0 ∨ v = 1 ∨ v = 2 ∨ v = 3 ∨ v = 4 ∨ v = 5 ∨ v = 6 ∨ v = 7 ∨ v = 8 := by omega
  rcases this with rfl | rfl | rfl | rfl | rfl | rfl | rfl | rfl | rfl <;> decide +kernel
theorem ok4 : ∀ ts k e, S 4 ts k e → rdSs S nox ir4 (endsOf 1 A4 k) (env0 N4 ts) := by
  rintro ts k e ⟨t, ds, rfl, h1, h2, h⟩
  unfold ir4
  show rdSs _ _ _ _ [some t]
  walk_at "ev"
  refine i_sumL h1 ?_
  rw [h2]
  walk_at "ev"
  refine if_n (fun q => absurd rfl q) fun _ => ?_
  walk_at "ev"
  exact h
end Z26

namespace Z26
open PySem L2 Z Z.V
theorem lens_flat : ∀ L : List (List Int), (L.map fun g => (g.length : Int)).sum = (L.flatten.length : Int)
  | [] => by simp
  | g :: L => by simp only [List.map_cons, List.sum_cons, List.flatten_cons, List.length_append, lens_flat L]; omega
theorem ok8 : ∀ ts k e, S 8 ts k e → rdSs S nox ir8 (endsOf 1 A8 k) (env0 N8 ts) := by
  rintro ts k e ⟨t, ds, rfl, h1, h2, h3, h4, h⟩
  unfold ir8
  show rdSs _ _ _ _ [some t, none, none]
  walk_at "ev"
  refine call_go rfl (by walk_at "nd") ⟨t, ds, rfl, h1, h2, h3, h4, fun L hL hM => ⟨rfl, ?_⟩⟩
  rw [back1 rfl]
  walk_at "ev"
  refine x_n rfl ?_
  rw [erases_l]
  walk_at "ev"
  refine it_seq rfl ?_
  refine lcL_by (fun its env acc => ∃ L2 : List (List Int), its = L2.map (fun g => .lst (zs g)) ∧ L2.length + acc.length ≤ 100 ∧ env = [some t, some (.d (.lst (L.map fun g => .lst (zs g)))), none] ∧ ∃ ms : List Int, acc = zs ms ∧ ms.sum + (L2.flatten.length : Int) = (nz ds).length) ?_ ?_ _ _ _ ⟨L, rfl, ?_, rfl, [], rfl, by simp [hL]⟩
  · rintro env acc ⟨L2, e1, e2, rfl, ms, rfl, e4⟩
    obtain rfl : L2 = [] := by cases L2 <;> simp at e1 ⊢
    walk_at "ev"
    refine i_sumL rfl ?_
    walk_at "ev"
    show k _ [some t]
    have e5 : ms.sum = (nz ds).length := by simpa using e4
    rw [e5, List.length_map]
    exact h _ hM
  · rintro d its env acc N ⟨L2, e1, e2, rfl, ms, rfl, e4⟩ go
    match L2, e1 with
    | [], e1 => simp at e1
    | g :: L2, e1 =>
      simp only [List.map_cons, List.cons.injEq] at e1
      obtain ⟨rfl, rfl⟩ := e1
      walk_at "ev"
      refine ⟨by rw [sizeLine_eq]; simp at e2; omega, ?_⟩
      refine go _ _ ⟨L2, rfl, by simp at e2 ⊢; omega, rfl, ms ++ [(g.length : Int)], by rw [zs_app, zs_len]; rfl, ?_⟩
      simp only [List.sum_append, List.sum_cons, List.sum_nil, List.flatten_cons, List.length_append] at e4 ⊢
      omega
  · have := lots_le hM.1
    simp; omega
theorem nz_cons (d : Int) (ds : List Int) : nz (d :: ds) = if d = 0 then nz ds else d :: nz ds := by
  unfold nz
  rw [List.filter_cons]
  by_cases h : d = 0 <;> simp [h]
theorem zs_cons {d : D} {ds : List D} {xs : List Int} (h : d :: ds = zs xs) : ∃ x ys, xs = x :: ys ∧ d = .int x ∧ ds = zs ys := by
  cases xs with
  | nil => cases h
  | cons x ys => cases h; exact ⟨x, ys, rfl, rfl, rfl⟩
theorem zs_nil {xs : List Int} (h : [] = zs xs) : xs = [] := by
  cases xs with
  | nil => rfl
  | cons x ys => cases h
theorem ok3 : ∀ ts k e, S 3 ts k e → rdSs S nox ir3 (endsOf 1 A3 k) (env0 N3 ts) := by
  rintro ts k e ⟨t, ds, rfl, h1, h2, h3, h⟩
  unfold ir3
  show rdSs _ _ _ _ [some t, none]
  walk_at "ev"
  refine x_lst rfl h1 ?_
  walk_at "ev"
  refine it_seq rfl ?_
  refine lcL_by (fun its env acc => ∃ xs a, its = zs xs ∧ acc = zs a ∧ a ++ nz xs = nz ds ∧ a.length + xs.length ≤ 8 ∧ env = [some (.d (.lst (zs ds))), none]) ?_ ?_ _ _ _ ⟨ds, [], rfl, rfl, rfl, by simpa using h2, rfl⟩
  · rintro env acc ⟨xs, a, e1, rfl, e3, e4, rfl⟩
    obtain rfl := zs_nil e1
    walk_at "ev"
    rw [zs_len]
    refine call_go rfl (by walk_at "nd") ⟨_, ds, rfl, rfl, h2, h3, fun m hm => ⟨rfl, ?_⟩⟩
    rw [back1 rfl]
    walk_at "ev"
    show k (T.d (D.int (↑a.length - ↑m))) [some (.d (.lst (zs ds)))]
    have : a = nz ds := by simpa [nz] using e3
    rw [this]
    exact h m hm
  · rintro d its env acc N ⟨xs, a, e1, rfl, e3, e4, rfl⟩ go
    obtain ⟨x, ys, rfl, rfl, rfl⟩ := zs_cons e1
    walk_at "ev"
    refine if_n (fun q => ?_) (fun q => ?_)
    · walk_at "ev"
      refine ⟨by rw [sizeLine_eq, zs_len]; simp at e4; omega, ?_⟩
      refine go _ _ ⟨ys, a ++ [x], rfl, by rw [zs_app]; rfl, ?_, by simp at e4 ⊢; omega, rfl⟩
      rw [nz_cons, if_neg q] at e3
      rw [List.append_assoc]; exact e3
    · refine go _ _ ⟨ys, a, rfl, rfl, ?_, by simp at e4 ⊢; omega, rfl⟩
      rw [nz_cons, if_pos q] at e3
      exact e3
/-- what is left of an amount list -/
theorem nz_sum (ds : List Int) : (nz ds).sum = ds.sum := by
  induction ds with
  | nil => rfl
  | cons d ds ih =>
    rw [nz_cons]
    split
    · rename_i h; subst h; simp [ih]
    · simp [ih]
theorem ok9 : ∀ ts k e, S 9 ts k e → rdSs S nox ir9 (endsOf 1 A9 k) (env0 N9 ts) := by
  rintro ts k e ⟨t, rfl, ht, h⟩
  unfold ir9
  show rdSs _ _ _ _ [some t, none, none, none, none, none]
  walk_at "ev"
  have ho : t.isOwn = true := by obtain ⟨a, b, c, rfl, _⟩ := ht; rfl
  refine call_go rfl (by walk_at "nd") ⟨t, 0, rfl, ht, by decide, fun ds t1 hl hs ht1 => ⟨rfl, ?_⟩⟩
  have bk : ∀ {env : Z.Env} {t1 : T}, back env [R.pk 0] [t] [some t1] = env.set 0 (some t1) := fun {env t1} => by
    unfold back; rw [if_pos ho]; unfold back; rfl
  rw [bk]
  walk_at "ev"
  refine call_go rfl (by walk_at "nd") ⟨_, ds, rfl, rfl, hl, hs, fun m hm => ⟨rfl, ?_⟩⟩
  show seqW _ [some t1, some (.d (.lst (zs ds))), none, none, none, none] _
  walk_at "ev"
  refine ⟨rfl, ?_⟩
  walk_at "ev"
  have hn := nz_len ds
  have res : ∀ {m' : Nat}, Most (nz ds) m' → m' = m := fun h => h.uniq hm
  refine call_go rfl (by walk_at "nd") ⟨_, ds, rfl, rfl, by omega, by omega, hs, fun m1 hm1 => ⟨rfl, ?_⟩⟩
  rw [back1 rfl, res hm1]
  walk_at "ev"
  refine call_go rfl (by walk_at "nd") ⟨_, ds, rfl, rfl, by omega, by omega, hs, fun m2 hm2 => ⟨rfl, ?_⟩⟩
  rw [back1 rfl, res hm2]
  walk_at "ev"
  have er : (zs ds).reverse = zs ds.reverse := by unfold zs; rw [List.map_reverse]
  rw [er]
  refine call_go rfl (by walk_at "nd") ⟨_, ds.reverse, rfl, rfl, by simp; omega, by rw [(nz_rev ds).length_eq]; omega, by rw [sum_perm (List.reverse_perm ds)]; exact hs, fun m3 hm3 => ⟨rfl, ?_⟩⟩
  rw [back_t, (nz_rev ds).length_eq, res (hm3.perm (nz_rev ds))]
  walk_at "ev"
  refine it_seq rfl ?_
  refine lcL_by (fun its env acc => ∃ xs a, its = zs xs ∧ acc = zs a ∧ a ++ xs.map (0 - ·) = ds.map (0 - ·) ∧ a.length + xs.length ≤ 8 ∧ env = [some t1, some (.d (.lst (zs ds))), none, some (.d (.int ((nz ds).length - m))), some (.l (zs ds)), none]) ?_ ?_ _ _ _ ⟨ds, [], rfl, rfl, rfl, by simpa using hl, rfl⟩
  · rintro env acc ⟨xs, a, e1, rfl, e3, e4, rfl⟩
    obtain rfl := zs_nil e1
    have e3 : a = ds.map (0 - ·) := by simpa using e3
    subst e3
    walk_at "ev"
    refine call_go rfl (by walk_at "nd") ⟨_, ds.map (0 - ·), rfl, rfl, by simp; omega, by rw [nz_neg]; simp; omega, by rw [neg_sum, hs]; rfl, fun m4 hm4 => ⟨rfl, ?_⟩⟩
    have e5 : (nz (ds.map (0 - ·))).length = (nz ds).length := by rw [nz_neg, List.length_map]
    have e6 : m4 = m := by
      refine res ?_
      have := hm4.neg
      rw [nz_neg, neg_neg_map] at this
      exact this
    rw [back_t, e5, e6]
    walk_at "ev"
    refine ⟨by rw [sizeLine_eq]; simp only [List.length_cons, List.length_nil]; decide, ?_⟩
    show rdSs _ _ _ _ [some t1, some (.d (.lst (zs ds))), some (.l (zs [(nz ds).length - m, (nz ds).length - m, (nz ds).length - m, (nz ds).length - m])), some (.d (.int ((nz ds).length - m))), some (.l (zs ds)), none]
    walk_at "ev"
    refine q_neL er_l er_d ?_
    refine if_n (fun q => absurd rfl q) fun _ => ?_
    walk_at "ev"
    have mle := lots_le hm.1
    have rest : ∀ (t2 : T) (hs' : List Int), (hs' = ds ∨ ∃ a b, ds = a ++ b ∧ hs' = a ++ 0 :: b) → rdSs S nox [.ex (.mth .append 2 [(.call 8 [(.v 4)])]), .ret (.cmp .eq (.blt .repr1 [(.v 2)]) (.blt .repr1 [(.bin .mul (.lst [(.v 3)]) (.k (.int 5)))]))] (endsOf 1 A9 k) [some t2, some (.d (.lst (zs ds))), some (.l (zs [(nz ds).length - m, (nz ds).length - m, (nz ds).length - m, (nz ds).length - m])), some (.d (.int ((nz ds).length - m))), some (.l (zs hs')), none] := by
      intro t2 hs' hh
      have f1 : hs'.length ≤ 9 ∧ nz hs' = nz ds ∧ hs'.sum = 0 := by
        rcases hh with rfl | ⟨a, b, rfl, rfl⟩
        · exact ⟨by omega, rfl, hs⟩
        · refine ⟨?_, nz_ins a b, ?_⟩
          · simp only [List.length_append, List.length_cons] at hl ⊢; omega
          · simp only [List.sum_append, List.sum_cons] at hs ⊢; omega
      obtain ⟨v, hv⟩ : ∃ v : Nat, ((nz ds).length : Int) - m = (v : Int) := ⟨(nz ds).length - m, by omega⟩
      have hv8 : v ≤ 8 := by omega
      obtain ⟨w1, w2, w3⟩ := repr5 v hv8
      rw [hv]
      walk_at "ev"
      refine call_go rfl (by walk_at "nd") ⟨_, hs', rfl, rfl, f1.1, by rw [f1.2.1]; omega, f1.2.2, fun m5 hm5 => ⟨rfl, ?_⟩⟩
      rw [f1.2.1] at hm5 ⊢
      rw [back1 rfl, res hm5, hv]
      walk_at "ev"
      refine ⟨by rw [sizeLine_eq, zs_len]; simp only [List.length_cons, List.length_nil]; decide, ?_⟩
      show rdSs _ _ _ _ [some t2, some (.d (.lst (zs ds))), some (.l (zs [(v : Int), v, v, v, v])), some (.d (.int v)), some (.l (zs hs')), none]
      walk_at "ev"
      have tp : toPy (T.erase (.l (zs [(v : Int), v, v, v, v]))) = some (.list [.int v, .int v, .int v, .int v, .int v]) := by rw [er_l]; exact toPy_zs _
      refine ⟨rfl, _, tp, w1, w2, by rw [sizeLine_eq]; omega, ?_⟩
      walk_at "ev"
      refine ⟨by rw [sizeLine_eq]; simp only [List.length_cons, List.length_nil]; decide, ?_⟩
      walk_at "ev"
      refine l_mul rfl (by decide) (by decide) (by rw [sizeLine_eq]; show 1 * 5 ≤ 16777216; decide) ?_
      walk_at "ev"
      have tp2 : toPy (T.erase (.l (List.replicate (Int.toNat 5) [D.int v]).flatten)) = some (.list [.int v, .int v, .int v, .int v, .int v]) := tp
      refine ⟨rfl, _, tp2, w1, w2, by rw [sizeLine_eq]; omega, ?_⟩
      walk_at "ev"
      show (endsOf 1 A9 k).rt (.t (.d (.bl (decide (_ = _))))) _
      rw [decide_eq_true rfl]
      exact h _
    rw [zs_len]
    refine if_d (fun q => ?_) (fun q => ?_)
    · walk_at "ev"
      have ho1 : t1.isOwn = true := by obtain ⟨a, b, c, rfl, _⟩ := ht1; rfl
      refine call_go rfl (by walk_at "nd") ⟨t1, _, _, rfl, ht1, by decide, by rw [zs_len]; omega, by rw [zs_len]; omega, fun r t2 hr0 hr1 ht2 => ⟨rfl, ?_⟩⟩
      have bk2 : ∀ {env : Z.Env} {u u' : T} {o : Option T}, back env [R.pk 0, R.t u] [t1, u'] [some t2, o] = env.set 0 (some t2) := fun {env u u' o} => by
        unfold back; rw [if_pos ho1]; unfold back; unfold back; rfl
      rw [bk2]
      rw [zs_len] at hr1
      walk_at "ev"
      refine ⟨by rw [sizeLine_eq, zs_len]; omega, ⟨hr0, by rw [zs_len]; omega⟩, ?_⟩
      have ei : (zs ds).take r.toNat ++ D.int 0 :: (zs ds).drop r.toNat = zs (ds.take r.toNat ++ 0 :: ds.drop r.toNat) := by
        unfold zs; simp [List.map_take, List.map_drop]
      rw [ei]
      refine z_nl ?_
      exact rest t2 _ (.inr ⟨ds.take r.toNat, ds.drop r.toNat, (List.take_append_drop _ _).symm, rfl⟩)
    · refine z_nl ?_
      exact rest t1 ds (.inl rfl)
  · rintro d its env acc N ⟨xs, a, e1, rfl, e3, e4, rfl⟩ go
    obtain ⟨x, ys, rfl, rfl, rfl⟩ := zs_cons e1
    walk_at "ev"
    refine ⟨by rw [sizeLine_eq, zs_len]; simp at e4; omega, ?_⟩
    refine go _ _ ⟨ys, a ++ [0 - x], rfl, by rw [zs_app]; rfl, ?_, by simp at e4 ⊢; omega, rfl⟩
    rw [List.append_assoc]; exact e3
end Z26

namespace Z26
open PySem L2 Z Z.V
theorem Prs.own {N : Int} {t : T} (h : Prs N t) : t.isOwn = true := by obtain ⟨a, b, c, rfl, _⟩ := h; rfl
theorem Prs.up {N M : Int} {t : T} (h : Prs N t) (le : N ≤ M) : Prs M t := by
  obtain ⟨a, b, c, rfl, h1, h2, h3, h4⟩ := h
  exact ⟨a, b, c, rfl, h1, h2, h3, by omega⟩
theorem back2 {env : Z.Env} {t t2 u u' : T} {o : Option T} (h : t.isOwn = true) : back env [R.pk 0, R.t u] [t, u'] [some t2, o] = env.set 0 (some t2) := by
  unfold back; rw [if_pos h]; unfold back; unfold back; rfl
theorem ok1 : ∀ ts k e, S 1 ts k e → rdSs S nox ir1 (endsOf 1 A1 k) (env0 N1 ts) := by
  rintro ts k e ⟨t, N, rfl, ht, hN, h⟩
  unfold ir1
  show rdSs _ _ _ _ [some t, none, none, none, none, none, none, none, none]
  walk_at "ev"
  refine ⟨by rw [sizeLine_eq]; decide, ?_⟩
  walk_at "ev"
  refine call_go rfl (by walk_at "nd") ⟨t, _, _, rfl, ht, by omega, by decide, by decide, fun r t1 hr0 hr1 ht1 => ⟨rfl, ?_⟩⟩
  rw [back2 ht.own]
  walk_at "ev"
  refine ⟨by omega, by omega, ?_⟩
  refine forL_by (fun its env => ∃ t M ds o2 o3 o4 o5 o6 o7 o8, env = [some t, some (.l (zs ds)), o2, o3, o4, o5, o6, o7, o8] ∧ Prs M t ∧ M + 20 * its.length ≤ N + 90 ∧ ds.length ≤ 8 ∧ ds.sum = 0) ?_ ?_ _ _ ⟨t1, N + 1, [], none, none, none, none, none, none, none, rfl, ht1, by simp; omega, by simp, rfl⟩
  · rintro env ⟨t, M, ds, o2, o3, o4, o5, o6, o7, o8, rfl, hp, hM, hl, hs⟩
    walk_at "ev"
    exact h ds t hl hs (hp.up (by simp at hM; omega))
  · rintro d its env Nx ⟨t, M, ds, o2, o3, o4, o5, o6, o7, o8, rfl, hp, hM, hl, hs⟩ go
    simp only [List.length_cons] at hM
    walk_at "ev"
    refine call_go rfl (by walk_at "nd") ⟨t, _, M, rfl, hp, by omega, by decide, by decide, fun r1 t1 hr0 hr1 ht1 => ⟨rfl, ?_⟩⟩
    rw [back2 hp.own]
    walk_at "ev"
    rw [zs_len]
    generalize hz : (if 8 - (ds.length : Int) < 1 + r1 then 8 - (ds.length : Int) else 1 + r1) = size
    have hz1 : size ≤ 8 - ds.length ∧ 0 ≤ size := by rw [← hz]; split <;> omega
    walk_at "ev"
    refine ⟨by rw [sizeLine_eq]; decide, ?_⟩
    walk_at "ev"
    refine call_go rfl (by walk_at "nd") ⟨t1, _, _, rfl, ht1, by omega, by decide, by decide, fun r2 t2 hr20 hr21 ht2 => ⟨rfl, ?_⟩⟩
    rw [back2 ht1.own]
    walk_at "ev"
    obtain ⟨sc, hsc, hs1, hs2⟩ : ∃ sc : Int, L2.atI [D.int 2, D.int 9, D.int 1428, D.int 10000] r2 = some (.int sc) ∧ 2 ≤ sc ∧ sc ≤ 10000 := by
      have : r2 = 0 ∨ r2 = 1 ∨ r2 = 2 ∨ r2 = 3 := by omega
      rcases this with rfl | rfl | rfl | rfl
      · exact ⟨2, rfl, by decide, by decide⟩
      · exact ⟨9, rfl, by decide, by decide⟩
      · exact ⟨1428, rfl, by decide, by decide⟩
      · exact ⟨10000, rfl, by decide, by decide⟩
    refine g_go rfl hsc ?_
    walk_at "ev"
    refine ⟨rfl, ?_⟩
    walk_at "ev"
    refine ⟨by rw [sizeLine_eq]; decide, ?_⟩
    walk_at "ev"
    refine ⟨rfl, ?_⟩
    walk_at "ev"
    refine ⟨by omega, by omega, ?_⟩
    have last : ∀ (t : T) (M' : Int) (lot : List Int) (o3 o4 : Option T) (tt : Int), Prs M' t → M' ≤ M + 9 → ds.length + lot.length ≤ 8 → lot.sum = 0 →
        rdSs S nox [.for_ (.nm 4) .seq [(.v 7)] [.ex (.mth .insert 1 [(.call 0 [(.v 0), (.bin .add (.blt .len [(.v 1)]) (.k (.int 1)))]), (.v 4)])]] ⟨Nx, (endsOf 1 A1 k).rt, rdSs S nox [.ret (.v 1)] (endsOf 1 A1 k), Nx⟩ [some t, some (.l (zs ds)), some (.d d), o3, o4, some (.d (.int size)), some (.d (.int sc)), some (.l (zs lot)), some (.d (.int tt))] := by
      intro t M' lot o3 o4 tt hp' hM' hl' hs'
      walk_at "ev"
      refine it_seq rfl ?_
      refine forL_by (fun its env => ∃ t M2 xs ds2 o4, its = zs xs ∧ env = [some t, some (.l (zs ds2)), some (.d d), o3, o4, some (.d (.int size)), some (.d (.int sc)), some (.d (.lst (zs lot))), some (.d (.int tt))] ∧ Prs M2 t ∧ M2 + xs.length ≤ M + 17 ∧ ds2.length + xs.length ≤ 8 ∧ ds2.sum + xs.sum = 0) ?_ ?_ _ _ ⟨t, M', lot, ds, o4, rfl, rfl, hp', by omega, hl', by omega⟩
      · rintro env ⟨t, M2, xs, ds2, o4, e1, rfl, hp2, hM2, hl2, hs2⟩
        obtain rfl := zs_nil e1
        simp only [List.length_nil, List.sum_nil] at hM2 hl2 hs2
        exact go _ ⟨t, M2, ds2, _, _, _, _, _, _, _, rfl, hp2, by omega, by omega, by omega⟩
      · rintro d2 its2 env N2 ⟨t, M2, xs, ds2, o4, e1, rfl, hp2, hM2, hl2, hs2⟩ go2
        obtain ⟨x, ys, rfl, rfl, rfl⟩ := zs_cons e1
        simp only [List.length_cons, List.sum_cons] at hM2 hl2 hs2
        walk_at "ev"
        rw [zs_len]
        refine call_go rfl (by walk_at "nd") ⟨t, _, M2, rfl, hp2, by omega, by omega, by omega, fun r4 t4 hr40 hr41 ht4 => ⟨rfl, ?_⟩⟩
        rw [back2 hp2.own]
        walk_at "ev"
        refine ⟨by rw [sizeLine_eq, zs_len]; omega, ⟨hr40, by rw [zs_len]; omega⟩, ?_⟩
        have ei : (zs ds2).take r4.toNat ++ D.int x :: (zs ds2).drop r4.toNat = zs (ds2.take r4.toNat ++ x :: ds2.drop r4.toNat) := by
          unfold zs; simp [List.map_take, List.map_drop]
        rw [ei]
        refine z_nl ?_
        have h5 : (ds2.take r4.toNat ++ x :: ds2.drop r4.toNat).length = ds2.length + 1 := by simp; omega
        have h6 : (ds2.take r4.toNat ++ x :: ds2.drop r4.toNat).sum = ds2.sum + x := by
          rw [sum_perm (List.perm_middle), List.take_append_drop, List.sum_cons]; omega
        exact go2 _ ⟨t4, M2 + 1, ys, _, _, rfl, rfl, ht4, by omega, by omega, by omega⟩
    refine forL_by (fun its env => ∃ t M' lot o3 o4, env = [some t, some (.l (zs ds)), some (.d d), o3, o4, some (.d (.int size)), some (.d (.int sc)), some (.l (zs lot)), some (.d (.int lot.sum))] ∧ Prs M' t ∧ M' + its.length ≤ M + 9 ∧ lot.length + its.length = (size - 1).toNat) ?_ ?_ _ _ ?_
    · rintro env ⟨t, M', lot, o3, o4, rfl, hp', hM', hq⟩
      simp only [List.length_nil] at hM' hq
      walk_at "ev"
      refine if_d (fun hs0 => ?_) (fun hs0 => ?_)
      · walk_at "ev"
        refine ⟨by rw [sizeLine_eq, zs_len]; omega, ?_⟩
        have := last t M' (lot ++ [0 - lot.sum]) o3 o4 lot.sum hp' (by omega) (by simp; omega) (by simp; omega)
        rw [zs_app] at this
        refine z_nl ?_
        exact this
      · refine z_nl ?_
        have e0 : lot = [] := List.eq_nil_of_length_eq_zero (by omega)
        subst e0
        exact last t M' [] o3 o4 _ hp' (by omega) (by simpa using hl) rfl
    · rintro d2 its env N2 ⟨t, M', lot, o3, o4, rfl, hp', hM', hq⟩ go2
      simp only [List.length_cons] at hM' hq
      walk_at "ev"
      refine i_mul (.inl (by decide)) ?_
      walk_at "ev"
      refine call_go rfl (by walk_at "nd") ⟨t, _, M', rfl, hp', by omega, by omega, by omega, fun r3 t3 hr30 hr31 ht3 => ⟨rfl, ?_⟩⟩
      rw [back2 hp'.own]
      walk_at "ev"
      refine ⟨by rw [sizeLine_eq, zs_len]; omega, ?_⟩
      refine z_nl ?_
      generalize (if (if r3 - sc < 10000 - lot.sum then r3 - sc else 10000 - lot.sum) > -10000 - lot.sum then (if r3 - sc < 10000 - lot.sum then r3 - sc else 10000 - lot.sum) else -10000 - lot.sum) = cc
      refine go2 _ ⟨t3, M' + 1, lot ++ [cc], some (.d d2), some (.d (.int cc)), ?_, ht3, by omega, by simp only [List.length_append, List.length_singleton]; omega⟩
      rw [zs_app, List.sum_append, List.sum_singleton]
      rfl
    · exact ⟨t2, M + 1 + 1, [], _, _, rfl, ht2, by simp; omega, by simp⟩
end Z26

namespace Z26
open PySem L2 Z Z.V
abbrev stepS (s : List Int) (a : Int) : List Int := s ++ s.map (· + a)
theorem ok5 : ∀ ts k e, S 5 ts k e → rdSs S nox ir5 (endsOf 1 A5 k) (env0 N5 ts) := by
  rintro ts k e ⟨t, A, rfl, h1, hA, h⟩
  unfold ir5
  show rdSs _ _ _ _ [some t, none, none, none]
  walk_at "ev"
  refine ⟨by rw [sizeLine_eq]; decide, ?_⟩
  walk_at "ev"
  refine x_lst rfl h1 ?_
  walk_at "ev"
  refine it_seq rfl ?_
  refine forL_by (fun its env => ∃ xs s o2 o3, its = zs xs ∧ env = [some (.d (.lst (zs A))), some (.l (zs s)), o2, o3] ∧ xs.foldl stepS s = sumsF A ∧ s.length * 2 ^ xs.length = 2 ^ A.length) ?_ ?_ _ _ ⟨A, [0], none, none, rfl, rfl, rfl, by simp⟩
  · rintro env ⟨xs, s, o2, o3, e1, rfl, e2, e3⟩
    obtain rfl := zs_nil e1
    walk_at "ev"
    have e2 : s = sumsF A := e2
    show k (.l (zs s)) [some (.d (.lst (zs A)))]
    rw [e2]; exact h
  · rintro d its env N ⟨xs, s, o2, o3, e1, rfl, e2, e3⟩ go
    obtain ⟨x, ys, rfl, rfl, rfl⟩ := zs_cons e1
    have hs : s.length ≤ 256 := by
      have : 2 ^ A.length ≤ 2 ^ 8 := Nat.pow_le_pow_right (by decide) hA
      have h2 : 0 < 2 ^ (x :: ys).length := Nat.pow_pos (by decide)
      have := Nat.le_mul_of_pos_right s.length h2
      omega
    walk_at "ev"
    refine it_seq rfl ?_
    refine lcL_by (fun its env acc => ∃ zz a, its = zs zz ∧ acc = zs a ∧ a ++ zz.map (· + x) = s.map (· + x) ∧ env = [some (.d (.lst (zs A))), some (.d (.lst (zs s))), some (.d (.int x)), none]) ?_ ?_ _ _ _ ⟨s, [], rfl, rfl, rfl, rfl⟩
    · rintro env acc ⟨zz, a, e4, rfl, e5, rfl⟩
      obtain rfl := zs_nil e4
      have e5 : a = s.map (· + x) := by simpa using e5
      subst e5
      walk_at "ev"
      refine l_add rfl rfl ?_ ?_
      · rw [sizeLine_eq, zs_len, zs_len, List.length_map]; omega
      walk_at "ev"
      refine go _ ⟨ys, stepS s x, some (.d (.int x)), keptE [some (.d (.lst (zs A))), some (.d (.lst (zs s))), some (.d (.int x)), o3] 3, rfl, ?_, e2, ?_⟩
      · rw [← zs_app]; rfl
      · rw [List.length_cons, Nat.pow_succ] at e3
        simp only [stepS, List.length_append, List.length_map]
        rw [← e3, ← Nat.two_mul, Nat.mul_comm 2, Nat.mul_assoc, Nat.mul_comm 2]
    · rintro d2 its2 env acc N2 ⟨zz, a, e4, rfl, e5, rfl⟩ go2
      obtain ⟨z, zz2, rfl, rfl, rfl⟩ := zs_cons e4
      walk_at "ev"
      have hl : a.length ≤ 256 := by
        have := congrArg List.length e5
        simp at this; omega
      refine ⟨by rw [sizeLine_eq, zs_len]; omega, ?_⟩
      refine go2 _ _ ⟨zz2, a ++ [z + x], rfl, by rw [zs_app]; rfl, ?_, rfl⟩
      rw [List.append_assoc]; exact e5
end Z26

namespace Z26
/-- the amounts of a choice: bit r stands for the r-th -/
def sel : List Int → Nat → List Int
  | [], _ => []
  | a :: A, c => if c % 2 = 1 then a :: sel A (c / 2) else sel A (c / 2)
theorem sel_zero : ∀ A : List Int, sel A 0 = []
  | [] => rfl
  | a :: A => by simp [sel, sel_zero A]
theorem stepS_len (s : List Int) (a : Int) : (stepS s a).length = 2 * s.length := by simp [stepS]; omega
theorem fold_len : ∀ (A s : List Int), (A.foldl stepS s).length = s.length * 2 ^ A.length
  | [], s => by simp
  | a :: A, s => by
    rw [List.foldl_cons, fold_len A, stepS_len, List.length_cons, Nat.pow_succ, Nat.mul_comm 2, Nat.mul_assoc, Nat.mul_comm 2]
theorem sumsF_len (A : List Int) : (sumsF A).length = 2 ^ A.length := by
  have := fold_len A [0]
  simpa [sumsF] using this
theorem fold_get : ∀ (A s : List Int) (i c : Nat) (v : Int), s[i]? = some v → c < 2 ^ A.length → (A.foldl stepS s)[i + s.length * c]? = some (v + (sel A c).sum)
  | [], s, i, c, v, h, hc => by
    have : c = 0 := by simpa using hc
    subst this
    simpa [sel] using h
  | a :: A, s, i, c, v, h, hc => by
    have hi : i < s.length := (List.getElem?_eq_some_iff.mp h).1
    have hc2 : c / 2 < 2 ^ A.length := by
      rw [List.length_cons, Nat.pow_succ] at hc; omega
    have e : c = 2 * (c / 2) + c % 2 := by omega
    rw [List.foldl_cons]
    rcases Nat.mod_two_eq_zero_or_one c with h0 | h1
    · have := fold_get A (stepS s a) i (c / 2) v (by
        unfold stepS; rw [List.getElem?_append_left hi]; exact h) hc2
      rw [stepS_len] at this
      have e2 : i + s.length * c = i + 2 * s.length * (c / 2) := by
        conv => lhs; rw [e, h0]
        rw [Nat.add_zero, ← Nat.mul_assoc, Nat.mul_comm s.length 2]
      rw [e2, this]
      simp [sel, h0]
    · have := fold_get A (stepS s a) (i + s.length) (c / 2) (v + a) (by
        unfold stepS; rw [List.getElem?_append_right (by omega), Nat.add_sub_cancel, List.getElem?_map, h]; rfl) hc2
      rw [stepS_len] at this
      have e2 : i + s.length * c = i + s.length + 2 * s.length * (c / 2) := by
        conv => lhs; rw [e, h1]
        rw [Nat.mul_add, Nat.mul_one, ← Nat.mul_assoc, Nat.mul_comm s.length 2]; omega
      rw [e2, this]
      simp [sel, h1]; omega
theorem sumsF_get (A : List Int) {c : Nat} (h : c < 2 ^ A.length) : (sumsF A)[c]? = some (sel A c).sum := by
  have := fold_get A [0] 0 c 0 rfl h
  simpa [sumsF] using this
theorem sel_full : ∀ A : List Int, sel A (2 ^ A.length - 1) = A
  | [] => rfl
  | a :: A => by
    have hp : 0 < 2 ^ A.length := Nat.pow_pos (by decide)
    have e : 2 ^ (a :: A).length - 1 = 2 * (2 ^ A.length - 1) + 1 := by rw [List.length_cons, Nat.pow_succ]; omega
    rw [e]
    unfold sel
    rw [if_pos (by omega), show (2 * (2 ^ A.length - 1) + 1) / 2 = 2 ^ A.length - 1 by omega, sel_full A]
theorem bit_ge {c r : Nat} (h : c.testBit r = true) : 2 ^ r ≤ c := Nat.ge_two_pow_of_testBit h
theorem sel_drop : ∀ {A : List Int} {c r : Nat}, r < A.length → c.testBit r = true → ∃ x, A[r]? = some x ∧ (sel A c).Perm (x :: sel A (c - 2 ^ r))
  | a :: A, c, 0, _, h => by
    have h1 : c % 2 = 1 := by simpa [Nat.testBit_zero] using h
    refine ⟨a, rfl, ?_⟩
    unfold sel
    rw [if_pos h1, if_neg (by omega), show (c - 2 ^ 0) / 2 = c / 2 by omega]
  | a :: A, c, r + 1, hr, h => by
    rw [Nat.testBit_succ] at h
    obtain ⟨x, e, p⟩ := sel_drop (A := A) (by simpa using hr) h
    have hb := bit_ge h
    refine ⟨x, by simpa using e, ?_⟩
    unfold sel
    have e1 : (c - 2 ^ (r + 1)) % 2 = c % 2 := by rw [Nat.pow_succ]; omega
    have e2 : (c - 2 ^ (r + 1)) / 2 = c / 2 - 2 ^ r := by rw [Nat.pow_succ]; omega
    rw [e1, e2]
    split
    · exact (p.cons a).trans (.swap _ _ _)
    · exact p
theorem sel_mem : ∀ {A : List Int} {c : Nat} {x : Int}, x ∈ sel A c → ∃ r, r < A.length ∧ c.testBit r = true ∧ A[r]? = some x
  | [], _, _, h => by simp [sel] at h
  | a :: A, c, x, h => by
    unfold sel at h
    split at h
    · rename_i h1
      rcases List.mem_cons.mp h with rfl | h
      · exact ⟨0, by simp, by simpa [Nat.testBit_zero] using h1, rfl⟩
      · obtain ⟨r, a1, a2, a3⟩ := sel_mem h
        exact ⟨r + 1, by simpa using a1, by rw [Nat.testBit_succ]; exact a2, by simpa using a3⟩
    · obtain ⟨r, a1, a2, a3⟩ := sel_mem h
      exact ⟨r + 1, by simpa using a1, by rw [Nat.testBit_succ]; exact a2, by simpa using a3⟩
theorem sel_ne : ∀ {A : List Int} {c : Nat}, 0 < c → c < 2 ^ A.length → sel A c ≠ []
  | [], c, h, h2 => by simp at h2; omega
  | a :: A, c, h, h2 => by
    unfold sel
    split
    · simp
    · refine sel_ne (by omega) ?_
      rw [List.length_cons, Nat.pow_succ] at h2; omega
/-! ### what can be paid off ahead of the rest -/
def PreOf (X : List Int) (m : Nat) : Prop := ∃ (L : List (List Int)) (R : List Int), L.length = m ∧ (∀ l ∈ L, l ≠ [] ∧ l.sum = 0) ∧ X.Perm (L.flatten ++ R)
def MostPre (X : List Int) (m : Nat) : Prop := PreOf X m ∧ ∀ j, PreOf X j → j ≤ m
theorem flat_sum {L : List (List Int)} (h : ∀ l ∈ L, l ≠ [] ∧ l.sum = 0) : L.flatten.sum = 0 := by
  induction L with
  | nil => rfl
  | cons l L ih =>
    rw [List.flatten_cons, List.sum_append, ih fun l hl => h l (by simp [hl]), (h l (by simp)).2]; rfl
theorem most_of_pre {X : List Int} {m : Nat} (hs : X.sum = 0) (h : MostPre X m) : Most X m := by
  obtain ⟨⟨L, R, h1, h2, h3⟩, h4⟩ := h
  refine ⟨?_, fun j ⟨L', a, b, c⟩ => h4 j ⟨L', [], a, b, by simpa using c⟩⟩
  have hR : R.sum = 0 := by
    have := sum_perm h3
    rw [List.sum_append, flat_sum h2] at this
    omega
  by_cases hr : R = []
  · subst hr
    exact ⟨L, h1, h2, by simpa using h3⟩
  · have := h4 (m + 1) ⟨L ++ [R], [], by simp [h1], fun l hl => by
      rcases List.mem_append.mp hl with hl | hl
      · exact h2 l hl
      · have : l = R := by simpa using hl
        subst this; exact ⟨hr, hR⟩, by simpa using h3⟩
    omega
theorem pre_nil : MostPre [] 0 := ⟨⟨[], [], rfl, by simp, .refl _⟩, fun j ⟨L, R, h1, h2, h3⟩ => by
  have h3 := List.nil_perm.mp h3
  have : L = [] := by
    cases L with
    | nil => rfl
    | cons l L =>
      have := (h2 l (by simp)).1
      simp at h3
      exact absurd h3.1 this
  subst this
  simp at h1; omega⟩
/-- one step of the table -/
theorem pre_step {A : List Int} {c r x : Nat} (hc : 0 < c) (hc2 : c < 2 ^ A.length) (hr : r < A.length) (hb : c.testBit r = true) (h : MostPre (sel A (c - 2 ^ r)) x)
    (best : ∀ r', r' < A.length → c.testBit r' = true → ∃ y, MostPre (sel A (c - 2 ^ r')) y ∧ y ≤ x) : MostPre (sel A c) (x + if (sel A c).sum = 0 then 1 else 0) := by
  obtain ⟨v, ev, pv⟩ := sel_drop hr hb
  obtain ⟨⟨L, R, h1, h2, h3⟩, h4⟩ := h
  have p1 : (sel A c).Perm (L.flatten ++ v :: R) := pv.trans ((h3.cons v).trans List.perm_middle.symm)
  constructor
  · split
    · rename_i hs
      have hR : (v :: R).sum = 0 := by
        have := sum_perm p1
        rw [List.sum_append, flat_sum h2, hs] at this
        omega
      exact ⟨L ++ [v :: R], [], by simp [h1], fun l hl => by
        rcases List.mem_append.mp hl with hl | hl
        · exact h2 l hl
        · have : l = v :: R := by simpa using hl
          subst this; exact ⟨by simp, hR⟩, by simpa using p1⟩
    · exact ⟨L, v :: R, by simpa using h1, h2, p1⟩
  · rintro j ⟨L', R', g1, g2, g3⟩
    cases R' with
    | cons w R' =>
      have hm : w ∈ sel A c := g3.mem_iff.mpr (by simp)
      obtain ⟨r', a1, a2, a3⟩ := sel_mem hm
      obtain ⟨w', b1, b2⟩ := sel_drop a1 a2
      rw [a3] at b1; cases b1
      obtain ⟨y, hy, hyx⟩ := best r' a1 a2
      have := hy.2 j ⟨L', R', g1, g2, by
        have := b2.symm.trans (g3.trans List.perm_middle)
        exact this.cons_inv⟩
      omega
    | nil =>
      rw [List.append_nil] at g3
      cases L' with
      | nil => simp at g1; omega
      | cons l L' =>
        have hl := g2 l (by simp)
        cases l with
        | nil => exact absurd rfl hl.1
        | cons w l =>
          have hm : w ∈ sel A c := g3.mem_iff.mpr (by simp)
          obtain ⟨r', a1, a2, a3⟩ := sel_mem hm
          obtain ⟨w', b1, b2⟩ := sel_drop a1 a2
          rw [a3] at b1; cases b1
          obtain ⟨y, hy, hyx⟩ := best r' a1 a2
          have hs : (sel A c).sum = 0 := by rw [sum_perm g3, flat_sum g2]
          have := hy.2 L'.length ⟨L', l, rfl, fun k hk => g2 k (by simp [hk]), by
            have := b2.symm.trans g3
            simp only [List.flatten_cons, List.cons_append] at this
            exact this.cons_inv.trans List.perm_append_comm⟩
          rw [if_pos hs]
          simp at g1; omega

theorem best_pre {A : List Int} {B : List (Nat × Nat)} (h : Best A B) : ∀ c, c < 2 ^ A.length → ∃ m r, B[c]? = some (m, r) ∧ MostPre (sel A c) m := by
  obtain ⟨hl, h0, hs⟩ := h
  intro c
  induction c using Nat.strongRecOn with
  | ind c ih =>
    intro hc
    by_cases c0 : c = 0
    · subst c0
      exact ⟨0, 0, h0, by rw [sel_zero]; exact pre_nil⟩
    · obtain ⟨m, r, x, y, e1, hr, hb, e2, em, hbest⟩ := hs c (by omega) hc
      have hp : ∀ {r'}, c.testBit r' = true → c - 2 ^ r' < c := fun {r'} h => by
        have := bit_ge h
        have := Nat.pow_pos (n := r') (show 0 < 2 by decide)
        omega
      obtain ⟨x', y', e3, px⟩ := ih _ (hp hb) (Nat.lt_trans (hp hb) hc)
      rw [e2] at e3; cases e3
      refine ⟨m, r, e1, ?_⟩
      have hm : m = x + if (sel A c).sum = 0 then 1 else 0 := by
        rw [em, sumsF_get A hc]
        simp
      rw [hm]
      refine pre_step (by omega) hc hr hb px fun r' a1 a2 => ?_
      obtain ⟨x2, y2, e4, p2⟩ := ih _ (hp a2) (Nat.lt_trans (hp a2) hc)
      exact ⟨x2, p2, hbest r' a1 a2 x2 y2 e4⟩
/-! ### parts of a choice -/
def Sub (t c : Nat) : Prop := ∀ i, t.testBit i = true → c.testBit i = true
theorem Sub.half {t c : Nat} (h : Sub t c) : Sub (t / 2) (c / 2) := fun i hi => by
  rw [Nat.testBit_div_two] at hi ⊢
  exact h _ hi
theorem Sub.mod {t c : Nat} (h : Sub t c) : t % 2 ≤ c % 2 := by
  have := h 0
  simp only [Nat.testBit_zero, decide_eq_true_eq] at this
  omega
theorem Sub.mk' {t c : Nat} (h : Sub (t / 2) (c / 2)) (m : t % 2 ≤ c % 2) : Sub t c := fun i hi => by
  cases i with
  | zero =>
    simp only [Nat.testBit_zero, decide_eq_true_eq] at hi ⊢
    omega
  | succ i =>
    rw [Nat.testBit_succ] at hi ⊢
    exact h i hi
theorem Sub.le : ∀ {t c : Nat}, Sub t c → t ≤ c := fun {t c} => by
  induction c using Nat.strongRecOn generalizing t with
  | ind c ih =>
    intro h
    by_cases c0 : c = 0
    · subst c0
      have : t = 0 := Nat.eq_of_testBit_eq fun i => by
        cases q : t.testBit i with
        | false => simp
        | true => have := h i q; simp at this
      omega
    · have := ih (c / 2) (by omega) h.half
      have := h.mod
      omega
theorem Sub.self (c : Nat) : Sub c c := fun _ h => h
theorem Sub.zero (c : Nat) : Sub 0 c := fun i h => by simp at h
theorem Sub.and (a c : Nat) : Sub (a &&& c) c := fun i h => by
  rw [Nat.testBit_and, Bool.and_eq_true] at h
  exact h.2
theorem half_sub {t c : Nat} (h : Sub t c) : (c - t) / 2 = c / 2 - t / 2 ∧ (c - t) % 2 = c % 2 - t % 2 := by
  have h1 := h.mod
  have h2 := h.half.le
  omega
/-- a choice of some of the amounts of a choice -/
theorem sel_cut : ∀ {A : List Int} {c : Nat} {Y W : List Int}, (sel A c).Perm (Y ++ W) → ∃ t, Sub t c ∧ (sel A t).Perm Y ∧ (sel A (c - t)).Perm W
  | [], c, Y, W, h => by
    have h := List.nil_perm.mp (show ([] : List Int).Perm (Y ++ W) from h)
    obtain ⟨rfl, rfl⟩ := List.append_eq_nil_iff.mp h
    exact ⟨0, Sub.zero c, .refl _, .refl _⟩
  | a :: A, c, Y, W, h => by
    unfold sel at h
    split at h
    · rename_i h1
      have hm : a ∈ Y ++ W := h.mem_iff.mp (by simp)
      rcases List.mem_append.mp hm with hy | hw
      · have p1 := List.perm_cons_erase hy
        have p2 : (sel A (c / 2)).Perm (Y.erase a ++ W) := by
          have := h.trans (p1.append_right W)
          rw [List.cons_append] at this
          exact this.cons_inv
        obtain ⟨t, s, q1, q2⟩ := sel_cut p2
        have st : Sub (2 * t + 1) c := Sub.mk' (by rw [show (2 * t + 1) / 2 = t by omega]; exact s) (by omega)
        refine ⟨2 * t + 1, st, ?_, ?_⟩
        · unfold sel
          rw [if_pos (by omega), show (2 * t + 1) / 2 = t by omega]
          exact (q1.cons a).trans p1.symm
        · have ⟨e1, e2⟩ := half_sub st
          unfold sel
          rw [if_neg (by omega), e1, show (2 * t + 1) / 2 = t by omega]
          exact q2
      · have p1 := List.perm_cons_erase hw
        have p2 : (sel A (c / 2)).Perm (Y ++ W.erase a) := by
          have := h.trans ((p1.append_left Y).trans List.perm_middle)
          exact this.cons_inv
        obtain ⟨t, s, q1, q2⟩ := sel_cut p2
        have st : Sub (2 * t) c := Sub.mk' (by rw [show 2 * t / 2 = t by omega]; exact s) (by omega)
        refine ⟨2 * t, st, ?_, ?_⟩
        · unfold sel
          rw [if_neg (by omega), show 2 * t / 2 = t by omega]
          exact q1
        · have ⟨e1, e2⟩ := half_sub st
          unfold sel
          rw [if_pos (by omega), e1, show 2 * t / 2 = t by omega]
          exact (q2.cons a).trans p1.symm
    · rename_i h1
      obtain ⟨t, s, q1, q2⟩ := sel_cut h
      have st : Sub (2 * t) c := Sub.mk' (by rw [show 2 * t / 2 = t by omega]; exact s) (by omega)
      refine ⟨2 * t, st, ?_, ?_⟩
      · unfold sel
        rw [if_neg (by omega), show 2 * t / 2 = t by omega]
        exact q1
      · have ⟨e1, e2⟩ := half_sub st
        unfold sel
        rw [if_neg (by omega), e1, show 2 * t / 2 = t by omega]
        exact q2
/-- both parts together -/
theorem sel_join : ∀ {A : List Int} {t c : Nat}, Sub t c → (sel A c).Perm (sel A t ++ sel A (c - t))
  | [], t, c, h => .refl _
  | a :: A, t, c, h => by
    have ⟨e1, e2⟩ := half_sub h
    have hm := h.mod
    have ih := sel_join (A := A) h.half
    unfold sel
    rw [e1]
    by_cases c1 : c % 2 = 1
    · by_cases t1 : t % 2 = 1
      · rw [if_pos c1, if_pos t1, if_neg (by omega)]
        exact ih.cons a
      · rw [if_pos c1, if_neg t1, if_pos (by omega)]
        exact (ih.cons a).trans List.perm_middle.symm
    · rw [if_neg c1, if_neg (by omega), if_neg (by omega)]
      exact ih
/-- the part ahead of a part -/
theorem sub_next {c : Nat} : ∀ {l t : Nat}, Sub l c → Sub t c → t < l → t ≤ (l - 1) &&& c := fun {l t} => by
  induction c using Nat.strongRecOn generalizing l t with
  | ind c ih =>
    intro hl ht h
    have h1 := hl.le
    have e : ((l - 1) &&& c) = 2 * (((l - 1) / 2) &&& (c / 2)) + (if (l - 1) % 2 = 1 ∧ c % 2 = 1 then 1 else 0) := by
      have a1 : ((l - 1) &&& c) / 2 = ((l - 1) / 2) &&& (c / 2) := Nat.and_div_two
      have a2 : ((l - 1) &&& c) % 2 = if (l - 1) % 2 = 1 ∧ c % 2 = 1 then 1 else 0 := by
        have iff : ((l - 1) &&& c) % 2 = 1 ↔ ((l - 1) % 2 = 1 ∧ c % 2 = 1) := by
          have := Nat.testBit_and (l - 1) c 0
          rw [Nat.testBit_zero, Nat.testBit_zero, Nat.testBit_zero] at this
          constructor
          · intro h
            rw [decide_eq_true h] at this
            have := this.symm
            rw [Bool.and_eq_true, decide_eq_true_eq, decide_eq_true_eq] at this
            exact this
          · rintro ⟨q1, q2⟩
            rw [decide_eq_true q1, decide_eq_true q2] at this
            simpa using this
        split
        · rename_i q; exact iff.mpr q
        · rename_i q
          have := mt iff.mp q
          omega
      omega
    rcases Nat.mod_two_eq_zero_or_one l with l0 | l1
    · have hm := ht.mod
      have := ih (c / 2) (by omega) hl.half ht.half (by omega)
      rw [e, show (l - 1) / 2 = l / 2 - 1 by omega]
      split <;> omega
    · have s : Sub (l / 2) (c / 2) := hl.half
      have e3 : (l / 2) &&& (c / 2) = l / 2 := Nat.eq_of_testBit_eq fun i => by
        rw [Nat.testBit_and]
        cases q : (l / 2).testBit i with
        | false => rfl
        | true => rw [s i q]; rfl
      rw [e, show (l - 1) / 2 = l / 2 by omega, e3]
      split <;> omega
end Z26

namespace Z26
def BestL (A : List Int) (c : Nat) (v : Int) : Prop := (v = -1 ∧ ∀ m, ¬ LotsOf (sel A c) m) ∨ ∃ m : Nat, v = m ∧ Most (sel A c) m
def LInv (A : List Int) (c : Nat) (f : Nat → Int) (l : Nat) (most : Int) : Prop :=
  Sub l c ∧ (most = -1 ∨ ∃ m : Nat, most = m ∧ LotsOf (sel A c) m) ∧ ∀ t, Sub t c → l < t → (sel A t).sum = 0 → 0 ≤ f (c - t) → f (c - t) + 1 ≤ most
theorem add_bit : ∀ {p c t : Nat}, c.testBit p = true → Sub t (c - 2 ^ p) → Sub (t + 2 ^ p) c ∧ (t + 2 ^ p).testBit p = true
  | 0, c, t, h, s => by
    have h1 : c % 2 = 1 := by simpa [Nat.testBit_zero] using h
    have hm := s.mod
    have hh := s.half
    rw [show (c - 2 ^ 0) / 2 = c / 2 by omega] at hh
    refine ⟨Sub.mk' (by rw [show (t + 2 ^ 0) / 2 = t / 2 by omega]; exact hh) (by omega), ?_⟩
    rw [Nat.testBit_zero, decide_eq_true_eq]
    omega
  | p + 1, c, t, h, s => by
    rw [Nat.testBit_succ] at h
    have hb := bit_ge h
    have hm := s.mod
    have hh := s.half
    have e1 : (c - 2 ^ (p + 1)) / 2 = c / 2 - 2 ^ p := by rw [Nat.pow_succ]; omega
    have e2 : (c - 2 ^ (p + 1)) % 2 = c % 2 := by rw [Nat.pow_succ]; omega
    have e3 : (t + 2 ^ (p + 1)) / 2 = t / 2 + 2 ^ p := by rw [Nat.pow_succ]; omega
    have e4 : (t + 2 ^ (p + 1)) % 2 = t % 2 := by rw [Nat.pow_succ]; omega
    rw [e1] at hh
    obtain ⟨i1, i2⟩ := add_bit h hh
    refine ⟨Sub.mk' (by rw [e3]; exact i1) (by omega), ?_⟩
    rw [Nat.testBit_succ, e3]
    exact i2
theorem lots_join {X Y W : List Int} {m : Nat} (p : X.Perm (Y ++ W)) (hy : Y ≠ []) (hs : Y.sum = 0) (h : LotsOf W m) : LotsOf X (m + 1) := by
  obtain ⟨L, h1, h2, h3⟩ := h
  refine ⟨Y :: L, by simp [h1], fun l hl => ?_, ?_⟩
  · rcases List.mem_cons.mp hl with rfl | hl
    · exact ⟨hy, hs⟩
    · exact h2 l hl
  · rw [List.flatten_cons]
    exact p.trans (h3.append_left Y)
section
variable {A : List Int} {c : Nat} {f : Nat → Int}
theorem linv_start : LInv A c f c (-1) := ⟨Sub.self c, .inl rfl, fun t h1 h2 => absurd h1.le (by omega)⟩
theorem linv_step {l : Nat} {most : Int} (hc : 0 < c) (hc2 : c < 2 ^ A.length) (hf : ∀ c' < c, BestL A c' (f c')) (hl : c < 2 * l) (h : LInv A c f l most) :
    LInv A c f ((l - 1) &&& c) (if (sel A l).sum = 0 ∧ max 0 most ≤ f (c - l) then f (c - l) + 1 else most) := by
  obtain ⟨h1, h2, h3⟩ := h
  have hlc := h1.le
  refine ⟨Sub.and _ _, ?_, fun t ht hlt hs hp => ?_⟩
  · split
    · rename_i q
      right
      rcases hf (c - l) (by omega) with ⟨e, _⟩ | ⟨m, e, hm⟩
      · rw [e] at q; omega
      · refine ⟨m + 1, by rw [e]; rfl, lots_join (sel_join h1) (sel_ne (by omega) (by omega)) q.1 hm.1⟩
    · exact h2
  · rcases Nat.lt_trichotomy l t with q | q | q
    · have := h3 t ht q hs hp
      split
      · rename_i z; omega
      · exact this
    · subst q
      split
      · exact Int.le_refl _
      · rename_i z
        have : ¬ max 0 most ≤ f (c - l) := fun w => z ⟨hs, w⟩
        omega
    · have := sub_next h1 ht q
      omega
theorem linv_end {l : Nat} {most : Int} (hc : 0 < c) (hc2 : c < 2 ^ A.length) (hf : ∀ c' < c, BestL A c' (f c')) (hl : 2 * l ≤ c) (h : LInv A c f l most) : BestL A c most := by
  obtain ⟨h1, h2, h3⟩ := h
  have up : ∀ m, LotsOf (sel A c) m → (m : Int) ≤ most := by
    rintro m ⟨L, e1, e2, e3⟩
    have hp := Nat.log2_self_le (show c ≠ 0 by omega)
    have hp2 : c < 2 ^ (c.log2 + 1) := Nat.lt_log2_self
    have hb : c.testBit c.log2 = true := Nat.testBit_log2 (by omega)
    have hr : c.log2 < A.length := by
      rcases Nat.lt_or_ge c.log2 A.length with q | q
      · exact q
      · have := Nat.pow_le_pow_right (show 0 < 2 by decide) q
        omega
    obtain ⟨x, ex, px⟩ := sel_drop hr hb
    have hx : x ∈ L.flatten := e3.mem_iff.mp (px.mem_iff.mpr (by simp))
    obtain ⟨k, hk, hxk⟩ := List.mem_flatten.mp hx
    have p1 := List.perm_cons_erase hk
    have p2 := List.perm_cons_erase hxk
    have p3 : L.flatten.Perm (x :: (k.erase x ++ (L.erase k).flatten)) := by
      have := p1.flatten
      rw [List.flatten_cons] at this
      exact this.trans (p2.append_right _)
    have p4 : (sel A (c - 2 ^ c.log2)).Perm (k.erase x ++ (L.erase k).flatten) := (px.symm.trans (e3.trans p3)).cons_inv
    obtain ⟨t, st, q1, q2⟩ := sel_cut p4
    obtain ⟨s1, s2⟩ := add_bit hb st
    have q3 : (sel A (t + 2 ^ c.log2)).Perm k := by
      obtain ⟨x2, g1, g2⟩ := sel_drop hr s2
      rw [ex] at g1; cases g1
      rw [Nat.add_sub_cancel] at g2
      exact g2.trans ((q1.cons x).trans p2.symm)
    have hlen : (L.erase k).length + 1 = m := by
      have := p1.length_eq
      simp at this; omega
    have hlots : LotsOf (sel A (c - (t + 2 ^ c.log2))) (L.erase k).length := ⟨L.erase k, rfl, fun y hy => e2 y (List.mem_of_mem_erase hy), by
      rw [show c - (t + 2 ^ c.log2) = c - 2 ^ c.log2 - t by omega]; exact q2⟩
    have hlt : l < t + 2 ^ c.log2 := by
      rw [Nat.pow_succ] at hp2; omega
    have hpos := Nat.pow_pos (n := c.log2) (show 0 < 2 by decide)
    rcases hf (c - (t + 2 ^ c.log2)) (by omega) with ⟨_, e⟩ | ⟨m', e, hm'⟩
    · exact absurd hlots (e _)
    · have := hm'.2 _ hlots
      have := h3 _ s1 hlt (by rw [sum_perm q3]; exact (e2 k hk).2) (by rw [e]; omega)
      rw [e] at this
      omega
  rcases h2 with rfl | ⟨m, rfl, hm⟩
  · exact .inl ⟨rfl, fun m hm => by have := up m hm; omega⟩
  · exact .inr ⟨m, rfl, hm, fun j hj => by have := up j hj; omega⟩
end
theorem bestL_zero (A : List Int) : BestL A 0 0 := by
  refine .inr ⟨0, rfl, ?_⟩
  rw [sel_zero]
  exact most_of_pre rfl pre_nil
/-- the whole choice of amounts whose sum is 0 -/
theorem bestL_full {A : List Int} {v : Int} (hs : A.sum = 0) (h : BestL A (2 ^ A.length - 1) v) : ∃ m : Nat, v = m ∧ Most A m := by
  rw [BestL, sel_full] at h
  rcases h with ⟨_, e⟩ | h
  · exfalso
    by_cases q : A = []
    · exact e 0 ⟨[], rfl, by simp, by rw [q]; exact .refl _⟩
    · exact e 1 ⟨[A], rfl, fun l hl => by
        have : l = A := by simpa using hl
        subst this; exact ⟨q, hs⟩, by simp⟩
  · exact h
end Z26

namespace Z26
open PySem L2 Z Z.V
theorem bitAnd_nat (a b : Nat) : Builtin.bitAnd (a : Int) (b : Int) = ((a &&& b : Nat) : Int) := by
  unfold Builtin.bitAnd
  rw [decide_eq_true (by omega : (0 : Int) ≤ a), decide_eq_true (by omega : (0 : Int) ≤ b)]
  simp
theorem at_last {xs : List D} {y : D} (h : xs[xs.length - 1]? = some y) (h0 : 0 < xs.length) : L2.atI xs (-1) = some y := by
  unfold L2.atI L2.ixN
  rw [if_neg (by decide), if_pos (by omega)]
  show xs[((-1 : Int) + (xs.length : Int)).toNat]? = some y
  rw [show ((-1 : Int) + (xs.length : Int)).toNat = xs.length - 1 by omega]
  exact h
theorem items_rng2 {n : Nat} (h : 1 ≤ n) : (List.range ((n : Int) - 1).toNat).map (fun (i : Nat) => D.int (1 + (i : Int))) = (List.range' 1 (n - 1)).map fun (i : Nat) => D.int (i : Int) := by
  rw [List.range'_eq_map_range, List.map_map, show ((n : Int) - 1).toNat = n - 1 by omega]
  refine List.map_congr_left fun i _ => ?_
  simp [Function.comp]
def Fv (vs : List Int) : Nat → Int := fun i => (vs[i]?).getD (-1)
theorem ok2 : ∀ ts k e, S 2 ts k e → rdSs S nox ir2 (endsOf 1 A2 k) (env0 N2 ts) := by
  rintro ts k e ⟨t, ds, rfl, h1, h2, h3, h⟩
  unfold ir2
  show rdSs _ _ _ _ [some t, none, none, none, none, none, none, none]
  have hn : (nz ds).length ≤ 8 := Nat.le_trans (nz_len ds) h2
  have hpow : 2 ^ (nz ds).length ≤ 2 ^ 8 := Nat.pow_le_pow_right (by decide) hn
  have hpos : 0 < 2 ^ (nz ds).length := Nat.pow_pos (by decide)
  walk_at "ev"
  refine ⟨by rw [sizeLine_eq]; decide, ?_⟩
  walk_at "ev"
  refine ⟨by rw [sizeLine_eq]; decide, ?_⟩
  walk_at "ev"
  refine ⟨rfl, ?_⟩
  walk_at "ev"
  refine x_lst rfl h1 ?_
  walk_at "ev"
  refine it_seq rfl ?_
  refine forL_by (fun its env => ∃ xs s o1 o7, its = zs xs ∧ env = [some (.d (.lst (zs ds))), o1, none, some (.l (zs s)), some (.l (zs [0])), none, none, o7] ∧ (nz xs).foldl stepS s = sumsF (nz ds) ∧ s.length * 2 ^ (nz xs).length = 2 ^ (nz ds).length) ?_ ?_ _ _ ⟨ds, [0], none, none, rfl, rfl, rfl, by simp⟩
  · rintro env ⟨xs, s, o1, o7, e1, rfl, e2, e3⟩
    obtain rfl := zs_nil e1
    have e2 : s = sumsF (nz ds) := e2
    subst e2
    walk_at "ev"
    rw [zs_len, sumsF_len]
    refine ⟨⟨by decide, by decide, by omega, by omega⟩, ?_⟩
    rw [items_rng2 (by omega)]
    refine forL_by (fun its env => ∃ c vs o2 o5 o6, its = (List.range' c (2 ^ (nz ds).length - c)).map (fun (i : Nat) => D.int (i : Int)) ∧ 1 ≤ c ∧ c ≤ 2 ^ (nz ds).length ∧ vs.length = c ∧ (∀ i < c, BestL (nz ds) i (Fv vs i)) ∧
      env = [some (.d (.lst (zs ds))), o1, o2, some (.l (zs (sumsF (nz ds)))), some (.l (zs vs)), o5, o6, o7]) ?_ ?_ _ _ ⟨1, [0], none, none, none, rfl, by omega, by omega, rfl, fun i hi => ?_, rfl⟩
    · rintro env ⟨c, vs, o2, o5, o6, e4, c1, c2, hv, hB, rfl⟩
      have hc : c = 2 ^ (nz ds).length := by
        have := congrArg List.length e4
        simp at this; omega
      walk_at "ev"
      have hl := hB (c - 1) (by omega)
      rw [hc] at hl
      obtain ⟨m, em, hm⟩ := bestL_full (by rw [nz_sum]; exact h3) hl
      refine g_go (d := .int m) rfl (at_last ?_ (by rw [zs_len]; omega)) ?_
      · rw [zs_len, hv, hc, zs_get]
        unfold Fv at em
        have hlt : 2 ^ (nz ds).length - 1 < vs.length := by omega
        rw [List.getElem?_eq_getElem hlt] at em ⊢
        have em : vs[2 ^ (nz ds).length - 1] = (m : Int) := em
        rw [em]; rfl
      walk_at "ev"
      exact h m hm
    · rintro d its env N ⟨c, vs, o2, o5, o6, e4, c1, c2, hv, hB, rfl⟩ go
      have hlt : c < 2 ^ (nz ds).length := by
        rcases Nat.lt_or_ge c (2 ^ (nz ds).length) with q | q
        · exact q
        · rw [show 2 ^ (nz ds).length - c = 0 by omega] at e4
          simp at e4
      rw [show 2 ^ (nz ds).length - c = (2 ^ (nz ds).length - (c + 1)) + 1 by omega, List.range'_succ, List.map_cons, List.cons.injEq] at e4
      obtain ⟨rfl, rfl⟩ := e4
      walk_at "ev"
      refine ⟨rfl, ?_⟩
      walk_at "ev"
      refine whN_by (fun l env => ∃ most, env = [some (.d (.lst (zs ds))), o1, some (.d (.int c)), some (.l (zs (sumsF (nz ds)))), some (.l (zs vs)), some (.d (.int most)), some (.d (.int l)), o7] ∧ LInv (nz ds) c (Fv vs) l most) ?_ (m := c) ⟨-1, rfl, linv_start⟩
      rintro l env Nw ⟨most, rfl, hI⟩ gow
      have hle := hI.1.le
      walk_at "ev"
      refine i_mul (.inl (by decide)) ?_
      walk_at "ev"
      refine if_d (fun q => ?_) (fun q => ?_)
      · have hl : c < 2 * l := by omega
        walk_at "ev"
        refine g_go rfl (at_nat (y := .int (sel (nz ds) l).sum) (by rw [zs_get, sumsF_get _ (by omega)]; rfl)) ?_
        walk_at "ev"
        have hsub : L2.atI (zs vs) ((c : Int) - l) = some (.int (Fv vs (c - l))) := by
          have hx : c - l < vs.length := by omega
          rw [show (c : Int) - l = ((c - l : Nat) : Int) by omega]
          refine at_nat ?_
          rw [zs_get]
          unfold Fv
          rw [List.getElem?_eq_getElem hx]; rfl
        have hst := linv_step (f := Fv vs) (by omega) hlt hB hl hI
        have hand : ((l : Int) - 1) = ((l - 1 : Nat) : Int) := by omega
        have nxt : (l - 1) &&& c < l := by
          have := @Nat.and_le_left (l - 1) c
          omega
        refine if_d (fun q1 => ?_) (fun q1 => ?_)
        · walk_at "ev"
          refine g_go rfl hsub ?_
          walk_at "ev"
          refine if_d (fun q2 => ?_) (fun q2 => ?_)
          · walk_at "ev"
            refine g_go rfl hsub ?_
            walk_at "ev"
            rw [hand, bitAnd_nat]
            refine gow _ _ nxt ⟨_, rfl, ?_⟩
            have : max 0 most ≤ Fv vs (c - l) := by
              split at q2 <;> omega
            rw [if_pos ⟨q1, this⟩] at hst
            exact hst
          · walk_at "ev"
            rw [hand, bitAnd_nat]
            refine gow _ _ nxt ⟨_, rfl, ?_⟩
            have : ¬ max 0 most ≤ Fv vs (c - l) := by
              split at q2 <;> omega
            rw [if_neg (fun z => this z.2)] at hst
            exact hst
        · walk_at "ev"
          rw [hand, bitAnd_nat]
          refine gow _ _ nxt ⟨_, rfl, ?_⟩
          rw [if_neg (fun z => q1 z.1)] at hst
          exact hst
      · have hend := linv_end (f := Fv vs) (by omega) hlt hB (by omega) hI
        walk_at "ev"
        refine ⟨by rw [sizeLine_eq, zs_len]; omega, ?_⟩
        refine z_nl ?_
        have e9 : zs vs ++ [D.int most] = zs (vs ++ [most]) := by rw [zs_app]; rfl
        rw [e9]
        refine go _ ⟨c + 1, vs ++ [most], _, _, _, rfl, by omega, by omega, by simp [hv], fun i hi => ?_, rfl⟩
        rcases Nat.lt_or_ge i c with q3 | q3
        · have := hB i q3
          unfold Fv at this ⊢
          rw [List.getElem?_append_left (by omega)]
          exact this
        · obtain rfl : i = c := by omega
          unfold Fv
          rw [List.getElem?_append_right (by omega), hv, Nat.sub_self]
          exact hend
    · obtain rfl : i = 0 := by omega
      exact bestL_zero _
  · rintro d its env N ⟨xs, s, o1, o7, e1, rfl, e2, e3⟩ go
    obtain ⟨x, ys, rfl, rfl, rfl⟩ := zs_cons e1
    have hs : s.length ≤ 256 := by
      have h2 : 0 < 2 ^ (nz (x :: ys)).length := Nat.pow_pos (by decide)
      have := Nat.le_mul_of_pos_right s.length h2
      omega
    walk_at "ev"
    refine if_n (fun q => ?_) (fun q => ?_)
    · rw [nz_cons, if_neg q] at e2 e3
      walk_at "ev"
      refine it_seq rfl ?_
      refine lcL_by (fun its env acc => ∃ zz a, its = zs zz ∧ acc = zs a ∧ a ++ zz.map (· + x) = s.map (· + x) ∧ env = [some (.d (.lst (zs ds))), some (.d (.int x)), none, some (.d (.lst (zs s))), some (.l (zs [0])), none, none, none]) ?_ ?_ _ _ _ ⟨s, [], rfl, rfl, rfl, rfl⟩
      · rintro env acc ⟨zz, a, e4, rfl, e5, rfl⟩
        obtain rfl := zs_nil e4
        have e5 : a = s.map (· + x) := by simpa using e5
        subst e5
        walk_at "ev"
        refine l_add rfl rfl ?_ ?_
        · rw [sizeLine_eq, zs_len, zs_len, List.length_map]; omega
        walk_at "ev"
        refine go _ ⟨ys, stepS s x, some (.d (.int x)), keptE [some (.d (.lst (zs ds))), some (.d (.int x)), none, some (.d (.lst (zs s))), some (.l (zs [0])), none, none, o7] 7, rfl, ?_, e2, ?_⟩
        · rw [← zs_app]; rfl
        · rw [List.length_cons, Nat.pow_succ] at e3
          simp only [stepS, List.length_append, List.length_map]
          rw [← e3, ← Nat.two_mul, Nat.mul_comm 2, Nat.mul_assoc, Nat.mul_comm 2]
      · rintro d2 its2 env acc N2 ⟨zz, a, e4, rfl, e5, rfl⟩ go2
        obtain ⟨z, zz2, rfl, rfl, rfl⟩ := zs_cons e4
        walk_at "ev"
        have hl : a.length ≤ 256 := by
          have := congrArg List.length e5
          simp at this; omega
        refine ⟨by rw [sizeLine_eq, zs_len]; omega, ?_⟩
        refine go2 _ _ ⟨zz2, a ++ [z + x], rfl, by rw [zs_app]; rfl, ?_, rfl⟩
        rw [List.append_assoc]; exact e5
    · rw [nz_cons, if_pos q] at e2 e3
      walk_at "ev"
      exact go _ ⟨ys, s, _, _, rfl, rfl, e2, e3⟩
end Z26

namespace Z26
open PySem L2 Z Z.V
def BC (A : List Int) (B : List (Nat × Nat)) (c : Nat) : Prop := ∃ m r x y, B[c]? = some (m, r) ∧ r < A.length ∧ c.testBit r = true ∧ B[c - 2 ^ r]? = some (x, y) ∧
  m = x + (if (sumsF A)[c]? = some 0 then 1 else 0) ∧ ∀ r', r' < A.length → c.testBit r' = true → ∀ x' y', B[c - 2 ^ r']? = some (x', y') → x' ≤ x
theorem BC.app {A : List Int} {B : List (Nat × Nat)} {c : Nat} {p : Nat × Nat} (hc : c < B.length) (h : BC A B c) : BC A (B ++ [p]) c := by
  obtain ⟨m, r, x, y, h1, h2, h3, h4, h5, h6⟩ := h
  refine ⟨m, r, x, y, by rw [List.getElem?_append_left hc]; exact h1, h2, h3, by rw [List.getElem?_append_left (Nat.lt_of_le_of_lt (Nat.sub_le _ _) hc)]; exact h4, h5, fun r' a b x' y' e => h6 r' a b x' y' ?_⟩
  rwa [List.getElem?_append_left (Nat.lt_of_le_of_lt (Nat.sub_le _ _) hc)] at e
theorem items_rng1 (n : Nat) : (List.range ((n : Int)).toNat).map (fun (i : Nat) => D.int (0 + (i : Int))) = (List.range' 0 n).map fun (i : Nat) => D.int (i : Int) := by
  rw [List.range'_eq_map_range, List.map_map, show ((n : Int)).toNat = n by omega]
  refine List.map_congr_left fun i _ => ?_
  simp [Function.comp]
theorem bit_test (c r : Nat) : decide (Builtin.bitAnd ((c : Int) / 2 ^ ((r : Int)).toNat) 1 = 1) = c.testBit r := by
  have e : (c : Int) / 2 ^ ((r : Int)).toNat = ((c / 2 ^ r : Nat) : Int) := by
    rw [show ((r : Int)).toNat = r by omega]
    push_cast
    rfl
  rw [e, show (1 : Int) = ((1 : Nat) : Int) from rfl, bitAnd_nat, Nat.and_one_is_mod, Nat.testBit_eq_decide_div_mod_eq]
  by_cases h : c / 2 ^ r % 2 = 1
  · simp [h]
  · have : ¬ (((c / 2 ^ r % 2 : Nat) : Int) = ((1 : Nat) : Int)) := fun z => h (by exact_mod_cast z)
    simp only [h, this]
theorem idx_sub {c r : Nat} (h : c.testBit r = true) : (c : Int) - 1 * 2 ^ ((r : Int)).toNat = ((c - 2 ^ r : Nat) : Int) := by
  have hb := bit_ge h
  rw [show ((r : Int)).toNat = r by omega, Int.one_mul]
  have : ((2 ^ r : Nat) : Int) = (2 : Int) ^ r := by push_cast; rfl
  rw [← this]
  omega
theorem ok6 : ∀ ts k e, S 6 ts k e → rdSs S nox ir6 (endsOf 1 A6 k) (env0 N6 ts) := by
  rintro ts k e ⟨t, A, rfl, h1, hn, h⟩
  unfold ir6
  show rdSs _ _ _ _ [some t, none, none, none, none, none, none]
  have hpow : 2 ^ A.length ≤ 2 ^ 8 := Nat.pow_le_pow_right (by decide) hn
  have hpos : 0 < 2 ^ A.length := Nat.pow_pos (by decide)
  walk_at "ev"
  refine call_go rfl (by walk_at "nd") ⟨t, A, rfl, h1, hn, ⟨rfl, ?_⟩⟩
  have eb : back [some t, none, none, none, none, none, none] [R.pk 0] [t] [some (T.d (D.lst (zs A)))] = [some (.d (.lst (zs A))), none, none, none, none, none, none] := by
    rcases lst_or h1 with rfl | rfl
    · unfold back; unfold back; rfl
    · unfold back; unfold back; rfl
  rw [eb]
  walk_at "ev"
  refine ⟨by rw [sizeLine_eq]; decide, ?_⟩
  walk_at "ev"
  refine ⟨by rw [sizeLine_eq]; decide, ?_⟩
  walk_at "ev"
  rw [zs_len, sumsF_len]
  refine ⟨⟨by decide, by decide, by omega, by omega⟩, ?_⟩
  rw [items_rng2 (by omega)]
  refine forL_by (fun its env => ∃ c B o3 o4 o5 o6, its = (List.range' c (2 ^ A.length - c)).map (fun (i : Nat) => D.int (i : Int)) ∧ 1 ≤ c ∧ c ≤ 2 ^ A.length ∧ B.length = c ∧ B[0]? = some (0, 0) ∧ (∀ i, 0 < i → i < c → BC A B i) ∧
      env = [some (.d (.lst (zs A))), some (.l (zs (sumsF A))), some (.l (B.map pairD)), o3, o4, o5, o6]) ?_ ?_ _ _ ⟨1, [(0, 0)], none, none, none, none, rfl, by omega, by omega, rfl, rfl, fun i h1 h2 => by omega, rfl⟩
  · rintro env ⟨c, B, o3, o4, o5, o6, e4, c1, c2, hB, h0, hC, rfl⟩
    have hc : c = 2 ^ A.length := by
      have := congrArg List.length e4
      simp at this; omega
    walk_at "ev"
    exact h B ⟨by omega, h0, fun i a b => hC i a (by omega)⟩
  · rintro d its env N ⟨c, B, o3, o4, o5, o6, e4, c1, c2, hB, h0, hC, rfl⟩ go
    have hlt : c < 2 ^ A.length := by
      rcases Nat.lt_or_ge c (2 ^ A.length) with q | q
      · exact q
      · rw [show 2 ^ A.length - c = 0 by omega] at e4
        simp at e4
    rw [show 2 ^ A.length - c = (2 ^ A.length - (c + 1)) + 1 by omega, List.range'_succ, List.map_cons, List.cons.injEq] at e4
    obtain ⟨rfl, rfl⟩ := e4
    walk_at "ev"
    refine ⟨rfl, ?_⟩
    walk_at "ev"
    rw [zs_len]
    refine ⟨by omega, by omega, ?_⟩
    rw [items_rng1]
    refine forL_by (fun its env => ∃ ρ o4 most last, its = (List.range' ρ (A.length - ρ)).map (fun (i : Nat) => D.int (i : Int)) ∧ ρ ≤ A.length ∧ env = [some (.d (.lst (zs A))), some (.l (zs (sumsF A))), some (.l (B.map pairD)), some (.d (.int c)), o4, some (.d (.int most)), some (.d (.int last))] ∧
      (∀ r < ρ, c.testBit r = true → ∀ x y, B[c - 2 ^ r]? = some (x, y) → (x : Int) ≤ most) ∧ ((most = -1 ∧ last = 0) ∨ ∃ r x y, r < A.length ∧ c.testBit r = true ∧ B[c - 2 ^ r]? = some (x, y) ∧ most = x ∧ last = r)) ?_ ?_ _ _ ⟨0, o4, -1, 0, rfl, by omega, rfl, fun r h => by omega, .inl ⟨rfl, rfl⟩⟩
    · rintro env ⟨ρ, o4, most, last, e5, hρ, rfl, hup, hat⟩
      have hρ : ρ = A.length := by
        have := congrArg List.length e5
        simp at this; omega
      subst hρ
      obtain ⟨r, x, y, a1, a2, a3, rfl, rfl⟩ : ∃ r x y, r < A.length ∧ c.testBit r = true ∧ B[c - 2 ^ r]? = some (x, y) ∧ most = x ∧ last = r := by
        rcases hat with ⟨rfl, _⟩ | q
        · exfalso
          have hb : c.testBit c.log2 = true := Nat.testBit_log2 (by omega)
          have hp := Nat.log2_self_le (show c ≠ 0 by omega)
          have hr : c.log2 < A.length := by
            rcases Nat.lt_or_ge c.log2 A.length with q | q
            · exact q
            · have := Nat.pow_le_pow_right (show 0 < 2 by decide) q
              omega
          have hpp := Nat.pow_pos (n := c.log2) (show 0 < 2 by decide)
          have hx : c - 2 ^ c.log2 < B.length := by omega
          have := hup c.log2 hr hb (B[c - 2 ^ c.log2]).1 (B[c - 2 ^ c.log2]).2 (by rw [List.getElem?_eq_getElem hx])
          omega
        · exact q
      walk_at "ev"
      refine g_go rfl (at_nat (y := .int (sel A c).sum) (by rw [zs_get, sumsF_get _ hlt]; rfl)) ?_
      walk_at "ev"
      refine ⟨by rw [sizeLine_eq]; simp only [List.length_cons, List.length_nil]; decide, ?_⟩
      walk_at "ev"
      refine ⟨by rw [sizeLine_eq, List.length_map]; omega, ?_⟩
      refine z_nl ?_
      have e9 : B.map pairD ++ [D.tup [D.int ((x : Int) + if decide ((sel A c).sum = 0) = true then 1 else 0), D.int (r : Int)]] = (B ++ [(x + (if (sel A c).sum = 0 then 1 else 0), r)]).map pairD := by
        rw [List.map_append]
        congr 1
        unfold pairD
        by_cases q : (sel A c).sum = 0 <;> simp [q]
      rw [e9]
      refine go _ ⟨c + 1, B ++ [(x + (if (sel A c).sum = 0 then 1 else 0), r)], _, _, _, _, rfl, by omega, by omega, by simp [hB], ?_, fun i i1 i2 => ?_, rfl⟩
      · rw [List.getElem?_append_left (by omega)]; exact h0
      · rcases Nat.lt_or_ge i c with q3 | q3
        · exact (hC i i1 q3).app (by omega)
        · obtain rfl : i = c := by omega
          have hpr : ∀ {r'}, i.testBit r' = true → i - 2 ^ r' < B.length := fun {r'} z => by
            have := bit_ge z
            have := Nat.pow_pos (n := r') (show 0 < 2 by decide)
            omega
          refine ⟨x + (if (sel A i).sum = 0 then 1 else 0), r, x, y, ?_, a1, a2, by rw [List.getElem?_append_left (hpr a2)]; exact a3, ?_, fun r' b1 b2 x' y' e => ?_⟩
          · rw [List.getElem?_append_right (by omega), hB, Nat.sub_self]; rfl
          · rw [sumsF_get _ hlt]; simp
          · rw [List.getElem?_append_left (hpr b2)] at e
            have := hup r' b1 b2 x' y' e
            omega
    · rintro d its env N2 ⟨ρ, o4, most, last, e5, hρ, rfl, hup, hat⟩ go2
      have hlt2 : ρ < A.length := by
        rcases Nat.lt_or_ge ρ A.length with q | q
        · exact q
        · rw [show A.length - ρ = 0 by omega] at e5
          simp at e5
      rw [show A.length - ρ = (A.length - (ρ + 1)) + 1 by omega, List.range'_succ, List.map_cons, List.cons.injEq] at e5
      obtain ⟨rfl, rfl⟩ := e5
      walk_at "ev"
      refine i_shr (by omega) ?_
      walk_at "ev"
      rw [bit_test]
      cases hb : c.testBit ρ with
      | false =>
        walk_at "ev"
        refine go2 _ ⟨ρ + 1, _, most, last, rfl, by omega, rfl, fun r hr hbr x y e => ?_, hat⟩
        rcases Nat.lt_or_ge r ρ with q | q
        · exact hup r q hbr x y e
        · obtain rfl : r = ρ := by omega
          rw [hb] at hbr; cases hbr
      | true =>
        have hbg := bit_ge hb
        have hx : c - 2 ^ ρ < B.length := by
          have := Nat.pow_pos (n := ρ) (show 0 < 2 by decide)
          omega
        have eB : B[c - 2 ^ ρ]? = some B[c - 2 ^ ρ] := List.getElem?_eq_getElem hx
        generalize B[c - 2 ^ ρ] = pr at eB
        obtain ⟨x, y⟩ := pr
        have gsub : L2.atI (B.map pairD) ((c : Int) - 1 * 2 ^ ((ρ : Int)).toNat) = some (.tup [.int (x : Int), .int (y : Int)]) := by
          rw [idx_sub hb]
          refine at_nat ?_
          rw [List.getElem?_map, eB]; rfl
        walk_at "ev"
        refine i_shl ⟨by omega, by omega, by decide⟩ ?_
        walk_at "ev"
        refine g_go rfl gsub ?_
        walk_at "ev"
        refine if_d (fun q => ?_) (fun q => ?_)
        · walk_at "ev"
          refine i_shl ⟨by omega, by omega, by decide⟩ ?_
          walk_at "ev"
          refine g_go rfl gsub ?_
          walk_at "ev"
          refine ⟨rfl, ?_⟩
          refine z_nl ?_
          refine go2 _ ⟨ρ + 1, _, x, ρ, rfl, by omega, rfl, fun r hr hbr x' y' e => ?_, .inr ⟨ρ, x, y, hlt2, hb, eB, rfl, rfl⟩⟩
          rcases Nat.lt_or_ge r ρ with q1 | q1
          · have := hup r q1 hbr x' y' e
            omega
          · obtain rfl : r = ρ := by omega
            rw [eB] at e; cases e
            exact Int.le_refl _
        · refine z_nl ?_
          refine go2 _ ⟨ρ + 1, _, most, last, rfl, by omega, rfl, fun r hr hbr x' y' e => ?_, hat⟩
          rcases Nat.lt_or_ge r ρ with q1 | q1
          · exact hup r q1 hbr x' y' e
          · obtain rfl : r = ρ := by omega
            rw [eB] at e; cases e
            omega
end Z26

namespace Z26
open PySem L2 Z Z.V
section
variable {S : Nat → SpC} {x : XP} {env : Z.Env} {n bk ct : Z.Env → Prop} {rt : R → Z.Env → Prop} {i j l : Nat} {e : E}
def NappE (i : Nat) (n : Z.Env → Prop) (t : T) (env2 : Z.Env) : Prop := match nestT env2[i]? with
  | some ts => ts.length < sizeLine ∧ n (env2.set i (some (.n (ts ++ [t]))))
  | none => False
theorem z_napp {ts : List T} (h0 : nestT env[i]? = some ts) (h : (rd S x e).1 env fun r env1 => takR r env1 fun t env2 => NappE i n t env2) : rdS S x (.napp i e) ⟨n, rt, bk, ct⟩ env := by
  simp only [rdS]
  exact ⟨by rw [h0]; rfl, h⟩
theorem napp_go {ts : List T} {t : T} (h0 : nestT env[i]? = some ts) (h1 : ts.length < sizeLine) (h : n (env.set i (some (.n (ts ++ [t]))))) : NappE i n t env := by
  unfold NappE; rw [h0]; exact ⟨h1, h⟩
theorem z_nap {ts : List T} {tj : T} {q : Int} {xs ds : List D} {d : D} (h0 : nestT env[i]? = some ts) (h1 : env[j]? = some (some tj)) (h2 : env[l]? = some (some (.d (.int q)))) (h3 : ts.getLast? = some (.l xs)) (h4 : lstT tj = some ds) (h5 : L2.atI ds q = some d)
    (hz : xs.length < sizeLine) (h : n (env.set i (some (.n (ts.dropLast ++ [.l (xs ++ [d])]))))) : rdS S x (.nap i j l) ⟨n, rt, bk, ct⟩ env := by
  simp only [rdS]
  rw [h0, h1, h2]
  dsimp only
  rw [h3, h4]
  dsimp only
  rw [h5]
  exact ⟨hz, h⟩
theorem z_nrev {ts us : List T} (h0 : nestT env[i]? = some ts) (h1 : revAll ts = some us) (h2 : j < env.length) (h : n ((env.set i (some (.n us))).set j none)) : rdS S x (.nrev i j) ⟨n, rt, bk, ct⟩ env := by
  simp only [rdS]
  rw [h0]
  dsimp only
  rw [h1]
  exact ⟨h2, h⟩
end
abbrev gl (L : List (List Int)) : List T := L.map fun g => .l (zs g)
theorem revAll_gl : ∀ L : List (List Int), revAll (gl L) = some (gl (L.map List.reverse))
  | [] => rfl
  | g :: L => by
    have ih := revAll_gl L
    show (revAll (gl L)).map _ = _
    rw [ih]
    simp only [Option.map_some, List.map_cons]
    congr 2
    unfold zs
    rw [List.map_reverse]
theorem flat_rev : ∀ L : List (List Int), (L.map List.reverse).flatten.length = L.flatten.length
  | [] => rfl
  | g :: L => by simp only [List.map_cons, List.flatten_cons, List.length_append, List.length_reverse, flat_rev L]
abbrev ci (O : List Nat) : List Int := O.map fun (i : Nat) => (i : Int)
theorem nz_take {ds : List Int} {r : Nat} {v : Int} (h : ds[r]? = some v) : nz (ds.take (r + 1)) = nz (ds.take r) ++ (if v = 0 then [] else [v]) := by
  rw [List.take_add_one, h]
  unfold nz
  rw [List.filter_append]
  congr 1
  by_cases q : v = 0 <;> simp [q]
theorem ok7 : ∀ ts k e, S 7 ts k e → rdSs S nox ir7 (endsOf 1 A7 k) (env0 N7 ts) := by
  rintro ts k e ⟨t, ds, rfl, h1, h2, h3, h4, h⟩
  unfold ir7
  show rdSs _ _ _ _ [some t, none, none, none, none, none, none, none, none]
  have hpow : 2 ^ (nz ds).length ≤ 2 ^ 8 := Nat.pow_le_pow_right (by decide) h3
  have hpos : 0 < 2 ^ (nz ds).length := Nat.pow_pos (by decide)
  have gd : ∀ {i : Nat} {v : Int}, ds[i]? = some v → ds.getD i 0 = v := fun {i v} e => by rw [List.getD_eq_getElem?_getD, e]; rfl
  walk_at "ev"
  refine call_go rfl (by walk_at "nd") ⟨t, ds, rfl, h1, h4, ⟨rfl, ?_⟩⟩
  rw [back1 rfl]
  walk_at "ev"
  refine i_lenL h1 ?_
  walk_at "ev"
  refine ⟨by omega, by omega, ?_⟩
  rw [items_rng1]
  refine lcL_by (fun its env acc => ∃ ρ O, its = (List.range' ρ (ds.length - ρ)).map (fun (i : Nat) => D.int (i : Int)) ∧ ρ ≤ ds.length ∧ acc = zs (ci O) ∧ O.length ≤ ρ ∧ (∀ i ∈ O, i < ds.length) ∧ O.map (ds.getD · 0) = nz (ds.take ρ) ∧ env = [some t, none, none, none, none, none, none, none, none]) ?_ ?_ _ _ _ ⟨0, [], rfl, by omega, rfl, by simp, by simp, rfl, rfl⟩
  · rintro env acc ⟨ρ, O, e1, hρ, rfl, hO, hO2, hO3, rfl⟩
    have hρ : ρ = ds.length := by
      have := congrArg List.length e1
      simp at this; omega
    subst hρ
    rw [List.take_length] at hO3
    have hOl : O.length = (nz ds).length := by rw [← hO3, List.length_map]
    walk_at "ev"
    refine it_seq rfl ?_
    refine lcL_by (fun its env acc => ∃ O2 a, its = zs (ci O2) ∧ (∀ i ∈ O2, i < ds.length) ∧ acc = zs a ∧ a ++ O2.map (ds.getD · 0) = nz ds ∧ env = [some t, some (.d (.lst (zs (ci O)))), none, none, none, none, none, none, none]) ?_ ?_ _ _ _ ⟨O, [], rfl, hO2, rfl, hO3, rfl⟩
    · rintro env acc ⟨O2, a, e2, _, rfl, e3, rfl⟩
      obtain rfl : O2 = [] := by
        cases O2 with
        | nil => rfl
        | cons i O2 => cases e2
      have e3 : a = nz ds := by simpa using e3
      subst e3
      walk_at "ev"
      refine call_go rfl (by walk_at "nd") ⟨_, nz ds, rfl, rfl, h3, fun B hB => ⟨rfl, ?_⟩⟩
      rw [back_t]
      walk_at "ev"
      refine ⟨by rw [sizeLine_eq]; decide, ?_⟩
      walk_at "ev"
      obtain ⟨M, rM, eM, pM⟩ := best_pre hB (2 ^ (nz ds).length - 1) (by omega)
      rw [sel_full] at pM
      have mM := most_of_pre (by rw [nz_sum]; exact h4) pM
      refine whN_by (fun c env => ∃ L f4 lf o6 o7 o8, env = [some t, some (.d (.lst (zs (ci O)))), some (.l (B.map pairD)), some (.d (.int (c : Int))), some f4, some (.d (.int lf)), o6, o7, o8] ∧ nestT (some (some f4)) = some (gl L) ∧ c < 2 ^ (nz ds).length ∧ lf = - (sel (nz ds) c).sum ∧
        L.flatten.length + (sel (nz ds) c).length = (nz ds).length ∧ (∃ m r, B[c]? = some (m, r) ∧ L.length + m = M) ∧ ((sel (nz ds) c).sum ≠ 0 → L ≠ [])) ?_ (m := 2 ^ (nz ds).length - 1) ?_
      · rintro c env N ⟨L, f4, lf, o6, o7, o8, rfl, hf4, hc, rfl, hfl, ⟨m, r, eB, hm⟩, hne⟩ go
        walk_at "ev"
        refine if_n (fun q => ?_) (fun q => ?_)
        · have c0 : 0 < c := by omega
          obtain ⟨m', r', x, y, b1, b2, b3, b4, b5, b6⟩ := hB.2.2 c c0 hc
          rw [eB] at b1; cases b1
          obtain ⟨v, ev1, pv⟩ := sel_drop b2 b3
          have hsum : (sel (nz ds) c).sum = v + (sel (nz ds) (c - 2 ^ r)).sum := by rw [sum_perm pv, List.sum_cons]
          have hlen : (sel (nz ds) c).length = (sel (nz ds) (c - 2 ^ r)).length + 1 := by rw [pv.length_eq, List.length_cons]
          have hbg := bit_ge b3
          have hpp := Nat.pow_pos (n := r) (show 0 < 2 by decide)
          -- the index that the rank stands for
          obtain ⟨io, hio, hds⟩ : ∃ io, O[r]? = some io ∧ ds[io]? = some v := by
            have hr : r < O.length := by omega
            refine ⟨O[r], List.getElem?_eq_getElem hr, ?_⟩
            have hlt := hO2 O[r] (List.getElem_mem hr)
            rw [← hO3, List.getElem?_map, List.getElem?_eq_getElem hr] at ev1
            simp only [Option.map_some, Option.some.injEq] at ev1
            rw [List.getElem?_eq_getElem hlt]
            rw [gd (List.getElem?_eq_getElem hlt)] at ev1
            rw [ev1]
          have a0 : (zs (ci O))[r]? = some (.int (io : Int)) := by rw [zs_get, List.getElem?_map, hio]; rfl
          have rest : ∀ (L' : List (List Int)) (f4 : T), nestT (some (some f4)) = some (gl L') → L' ≠ [] → L'.length + x = M → L'.flatten.length = L.flatten.length → rdSs S nox [.asg (.nm 7) (.sub (.sub (.v 2) (.v 3)) (.k (.int 1))), .nap 4 1 7, .aug 5 .add (.sub (.v 0) (.sub (.v 1) (.v 7))), .aug 3 .sub (.bin .shl (.k (.int 1)) (.v 7))]
              ⟨N, (endsOf 1 A7 k).rt, rdSs S nox [.nrev 4 6, .ret (.v 4)] (endsOf 1 A7 k), N⟩ [some t, some (.d (.lst (zs (ci O)))), some (.l (B.map pairD)), some (.d (.int (c : Int))), some f4, some (.d (.int (- (sel (nz ds) c).sum))), o6, o7, o8] := by
            intro L' f4 hf4 hne' hM' hfl'
            walk_at "ev"
            refine g_go (d := pairD (m, r)) rfl (at_nat ?_) ?_
            · rw [List.getElem?_map, eB]; rfl
            walk_at "ev"
            have hgl : (gl L').getLast? = some (.l (zs (L'.getLast hne'))) := by
              rw [List.getLast?_map, List.getLast?_eq_some_getLast hne']; rfl
            refine z_nap hf4 rfl rfl hgl rfl (at_nat a0) ?_ ?_
            · rw [sizeLine_eq, zs_len]
              have : (L'.getLast hne').length ≤ L'.flatten.length := by
                have h9 := List.dropLast_concat_getLast hne'
                have h8 := congrArg (fun l : List (List Int) => l.flatten.length) h9
                simp only [List.flatten_append, List.length_append, List.flatten_singleton] at h8
                omega
              omega
            have e7 : (gl L').dropLast ++ [T.l (zs (L'.getLast hne') ++ [D.int (io : Int)])] = gl (L'.dropLast ++ [L'.getLast hne' ++ [(io : Int)]]) := by
              simp only [gl, List.map_append, List.map_dropLast, List.map_cons, List.map_nil, zs_app]
              rfl
            rw [e7]
            walk_at "ev"
            refine g_go (d := .int (io : Int)) rfl (at_nat a0) ?_
            walk_at "ev"
            refine g_go (d := .int v) (seq_of_lst h1) (at_nat (by rw [zs_get, hds]; rfl)) ?_
            walk_at "ev"
            show rdSs S nox [.aug 3 .sub (.bin .shl (.k (.int 1)) (.v 7))] ⟨N, (endsOf 1 A7 k).rt, rdSs S nox [.nrev 4 6, .ret (.v 4)] (endsOf 1 A7 k), N⟩ [some t, some (.d (.lst (zs (ci O)))), some (.l (B.map pairD)), some (.d (.int (c : Int))), some (.n (gl (L'.dropLast ++ [L'.getLast hne' ++ [(io : Int)]]))), some (.d (.int (- (sel (nz ds) c).sum + v))), o6, some (.d (.int (r : Int))), o8]
            walk_at "ev"
            refine i_shl ⟨by omega, by omega, by decide⟩ ?_
            walk_at "ev"
            show rdSs S nox [] ⟨N, (endsOf 1 A7 k).rt, rdSs S nox [.nrev 4 6, .ret (.v 4)] (endsOf 1 A7 k), N⟩ [some t, some (.d (.lst (zs (ci O)))), some (.l (B.map pairD)), some (.d (.int ((c : Int) - 1 * 2 ^ ((r : Int)).toNat))), some (.n (gl (L'.dropLast ++ [L'.getLast hne' ++ [(io : Int)]]))), some (.d (.int (- (sel (nz ds) c).sum + v))), o6, some (.d (.int (r : Int))), o8]
            rw [idx_sub b3]
            refine z_nl ?_
            refine go (c - 2 ^ r) _ (by omega) ⟨L'.dropLast ++ [L'.getLast hne' ++ [(io : Int)]], _, _, _, _, _, rfl, rfl, by omega, by omega, ?_, ⟨x, y, b4, ?_⟩, fun _ => by simp⟩
            · have h9 := List.dropLast_concat_getLast hne'
              have h8 := congrArg (fun l : List (List Int) => l.flatten.length) h9
              simp only [List.flatten_append, List.length_append, List.flatten_singleton, List.length_singleton] at h8 ⊢
              omega
            · have h9 := List.dropLast_concat_getLast hne'
              have h8 := congrArg List.length h9
              simp only [List.length_append, List.length_singleton] at h8 ⊢
              omega
          have b5 : m = x + (if (sel (nz ds) c).sum = 0 then 1 else 0) := by
            rw [b5, sumsF_get _ hc]; simp
          walk_at "ev"
          refine if_d (fun q2 => ?_) (fun q2 => ?_)
          · have hs0 : (sel (nz ds) c).sum = 0 := by omega
            rw [if_pos hs0] at b5
            walk_at "ev"
            refine z_napp hf4 ?_
            walk_at "ev"
            refine ⟨by rw [sizeLine_eq]; decide, ?_⟩
            walk_at "ev"
            have hLl : L.length ≤ 8 := by have := lots_le mM.1; omega
            refine napp_go hf4 (by rw [sizeLine_eq, List.length_map]; omega) ?_
            rw [show gl L ++ [T.l []] = gl (L ++ [[]]) by simp [gl, zs]]
            refine z_nl ?_
            exact rest (L ++ [[]]) (.n (gl (L ++ [[]]))) rfl (by simp) (by simp; omega) (by simp)
          · have hs0 : ¬ (sel (nz ds) c).sum = 0 := by omega
            rw [if_neg hs0] at b5
            refine z_nl ?_
            exact rest L f4 hf4 (hne hs0) (by omega) rfl
        · have c0 : c = 0 := by omega
          subst c0
          rw [hB.2.1] at eB; cases eB
          walk_at "ev"
          refine z_nrev hf4 (revAll_gl L) (by show 6 < 9; decide) ?_
          walk_at "ev"
          show k (.n (gl (L.map List.reverse))) [some t]
          refine h _ ?_ ?_
          · rw [flat_rev]
            rw [sel_zero] at hfl
            simpa using hfl
          · rw [List.length_map, show L.length = M by omega]
            exact mM
      · refine ⟨[], .l [], 0, none, none, none, ?_, rfl, by omega, ?_, ?_, ⟨M, rM, eM, by simp⟩, ?_⟩
        · rw [List.length_map, hB.1]
          have e8 : ((2 ^ (nz ds).length : Nat) : Int) - 1 = ((2 ^ (nz ds).length - 1 : Nat) : Int) := by omega
          rw [e8]
          rfl
        · rw [sel_full, nz_sum, h4]; rfl
        · rw [sel_full]; simp
        · rw [sel_full, nz_sum, h4]; exact fun z => absurd rfl z
    · rintro d its env acc N ⟨O2, a, e2, e0, rfl, e3, rfl⟩ go
      cases O2 with
      | nil => cases e2
      | cons i O2 =>
        cases e2
        have hi : i < ds.length := e0 i (by simp)
        have hl : a.length ≤ 8 := by
          have := congrArg List.length e3
          simp at this; omega
        walk_at "ev"
        refine g_go (d := .int ds[i]) (seq_of_lst h1) (at_nat (by rw [zs_get, List.getElem?_eq_getElem hi]; rfl)) ?_
        walk_at "ev"
        refine ⟨by rw [sizeLine_eq, zs_len]; omega, ?_⟩
        refine go _ _ ⟨O2, a ++ [ds[i]], rfl, fun j hj => e0 j (by simp [hj]), by rw [zs_app]; rfl, ?_, rfl⟩
        rw [List.append_assoc, ← e3, List.map_cons, gd (List.getElem?_eq_getElem hi)]
        rfl
  · rintro d its env acc N ⟨ρ, O, e1, hρ, rfl, hO, hO2, hO3, rfl⟩ go
    have hlt : ρ < ds.length := by
      rcases Nat.lt_or_ge ρ ds.length with q | q
      · exact q
      · rw [show ds.length - ρ = 0 by omega] at e1
        simp at e1
    rw [show ds.length - ρ = (ds.length - (ρ + 1)) + 1 by omega, List.range'_succ, List.map_cons, List.cons.injEq] at e1
    obtain ⟨rfl, rfl⟩ := e1
    have er : ds[ρ]? = some ds[ρ] := List.getElem?_eq_getElem hlt
    walk_at "ev"
    refine g_go (d := .int ds[ρ]) (seq_of_lst h1) (at_nat (by rw [zs_get, er]; rfl)) ?_
    walk_at "ev"
    refine if_n (fun q => ?_) (fun q => ?_)
    · walk_at "ev"
      refine ⟨by rw [sizeLine_eq, zs_len, List.length_map]; omega, ?_⟩
      refine go _ _ ⟨ρ + 1, O ++ [ρ], rfl, by omega, ?_, by simp; omega, ?_, ?_, rfl⟩
      · rw [show ci (O ++ [ρ]) = ci O ++ [(ρ : Int)] by simp [ci], zs_app]; rfl
      · intro i hi
        rcases List.mem_append.mp hi with hi | hi
        · exact hO2 i hi
        · have : i = ρ := by simpa using hi
          omega
      · rw [nz_take er, if_neg q, List.map_append, hO3, List.map_cons, gd er]; rfl
    · refine go _ _ ⟨ρ + 1, O, rfl, by omega, rfl, by omega, hO2, ?_, rfl⟩
      rw [nz_take er, if_pos q, List.append_nil, hO3]
end Z26

namespace Z26
open PySem L2 Z Z.V
section
variable {P : Program} {w : World} {K : PySem.W.Frag} {mg : PySem.Str → Option Value} {base : Heap} {C : CT}
theorem tab (ar : Arnd K mg C) (h0 : Has K mg ⟨"_law_coin", ["purse", "many"], []⟩ (st 11)) (h1 : Has K mg ⟨"_law_debts", ["purse"], []⟩ (st 12)) (h2 : Has K mg ⟨"_law_most_lots", ["debts"], []⟩ (st 13)) (h3 : Has K mg ⟨"_law_fewest_owed", ["debts"], []⟩ (st 14)) (h4 : Has K mg ⟨"check_even", ["balances"], []⟩ (st 4)) (h5 : Has K mg ⟨"sums_of", ["amounts"], []⟩ (st 5)) (h6 : Has K mg ⟨"last_ones", ["amounts"], []⟩ (st 6)) (h7 : Has K mg ⟨"groups", ["balances"], []⟩ (st 7)) (h8 : Has K mg ⟨"fewest", ["balances"], [0]⟩ (st 8)) (h9 : Has K mg ⟨"_law_right", ["purse"], []⟩ (st 15)) (h10 : Has K mg ⟨"_law_purse", ["script", "place"], []⟩ (st 10)) (h11 : Has K mg ⟨"law", ["script"], []⟩ (st 16)) : Tab P w K mg base C fis S 12 := by
  have t0 := Tab.zero (P := P) (w := w) (K := K) (mg := mg) (base := base) (C := C) (fis := fis) (S := S)
  have t1 := Tab.one (ir := ir0) (N := N0) (asg := A0) t0 ar rfl h0 sc0 mo0 ln0 ck0 ok0
  have t2 := Tab.one (ir := ir1) (N := N1) (asg := A1) t1 ar rfl h1 sc1 mo1 ln1 ck1 ok1
  have t3 := Tab.one (ir := ir2) (N := N2) (asg := A2) t2 ar rfl h2 sc2 mo2 ln2 ck2 ok2
  have t4 := Tab.one (ir := ir3) (N := N3) (asg := A3) t3 ar rfl h3 sc3 mo3 ln3 ck3 ok3
  have t5 := Tab.one (ir := ir4) (N := N4) (asg := A4) t4 ar rfl h4 sc4 mo4 ln4 ck4 ok4
  have t6 := Tab.one (ir := ir5) (N := N5) (asg := A5) t5 ar rfl h5 sc5 mo5 ln5 ck5 ok5
  have t7 := Tab.one (ir := ir6) (N := N6) (asg := A6) t6 ar rfl h6 sc6 mo6 ln6 ck6 ok6
  have t8 := Tab.one (ir := ir7) (N := N7) (asg := A7) t7 ar rfl h7 sc7 mo7 ln7 ck7 ok7
  have t9 := Tab.one (ir := ir8) (N := N8) (asg := A8) t8 ar rfl h8 sc8 mo8 ln8 ck8 ok8
  have t10 := Tab.one (ir := ir9) (N := N9) (asg := A9) t9 ar rfl h9 sc9 mo9 ln9 ck9 ok9
  have t11 := Tab.one (ir := ir10) (N := N10) (asg := A10) t10 ar rfl h10 sc10 mo10 ln10 ck10 ok10
  have t12 := Tab.one (ir := ir11) (N := N11) (asg := A11) t11 ar rfl h11 sc11 mo11 ln11 ck11 ok11
  exact t12
theorem all_at {h : Heap} (X : K.In h) (G : h.Ns mainGlobals mg) (hK : K = C.K)
    {f0 : Addr} {od0 an0 : Option Addr} {sl0 : Array (Option Value)} {oc0 kV0 dc0 pm0 cd0 ct0 : Value}
    {f1 : Addr} {od1 an1 : Option Addr} {sl1 : Array (Option Value)} {oc1 kV1 dc1 pm1 cd1 ct1 : Value}
    {f2 : Addr} {od2 an2 : Option Addr} {sl2 : Array (Option Value)} {oc2 kV2 dc2 pm2 cd2 ct2 : Value}
    {f3 : Addr} {od3 an3 : Option Addr} {sl3 : Array (Option Value)} {oc3 kV3 dc3 pm3 cd3 ct3 : Value}
    {f4 : Addr} {od4 an4 : Option Addr} {sl4 : Array (Option Value)} {oc4 kV4 dc4 pm4 cd4 ct4 : Value}
    {f5 : Addr} {od5 an5 : Option Addr} {sl5 : Array (Option Value)} {oc5 kV5 dc5 pm5 cd5 ct5 : Value}
    {f6 : Addr} {od6 an6 : Option Addr} {sl6 : Array (Option Value)} {oc6 kV6 dc6 pm6 cd6 ct6 : Value}
    {f7 : Addr} {od7 an7 : Option Addr} {sl7 : Array (Option Value)} {oc7 kV7 dc7 pm7 cd7 ct7 : Value}
    {f8 : Addr} {od8 an8 : Option Addr} {sl8 : Array (Option Value)} {oc8 kV8 dc8 pm8 cd8 ct8 : Value}
    {f9 : Addr} {od9 an9 : Option Addr} {sl9 : Array (Option Value)} {oc9 kV9 dc9 pm9 cd9 ct9 : Value}
    {f10 : Addr} {od10 an10 : Option Addr} {sl10 : Array (Option Value)} {oc10 kV10 dc10 pm10 cd10 ct10 : Value}
    {f11 : Addr} {od11 an11 : Option Addr} {sl11 : Array (Option Value)} {oc11 kV11 dc11 pm11 cd11 ct11 : Value}
    (a0 : PySem.W.nsIn K mainGlobals "_law_coin" = some (some (.ref f0))) (l0 : K.lookup f0 = some ⟨oc0, od0, .func (PySem.W.fnOf "_law_coin" "_law_coin" (defArgs (st 11)) (defBody (st 11)) (defScope (st 11)) .none kV0 dc0 pm0 an0 cd0 ct0), sl0⟩) (c0 : PySem.W.codeIn K cd0 "_law_coin" = true) (k0 : PySem.W.keepIn K (.ref f0) = true)
    (a1 : PySem.W.nsIn K mainGlobals "_law_debts" = some (some (.ref f1))) (l1 : K.lookup f1 = some ⟨oc1, od1, .func (PySem.W.fnOf "_law_debts" "_law_debts" (defArgs (st 12)) (defBody (st 12)) (defScope (st 12)) .none kV1 dc1 pm1 an1 cd1 ct1), sl1⟩) (c1 : PySem.W.codeIn K cd1 "_law_debts" = true) (k1 : PySem.W.keepIn K (.ref f1) = true)
    (a2 : PySem.W.nsIn K mainGlobals "_law_most_lots" = some (some (.ref f2))) (l2 : K.lookup f2 = some ⟨oc2, od2, .func (PySem.W.fnOf "_law_most_lots" "_law_most_lots" (defArgs (st 13)) (defBody (st 13)) (defScope (st 13)) .none kV2 dc2 pm2 an2 cd2 ct2), sl2⟩) (c2 : PySem.W.codeIn K cd2 "_law_most_lots" = true) (k2 : PySem.W.keepIn K (.ref f2) = true)
    (a3 : PySem.W.nsIn K mainGlobals "_law_fewest_owed" = some (some (.ref f3))) (l3 : K.lookup f3 = some ⟨oc3, od3, .func (PySem.W.fnOf "_law_fewest_owed" "_law_fewest_owed" (defArgs (st 14)) (defBody (st 14)) (defScope (st 14)) .none kV3 dc3 pm3 an3 cd3 ct3), sl3⟩) (c3 : PySem.W.codeIn K cd3 "_law_fewest_owed" = true) (k3 : PySem.W.keepIn K (.ref f3) = true)
    (a4 : PySem.W.nsIn K mainGlobals "check_even" = some (some (.ref f4))) (l4 : K.lookup f4 = some ⟨oc4, od4, .func (PySem.W.fnOf "check_even" "check_even" (defArgs (st 4)) (defBody (st 4)) (defScope (st 4)) .none kV4 dc4 pm4 an4 cd4 ct4), sl4⟩) (c4 : PySem.W.codeIn K cd4 "check_even" = true) (k4 : PySem.W.keepIn K (.ref f4) = true)
    (a5 : PySem.W.nsIn K mainGlobals "sums_of" = some (some (.ref f5))) (l5 : K.lookup f5 = some ⟨oc5, od5, .func (PySem.W.fnOf "sums_of" "sums_of" (defArgs (st 5)) (defBody (st 5)) (defScope (st 5)) .none kV5 dc5 pm5 an5 cd5 ct5), sl5⟩) (c5 : PySem.W.codeIn K cd5 "sums_of" = true) (k5 : PySem.W.keepIn K (.ref f5) = true)
    (a6 : PySem.W.nsIn K mainGlobals "last_ones" = some (some (.ref f6))) (l6 : K.lookup f6 = some ⟨oc6, od6, .func (PySem.W.fnOf "last_ones" "last_ones" (defArgs (st 6)) (defBody (st 6)) (defScope (st 6)) .none kV6 dc6 pm6 an6 cd6 ct6), sl6⟩) (c6 : PySem.W.codeIn K cd6 "last_ones" = true) (k6 : PySem.W.keepIn K (.ref f6) = true)
    (a7 : PySem.W.nsIn K mainGlobals "groups" = some (some (.ref f7))) (l7 : K.lookup f7 = some ⟨oc7, od7, .func (PySem.W.fnOf "groups" "groups" (defArgs (st 7)) (defBody (st 7)) (defScope (st 7)) .none kV7 dc7 pm7 an7 cd7 ct7), sl7⟩) (c7 : PySem.W.codeIn K cd7 "groups" = true) (k7 : PySem.W.keepIn K (.ref f7) = true)
    (a8 : PySem.W.nsIn K mainGlobals "fewest" = some (some (.ref f8))) (l8 : K.lookup f8 = some ⟨oc8, od8, .func (PySem.W.fnOf "fewest" "fewest" (defArgs (st 8)) (defBody (st 8)) (defScope (st 8)) .none kV8 dc8 pm8 an8 cd8 ct8), sl8⟩) (c8 : PySem.W.codeIn K cd8 "fewest" = true) (k8 : PySem.W.keepIn K (.ref f8) = true)
    (a9 : PySem.W.nsIn K mainGlobals "_law_right" = some (some (.ref f9))) (l9 : K.lookup f9 = some ⟨oc9, od9, .func (PySem.W.fnOf "_law_right" "_law_right" (defArgs (st 15)) (defBody (st 15)) (defScope (st 15)) .none kV9 dc9 pm9 an9 cd9 ct9), sl9⟩) (c9 : PySem.W.codeIn K cd9 "_law_right" = true) (k9 : PySem.W.keepIn K (.ref f9) = true)
    (a10 : PySem.W.nsIn K mainGlobals "_law_purse" = some (some (.ref f10))) (l10 : K.lookup f10 = some ⟨oc10, od10, .func (PySem.W.fnOf "_law_purse" "_law_purse" (defArgs (st 10)) (defBody (st 10)) (defScope (st 10)) .none kV10 dc10 pm10 an10 cd10 ct10), sl10⟩) (c10 : PySem.W.codeIn K cd10 "_law_purse" = true) (k10 : PySem.W.keepIn K (.ref f10) = true)
    (a11 : PySem.W.nsIn K mainGlobals "law" = some (some (.ref f11))) (l11 : K.lookup f11 = some ⟨oc11, od11, .func (PySem.W.fnOf "law" "law" (defArgs (st 16)) (defBody (st 16)) (defScope (st 16)) .none kV11 dc11 pm11 an11 cd11 ct11), sl11⟩) (c11 : PySem.W.codeIn K cd11 "law" = true) (k11 : PySem.W.keepIn K (.ref f11) = true)
    (z0 : PySem.W.nsIn K mainGlobals "len" = some none) (z1 : PySem.W.nsIn K mainGlobals "sum" = some none) (z2 : PySem.W.nsIn K mainGlobals "min" = some none) (z3 : PySem.W.nsIn K mainGlobals "max" = some none) (z4 : PySem.W.nsIn K mainGlobals "abs" = some none) (z5 : PySem.W.nsIn K mainGlobals "int" = some none) (z6 : PySem.W.nsIn K mainGlobals "list" = some none) (z7 : PySem.W.nsIn K mainGlobals "tuple" = some none) (z8 : PySem.W.nsIn K mainGlobals "str" = some none) (z9 : PySem.W.nsIn K mainGlobals "repr" = some none) (z10 : PySem.W.nsIn K mainGlobals "all" = some none) (z11 : PySem.W.nsIn K mainGlobals "any" = some none) (z12 : PySem.W.nsIn K mainGlobals "sorted" = some none) (z13 : PySem.W.nsIn K mainGlobals "divmod" = some none) (z14 : PySem.W.nsIn K mainGlobals "range" = some none) : FnAt P w K mg base C 12 "law" ["script"] [] (S 11) := by
  have ar : Arnd K mg C := ⟨hK, fun b => by
    cases b
    all_goals first
      | exact PySem.W.mg_none_of X G z0
      | exact PySem.W.mg_none_of X G z1
      | exact PySem.W.mg_none_of X G z2
      | exact PySem.W.mg_none_of X G z3
      | exact PySem.W.mg_none_of X G z4
      | exact PySem.W.mg_none_of X G z5
      | exact PySem.W.mg_none_of X G z6
      | exact PySem.W.mg_none_of X G z7
      | exact PySem.W.mg_none_of X G z8
      | exact PySem.W.mg_none_of X G z9
      | exact PySem.W.mg_none_of X G z10
      | exact PySem.W.mg_none_of X G z11
      | exact PySem.W.mg_none_of X G z12
      | exact PySem.W.mg_none_of X G z13, PySem.W.mg_none_of X G z14⟩
  have h0 : Has K mg ⟨"_law_coin", ["purse", "many"], []⟩ (st 11) := has_mk X G a0 l0 c0 k0 (fun us hl => match us, hl with | [_, _], _ => rfl) (fun n hn => by simp at hn)
  have h1 : Has K mg ⟨"_law_debts", ["purse"], []⟩ (st 12) := has_mk X G a1 l1 c1 k1 (fun us hl => match us, hl with | [_], _ => rfl) (fun n hn => by simp at hn)
  have h2 : Has K mg ⟨"_law_most_lots", ["debts"], []⟩ (st 13) := has_mk X G a2 l2 c2 k2 (fun us hl => match us, hl with | [_], _ => rfl) (fun n hn => by simp at hn)
  have h3 : Has K mg ⟨"_law_fewest_owed", ["debts"], []⟩ (st 14) := has_mk X G a3 l3 c3 k3 (fun us hl => match us, hl with | [_], _ => rfl) (fun n hn => by simp at hn)
  have h4 : Has K mg ⟨"check_even", ["balances"], []⟩ (st 4) := has_mk X G a4 l4 c4 k4 (fun us hl => match us, hl with | [_], _ => rfl) (fun n hn => by simp at hn)
  have h5 : Has K mg ⟨"sums_of", ["amounts"], []⟩ (st 5) := has_mk X G a5 l5 c5 k5 (fun us hl => match us, hl with | [_], _ => rfl) (fun n hn => by simp at hn)
  have h6 : Has K mg ⟨"last_ones", ["amounts"], []⟩ (st 6) := has_mk X G a6 l6 c6 k6 (fun us hl => match us, hl with | [_], _ => rfl) (fun n hn => by simp at hn)
  have h7 : Has K mg ⟨"groups", ["balances"], []⟩ (st 7) := has_mk X G a7 l7 c7 k7 (fun us hl => match us, hl with | [_], _ => rfl) (fun n hn => by simp at hn)
  have h8 : Has K mg ⟨"fewest", ["balances"], [0]⟩ (st 8) := has_mk X G a8 l8 c8 k8 (fun us hl => match us, hl with | [_], _ => rfl) (fun n hn s us ws hu hw => by
    have hn : n = 0 := by simpa using hn
    rcases hn with rfl
    · match us, ws, hu, hw with | [], [_], _, _ => exact .of_eq rfl)
  have h9 : Has K mg ⟨"_law_right", ["purse"], []⟩ (st 15) := has_mk X G a9 l9 c9 k9 (fun us hl => match us, hl with | [_], _ => rfl) (fun n hn => by simp at hn)
  have h10 : Has K mg ⟨"_law_purse", ["script", "place"], []⟩ (st 10) := has_mk X G a10 l10 c10 k10 (fun us hl => match us, hl with | [_, _], _ => rfl) (fun n hn => by simp at hn)
  have h11 : Has K mg ⟨"law", ["script"], []⟩ (st 16) := has_mk X G a11 l11 c11 k11 (fun us hl => match us, hl with | [_], _ => rfl) (fun n hn => by simp at hn)
  exact (tab ar h0 h1 h2 h3 h4 h5 h6 h7 h8 h9 h10 h11) 11 _ rfl
end
end Z26
open PySem PySem.W PyProof.Rows in
set_option maxRecDepth 100000 in
set_option maxHeartbeats 0 in
theorem PySem.Challenge.cw_owedafresh_k26_fewest_payments_holds : PySem.Challenge.rw_owedafresh_k26_fewest_payments.Holds := by
  w_on; o_law; k_head; (case hw => w_witness2)
  k_fill
  refine Z.walk_at (l := PySem.Challenge.rw_owedafresh_k26_fewest_payments) (n := 63) (k := 12) (x := "script") (sp := Z26.S 11) (C := fun w => ⟨fun _ => 0, _⟩) rfl (by decide) rfl ⟨rfl, by decide, by decide⟩ (fun _ => rfl) (fun w h Y => PySem.W.kIn_of Y) ?F Z26.law_ok
  case F =>
    intro w mg fa h KX G hmg base _ _
    refine' Z26.all_at KX G rfl ?a0 ?l0 ?c0 ?k0 ?a1 ?l1 ?c1 ?k1 ?a2 ?l2 ?c2 ?k2 ?a3 ?l3 ?c3 ?k3 ?a4 ?l4 ?c4 ?k4 ?a5 ?l5 ?c5 ?k5 ?a6 ?l6 ?c6 ?k6 ?a7 ?l7 ?c7 ?k7 ?a8 ?l8 ?c8 ?k8 ?a9 ?l9 ?c9 ?k9 ?a10 ?l10 ?c10 ?k10 ?a11 ?l11 ?c11 ?k11 ?z0 ?z1 ?z2 ?z3 ?z4 ?z5 ?z6 ?z7 ?z8 ?z9 ?z10 ?z11 ?z12 ?z13 ?z14
    (case a0 => k_is)
    (case l0 => k_is)
    (case c0 => k_is)
    (case k0 => k_is)
    (case a1 => k_is)
    (case l1 => k_is)
    (case c1 => k_is)
    (case k1 => k_is)
    (case a2 => k_is)
    (case l2 => k_is)
    (case c2 => k_is)
    (case k2 => k_is)
    (case a3 => k_is)
    (case l3 => k_is)
    (case c3 => k_is)
    (case k3 => k_is)
    (case a4 => k_is)
    (case l4 => k_is)
    (case c4 => k_is)
    (case k4 => k_is)
    (case a5 => k_is)
    (case l5 => k_is)
    (case c5 => k_is)
    (case k5 => k_is)
    (case a6 => k_is)
    (case l6 => k_is)
    (case c6 => k_is)
    (case k6 => k_is)
    (case a7 => k_is)
    (case l7 => k_is)
    (case c7 => k_is)
    (case k7 => k_is)
    (case a8 => k_is)
    (case l8 => k_is)
    (case c8 => k_is)
    (case k8 => k_is)
    (case a9 => k_is)
    (case l9 => k_is)
    (case c9 => k_is)
    (case k9 => k_is)
    (case a10 => k_is)
    (case l10 => k_is)
    (case c10 => k_is)
    (case k10 => k_is)
    (case a11 => k_is)
    (case l11 => k_is)
    (case c11 => k_is)
    (case k11 => k_is)
    (case z0 => k_is)
    (case z1 => k_is)
    (case z2 => k_is)
    (case z3 => k_is)
    (case z4 => k_is)
    (case z5 => k_is)
    (case z6 => k_is)
    (case z7 => k_is)
    (case z8 => k_is)
    (case z9 => k_is)
    (case z10 => k_is)
    (case z11 => k_is)
    (case z12 => k_is)
    (case z13 => k_is)
    (case z14 => k_is)
#print axioms PySem.Challenge.cw_owedafresh_k26_fewest_payments_holds
