import PyProof.Rows.All
import HandS.ForMost
import HandS.Wide
import HandS.EndBits
import HandS.IsInst
import HandS.TupAny
import HandS.TupMul
import HandS.SortInts
import HandS.Deep
import HandS.Iter
import PyProof.ReprLen
import HandS.Zip
import HandS.Style
import HandS.More
import HandS.Dict
import HandS.Text
import HandS.WordsDict
import HandS.RaiseMore
import KE.KEqNest
import PyProof.StrOps2
import PyProof.FitsStr
import HandS.SetFor
import HandS.Strs
import HandS.SortRule
import HandS.ReplaceLit
import PySem.Challenge.RW_gatedpolicy_k49_headers_that_go_on
set_option Elab.async false
set_option linter.all false
set_option maxRecDepth 100000
set_option maxHeartbeats 4000000
/-! DLa: data under values; what a frame owns; the judgements over data. -/
namespace DL
open PySem PySem.Spec PyProof.Rows L2

/-- data: a value with all that it holds -/
inductive D where
  | non | bl (b : Bool) | int (i : Int) | str (x : Str) | fn (a : Addr) | ty (n : String)
  | tup (ds : List D) | lst (ds : List D) | dK (kvs : List (Key × D)) | dT (kvs : List (List Key × D))

/-- a tuple that is tracked, or of the written part -/
def TupAt (K : PySem.W.Frag) (H : Hp) (a : Addr) (xs : List V) : Prop :=
  H a = some (.tup xs) ∨ ∃ (o : Obj) (its : Array Value) (n : Nat), K.lookup a = some o ∧ o.cls = .type "tuple" ∧ o.data = .seq its n ∧ its.size ≤ sizeLine ∧ Vals xs its.toList
theorem TupAt.sq {K : PySem.W.Frag} {H : Hp} {a : Addr} {xs : List V} (h : TupAt K H a xs) : SqT K H a xs := by
  rcases h with h | h
  · exact .inl (.inl h)
  · exact .inr h
theorem TupAt.mono {K : PySem.W.Frag} {H H' : Hp} {a : Addr} {xs : List V} (h : TupAt K H a xs) (s : Same H H') : TupAt K H' a xs := by
  rcases h with h | h
  · exact .inl (s _ _ h)
  · exact .inr h
mutual
inductive Rp (K : PySem.W.Frag) (J : Hp) : D → V → Prop
  | non : Rp K J .non .non
  | bl (b : Bool) : Rp K J (.bl b) (.bl b)
  | int (i : Int) : Rp K J (.int i) (.int i)
  | str (x : Str) : Rp K J (.str x) (.str x)
  | fn (a : Addr) : Rp K J (.fn a) (.ref a)
  | ty (n : String) : Rp K J (.ty n) (.ty n)
  | tup {a : Addr} {vs : List V} {ds : List D} : TupAt K J a vs → RpL K J ds vs → Rp K J (.tup ds) (.ref a)
  | lst {a : Addr} {vs : List V} {ds : List D} : J a = some (.lst vs) → RpL K J ds vs → Rp K J (.lst ds) (.ref a)
  | dK {a : Addr} {ws : List (Key × V)} {kvs : List (Key × D)} : J a = some (.dK ws) → RpK K J kvs ws → Rp K J (.dK kvs) (.ref a)
  | dT {a : Addr} {ws : List (List Key × V)} {kvs : List (List Key × D)} : J a = some (.dT ws) → RpT K J kvs ws → Rp K J (.dT kvs) (.ref a)
inductive RpL (K : PySem.W.Frag) (J : Hp) : List D → List V → Prop
  | nil : RpL K J [] []
  | cons {d : D} {v : V} {ds : List D} {vs : List V} : Rp K J d v → RpL K J ds vs → RpL K J (d :: ds) (v :: vs)
inductive RpK (K : PySem.W.Frag) (J : Hp) : List (Key × D) → List (Key × V) → Prop
  | nil : RpK K J [] []
  | cons {k : Key} {d : D} {v : V} {ds : List (Key × D)} {vs : List (Key × V)} : Rp K J d v → RpK K J ds vs → RpK K J ((k, d) :: ds) ((k, v) :: vs)
inductive RpT (K : PySem.W.Frag) (J : Hp) : List (List Key × D) → List (List Key × V) → Prop
  | nil : RpT K J [] []
  | cons {k : List Key} {d : D} {v : V} {ds : List (List Key × D)} {vs : List (List Key × V)} : Rp K J d v → RpT K J ds vs → RpT K J ((k, d) :: ds) ((k, v) :: vs)
end

theorem same_rd {J J' : Hp} {a : Addr} {u : HO} (h : Same J J') (r : Rd J a u) : Rd J' a u := by
  rcases r with r | ⟨o, r⟩
  · exact .inl (h _ _ r)
  · exact .inr ⟨o, h _ _ r⟩
theorem same_sqt {K : PySem.W.Frag} {J J' : Hp} {a : Addr} {xs : List V} (h : Same J J') (r : SqT K J a xs) : SqT K J' a xs := by
  rcases r with r | r
  · exact .inl (same_rd h r)
  · exact .inr r
theorem same_sql {K : PySem.W.Frag} {J J' : Hp} {a : Addr} {xs : List V} (h : Same J J') (r : SqL K J a xs) : SqL K J' a xs := by
  rcases r with r | r
  · exact .inl (same_rd h r)
  · exact .inr r
mutual
theorem Rp.mono {K : PySem.W.Frag} {J J' : Hp} (h : Same J J') : ∀ {d : D} {v : V}, Rp K J d v → Rp K J' d v
  | _, _, .non => .non
  | _, _, .bl b => .bl b
  | _, _, .int i => .int i
  | _, _, .str x => .str x
  | _, _, .fn a => .fn a
  | _, _, .ty n => .ty n
  | _, _, .tup s r => .tup (s.mono h) (RpL.mono h r)
  | _, _, .lst s r => .lst (h _ _ s) (RpL.mono h r)
  | _, _, .dK s r => .dK (h _ _ s) (RpK.mono h r)
  | _, _, .dT s r => .dT (h _ _ s) (RpT.mono h r)
theorem RpL.mono {K : PySem.W.Frag} {J J' : Hp} (h : Same J J') : ∀ {ds : List D} {vs : List V}, RpL K J ds vs → RpL K J' ds vs
  | _, _, .nil => .nil
  | _, _, .cons a r => .cons (Rp.mono h a) (RpL.mono h r)
theorem RpK.mono {K : PySem.W.Frag} {J J' : Hp} (h : Same J J') : ∀ {ds : List (Key × D)} {vs : List (Key × V)}, RpK K J ds vs → RpK K J' ds vs
  | _, _, .nil => .nil
  | _, _, .cons a r => .cons (Rp.mono h a) (RpK.mono h r)
theorem RpT.mono {K : PySem.W.Frag} {J J' : Hp} (h : Same J J') : ∀ {ds : List (List Key × D)} {vs : List (List Key × V)}, RpT K J ds vs → RpT K J' ds vs
  | _, _, .nil => .nil
  | _, _, .cons a r => .cons (Rp.mono h a) (RpT.mono h r)
end
end DL

set_option Elab.async false
set_option linter.all false
set_option maxRecDepth 100000
set_option maxHeartbeats 4000000
/-! DLb: what a frame owns; the judgements over data. -/
namespace DL
open PySem PySem.Spec PyProof.Rows L2

/-- a slot: shared data, or a thing that this frame alone holds -/
inductive OC where
  | d (x : D) | l (ds : List D) | k (kvs : List (Key × D)) | t (kvs : List (List Key × D))
def OC.frz : OC → D
  | .d x => x
  | .l ds => .lst ds
  | .k kvs => .dK kvs
  | .t kvs => .dT kvs
inductive R where
  | sh (d : D) | ol (ds : List D) | oK (kvs : List (Key × D)) | oT (kvs : List (List Key × D)) | st (n : Int) (cs : List Int) | scr (ns : List Int)
  | tp (rest : Int) (cs : List Int) (n : Int) | oL (cs : List OC) | oKC (kvs : List (Key × OC))
abbrev Rho := List (Option R)
inductive Out (α : Type) where
  | ok (a : α) (ρ : Rho) | bad
/-- a value at hand: data, or what a slot holds -/
inductive Hd where
  | dat (d : D) | slt (i : Nat)
def R.frz : R → Option D
  | .sh d => some d
  | .ol ds => some (.lst ds)
  | .oK kvs => some (.dK kvs)
  | .oT kvs => some (.dT kvs)
  | .st _ _ => none
  | .scr _ => none
  | .tp _ _ _ => none
  | .oL cs => some (.lst (cs.map OC.frz))
  | .oKC kvs => some (.dK (kvs.map fun kv => (kv.1, kv.2.frz)))
/-- what can be read without being shared -/
def R.rd : R → Option D
  | .sh d => some d
  | .ol ds => some (.lst ds)
  | .oK kvs => some (.dK kvs)
  | .oT kvs => some (.dT kvs)
  | _ => none
/-- a part of an owned thing -/
def OwnC (K : PySem.W.Frag) (J H : Hp) (c : OC) (v : V) (S : List Addr) : Prop :=
  match c with
  | .d d => S = [] ∧ Rp K J d v
  | .l ds => ∃ a vs, v = .ref a ∧ S = [a] ∧ H a = some (.lst vs) ∧ RpL K J ds vs
  | .k kvs => ∃ a ws, v = .ref a ∧ S = [a] ∧ H a = some (.dK ws) ∧ RpK K J kvs ws
  | .t kvs => ∃ a ws, v = .ref a ∧ S = [a] ∧ H a = some (.dT ws) ∧ RpT K J kvs ws
inductive OwnCs (K : PySem.W.Frag) (J H : Hp) : List OC → List V → List Addr → Prop
  | nil : OwnCs K J H [] [] []
  | cons {c : OC} {v : V} {S1 : List Addr} {cs : List OC} {vs : List V} {S2 : List Addr} : OwnC K J H c v S1 → OwnCs K J H cs vs S2 → OwnCs K J H (c :: cs) (v :: vs) (S1 ++ S2)
theorem OwnC.there {K : PySem.W.Frag} {J H : Hp} {c : OC} {v : V} {S : List Addr} (h : OwnC K J H c v S) : ∀ a ∈ S, ∃ o, H a = some o := by
  cases c with
  | d x => obtain ⟨rfl, _⟩ := h; intro a ha; cases ha
  | l ds => obtain ⟨a, vs, _, rfl, e, _⟩ := h; intro b hb; rw [List.mem_singleton] at hb; subst hb; exact ⟨_, e⟩
  | k ds => obtain ⟨a, vs, _, rfl, e, _⟩ := h; intro b hb; rw [List.mem_singleton] at hb; subst hb; exact ⟨_, e⟩
  | t ds => obtain ⟨a, vs, _, rfl, e, _⟩ := h; intro b hb; rw [List.mem_singleton] at hb; subst hb; exact ⟨_, e⟩
theorem OwnC.mono {K : PySem.W.Frag} {J J' H H' : Hp} {c : OC} {v : V} {S : List Addr} (h : OwnC K J H c v S) (hj : Same J J') (hh : ∀ a ∈ S, ∀ o, H a = some o → H' a = some o) : OwnC K J' H' c v S := by
  cases c with
  | d x => obtain ⟨e, r⟩ := h; exact ⟨e, r.mono hj⟩
  | l ds => obtain ⟨a, vs, ev, rfl, e, r⟩ := h; exact ⟨a, vs, ev, rfl, hh _ (by simp) _ e, r.mono hj⟩
  | k ds => obtain ⟨a, vs, ev, rfl, e, r⟩ := h; exact ⟨a, vs, ev, rfl, hh _ (by simp) _ e, r.mono hj⟩
  | t ds => obtain ⟨a, vs, ev, rfl, e, r⟩ := h; exact ⟨a, vs, ev, rfl, hh _ (by simp) _ e, r.mono hj⟩
theorem OwnCs.there {K : PySem.W.Frag} {J H : Hp} {cs : List OC} {vs : List V} {S : List Addr} (h : OwnCs K J H cs vs S) : ∀ a ∈ S, ∃ o, H a = some o := by
  induction h with
  | nil => intro a ha; cases ha
  | cons h1 _ ih => intro a ha; rcases List.mem_append.mp ha with ha | ha; exact h1.there a ha; exact ih a ha
theorem OwnCs.mono {K : PySem.W.Frag} {J J' H H' : Hp} {cs : List OC} {vs : List V} {S : List Addr} (h : OwnCs K J H cs vs S) (hj : Same J J') (hh : ∀ a ∈ S, ∀ o, H a = some o → H' a = some o) : OwnCs K J' H' cs vs S := by
  induction h with
  | nil => exact .nil
  | cons h1 _ ih => exact .cons (h1.mono hj fun a ha => hh a (List.mem_append_left _ ha)) (ih fun a ha => hh a (List.mem_append_right _ ha))
theorem OwnC.frz {K : PySem.W.Frag} {J J' H : Hp} {c : OC} {v : V} {S : List Addr} (h : OwnC K J H c v S) (hj : Same J J') (hh : ∀ a ∈ S, ∀ o, H a = some o → J' a = some o) : Rp K J' c.frz v := by
  cases c with
  | d x => exact h.2.mono hj
  | l ds => obtain ⟨a, vs, rfl, rfl, e, r⟩ := h; exact .lst (hh _ (by simp) _ e) (r.mono hj)
  | k ds => obtain ⟨a, vs, rfl, rfl, e, r⟩ := h; exact .dK (hh _ (by simp) _ e) (r.mono hj)
  | t ds => obtain ⟨a, vs, rfl, rfl, e, r⟩ := h; exact .dT (hh _ (by simp) _ e) (r.mono hj)
theorem OwnCs.frz {K : PySem.W.Frag} {J J' H : Hp} {cs : List OC} {vs : List V} {S : List Addr} (h : OwnCs K J H cs vs S) (hj : Same J J') (hh : ∀ a ∈ S, ∀ o, H a = some o → J' a = some o) : RpL K J' (cs.map OC.frz) vs := by
  induction h with
  | nil => exact .nil
  | cons h1 _ ih => exact .cons (h1.frz hj fun a ha => hh a (List.mem_append_left _ ha)) (ih fun a ha => hh a (List.mem_append_right _ ha))
theorem rpk_of {K : PySem.W.Frag} {J : Hp} : ∀ {kvs : List (Key × D)} {ws : List (Key × V)}, kvs.map Prod.fst = ws.map Prod.fst → RpL K J (kvs.map Prod.snd) (ws.map Prod.snd) → RpK K J kvs ws
  | [], [], _, _ => .nil
  | [], _ :: _, h, _ => by cases h
  | _ :: _, [], h, _ => by cases h
  | (k, d) :: kvs, (k', v) :: ws, h, r => by
    obtain ⟨h1, h2⟩ := List.cons.inj h
    cases h1
    cases r with
    | cons r1 r2 => exact .cons r1 (rpk_of h2 r2)

def OwnAt (K : PySem.W.Frag) (J H : Hp) (r : R) (v : V) (S : List Addr) : Prop :=
  match r with
  | .sh d => S = [] ∧ Rp K J d v
  | .ol ds => ∃ a vs, v = .ref a ∧ S = [a] ∧ H a = some (.lst vs) ∧ RpL K J ds vs
  | .oK kvs => ∃ a ws, v = .ref a ∧ S = [a] ∧ H a = some (.dK ws) ∧ RpK K J kvs ws
  | .oT kvs => ∃ a ws, v = .ref a ∧ S = [a] ∧ H a = some (.dT ws) ∧ RpT K J kvs ws
  | .st n cs => ∃ a c, v = .ref a ∧ S = [a, c] ∧ a ≠ c ∧ H a = some (.lst [.int n, .ref c]) ∧ H c = some (.lst (cs.map V.int))
  | .scr ns => S = [] ∧ ∃ a, v = .ref a ∧ SqL K J a (ns.map V.int)
  | .tp rest cs n => ∃ a c, v = .ref a ∧ S = [a, c] ∧ a ≠ c ∧ H a = some (.lst [.int rest, .ref c, .int n]) ∧ H c = some (.lst (cs.map V.int))
  | .oL cs => ∃ a vs T, v = .ref a ∧ S = a :: T ∧ S.Nodup ∧ H a = some (.lst vs) ∧ OwnCs K J H cs vs T
  | .oKC kvs => ∃ a ws T, v = .ref a ∧ S = a :: T ∧ S.Nodup ∧ H a = some (.dK ws) ∧ kvs.map Prod.fst = ws.map Prod.fst ∧ OwnCs K J H (kvs.map Prod.snd) (ws.map Prod.snd) T
theorem OwnAt.there {K : PySem.W.Frag} {J H : Hp} {r : R} {v : V} {S : List Addr} (h : OwnAt K J H r v S) : ∀ a ∈ S, ∃ o, H a = some o := by
  cases r with
  | sh d => obtain ⟨rfl, _⟩ := h; intro a ha; cases ha
  | scr ns => obtain ⟨rfl, _⟩ := h; intro a ha; cases ha
  | ol ds => obtain ⟨a, vs, _, rfl, e, _⟩ := h; intro b hb; rw [List.mem_singleton] at hb; subst hb; exact ⟨_, e⟩
  | oK ds => obtain ⟨a, vs, _, rfl, e, _⟩ := h; intro b hb; rw [List.mem_singleton] at hb; subst hb; exact ⟨_, e⟩
  | oT ds => obtain ⟨a, vs, _, rfl, e, _⟩ := h; intro b hb; rw [List.mem_singleton] at hb; subst hb; exact ⟨_, e⟩
  | st n cs =>
    obtain ⟨a, c, _, rfl, _, e1, e2⟩ := h
    intro b hb
    rcases List.mem_cons.mp hb with rfl | hb
    · exact ⟨_, e1⟩
    · rw [List.mem_singleton] at hb; subst hb; exact ⟨_, e2⟩
  | tp rest cs n =>
    obtain ⟨a, c, _, rfl, _, e1, e2⟩ := h
    intro b hb
    rcases List.mem_cons.mp hb with rfl | hb
    · exact ⟨_, e1⟩
    · rw [List.mem_singleton] at hb; subst hb; exact ⟨_, e2⟩
  | oL cs =>
    obtain ⟨a, vs, T, _, rfl, _, e, r⟩ := h
    intro b hb
    rcases List.mem_cons.mp hb with rfl | hb
    · exact ⟨_, e⟩
    · exact r.there b hb
  | oKC kvs =>
    obtain ⟨a, ws, T, _, rfl, _, e, _, r⟩ := h
    intro b hb
    rcases List.mem_cons.mp hb with rfl | hb
    · exact ⟨_, e⟩
    · exact r.there b hb
theorem OwnAt.mono {K : PySem.W.Frag} {J J' H H' : Hp} {r : R} {v : V} {S : List Addr} (h : OwnAt K J H r v S) (hj : Same J J') (hh : ∀ a ∈ S, ∀ o, H a = some o → H' a = some o) : OwnAt K J' H' r v S := by
  cases r with
  | sh d => obtain ⟨e, r⟩ := h; exact ⟨e, r.mono hj⟩
  | scr ns => obtain ⟨e, a, ev, r⟩ := h; exact ⟨e, a, ev, same_sql hj r⟩
  | ol ds => obtain ⟨a, vs, ev, rfl, e, r⟩ := h; exact ⟨a, vs, ev, rfl, hh _ (by simp) _ e, r.mono hj⟩
  | oK ds => obtain ⟨a, vs, ev, rfl, e, r⟩ := h; exact ⟨a, vs, ev, rfl, hh _ (by simp) _ e, r.mono hj⟩
  | oT ds => obtain ⟨a, vs, ev, rfl, e, r⟩ := h; exact ⟨a, vs, ev, rfl, hh _ (by simp) _ e, r.mono hj⟩
  | st n cs => obtain ⟨a, c, ev, rfl, ne, e1, e2⟩ := h; exact ⟨a, c, ev, rfl, ne, hh _ (by simp) _ e1, hh _ (by simp) _ e2⟩
  | tp rest cs n => obtain ⟨a, c, ev, rfl, ne, e1, e2⟩ := h; exact ⟨a, c, ev, rfl, ne, hh _ (by simp) _ e1, hh _ (by simp) _ e2⟩
  | oL cs => obtain ⟨a, vs, T, ev, rfl, nd, e, r⟩ := h; exact ⟨a, vs, T, ev, rfl, nd, hh _ (by simp) _ e, r.mono hj fun b hb => hh b (by simp [hb])⟩
  | oKC kvs => obtain ⟨a, ws, T, ev, rfl, nd, e, k, r⟩ := h; exact ⟨a, ws, T, ev, rfl, nd, hh _ (by simp) _ e, k, r.mono hj fun b hb => hh b (by simp [hb])⟩

/-- what stood at the entry and is not lent; what of it is never shared -/
structure Fm where
  h : Hp
  av : Addr → Prop
  sub : ∀ a, av a → ∃ o, h a = some o
/-- the frame over data: F what stood at the entry and is not lent, J what is shared for good, B the slots that stay at their objects -/
structure CI (K : PySem.W.Frag) (B : List Nat) (σ0 : L2.St) (F : Fm) (J : Hp) (ρ : Rho) (σ : L2.St) (H : Hp) : Prop where
  fr : Same F.h H
  jm : Same J H
  av : ∀ a, F.av a → J a = none
  len : ρ.length = σ.length
  lb : σ0.length ≤ σ.length
  pin : ∀ i ∈ B, i < σ0.length ∧ σ[i]? = σ0[i]?
  own : ∃ fp : Nat → List Addr, (∀ i r, ρ[i]? = some (some r) → ∃ v, σ[i]? = some (some v) ∧ OwnAt K J H r v (fp i)) ∧
    (∀ i r a, ρ[i]? = some (some r) → a ∈ fp i → J a = none ∧ F.h a = none) ∧
    (∀ i j r r' a, ρ[i]? = some (some r) → ρ[j]? = some (some r') → a ∈ fp i → a ∈ fp j → i = j)
/-- the heap grows: new things, some of them shared from now on -/
structure Ext (J H J' H' : Hp) : Prop where
  j : Same J J'
  h : Same H H'
  m : Same J' H'
  n : ∀ a, J a = none → H a ≠ none → J' a = none
theorem Ext.refl {J H : Hp} (m : Same J H) : Ext J H J H := ⟨Same.refl _, Same.refl _, m, fun _ h _ => h⟩
theorem same_upd {H : Hp} {p : Addr} {o : HO} (h : H p = none) : Same H (upd H p o) := fun b x e => by
  rw [upd_ne (ne_of_none e h)]
  exact e
theorem same_upd2 {J H : Hp} {p : Addr} {o : HO} (m : Same J H) : Same (upd J p o) (upd H p o) := fun b x e => by
  by_cases hb : b = p
  · subst hb; rw [upd_same] at e ⊢; exact e
  · rw [upd_ne hb] at e ⊢; exact m _ _ e
theorem Ext.new {J H : Hp} {p : Addr} {o : HO} (m : Same J H) (hp : H p = none) : Ext J H (upd J p o) (upd H p o) where
  j := same_upd (m.free hp)
  h := same_upd hp
  m := same_upd2 m
  n := fun a h1 h2 => by
    have : a ≠ p := fun e => h2 (by rw [e]; exact hp)
    rw [upd_ne this]; exact h1
theorem Ext.garb {J H : Hp} {p : Addr} {o : HO} (m : Same J H) (hp : H p = none) : Ext J H J (upd H p o) where
  j := Same.refl _
  h := same_upd hp
  m := fun b x e => by rw [upd_ne (fun q => by subst q; rw [m.free hp] at e; cases e)]; exact m _ _ e
  n := fun a h1 _ => h1
theorem Ext.trans {J H J1 H1 J2 H2 : Hp} (a : Ext J H J1 H1) (b : Ext J1 H1 J2 H2) : Ext J H J2 H2 where
  j := a.j.trans b.j
  h := a.h.trans b.h
  m := b.m
  n := fun x h1 h2 => b.n x (a.n x h1 h2) fun q => h2 (a.h.free q)
section
variable {K : PySem.W.Frag} {B : List Nat} {σ0 : L2.St} {F : Fm} {J J' : Hp} {ρ ρ' : Rho} {σ : L2.St} {H H' : Hp} {r : R} {v : V} {d : D} {i : Nat}
theorem CI.ext (c : CI K B σ0 F J ρ σ H) (e : Ext J H J' H') : CI K B σ0 F J' ρ σ H' := by
  obtain ⟨fp, o1, o2, o3⟩ := c.own
  refine ⟨c.fr.trans e.h, e.m, fun a ha => e.n a (c.av a ha) (by obtain ⟨o, q⟩ := F.sub a ha; rw [c.fr _ _ q]; simp), c.len, c.lb, c.pin, fp, fun i r h => ?_, fun i r a h ha => ?_, o3⟩
  · obtain ⟨v, e1, w⟩ := o1 i r h
    exact ⟨v, e1, w.mono e.j fun a _ o q => e.h _ _ q⟩
  · obtain ⟨v, _, w⟩ := o1 i r h
    obtain ⟨o, q⟩ := w.there a ha
    exact ⟨e.n a (o2 i r a h ha).1 (by rw [q]; simp), (o2 i r a h ha).2⟩
def ovr (fp : Nat → List Addr) (n : Nat) (x : List Addr) : Nat → List Addr := fun j => if j = n then x else fp j
theorem ovr_eq {fp : Nat → List Addr} {n : Nat} {x : List Addr} : ovr fp n x n = x := if_pos rfl
theorem ovr_ne {fp : Nat → List Addr} {n j : Nat} {x : List Addr} (h : j ≠ n) : ovr fp n x j = fp j := if_neg h
/-- less is known of the slots -/
theorem CI.sub (c : CI K B σ0 F J ρ σ H) (hl : ρ'.length = ρ.length) (h : ∀ (i : Nat) (r : R), ρ'[i]? = some (some r) → ρ[i]? = some (some r)) : CI K B σ0 F J ρ' σ H := by
  obtain ⟨fp, o1, o2, o3⟩ := c.own
  exact ⟨c.fr, c.jm, c.av, hl.trans c.len, c.lb, c.pin, fp, fun i r q => o1 i r (h i r q), fun i r a q => o2 i r a (h i r q), fun i j r r' a q q' => o3 i j r r' a (h i r q) (h j r' q')⟩
theorem get_app {α : Type} {l : List α} {x y : α} {i : Nat} (h : (l ++ [x])[i]? = some y) : l[i]? = some y ∨ (i = l.length ∧ x = y) := by
  by_cases hi : i < l.length
  · rw [List.getElem?_append_left hi] at h; exact .inl h
  · rw [List.getElem?_append_right (by omega)] at h
    by_cases e : i = l.length
    · subst e; simp at h; exact .inr ⟨rfl, h⟩
    · rw [List.getElem?_eq_none (by simp; omega)] at h; cases h
theorem get_app_l {α : Type} {l : List α} {x y : α} {i : Nat} (h : l[i]? = some y) : (l ++ [x])[i]? = some y := by
  rw [List.getElem?_append_left (List.getElem?_eq_some_iff.mp h).1]; exact h
theorem get_app_r {α : Type} {l : List α} {x : α} : (l ++ [x])[l.length]? = some x := by simp
theorem CI.lt (c : CI K B σ0 F J ρ σ H) (h : i ∈ B) : i < σ.length := Nat.lt_of_lt_of_le (c.pin i h).1 c.lb
theorem CI.push (c : CI K B σ0 F J ρ σ H) (h : Rp K J d v) : CI K B σ0 F J (ρ ++ [some (.sh d)]) (σ ++ [some v]) H := by
  obtain ⟨fp, o1, o2, o3⟩ := c.own
  refine ⟨c.fr, c.jm, c.av, by simp [c.len], by have := c.lb; simp; omega, fun i hi => ⟨(c.pin i hi).1, by rw [List.getElem?_append_left (c.lt hi)]; exact (c.pin i hi).2⟩, ovr fp ρ.length [], fun i r q => ?_, fun i r a q ha => ?_, fun i j r r' a q q' ha hb => ?_⟩
  · rcases get_app q with q | ⟨e, q2⟩
    · obtain ⟨v, e1, w⟩ := o1 i r q
      have : i ≠ ρ.length := Nat.ne_of_lt (List.getElem?_eq_some_iff.mp q).1
      refine ⟨v, get_app_l e1, ?_⟩
      rw [ovr_ne this]; exact w
    · subst e
      cases Option.some.inj q2
      refine ⟨v, by rw [c.len]; exact get_app_r, ?_⟩
      rw [ovr_eq]; exact ⟨rfl, h⟩
  · by_cases e : i = ρ.length
    · subst e; rw [ovr_eq] at ha; cases ha
    · rw [ovr_ne e] at ha
      rcases get_app q with q | ⟨e', _⟩
      · exact o2 i r a q ha
      · exact absurd e' e
  · by_cases e : i = ρ.length
    · subst e; rw [ovr_eq] at ha; cases ha
    · by_cases e2 : j = ρ.length
      · subst e2; rw [ovr_eq] at hb; cases hb
      · rw [ovr_ne e] at ha; rw [ovr_ne e2] at hb
        rcases get_app q with q | ⟨z, _⟩
        · rcases get_app q' with q' | ⟨z, _⟩
          · exact o3 i j r r' a q q' ha hb
          · exact absurd z e2
        · exact absurd z e
theorem CI.pop {x : Option R} {y : Option V} (c : CI K B σ0 F J (ρ ++ [x]) (σ ++ [y]) H) (hb : σ0.length ≤ σ.length) : CI K B σ0 F J ρ σ H := by
  obtain ⟨fp, o1, o2, o3⟩ := c.own
  have hl : ρ.length = σ.length := by have := c.len; simpa using this
  refine ⟨c.fr, c.jm, c.av, hl, hb, fun i hi => ⟨(c.pin i hi).1, ?_⟩, fp, fun i r q => ?_, fun i r a q => o2 i r a (get_app_l q), fun i j r r' a q q' => o3 i j r r' a (get_app_l q) (get_app_l q')⟩
  · have := (c.pin i hi).2
    rwa [List.getElem?_append_left (Nat.lt_of_lt_of_le (c.pin i hi).1 hb)] at this
  · obtain ⟨v, e1, w⟩ := o1 i r (get_app_l q)
    refine ⟨v, ?_, w⟩
    rwa [List.getElem?_append_left (by rw [← hl]; exact (List.getElem?_eq_some_iff.mp q).1)] at e1
/-- the thing at hand goes to a slot -/
theorem CI.store (c : CI K B σ0 F J (ρ ++ [some r]) (σ ++ [some v]) H) (hb : σ0.length ≤ σ.length) (hi : i < ρ.length) (hB : i ∉ B) : CI K B σ0 F J (ρ.set i (some r)) (σ.set i (some v)) H := by
  obtain ⟨fp, o1, o2, o3⟩ := id c.own
  have hl : ρ.length = σ.length := by have := c.len; simpa using this
  have key : ∀ j q, (ρ.set i (some r))[j]? = some (some q) → (j = i ∧ q = r) ∨ (j ≠ i ∧ ρ[j]? = some (some q)) := fun j q h => by
    by_cases e : j = i
    · subst e; rw [List.getElem?_set_self hi] at h; exact .inl ⟨rfl, by injection h with h; injection h with h; exact h.symm⟩
    · rw [List.getElem?_set_ne (Ne.symm e)] at h; exact .inr ⟨e, h⟩
  obtain ⟨v', e1, w⟩ := o1 ρ.length r get_app_r
  have ev : v' = v := by rw [hl, get_app_r] at e1; injection e1 with e1; injection e1 with e1; exact e1.symm
  subst ev
  refine ⟨c.fr, c.jm, c.av, by simp [hl], by simpa using hb, fun j hj => ⟨(c.pin j hj).1, ?_⟩, ovr fp i (fp ρ.length), fun j q h => ?_, fun j q a h ha => ?_, fun j k q q' a h h' ha ha' => ?_⟩
  · have hj' : j < σ.length := Nat.lt_of_lt_of_le (c.pin j hj).1 hb
    have := (c.pin j hj).2
    rw [List.getElem?_append_left hj'] at this
    rw [List.getElem?_set_ne (fun e : i = j => hB (by rw [e]; exact hj))]; exact this
  · rcases key j q h with ⟨rfl, rfl⟩ | ⟨ne, h⟩
    · exact ⟨v', by rw [List.getElem?_set_self (by rw [← hl]; exact hi)], by rw [ovr_eq]; exact w⟩
    · obtain ⟨u, e2, w2⟩ := o1 j q (get_app_l h)
      refine ⟨u, ?_, by rw [ovr_ne ne]; exact w2⟩
      rw [List.getElem?_set_ne (Ne.symm ne)]
      rwa [List.getElem?_append_left (by rw [← hl]; exact (List.getElem?_eq_some_iff.mp h).1)] at e2
  · rcases key j q h with ⟨rfl, rfl⟩ | ⟨ne, h⟩
    · rw [ovr_eq] at ha; exact o2 _ _ a get_app_r ha
    · rw [ovr_ne ne] at ha; exact o2 _ _ a (get_app_l h) ha
  · have lt : ∀ {j : Nat} {q : R}, ρ[j]? = some (some q) → j ≠ ρ.length := fun h => Nat.ne_of_lt (List.getElem?_eq_some_iff.mp h).1
    rcases key j q h with ⟨rfl, rfl⟩ | ⟨ne, h3⟩
    · rcases key k q' h' with ⟨rfl, rfl⟩ | ⟨ne', h4⟩
      · rfl
      · rw [ovr_eq] at ha; rw [ovr_ne ne'] at ha'
        exact absurd (o3 _ _ _ _ a get_app_r (get_app_l h4) ha ha').symm (lt h4)
    · rcases key k q' h' with ⟨rfl, rfl⟩ | ⟨ne', h4⟩
      · rw [ovr_ne ne] at ha; rw [ovr_eq] at ha'
        exact absurd (o3 _ _ _ _ a (get_app_l h3) get_app_r ha ha') (lt h3)
      · rw [ovr_ne ne] at ha; rw [ovr_ne ne'] at ha'
        exact o3 _ _ _ _ a (get_app_l h3) (get_app_l h4) ha ha'
theorem CI.forget (c : CI K B σ0 F J ρ σ H) : CI K B σ0 F J (ρ.set i none) σ H := c.sub (by simp) fun j r h => by
  by_cases e : i = j
  · subst e
    by_cases hi : i < ρ.length
    · rw [List.getElem?_set_self hi] at h; cases h
    · rw [List.getElem?_eq_none (by simpa using hi)] at h; cases h
  · rwa [List.getElem?_set_ne e] at h
/-- what a slot holds goes to the hand -/
theorem CI.take (c : CI K B σ0 F J ρ σ H) (h : ρ[i]? = some (some r)) (hv : σ[i]? = some (some v)) : CI K B σ0 F J (ρ.set i none ++ [some r]) (σ ++ [some v]) H := by
  obtain ⟨fp, o1, o2, o3⟩ := id c.own
  have hi : i < ρ.length := (List.getElem?_eq_some_iff.mp h).1
  have key : ∀ j q, (ρ.set i none ++ [some r])[j]? = some (some q) → (j = ρ.length ∧ q = r) ∨ (j ≠ i ∧ j < ρ.length ∧ ρ[j]? = some (some q)) := fun j q h => by
    rcases get_app h with h | ⟨e, h⟩
    · by_cases e : j = i
      · subst e; rw [List.getElem?_set_self hi] at h; cases h
      · rw [List.getElem?_set_ne (Ne.symm e)] at h; exact .inr ⟨e, (List.getElem?_eq_some_iff.mp h).1, h⟩
    · exact .inl ⟨by simpa using e, (Option.some.inj h).symm⟩
  refine ⟨c.fr, c.jm, c.av, by simp [c.len], by have := c.lb; simp; omega, fun j hj => ⟨(c.pin j hj).1, by rw [List.getElem?_append_left (c.lt hj)]; exact (c.pin j hj).2⟩, ovr fp ρ.length (fp i), fun j q h' => ?_, fun j q a h' ha => ?_, fun j k q q' a h1 h2 ha hb => ?_⟩
  · rcases key j q h' with ⟨rfl, rfl⟩ | ⟨ne, lt, h'⟩
    · obtain ⟨u, e2, w2⟩ := o1 i q h
      rw [hv] at e2; cases e2
      exact ⟨v, by rw [c.len]; exact get_app_r, by rw [ovr_eq]; exact w2⟩
    · obtain ⟨u, e2, w2⟩ := o1 j q h'
      exact ⟨u, get_app_l e2, by rw [ovr_ne (Nat.ne_of_lt lt)]; exact w2⟩
  · rcases key j q h' with ⟨rfl, rfl⟩ | ⟨ne, lt, h'⟩
    · rw [ovr_eq] at ha; exact o2 _ _ a h ha
    · rw [ovr_ne (Nat.ne_of_lt lt)] at ha; exact o2 _ _ a h' ha
  · rcases key j q h1 with ⟨rfl, rfl⟩ | ⟨ne, lt, h3⟩
    · rcases key k q' h2 with ⟨rfl, rfl⟩ | ⟨ne', lt', h4⟩
      · rfl
      · rw [ovr_eq] at ha; rw [ovr_ne (Nat.ne_of_lt lt')] at hb
        exact absurd (o3 _ _ _ _ a h h4 ha hb).symm ne'
    · rcases key k q' h2 with ⟨rfl, rfl⟩ | ⟨ne', lt', h4⟩
      · rw [ovr_ne (Nat.ne_of_lt lt)] at ha; rw [ovr_eq] at hb
        exact absurd (o3 _ _ _ _ a h3 h ha hb) ne
      · rw [ovr_ne (Nat.ne_of_lt lt)] at ha; rw [ovr_ne (Nat.ne_of_lt lt')] at hb
        exact o3 _ _ _ _ a h3 h4 ha hb
/-- an owned thing becomes shared -/
theorem CI.freeze (c : CI K B σ0 F J ρ σ H) (h : ρ[i]? = some (some r)) (hd : r.frz = some d) : ∃ J' v, σ[i]? = some (some v) ∧ CI K B σ0 F J' (ρ.set i (some (.sh d))) σ H ∧ Same J J' ∧ Rp K J' d v := by
  obtain ⟨fp, o1, o2, o3⟩ := id c.own
  have hi : i < ρ.length := (List.getElem?_eq_some_iff.mp h).1
  obtain ⟨v, ev, w⟩ := o1 i r h
  -- the general end: J' is J and what stands at fp i
  have fin : ∀ J' : Hp, Same J J' → Same J' H → (∀ a, J' a ≠ none → J a ≠ none ∨ a ∈ fp i) → Rp K J' d v → CI K B σ0 F J' (ρ.set i (some (.sh d))) σ H := fun J' s1 s2 s3 q => by
    have key : ∀ j q, (ρ.set i (some (.sh d)))[j]? = some (some q) → (j = i ∧ q = .sh d) ∨ (j ≠ i ∧ ρ[j]? = some (some q)) := fun j q h => by
      by_cases e : j = i
      · subst e; rw [List.getElem?_set_self hi] at h; exact .inl ⟨rfl, by injection h with h; injection h with h; exact h.symm⟩
      · rw [List.getElem?_set_ne (Ne.symm e)] at h; exact .inr ⟨e, h⟩
    refine ⟨c.fr, s2, fun a ha => ?_, by simp [c.len], c.lb, c.pin, ovr fp i [], fun j q' h' => ?_, fun j q' a h' ha => ?_, fun j k q1 q2 a h1 h2 ha hb => ?_⟩
    · cases e : J' a with
      | none => rfl
      | some o =>
        rcases s3 a (by rw [e]; simp) with z | z
        · exact absurd (c.av a ha) z
        · obtain ⟨o', q'⟩ := F.sub a ha
          rw [(o2 i r a h z).2] at q'; cases q'
    · rcases key j q' h' with ⟨rfl, rfl⟩ | ⟨ne, h'⟩
      · exact ⟨v, ev, by rw [ovr_eq]; exact ⟨rfl, q⟩⟩
      · obtain ⟨u, e2, w2⟩ := o1 j q' h'
        exact ⟨u, e2, by rw [ovr_ne ne]; exact w2.mono s1 fun a _ o z => z⟩
    · rcases key j q' h' with ⟨rfl, rfl⟩ | ⟨ne, h'⟩
      · rw [ovr_eq] at ha; cases ha
      · rw [ovr_ne ne] at ha
        obtain ⟨z1, z2⟩ := o2 j q' a h' ha
        refine ⟨?_, z2⟩
        cases e : J' a with
        | none => rfl
        | some o =>
          rcases s3 a (by rw [e]; simp) with z | z
          · exact absurd z1 z
          · exact absurd (o3 _ _ _ _ a h' h ha z) ne
    · rcases key j q1 h1 with ⟨rfl, rfl⟩ | ⟨ne, h3⟩
      · rw [ovr_eq] at ha; cases ha
      · rcases key k q2 h2 with ⟨rfl, rfl⟩ | ⟨ne', h4⟩
        · rw [ovr_eq] at hb; cases hb
        · rw [ovr_ne ne] at ha; rw [ovr_ne ne'] at hb; exact o3 _ _ _ _ a h3 h4 ha hb
  have one : ∀ (a : Addr) (o : HO), fp i = [a] → H a = some o → J a = none → Same J (upd J a o) ∧ Same (upd J a o) H ∧ ∀ b, upd J a o b ≠ none → J b ≠ none ∨ b ∈ fp i := fun a o e1 e2 e3 =>
    ⟨same_upd e3, fun b x q => by
      by_cases hb : b = a
      · subst hb; rw [upd_same] at q; cases q; exact e2
      · rw [upd_ne hb] at q; exact c.jm _ _ q, fun b q => by
      by_cases hb : b = a
      · subst hb; exact .inr (by rw [e1]; simp)
      · rw [upd_ne hb] at q; exact .inl q⟩
  have many : (∀ b ∈ fp i, ∃ o, H b = some o) → Same J (fun b => if b ∈ fp i then H b else J b) ∧ Same (fun b => if b ∈ fp i then H b else J b) H ∧ (∀ b, (if b ∈ fp i then H b else J b) ≠ none → J b ≠ none ∨ b ∈ fp i) ∧ ∀ b ∈ fp i, ∀ o, H b = some o → (if b ∈ fp i then H b else J b) = some o := fun _ =>
    ⟨fun b x q => by
      have : b ∉ fp i := fun z => by rw [(o2 i r b h z).1] at q; cases q
      show (if b ∈ fp i then H b else J b) = some x
      rw [if_neg this]; exact q, fun b x q => by
      have q : (if b ∈ fp i then H b else J b) = some x := q
      by_cases hb : b ∈ fp i
      · rw [if_pos hb] at q; exact q
      · rw [if_neg hb] at q; exact c.jm _ _ q, fun b q => by
      by_cases hb : b ∈ fp i
      · exact .inr hb
      · rw [if_neg hb] at q; exact .inl q, fun b hb o q => by rw [if_pos hb]; exact q⟩
  cases r with
  | sh d' =>
    cases hd
    obtain ⟨_, q⟩ := w
    exact ⟨J, v, ev, fin J (Same.refl _) c.jm (fun a z => .inl z) q, Same.refl _, q⟩
  | ol ds =>
    cases hd
    obtain ⟨a, vs, rfl, e, e2, q⟩ := w
    obtain ⟨s1, s2, s3⟩ := one a _ e e2 (o2 i _ a h (by rw [e]; simp)).1
    have q' : Rp K (upd J a (.lst vs)) (.lst ds) (.ref a) := .lst upd_same (q.mono s1)
    exact ⟨_, _, ev, fin _ s1 s2 s3 q', s1, q'⟩
  | oK kvs =>
    cases hd
    obtain ⟨a, ws, rfl, e, e2, q⟩ := w
    obtain ⟨s1, s2, s3⟩ := one a _ e e2 (o2 i _ a h (by rw [e]; simp)).1
    have q' : Rp K (upd J a (.dK ws)) (.dK kvs) (.ref a) := .dK upd_same (q.mono s1)
    exact ⟨_, _, ev, fin _ s1 s2 s3 q', s1, q'⟩
  | oT kvs =>
    cases hd
    obtain ⟨a, ws, rfl, e, e2, q⟩ := w
    obtain ⟨s1, s2, s3⟩ := one a _ e e2 (o2 i _ a h (by rw [e]; simp)).1
    have q' : Rp K (upd J a (.dT ws)) (.dT kvs) (.ref a) := .dT upd_same (q.mono s1)
    exact ⟨_, _, ev, fin _ s1 s2 s3 q', s1, q'⟩
  | st n cs => cases hd
  | scr ns => cases hd
  | tp rest cs n => cases hd
  | oL cs =>
    cases hd
    obtain ⟨a, vs, T, rfl, e, nd, e2, q⟩ := w
    obtain ⟨s1, s2, s3, s4⟩ := many (fun b hb => (OwnAt.there (r := .oL cs) (K := K) (J := J) ⟨a, vs, T, rfl, e, nd, e2, q⟩) b hb)
    have q' : Rp K (fun b => if b ∈ fp i then H b else J b) (.lst (cs.map OC.frz)) (.ref a) := .lst (s4 a (by rw [e]; simp) _ e2) (q.frz s1 fun b hb o z => s4 b (by rw [e]; simp [hb]) o z)
    exact ⟨_, _, ev, fin _ s1 s2 s3 q', s1, q'⟩
  | oKC kvs =>
    cases hd
    obtain ⟨a, ws, T, rfl, e, nd, e2, k, q⟩ := w
    obtain ⟨s1, s2, s3, s4⟩ := many (fun b hb => (OwnAt.there (r := .oKC kvs) (K := K) (J := J) ⟨a, ws, T, rfl, e, nd, e2, k, q⟩) b hb)
    have q0 := q.frz s1 fun b hb o z => s4 b (by rw [e]; simp [hb]) o z
    have q' : Rp K (fun b => if b ∈ fp i then H b else J b) (.dK (kvs.map fun kv => (kv.1, kv.2.frz))) (.ref a) := .dK (s4 a (by rw [e]; simp) _ e2) (rpk_of (by rw [List.map_map]; exact k) (by rw [List.map_map]; rw [List.map_map] at q0; exact q0))
    exact ⟨_, _, ev, fin _ s1 s2 s3 q', s1, q'⟩

/-- a value at hand is read: at the top it may be one's own, within it is shared -/
inductive Pk (K : PySem.W.Frag) (J H : Hp) : D → V → Prop
  | sh {d : D} {v : V} : Rp K J d v → Pk K J H d v
  | ol {a : Addr} {vs : List V} {ds : List D} : H a = some (.lst vs) → RpL K J ds vs → Pk K J H (.lst ds) (.ref a)
  | oK {a : Addr} {ws : List (Key × V)} {kvs : List (Key × D)} : H a = some (.dK ws) → RpK K J kvs ws → Pk K J H (.dK kvs) (.ref a)
  | oT {a : Addr} {ws : List (List Key × V)} {kvs : List (List Key × D)} : H a = some (.dT ws) → RpT K J kvs ws → Pk K J H (.dT kvs) (.ref a)
theorem Pk.rp (p : Pk K J H d v) (m : Same J H) : Rp K H d v := by
  cases p with
  | sh h => exact h.mono m
  | ol e r => exact .lst e (r.mono m)
  | oK e r => exact .dK e (r.mono m)
  | oT e r => exact .dT e (r.mono m)
theorem Pk.lst {ds : List D} (p : Pk K J H (.lst ds) v) (m : Same J H) : ∃ a vs, v = .ref a ∧ H a = some (.lst vs) ∧ RpL K J ds vs := by
  cases p with
  | sh h => cases h with | lst s r => exact ⟨_, _, rfl, m _ _ s, r⟩
  | ol e r => exact ⟨_, _, rfl, e, r⟩
theorem Pk.tup {ds : List D} (p : Pk K J H (.tup ds) v) (m : Same J H) : ∃ a vs, v = .ref a ∧ SqT K H a vs ∧ RpL K J ds vs := by
  cases p with
  | sh h => cases h with | tup s r => exact ⟨_, _, rfl, (s.mono m).sq, r⟩
theorem Pk.tupAt {ds : List D} (p : Pk K J H (.tup ds) v) (m : Same J H) : ∃ a vs, v = .ref a ∧ TupAt K H a vs ∧ RpL K J ds vs := by
  cases p with
  | sh h => cases h with | tup s r => exact ⟨_, _, rfl, s.mono m, r⟩
theorem Pk.dK {kvs : List (Key × D)} (p : Pk K J H (.dK kvs) v) (m : Same J H) : ∃ a ws, v = .ref a ∧ H a = some (.dK ws) ∧ RpK K J kvs ws := by
  cases p with
  | sh h => cases h with | dK s r => exact ⟨_, _, rfl, m _ _ s, r⟩
  | oK e r => exact ⟨_, _, rfl, e, r⟩
theorem Pk.dT {kvs : List (List Key × D)} (p : Pk K J H (.dT kvs) v) (m : Same J H) : ∃ a ws, v = .ref a ∧ H a = some (.dT ws) ∧ RpT K J kvs ws := by
  cases p with
  | sh h => cases h with | dT s r => exact ⟨_, _, rfl, m _ _ s, r⟩
  | oT e r => exact ⟨_, _, rfl, e, r⟩
theorem Pk.int {n : Int} (p : Pk K J H (.int n) v) : v = .int n := by
  cases p with | sh h => cases h; rfl
theorem Pk.str {n : Str} (p : Pk K J H (.str n) v) : v = .str n := by
  cases p with | sh h => cases h; rfl
theorem Pk.bl {n : Bool} (p : Pk K J H (.bl n) v) : v = .bl n := by
  cases p with | sh h => cases h; rfl
theorem Pk.non (p : Pk K J H .non v) : v = .non := by
  cases p with | sh h => cases h; rfl
theorem Pk.ty {n : String} (p : Pk K J H (.ty n) v) : v = .ty n := by
  cases p with | sh h => cases h; rfl
theorem Pk.fn {n : Addr} (p : Pk K J H (.fn n) v) : v = .ref n := by
  cases p with | sh h => cases h; rfl

def HRel (K : PySem.W.Frag) (σ : L2.St) (J : Hp) (h : Hd) (v : V) : Prop :=
  match h with
  | .dat d => Rp K J d v
  | .slt i => σ[i]? = some (some v)
theorem HRel.mono {h : Hd} (q : HRel K σ J h v) (s : Same J J') : HRel K σ J' h v := by
  cases h with
  | dat d => exact Rp.mono s q
  | slt i => exact q
def res (ρ : Rho) : Hd → Option D
  | .dat d => some d
  | .slt i => match ρ[i]? with
    | some (some r) => r.rd
    | _ => none
theorem CI.res {h : Hd} (c : CI K B σ0 F J ρ σ H) (q : HRel K σ J h v) (e : res ρ h = some d) : Pk K J H d v := by
  cases h with
  | dat d' => cases e; exact .sh q
  | slt i =>
    unfold DL.res at e
    obtain ⟨fp, o1, _⟩ := c.own
    dsimp only at e
    split at e
    · rename_i r hr
      obtain ⟨u, e1, w⟩ := o1 i r hr
      have q' : σ[i]? = some (some v) := q
      rw [q'] at e1; cases e1
      cases r with
      | sh d' => cases e; exact .sh w.2
      | ol ds => cases e; obtain ⟨a, vs, rfl, _, e2, w⟩ := w; exact .ol e2 w
      | oK ds => cases e; obtain ⟨a, vs, rfl, _, e2, w⟩ := w; exact .oK e2 w
      | oT ds => cases e; obtain ⟨a, vs, rfl, _, e2, w⟩ := w; exact .oT e2 w
      | st n cs => cases e
      | scr ns => cases e
      | tp rest cs n => cases e
      | oL cs => cases e
      | oKC kvs => cases e
    · cases e
/-- a handle's data, shared from now on -/
def fzAt (ρ : Rho) : Hd → Option (D × Rho)
  | .dat d => some (d, ρ)
  | .slt i => match ρ[i]? with
    | some (some (.sh d)) => some (d, ρ)
    | some (some r) => match r.frz with
      | some d => some (d, ρ.set i (some (.sh d)))
      | none => none
    | _ => none
theorem CI.fz {h : Hd} (c : CI K B σ0 F J ρ σ H) (q : HRel K σ J h v) (e : fzAt ρ h = some (d, ρ')) : ∃ J', CI K B σ0 F J' ρ' σ H ∧ Same J J' ∧ Rp K J' d v := by
  cases h with
  | dat d' => cases e; exact ⟨J, c, Same.refl _, q⟩
  | slt i =>
    unfold fzAt at e
    have q' : σ[i]? = some (some v) := q
    dsimp only at e
    split at e
    · rename_i d' hr
      cases e
      obtain ⟨fp, o1, _⟩ := c.own
      obtain ⟨u, e1, _, w⟩ := o1 i _ hr
      rw [q'] at e1; cases e1
      exact ⟨J, c, Same.refl _, w⟩
    · rename_i r _ hr
      split at e
      · rename_i d' hd
        cases e
        obtain ⟨J', u, e1, c', s, w⟩ := c.freeze hr hd
        rw [q'] at e1; cases e1
        exact ⟨J', c', s, w⟩
      · cases e
    · cases e
def fzL (ρ : Rho) : List Hd → Option (List D × Rho)
  | [] => some ([], ρ)
  | h :: hs => match fzAt ρ h with
    | some (d, ρ1) => match fzL ρ1 hs with
      | some (ds, ρ2) => some (d :: ds, ρ2)
      | none => none
    | none => none
theorem CI.fzL : ∀ {hs : List Hd} {vs : List V} {ds : List D} {J : Hp} {ρ : Rho}, CI K B σ0 F J ρ σ H → Paired (HRel K σ J) hs vs → DL.fzL ρ hs = some (ds, ρ') → ∃ J', CI K B σ0 F J' ρ' σ H ∧ Same J J' ∧ RpL K J' ds vs
  | [], _, _, J, ρ, c, .nil, e => by cases e; exact ⟨J, c, Same.refl _, .nil⟩
  | h :: hs, _, ds, J, ρ, c, .cons (b := v) (l₂ := vs) q r, e => by
    unfold DL.fzL at e
    split at e
    · rename_i d ρ1 e1
      obtain ⟨J1, c1, s1, w⟩ := c.fz q e1
      split at e
      · rename_i ds' ρ2 e2
        cases e
        obtain ⟨J2, c2, s2, w2⟩ := CI.fzL c1 (Paired.mapP r fun _ _ z => HRel.mono z s1) e2
        exact ⟨J2, c2, s1.trans s2, .cons (w.mono s2) w2⟩
      · cases e
    · cases e
end
end DL

set_option Elab.async false
set_option linter.all false
set_option maxRecDepth 100000
set_option maxHeartbeats 4000000
/-! DLc: the judgements; expressions. -/
namespace DL
open PySem PySem.Spec PyProof.Rows L2

def Out.bind {α β : Type} (o : Out α) (f : α → Rho → Out β) : Out β := match o with
  | .ok a ρ => f a ρ
  | .bad => .bad
def Out.opt {α : Type} (o : Option α) (ρ : Rho) : Out α := match o with
  | some a => .ok a ρ
  | none => .bad
@[simp] theorem bind_ok' {α β : Type} (a : α) (ρ : Rho) (f : α → Rho → Out β) : (Out.ok a ρ).bind f = f a ρ := (rfl)
@[simp] theorem bind_bad' {α β : Type} (f : α → Rho → Out β) : (Out.bad : Out α).bind f = .bad := (rfl)
@[simp] theorem opt_some' {α : Type} (a : α) (ρ : Rho) : Out.opt (some a) ρ = .ok a ρ := (rfl)
@[simp] theorem opt_none' {α : Type} (ρ : Rho) : Out.opt (none : Option α) ρ = .bad := (rfl)
theorem bind_ok {α β : Type} {o : Out α} {f : α → Rho → Out β} {b : β} {ρ' : Rho} (h : o.bind f = .ok b ρ') : ∃ a ρ1, o = .ok a ρ1 ∧ f a ρ1 = .ok b ρ' := by
  cases o with
  | ok a ρ1 => exact ⟨a, ρ1, rfl, h⟩
  | bad => cases h
theorem bo_ok {α β : Type} {o : Option α} {f : α → Rho → Out β} {b : β} {ρ ρ' : Rho} (h : (Out.opt o ρ).bind f = .ok b ρ') : ∃ a, o = some a ∧ f a ρ = .ok b ρ' := by
  cases o with
  | some a => exact ⟨a, rfl, h⟩
  | none => cases h
theorem opt_ok {α : Type} {o : Option α} {ρ ρ' : Rho} {a : α} (h : Out.opt o ρ = .ok a ρ') : o = some a ∧ ρ' = ρ := by
  cases o with
  | some b => cases h; exact ⟨rfl, rfl⟩
  | none => cases h

/-! ### judgements -/
def lP (K : PySem.W.Frag) (B : List Nat) (m : Rho → Out Hd) : TE := fun σ H Q => ∃ σ0 F J ρ h ρ', CI K B σ0 F J ρ σ H ∧ m ρ = .ok h ρ' ∧ ∀ J' H' v, CI K B σ0 F J' ρ' σ H' → Same J J' → HRel K σ J' h v → Q v H'
def lO (K : PySem.W.Frag) (B : List Nat) (m : Rho → Out R) : TE := fun σ H Q => ∃ σ0 F J ρ r ρ', CI K B σ0 F J ρ σ H ∧ m ρ = .ok r ρ' ∧ ∀ J' H' v, CI K B σ0 F J' (ρ' ++ [some r]) (σ ++ [some v]) H' → Same J J' → Q v H'
def lT (K : PySem.W.Frag) (B : List Nat) (m : Rho → Out Bool) : TT := fun σ H Q => ∃ σ0 F J ρ b ρ', CI K B σ0 F J ρ σ H ∧ m ρ = .ok b ρ' ∧ ∀ J' H', CI K B σ0 F J' ρ' σ H' → Same J J' → Q b H'
def lA (K : PySem.W.Frag) (B : List Nat) (n : Nat) (m : Rho → Out (List Hd)) : TA := fun σ H Q => ∃ σ0 F J ρ hs ρ', CI K B σ0 F J ρ σ H ∧ m ρ = .ok hs ρ' ∧ ∀ J' H' vs, CI K B σ0 F J' ρ' σ H' → Same J J' → Paired (HRel K σ J') hs vs → vs.length = n → Q vs H'
structure DP (X : Cx) (B : List Nat) (e : Expr) (m : Rho → Out Hd) : Prop where
  pe : PE X e (lP X.K B m)
structure DO (X : Cx) (B : List Nat) (e : Expr) (m : Rho → Out R) : Prop where
  pe : PE X e (lO X.K B m)
structure DT (X : Cx) (B : List Nat) (e : Expr) (m : Rho → Out Bool) : Prop where
  pt : PT X e (lT X.K B m)
structure DW (X : Cx) (B : List Nat) (e : Expr) (m : Rho → Out Bool) : Prop where
  pw : PW X e (lT X.K B m)
structure DA (X : Cx) (B : List Nat) (es : List Expr) (m : Rho → Out (List Hd)) : Prop where
  pa : PA X es (lA X.K B es.length m)
theorem pe_weak {X : Cx} {e : Expr} {t t' : TE} (h : PE X e t) (w : ∀ σ H Q, t' σ H Q → t σ H Q) : PE X e t' := ⟨fun pins s σ H Q I q => h.run pins s σ H Q I (w σ H Q q)⟩
theorem pt_weak {X : Cx} {e : Expr} {t t' : TT} (h : PT X e t) (w : ∀ σ H Q, t' σ H Q → t σ H Q) : PT X e t' := ⟨fun pins s σ H Q I q => h.run pins s σ H Q I (w σ H Q q)⟩
theorem pw_weak {X : Cx} {e : Expr} {t t' : TT} (h : PW X e t) (w : ∀ σ H Q, t' σ H Q → t σ H Q) : PW X e t' := ⟨fun wh pins s σ H Q I q => h.run wh pins s σ H Q I (w σ H Q q)⟩
theorem pa_weak {X : Cx} {es : List Expr} {t t' : TA} (h : PA X es t) (w : ∀ σ H Q, t' σ H Q → t σ H Q) : PA X es t' := ⟨fun pos pins s σ H Q I q => h.run pos pins s σ H Q I (w σ H Q q)⟩
theorem ps_weak {X : Cx} {st : Stmt} {t t' : TS} (h : PS X st t) (w : ∀ D σ H, t' D σ H → t D σ H) : PS X st t' := ⟨fun pins s σ H D I q => h.run pins s σ H D I (w D σ H q)⟩
theorem pss_weak {X : Cx} {st : List Stmt} {t t' : TS} (h : PSs X st t) (w : ∀ D σ H, t' D σ H → t D σ H) : PSs X st t' := ⟨fun pins s σ H D I q => h.run pins s σ H D I (w D σ H q)⟩

section
variable {X : Cx} {B : List Nat} {a b c e : Expr} {es rest : List Expr} {pos : Pos} {m m1 m2 m3 : Rho → Out Hd}

/-! ### between the judgements -/
def mF (m : Rho → Out R) : Rho → Out Hd := fun ρ => (m ρ).bind fun r ρ1 => (Out.opt r.frz ρ1).bind fun d ρ2 => .ok (.dat d) ρ2
theorem dp_of_do {m : Rho → Out R} (h : DO X B e m) : DP X B e (mF m) := ⟨pe_weak h.pe fun σ H Q ⟨σ0, F, J, ρ, hd, ρ', c, e1, k⟩ => by
  obtain ⟨r, ρ1, e2, ea⟩ := bind_ok e1
  obtain ⟨d, e3, eb⟩ := bo_ok ea
  cases eb
  refine ⟨σ0, F, J, ρ, r, _, c, e2, fun J' H' v c' s => ?_⟩
  obtain ⟨J2, v2, e4, c2, s2, w⟩ := c'.freeze get_app_r e3
  have hl : ρ'.length = σ.length := by have := c'.len; simpa using this
  rw [hl, get_app_r] at e4
  cases e4
  rw [List.set_append_right _ _ (Nat.le_refl _)] at c2
  simp only [Nat.sub_self, List.set_cons_zero] at c2
  exact k J2 H' v (c2.pop c.lb) (s.trans s2) w⟩
/-- what is at hand, shared -/
def mS (m : Rho → Out Hd) : Rho → Out R := fun ρ => (m ρ).bind fun h ρ1 => match fzAt ρ1 h with
  | some (d, ρ2) => .ok (.sh d) ρ2
  | none => .bad
theorem do_of_dp (h : DP X B e m) : DO X B e (mS m) := ⟨pe_weak h.pe fun σ H Q ⟨σ0, F, J, ρ, r, ρ', c, e1, k⟩ => by
  obtain ⟨hd, ρ1, e2, e1_1⟩ := bind_ok e1
  split at e1_1
  · rename_i d ρ2 e3
    cases e1_1
    refine ⟨σ0, F, J, ρ, hd, ρ1, c, e2, fun J' H' v c' s q => ?_⟩
    obtain ⟨J2, c2, s2, w⟩ := c'.fz q e3
    exact k J2 H' v (c2.push w) (s.trans s2)
  · cases e1_1⟩

/-! ### names and constants -/
def mV (i : Nat) : Rho → Out Hd := fun ρ => match ρ[i]? with
  | some (some _) => .ok (.slt i) ρ
  | _ => .bad
theorem CI.slot {K : PySem.W.Frag} {σ0 : L2.St} {F : Fm} {J : Hp} {ρ : Rho} {σ : L2.St} {H : Hp} {i : Nat} {r : R} (c : CI K B σ0 F J ρ σ H) (h : ρ[i]? = some (some r)) : ∃ v, σ[i]? = some (some v) := by
  obtain ⟨fp, o1, _⟩ := c.own
  obtain ⟨v, e, _⟩ := o1 i r h
  exact ⟨v, e⟩
theorem dp_var (i : Nat) {x : Str} (hN : X.N[i]? = some x := by rfl) (hv : Vis X.env.scope x := by first | exact Or.inl rfl | exact Or.inr (Or.inl rfl) | exact Or.inr (Or.inr rfl)) (hd : (x == ("__debug__" : Str)) = false := by decide)
    (hcd : (x == ("__classdict__" : Str)) = false := by decide) : DP X B (.Name x pos) (mV i) := ⟨pe_weak (pe_var hN hv hd hcd) fun σ H Q ⟨σ0, F, J, ρ, h, ρ', c, e1, k⟩ => by
  unfold mV at e1
  split at e1
  · rename_i r hr
    cases e1
    obtain ⟨v, e⟩ := c.slot hr
    exact ⟨v, e, k J H v c (Same.refl _) e⟩
  · cases e1⟩
/-- a name's own thing goes from its slot to the hand (behind it the name is not read) -/
def mMove (i : Nat) : Rho → Out R := fun ρ => match ρ[i]? with
  | some (some r) => .ok r (ρ.set i none)
  | _ => .bad
theorem do_move (i : Nat) {x : Str} (hN : X.N[i]? = some x := by rfl) (hv : Vis X.env.scope x := by first | exact Or.inl rfl | exact Or.inr (Or.inl rfl) | exact Or.inr (Or.inr rfl)) (hd : (x == ("__debug__" : Str)) = false := by decide)
    (hcd : (x == ("__classdict__" : Str)) = false := by decide) : DO X B (.Name x pos) (mMove i) := ⟨pe_weak (pe_var hN hv hd hcd) fun σ H Q ⟨σ0, F, J, ρ, r, ρ', c, e1, k⟩ => by
  unfold mMove at e1
  split at e1
  · rename_i r hr
    cases e1
    obtain ⟨v, e⟩ := c.slot hr
    exact ⟨v, e, k J H v (c.take hr e) (Same.refl _)⟩
  · cases e1⟩
def mC (d : D) : Rho → Out Hd := fun ρ => .ok (.dat d) ρ
theorem dp_tC {v : V} {d : D} (h : PE X e (tC v)) (r : ∀ J, Rp X.K J d v) : DP X B e (mC d) := ⟨pe_weak h fun σ H Q ⟨σ0, F, J, ρ, h, ρ', c, e1, k⟩ => by
  cases e1
  exact k J H v c (Same.refl _) (r J)⟩
theorem dp_int {i j} : DP X B (.Constant (.int i) j pos) (mC (.int i)) := dp_tC pe_int fun _ => .int i
theorem dp_bl {i j} : DP X B (.Constant (.bool i) j pos) (mC (.bl i)) := dp_tC pe_bl fun _ => .bl i
theorem dp_str {i j} : DP X B (.Constant (.str i) j pos) (mC (.str i)) := dp_tC pe_str fun _ => .str i
theorem dp_non {j} : DP X B (.Constant .none j pos) (mC .non) := dp_tC pe_non fun _ => .non
/-- a module's constant -/
theorem dp_glob {x : Str} {v : V} {u : Value} {d : D} (hg : Gl X x) (hm : X.mg x = some u) (r : RelV v u) (rp : ∀ J, Rp X.K J d v) (hd : (x == ("__debug__" : Str)) = false := by decide) : DP X B (.Name x pos) (mC d) := dp_tC (pe_glob hg hm r hd) rp
/-- a built-in class as a value -/
theorem dp_ty {x : Str} {n : String} (hg : Gl X x) (hm : X.mg x = none) (hv : bootBuiltins x = some (.type n)) (hn : x ≠ "__name__" := by decide) (hd : (x == ("__debug__" : Str)) = false := by decide) : DP X B (.Name x pos) (mC (.ty n)) :=
  dp_tC (pe_bltn hg hm hv (v := .ty n) rfl hn hd) fun _ => .ty n

/-! ### operators -/
def mBin (f : D → D → Option D) (m1 m2 : Rho → Out Hd) : Rho → Out Hd := fun ρ => (m1 ρ).bind fun h1 ρ1 => (m2 ρ1).bind fun h2 ρ2 => (Out.opt (res ρ2 h1) ρ2).bind fun d1 _ => (Out.opt (res ρ2 h2) ρ2).bind fun d2 _ => (Out.opt (f d1 d2) ρ2).bind fun d ρ3 => .ok (.dat d) ρ3
theorem mBin_ok {f : D → D → Option D} {ρ ρ' : Rho} {h : Hd} (e : mBin f m1 m2 ρ = .ok h ρ') : ∃ h1 ρ1 h2 d1 d2 d, m1 ρ = .ok h1 ρ1 ∧ m2 ρ1 = .ok h2 ρ' ∧ res ρ' h1 = some d1 ∧ res ρ' h2 = some d2 ∧ f d1 d2 = some d ∧ h = .dat d := by
  obtain ⟨h1, ρ1, e1, e_2⟩ := bind_ok e
  obtain ⟨h2, ρ2, e2, e_3⟩ := bind_ok e_2
  obtain ⟨d1, e3, e_4⟩ := bo_ok e_3
  obtain ⟨d2, e4, e_5⟩ := bo_ok e_4
  obtain ⟨d, e5, e_6⟩ := bo_ok e_5
  cases e_6
  exact ⟨h1, ρ1, h2, d1, d2, d, e1, e2, e3, e4, e5, rfl⟩
/-- what an operation of values is, over data -/
def BinD (K : PySem.W.Frag) (r : R2) (f : D → D → Option D) : Prop := ∀ (J H : Hp) (d1 d2 d : D) (v1 v2 : V) (Q : VK), Same J H → Pk K J H d1 v1 → Pk K J H d2 v2 → f d1 d2 = some d →
  (∀ J' H' v, Ext J H J' H' → Rp K J' d v → Q v H') → r v1 v2 H Q
theorem tOp_bin {r : R2} {f : D → D → Option D} (hd : BinD X.K r f) (σ : L2.St) (H : Hp) (Q : VK) (h : lP X.K B (mBin f m1 m2) σ H Q) : tOp r (lP X.K B m1) (lP X.K B m2) σ H Q := by
  obtain ⟨σ0, F, J, ρ, h, ρ', c, e0, k⟩ := h
  obtain ⟨h1, ρ1, h2, d1, d2, d, e1, e2, e3, e4, e5, rfl⟩ := mBin_ok e0
  refine ⟨σ0, F, J, ρ, h1, ρ1, c, e1, fun J1 H1 v1 c1 s1 r1 => ⟨σ0, F, J1, ρ1, h2, _, c1, e2, fun J2 H2 v2 c2 s2 r2 => ?_⟩⟩
  exact hd J2 H2 d1 d2 d v1 v2 Q c2.jm (c2.res (r1.mono s2) e3) (c2.res r2 e4) e5 fun J3 H3 v x w => k J3 H3 v (c2.ext x) ((s1.trans s2).trans x.j) w
theorem dp_bin {op : Operator} {r : R2} {f : D → D → Option D} (ho : OpR X (binaryOp op) r) (hd : BinD X.K r f) (ha : DP X B a m1) (hb : DP X B b m2) : DP X B (.BinOp a op b pos) (mBin f m1 m2) := ⟨pe_weak (pe_op ho ha.pe hb.pe) (tOp_bin hd)⟩
theorem dp_cmp {op : CmpOp} {r : R2} {f : D → D → Option D} (ho : OpR X (compareOp op) r) (hd : BinD X.K r f) (ha : DP X B a m1) (hb : DP X B b m2) (hm : behindInMarks op b = false) : DP X B (.Compare a [op] [b] pos) (mBin f m1 m2) := ⟨pe_weak (pe_cmpR ho ha.pe hb.pe hm) (tOp_bin hd)⟩
/-- a bool at hand -/
def mTst (m : Rho → Out Hd) : Rho → Out Bool := fun ρ => (m ρ).bind fun h ρ1 => match res ρ1 h with
  | some (.bl b) => .ok b ρ1
  | _ => .bad
theorem mTst_ok {ρ ρ' : Rho} {k : Bool} (e : mTst m ρ = .ok k ρ') : ∃ h, m ρ = .ok h ρ' ∧ res ρ' h = some (.bl k) := by
  obtain ⟨h, ρ1, e1, e_7⟩ := bind_ok e
  split at e_7
  · rename_i k' hk
    cases e_7
    exact ⟨h, e1, hk⟩
  · cases e_7
theorem tTest_tst {t : TE} (hw : ∀ σ H Q, lP X.K B m σ H Q → t σ H Q) (σ : L2.St) (H : Hp) (Q : Bool → Hp → Prop) (h : lT X.K B (mTst m) σ H Q) : tTest t σ H Q := by
  obtain ⟨σ0, F, J, ρ, k, ρ', c, e1, q⟩ := h
  obtain ⟨h, e1', e2⟩ := mTst_ok e1
  refine hw σ H _ ⟨σ0, F, J, ρ, h, ρ', c, e1', fun J' H' v c' s r => ⟨k, (c'.res r e2).bl, q J' H' c' s⟩⟩
theorem dt_cmp {op : CmpOp} {r : R2} {f : D → D → Option D} (ho : OpR X (compareOp op) r) (hd : BinD X.K r f) (ha : DP X B a m1) (hb : DP X B b m2) (hm : behindInMarks op b = false) : DT X B (.Compare a [op] [b] pos) (mTst (mBin f m1 m2)) :=
  ⟨pt_weak (pt_cmpR ho ha.pe hb.pe hm) (tTest_tst (tOp_bin hd))⟩
/-- a op b op' c -/
def mChain (f g : D → D → Option D) (m1 m2 m3 : Rho → Out Hd) : Rho → Out Hd := fun ρ => (m1 ρ).bind fun h1 ρ1 => (m2 ρ1).bind fun h2 ρ2 => (Out.opt (res ρ2 h1) ρ2).bind fun d1 _ => (Out.opt (res ρ2 h2) ρ2).bind fun d2 _ => match f d1 d2 with
  | some (.bl true) => (m3 ρ2).bind fun h3 ρ3 => (Out.opt (res ρ3 h2) ρ3).bind fun d2 _ => (Out.opt (res ρ3 h3) ρ3).bind fun d3 _ => (Out.opt (g d2 d3) ρ3).bind fun d ρ4 => .ok (.dat d) ρ4
  | some (.bl false) => .ok (.dat (.bl false)) ρ2
  | _ => .bad
theorem tChain_ch {r r' : R2} {f g : D → D → Option D} (hd : BinD X.K r f) (hg : BinD X.K r' g) (σ : L2.St) (H : Hp) (Q : VK) (h : lP X.K B (mChain f g m1 m2 m3) σ H Q) : tChain r r' (lP X.K B m1) (lP X.K B m2) (lP X.K B m3) σ H Q := by
  obtain ⟨σ0, F, J, ρ, h, ρ', c, e, k⟩ := h
  obtain ⟨h1, ρ1, e1, e_8⟩ := bind_ok e
  obtain ⟨h2, ρ2, e2, e_9⟩ := bind_ok e_8
  obtain ⟨d1, e3, e_10⟩ := bo_ok e_9
  obtain ⟨d2, e4, e_11⟩ := bo_ok e_10
  refine ⟨σ0, F, J, ρ, h1, ρ1, c, e1, fun J1 H1 v1 c1 s1 r1 => ⟨σ0, F, J1, ρ1, h2, _, c1, e2, fun J2 H2 v2 c2 s2 r2 => ?_⟩⟩
  split at e_11
  · rename_i ef
    obtain ⟨h3, ρ5, e5, e_12⟩ := bind_ok e_11
    obtain ⟨d2', e6, e_13⟩ := bo_ok e_12
    obtain ⟨d3, e7, e_14⟩ := bo_ok e_13
    obtain ⟨d, e8, e_15⟩ := bo_ok e_14
    cases e_15
    refine hd J2 H2 d1 d2 _ v1 v2 _ c2.jm (c2.res (r1.mono s2) e3) (c2.res r2 e4) ef fun J3 H3 v x w => ?_
    cases w
    refine ⟨true, rfl, ?_⟩
    rw [if_pos rfl]
    refine ⟨σ0, F, J3, _, h3, _, c2.ext x, e5, fun J4 H4 v4 c4 s4 r4 => ?_⟩
    exact hg J4 H4 d2' d3 d v2 v4 Q c4.jm (c4.res (r2.mono (x.j.trans s4)) e6) (c4.res r4 e7) e8 fun J5 H5 v5 x5 w5 => k J5 H5 v5 (c4.ext x5) (((s1.trans s2).trans x.j).trans (s4.trans x5.j)) w5
  · rename_i ef
    cases e_11
    refine hd J2 H2 d1 d2 _ v1 v2 _ c2.jm (c2.res (r1.mono s2) e3) (c2.res r2 e4) ef fun J3 H3 v x w => ?_
    cases w
    refine ⟨false, rfl, ?_⟩
    rw [if_neg Bool.false_ne_true]
    exact k J3 H3 _ (c2.ext x) ((s1.trans s2).trans x.j) (.bl false)
  · cases e_11
theorem dp_chain {op op' : CmpOp} {r r' : R2} {f g : D → D → Option D} (ho : OpR X (compareOp op) r) (hd : BinD X.K r f) (ho' : OpR X (compareOp op') r') (hg : BinD X.K r' g) (ha : DP X B a m1) (hb : DP X B b m2) (hc : DP X B c m3)
    (hm : lastMarks [op, op'] [b, c] = false := by with_unfolding_all rfl) : DP X B (.Compare a [op, op'] [b, c] pos) (mChain f g m1 m2 m3) := ⟨pe_weak (pe_chain ho ho' ha.pe hb.pe hc.pe hm) (tChain_ch hd hg)⟩
theorem dt_chain {op op' : CmpOp} {r r' : R2} {f g : D → D → Option D} (ho : OpR X (compareOp op) r) (hd : BinD X.K r f) (ho' : OpR X (compareOp op') r') (hg : BinD X.K r' g) (ha : DP X B a m1) (hb : DP X B b m2) (hc : DP X B c m3)
    (hm : lastMarks [op, op'] [b, c] = false := by with_unfolding_all rfl) : DT X B (.Compare a [op, op'] [b, c] pos) (mTst (mChain f g m1 m2 m3)) := ⟨pt_weak (pt_chain ho ho' ha.pe hb.pe hc.pe hm) (tTest_tst (tChain_ch hd hg))⟩
def mUn (f : D → Option D) (m : Rho → Out Hd) : Rho → Out Hd := fun ρ => (m ρ).bind fun h ρ1 => (Out.opt (res ρ1 h) ρ1).bind fun d _ => (Out.opt (f d) ρ1).bind fun d' ρ2 => .ok (.dat d') ρ2
def UnD (K : PySem.W.Frag) (r : V → Hp → VK → Prop) (f : D → Option D) : Prop := ∀ (J H : Hp) (d1 d : D) (v1 : V) (Q : VK), Same J H → Pk K J H d1 v1 → f d1 = some d →
  (∀ J' H' v, Ext J H J' H' → Rp K J' d v → Q v H') → r v1 H Q
theorem mUn_ok {f : D → Option D} {ρ ρ' : Rho} {h : Hd} (e : mUn f m ρ = .ok h ρ') : ∃ h1 d1 d, m ρ = .ok h1 ρ' ∧ res ρ' h1 = some d1 ∧ f d1 = some d ∧ h = .dat d := by
  obtain ⟨h1, ρ1, e1, e_16⟩ := bind_ok e
  obtain ⟨d1, e3, e_17⟩ := bo_ok e_16
  obtain ⟨d, e5, e_18⟩ := bo_ok e_17
  cases e_18
  exact ⟨h1, d1, d, e1, e3, e5, rfl⟩
theorem tUn_un {r : V → Hp → VK → Prop} {f : D → Option D} (hd : UnD X.K r f) (σ : L2.St) (H : Hp) (Q : VK) (h : lP X.K B (mUn f m) σ H Q) : tUn r (lP X.K B m) σ H Q := by
  obtain ⟨σ0, F, J, ρ, h, ρ', c, e0, k⟩ := h
  obtain ⟨h1, d1, d, e1, e3, e5, rfl⟩ := mUn_ok e0
  exact ⟨σ0, F, J, ρ, h1, _, c, e1, fun J1 H1 v1 c1 s1 r1 => hd J1 H1 d1 d v1 Q c1.jm (c1.res r1 e3) e5 fun J3 H3 v x w => k J3 H3 v (c1.ext x) (s1.trans x.j) w⟩
theorem dp_un {op : UnaryOp} {r : V → Hp → VK → Prop} {f : D → Option D} (ho : UnR X (unaryOp op) r) (hd : UnD X.K r f) (ha : DP X B a m) : DP X B (.UnaryOp op a pos) (mUn f m) := ⟨pe_weak (pe_un ho ha.pe) (tUn_un hd)⟩

/-! ### tests -/
def tru : D → Option Bool
  | .non => some false
  | .bl b => some b
  | .int i => some (i != 0)
  | .str x => if x.length ≤ sizeLine then some ((x.length : Int) != 0) else none
  | .lst ds => some !ds.isEmpty
  | .tup ds => some !ds.isEmpty
  | .dK kvs => some !kvs.isEmpty
  | _ => none
def mTru (m : Rho → Out Hd) : Rho → Out Bool := fun ρ => (m ρ).bind fun h ρ1 => (Out.opt (res ρ1 h) ρ1).bind fun d _ => (Out.opt (tru d) ρ1).bind fun b ρ2 => .ok b ρ2
theorem RpL.emp {K : PySem.W.Frag} {J : Hp} {ds : List D} {vs : List V} (h : RpL K J ds vs) : ds.isEmpty = vs.isEmpty := by cases h <;> rfl
theorem RpK.emp {K : PySem.W.Frag} {J : Hp} {ds : List (Key × D)} {vs : List (Key × V)} (h : RpK K J ds vs) : ds.isEmpty = vs.isEmpty := by cases h <;> rfl
theorem tru_of {K : PySem.W.Frag} {J H : Hp} {d : D} {v : V} {k : Bool} (m : Same J H) (p : Pk K J H d v) (e : tru d = some k) : TruV K v H k := by
  cases d with
  | non => cases p.non; cases e; rfl
  | bl b => cases p.bl; cases e; rfl
  | int i => cases p.int; cases e; rfl
  | str x =>
    cases p.str
    by_cases hx : x.length ≤ sizeLine
    · rw [show tru (.str x) = some ((x.length : Int) != 0) from if_pos hx] at e
      cases e; exact ⟨hx, rfl⟩
    · rw [show tru (.str x) = none from if_neg hx] at e
      cases e
  | lst ds => obtain ⟨a, vs, rfl, h, r⟩ := p.lst m; cases e; exact .inl ⟨vs, SqL.of h, by rw [r.emp]⟩
  | tup ds => obtain ⟨a, vs, rfl, h, r⟩ := p.tup m; cases e; exact .inr (.inl ⟨vs, h, by rw [r.emp]⟩)
  | dK kvs => obtain ⟨a, vs, rfl, h, r⟩ := p.dK m; cases e; exact .inr (.inr ⟨vs, h, by rw [r.emp]⟩)
  | _ => cases e
theorem dt_tru (ha : DP X B a m) (he : ∀ whole, isTrue a X.env whole = (do let v ← whole; standAt a.pos; holding [v] (truthy v)) := by intro _; rfl) : DT X B a (mTru m) := ⟨pt_weak (pt_truth ha.pe he) fun σ H Q ⟨σ0, F, J, ρ, k, ρ', c, e, q⟩ => by
  obtain ⟨h1, ρ1, e1, e_19⟩ := bind_ok e
  obtain ⟨d1, e3, e_20⟩ := bo_ok e_19
  obtain ⟨d, e5, e_21⟩ := bo_ok e_20
  cases e_21
  exact ⟨σ0, F, J, ρ, h1, _, c, e1, fun J1 H1 v1 c1 s1 r1 => ⟨k, tru_of c1.jm (c1.res r1 e3) e5, q J1 H1 c1 s1⟩⟩⟩
def mAnd (m1 m2 : Rho → Out Bool) : Rho → Out Bool := fun ρ => (m1 ρ).bind fun b ρ1 => if b = true then m2 ρ1 else .ok false ρ1
def mOr (m1 m2 : Rho → Out Bool) : Rho → Out Bool := fun ρ => (m1 ρ).bind fun b ρ1 => if b = true then .ok true ρ1 else m2 ρ1
def mNot (m : Rho → Out Bool) : Rho → Out Bool := fun ρ => (m ρ).bind fun b ρ1 => .ok (!b) ρ1
variable {n1 n2 : Rho → Out Bool}
theorem DW.dt (h : DW X B e n1) : DT X B e n1 := ⟨h.pw.pt⟩
theorem dw_and1 (ha : DT X B a n1) : DW X B (.BoolOp .And [a] pos) n1 := ⟨pw_and1 ha.pt⟩
theorem dw_or1 (ha : DT X B a n1) : DW X B (.BoolOp .Or [a] pos) n1 := ⟨pw_or1 ha.pt⟩
theorem dw_and (ha : DT X B a n1) (hb : DW X B (.BoolOp .And (b :: rest) pos) n2) : DW X B (.BoolOp .And (a :: b :: rest) pos) (mAnd n1 n2) := ⟨pw_weak (pw_and ha.pt hb.pw) fun σ H Q ⟨σ0, F, J, ρ, k, ρ', c, e, q⟩ => by
  obtain ⟨b1, ρ1, e1, e_22⟩ := bind_ok e
  refine ⟨σ0, F, J, ρ, b1, ρ1, c, e1, fun J1 H1 c1 s1 => ?_⟩
  by_cases hb : b1 = true
  · rw [if_pos hb] at e_22 ⊢
    exact ⟨σ0, F, J1, ρ1, k, ρ', c1, e_22, fun J2 H2 c2 s2 => q J2 H2 c2 (s1.trans s2)⟩
  · rw [if_neg hb] at e_22 ⊢
    cases e_22
    exact q J1 H1 c1 s1⟩
theorem dw_or (ha : DT X B a n1) (hb : DW X B (.BoolOp .Or (b :: rest) pos) n2) : DW X B (.BoolOp .Or (a :: b :: rest) pos) (mOr n1 n2) := ⟨pw_weak (pw_or ha.pt hb.pw) fun σ H Q ⟨σ0, F, J, ρ, k, ρ', c, e, q⟩ => by
  obtain ⟨b1, ρ1, e1, e_23⟩ := bind_ok e
  refine ⟨σ0, F, J, ρ, b1, ρ1, c, e1, fun J1 H1 c1 s1 => ?_⟩
  by_cases hb : b1 = true
  · rw [if_pos hb] at e_23 ⊢
    cases e_23
    exact q J1 H1 c1 s1
  · rw [if_neg hb] at e_23 ⊢
    exact ⟨σ0, F, J1, ρ1, k, ρ', c1, e_23, fun J2 H2 c2 s2 => q J2 H2 c2 (s1.trans s2)⟩⟩
theorem dt_not (ha : DT X B a n1) : DT X B (.UnaryOp .Not a pos) (mNot n1) := ⟨pt_weak (pt_not ha.pt) fun σ H Q ⟨σ0, F, J, ρ, k, ρ', c, e, q⟩ => by
  obtain ⟨b1, ρ1, e1, e_24⟩ := bind_ok e
  cases e_24
  exact ⟨σ0, F, J, ρ, b1, _, c, e1, fun J1 H1 c1 s1 => q J1 H1 c1 s1⟩⟩
/-- .. as values (of bools) -/
def mAndV (m1 m2 : Rho → Out Hd) : Rho → Out Hd := fun ρ => (mTst m1 ρ).bind fun b ρ1 => if b = true then m2 ρ1 else .ok (.dat (.bl false)) ρ1
def mOrV (m1 m2 : Rho → Out Hd) : Rho → Out Hd := fun ρ => (mTst m1 ρ).bind fun b ρ1 => if b = true then .ok (.dat (.bl true)) ρ1 else m2 ρ1
def mNotV (m : Rho → Out Hd) : Rho → Out Hd := fun ρ => (mTst m ρ).bind fun b ρ1 => .ok (.dat (.bl (!b))) ρ1
theorem dp_one {op} (h : DP X B a m) : DP X B (.BoolOp op [a] pos) m := ⟨pe_one h.pe⟩
theorem dp_and (ha : DP X B a m1) (hb : DP X B (.BoolOp .And (b :: rest) pos) m2) : DP X B (.BoolOp .And (a :: b :: rest) pos) (mAndV m1 m2) := ⟨pe_weak (pe_and ha.pe hb.pe) fun σ H Q ⟨σ0, F, J, ρ, h, ρ', c, e, q⟩ => by
  obtain ⟨b1, ρ1, e1, e_25⟩ := bind_ok e
  obtain ⟨h1, e1', e2⟩ := mTst_ok e1
  refine ⟨σ0, F, J, ρ, h1, ρ1, c, e1', fun J1 H1 v c1 s1 r1 => ⟨b1, (c1.res r1 e2).bl, ?_⟩⟩
  by_cases hb : b1 = true
  · rw [if_pos hb] at e_25 ⊢
    exact ⟨σ0, F, J1, ρ1, h, ρ', c1, e_25, fun J2 H2 v2 c2 s2 => q J2 H2 v2 c2 (s1.trans s2)⟩
  · rw [if_neg hb] at e_25 ⊢
    cases e_25
    exact q J1 H1 _ c1 s1 (.bl false)⟩
theorem dp_or (ha : DP X B a m1) (hb : DP X B (.BoolOp .Or (b :: rest) pos) m2) : DP X B (.BoolOp .Or (a :: b :: rest) pos) (mOrV m1 m2) := ⟨pe_weak (pe_or ha.pe hb.pe) fun σ H Q ⟨σ0, F, J, ρ, h, ρ', c, e, q⟩ => by
  obtain ⟨b1, ρ1, e1, e_26⟩ := bind_ok e
  obtain ⟨h1, e1', e2⟩ := mTst_ok e1
  refine ⟨σ0, F, J, ρ, h1, ρ1, c, e1', fun J1 H1 v c1 s1 r1 => ⟨b1, (c1.res r1 e2).bl, ?_⟩⟩
  by_cases hb : b1 = true
  · rw [if_pos hb] at e_26 ⊢
    cases e_26
    exact q J1 H1 _ c1 s1 (.bl true)
  · rw [if_neg hb] at e_26 ⊢
    exact ⟨σ0, F, J1, ρ1, h, ρ', c1, e_26, fun J2 H2 v2 c2 s2 => q J2 H2 v2 c2 (s1.trans s2)⟩⟩
theorem dp_not (ha : DP X B a m) : DP X B (.UnaryOp .Not a pos) (mNotV m) := ⟨pe_weak (pe_not ha.pe) fun σ H Q ⟨σ0, F, J, ρ, h, ρ', c, e, q⟩ => by
  obtain ⟨b1, ρ1, e1, e_27⟩ := bind_ok e
  obtain ⟨h1, e1', e2⟩ := mTst_ok e1
  cases e_27
  exact ⟨σ0, F, J, ρ, h1, _, c, e1', fun J1 H1 v c1 s1 r1 => ⟨b1, (c1.res r1 e2).bl, q J1 H1 _ c1 s1 (.bl _)⟩⟩⟩
def mIfE (n : Rho → Out Bool) (m1 m2 : Rho → Out Hd) : Rho → Out Hd := fun ρ => (n ρ).bind fun b ρ1 => if b = true then m1 ρ1 else m2 ρ1
theorem dp_if {n : Rho → Out Bool} (hc : DT X B c n) (ha : DP X B a m1) (hb : DP X B b m2) : DP X B (.IfExp c a b pos) (mIfE n m1 m2) := ⟨pe_weak (pe_ifExp hc.pt ha.pe hb.pe) fun σ H Q ⟨σ0, F, J, ρ, h, ρ', c, e, q⟩ => by
  obtain ⟨b1, ρ1, e1, e_28⟩ := bind_ok e
  refine ⟨σ0, F, J, ρ, b1, ρ1, c, e1, fun J1 H1 c1 s1 => ?_⟩
  by_cases hb : b1 = true
  · rw [if_pos hb] at e_28 ⊢
    exact ⟨σ0, F, J1, ρ1, h, ρ', c1, e_28, fun J2 H2 v2 c2 s2 => q J2 H2 v2 c2 (s1.trans s2)⟩
  · rw [if_neg hb] at e_28 ⊢
    exact ⟨σ0, F, J1, ρ1, h, ρ', c1, e_28, fun J2 H2 v2 c2 s2 => q J2 H2 v2 c2 (s1.trans s2)⟩⟩

/-! ### arguments, displays, calls of built-ins -/
def mNil : Rho → Out (List Hd) := fun ρ => .ok [] ρ
def mCons (m : Rho → Out Hd) (ms : Rho → Out (List Hd)) : Rho → Out (List Hd) := fun ρ => (m ρ).bind fun h ρ1 => (ms ρ1).bind fun hs ρ2 => .ok (h :: hs) ρ2
theorem da_nil : DA X B [] mNil := ⟨pa_weak pa_nil fun σ H Q ⟨σ0, F, J, ρ, h, ρ', c, e, q⟩ => by
  cases e
  exact q J H [] c (Same.refl _) .nil rfl⟩
theorem da_cons {ms : Rho → Out (List Hd)} (ha : DP X B e m) (hr : DA X B es ms) (hs : starEach (e :: es) X.env = (false, eval e X.env) :: starEach es X.env := by rfl) : DA X B (e :: es) (mCons m ms) := ⟨pa_weak (pa_cons ha.pe hr.pa hs) fun σ H Q ⟨σ0, F, J, ρ, h, ρ', c, e, q⟩ => by
  obtain ⟨h1, ρ1, e1, e_29⟩ := bind_ok e
  obtain ⟨hs, ρ2, e2, e_30⟩ := bind_ok e_29
  cases e_30
  exact ⟨σ0, F, J, ρ, h1, ρ1, c, e1, fun J1 H1 v c1 s1 r1 => ⟨σ0, F, J1, ρ1, hs, _, c1, e2, fun J2 H2 vs c2 s2 r2 l => q J2 H2 (v :: vs) c2 (s1.trans s2) (.cons (r1.mono s2) r2) (by simp [l])⟩⟩⟩
def mFz (ms : Rho → Out (List Hd)) : Rho → Out (List D) := fun ρ => (ms ρ).bind fun hs ρ1 => match fzL ρ1 hs with
  | some (ds, ρ2) => .ok ds ρ2
  | none => .bad
theorem mFz_ok {ms : Rho → Out (List Hd)} {ρ ρ' : Rho} {ds : List D} (e : mFz ms ρ = .ok ds ρ') : ∃ hs ρ1, ms ρ = .ok hs ρ1 ∧ fzL ρ1 hs = some (ds, ρ') := by
  obtain ⟨hs, ρ1, e1, e_31⟩ := bind_ok e
  split at e_31
  · rename_i ds' ρ2 e2
    cases e_31
    exact ⟨hs, ρ1, e1, e2⟩
  · cases e_31
def mTup (ms : Rho → Out (List Hd)) : Rho → Out Hd := fun ρ => (mFz ms ρ).bind fun ds ρ1 => .ok (.dat (.tup ds)) ρ1
def mLst (ms : Rho → Out (List Hd)) : Rho → Out R := fun ρ => (mFz ms ρ).bind fun ds ρ1 => .ok (.ol ds) ρ1
theorem le_line {n : Nat} (h : n ≤ 100000) : n ≤ sizeLine := Nat.le_trans h (by rw [sizeLine_eq]; decide)
theorem dp_tup {x1} {ms : Rho → Out (List Hd)} (h : DA X B es ms) (hl : es.length ≤ 100000 := by decide) : DP X B (.Tuple es x1 pos) (mTup ms) := ⟨pe_weak (pe_tup h.pa) fun σ H Q ⟨σ0, F, J, ρ, h, ρ', c, e, q⟩ => by
  obtain ⟨ds, ρ1, e1, e_32⟩ := bind_ok e
  cases e_32
  obtain ⟨hs, ρ2, e2, e3⟩ := mFz_ok e1
  refine ⟨σ0, F, J, ρ, hs, ρ2, c, e2, fun J1 H1 vs c1 s1 r1 l => ⟨by rw [l]; exact le_line hl, fun p hp => ?_⟩⟩
  obtain ⟨J2, c2, s2, w⟩ := c1.fzL r1 e3
  have x := Ext.new (o := .tup vs) c2.jm hp
  exact q _ _ _ (c2.ext x) ((s1.trans s2).trans x.j) (.tup (.inl upd_same) (w.mono x.j))⟩
/-- a new thing in one's own hand -/
theorem CI.fresh {K : PySem.W.Frag} {σ0 : L2.St} {F : Fm} {J : Hp} {ρ : Rho} {σ : L2.St} {H : Hp} {p : Addr} {o : HO} {r : R} (c : CI K B σ0 F J ρ σ H) (hp : H p = none) (w : OwnAt K J (upd H p o) r (.ref p) [p]) : CI K B σ0 F J (ρ ++ [some r]) (σ ++ [some (.ref p)]) (upd H p o) := by
  obtain ⟨fp, o1, o2, o3⟩ := c.own
  have np : ∀ {i r}, ρ[i]? = some (some r) → p ∉ fp i := fun {i r} h hm => by
    obtain ⟨v, _, w⟩ := o1 i r h
    obtain ⟨o, e⟩ := w.there p hm
    rw [hp] at e; cases e
  have key : ∀ {j : Nat} {q : R}, (ρ ++ [some r])[j]? = some (some q) → (j = ρ.length ∧ q = r) ∨ (j ≠ ρ.length ∧ ρ[j]? = some (some q)) := fun {j q} h => by
    rcases get_app h with h | ⟨e, h⟩
    · exact .inr ⟨Nat.ne_of_lt (List.getElem?_eq_some_iff.mp h).1, h⟩
    · exact .inl ⟨e, (Option.some.inj h).symm⟩
  have s0 : Same H (upd H p o) := same_upd hp
  refine ⟨c.fr.trans s0, c.jm.trans s0, c.av, by simp [c.len], by have := c.lb; simp; omega, fun i hi => ⟨(c.pin i hi).1, by rw [List.getElem?_append_left (c.lt hi)]; exact (c.pin i hi).2⟩, ovr fp ρ.length [p], fun i r h => ?_, fun i r a h ha => ?_, fun i j r r' a h h' ha hb => ?_⟩
  · rcases key h with ⟨rfl, rfl⟩ | ⟨ne, h⟩
    · exact ⟨_, by rw [c.len]; exact get_app_r, by rw [ovr_eq]; exact w⟩
    · obtain ⟨v, e1, w⟩ := o1 i r h
      exact ⟨v, get_app_l e1, by rw [ovr_ne ne]; exact w.mono (Same.refl _) fun a _ o q => s0 _ _ q⟩
  · rcases key h with ⟨rfl, rfl⟩ | ⟨ne, h⟩
    · rw [ovr_eq, List.mem_singleton] at ha
      subst ha
      exact ⟨c.jm.free hp, c.fr.free hp⟩
    · rw [ovr_ne ne] at ha; exact o2 i r a h ha
  · rcases key h with ⟨rfl, rfl⟩ | ⟨ne, h3⟩
    · rcases key h' with ⟨rfl, rfl⟩ | ⟨ne', h4⟩
      · rfl
      · rw [ovr_eq, List.mem_singleton] at ha
        subst ha
        rw [ovr_ne ne'] at hb
        exact absurd hb (np h4)
    · rcases key h' with ⟨rfl, rfl⟩ | ⟨ne', h4⟩
      · rw [ovr_eq, List.mem_singleton] at hb
        subst hb
        rw [ovr_ne ne] at ha
        exact absurd ha (np h3)
      · rw [ovr_ne ne] at ha; rw [ovr_ne ne'] at hb; exact o3 i j r r' a h3 h4 ha hb
theorem do_lst {ms : Rho → Out (List Hd)} (h : DA X B es ms) (hl : es.length ≤ 100000 := by decide) : DO X B (.List es pos) (mLst ms) := ⟨pe_weak (pe_lst h.pa) fun σ H Q ⟨σ0, F, J, ρ, h, ρ', c, e, q⟩ => by
  obtain ⟨ds, ρ1, e1, e_33⟩ := bind_ok e
  cases e_33
  obtain ⟨hs, ρ2, e2, e3⟩ := mFz_ok e1
  refine ⟨σ0, F, J, ρ, hs, ρ2, c, e2, fun J1 H1 vs c1 s1 r1 l => ⟨by rw [l]; exact le_line hl, fun p hp => ?_⟩⟩
  obtain ⟨J2, c2, s2, w⟩ := c1.fzL r1 e3
  exact q _ _ _ (c2.fresh hp ⟨p, vs, rfl, rfl, upd_same, w⟩) (s1.trans s2)⟩

/-- a call by values, over data -/
def PkL (K : PySem.W.Frag) (J H : Hp) : List D → List V → Prop := Paired (Pk K J H)
def resL (ρ : Rho) : List Hd → Option (List D)
  | [] => some []
  | h :: hs => match res ρ h with
    | some d => match resL ρ hs with
      | some ds => some (d :: ds)
      | none => none
    | none => none
theorem CI.resL {K : PySem.W.Frag} {σ0 : L2.St} {F : Fm} {J : Hp} {ρ : Rho} {σ : L2.St} {H : Hp} (c : CI K B σ0 F J ρ σ H) : ∀ {hs : List Hd} {vs : List V} {ds : List D}, Paired (HRel K σ J) hs vs → DL.resL ρ hs = some ds → PkL K J H ds vs
  | [], _, _, .nil, e => by cases e; exact .nil
  | h :: hs, _, ds, .cons q r, e => by
    unfold DL.resL at e
    split at e
    · rename_i d ed
      split at e
      · rename_i ds' e2
        cases e
        exact .cons (c.res q ed) (c.resL r e2)
      · cases e
    · cases e
def mRes (ms : Rho → Out (List Hd)) : Rho → Out (List D) := fun ρ => (ms ρ).bind fun hs ρ1 => (Out.opt (resL ρ1 hs) ρ1).bind fun ds ρ2 => .ok ds ρ2
def CallD (K : PySem.W.Frag) (r : List V → Hp → VK → Prop) (f : List D → Option D) : Prop := ∀ (J H : Hp) (ds : List D) (d : D) (vs : List V) (Q : VK), Same J H → PkL K J H ds vs → f ds = some d →
  (∀ J' H' v, Ext J H J' H' → Rp K J' d v → Q v H') → r vs H Q
def mCall (f : List D → Option D) (ms : Rho → Out (List Hd)) : Rho → Out Hd := fun ρ => (mRes ms ρ).bind fun ds ρ1 => (Out.opt (f ds) ρ1).bind fun d ρ2 => .ok (.dat d) ρ2
theorem mRes_ok {ms : Rho → Out (List Hd)} {ρ ρ' : Rho} {ds : List D} (e : mRes ms ρ = .ok ds ρ') : ∃ hs, ms ρ = .ok hs ρ' ∧ resL ρ' hs = some ds := by
  obtain ⟨hs, ρ1, e1, e_34⟩ := bind_ok e
  obtain ⟨d, e2, e_35⟩ := bo_ok e_34
  cases e_35
  exact ⟨hs, e1, e2⟩
theorem tCB_call {r : List V → Hp → VK → Prop} {f : List D → Option D} {ms : Rho → Out (List Hd)} {n : Nat} (hd : CallD X.K r f) (σ : L2.St) (H : Hp) (Q : VK) (h : lP X.K B (mCall f ms) σ H Q) : tCB r (lA X.K B n ms) σ H Q := by
  obtain ⟨σ0, F, J, ρ, h, ρ', c, e, k⟩ := h
  obtain ⟨ds, ρ1, e1, e_36⟩ := bind_ok e
  obtain ⟨hs, e2, e3⟩ := mRes_ok e1
  obtain ⟨d, e4, e_37⟩ := bo_ok e_36
  cases e_37
  exact ⟨σ0, F, J, ρ, hs, _, c, e2, fun J1 H1 vs c1 s1 r1 l => hd J1 H1 ds d vs Q c1.jm (c1.resL r1 e3) e4 fun J3 H3 v x w => k J3 H3 v (c1.ext x) (s1.trans x.j) w⟩
variable {x : Str} {p : Pos} {id T : String} {r : List V → Hp → VK → Prop} {f : List D → Option D} {ms : Rho → Out (List Hd)}
theorem dp_callB (hc : CallR X (.builtin id) r) (hd : CallD X.K r f) (hg : Gl X x) (hm : X.mg x = none) (hv : bootBuiltins x = some (.builtin id)) (ha : DA X B (e :: es) ms) (hn : x ≠ "__name__" := by decide) (hdb : (x == ("__debug__" : Str)) = false := by decide)
    (he : starEach (e :: es) X.env = (false, eval e X.env) :: starEach es X.env := by rfl) (hpl : (backTo pos (starEach es X.env)).any (·.1) = false := by rfl) : DP X B (.Call (.Name x p) (e :: es) [] pos) (mCall f ms) :=
  ⟨pe_weak (pe_callB hc hg hm hv ha.pa hn hdb he hpl) (tCB_call hd)⟩
theorem dp_callTy (hc : CallR X (.type T) r) (hd : CallD X.K r f) (hg : Gl X x) (hm : X.mg x = none) (hv : bootBuiltins x = some (.type T)) (ha : DA X B (e :: es) ms) (hn : x ≠ "__name__" := by decide) (hdb : (x == ("__debug__" : Str)) = false := by decide)
    (he : starEach (e :: es) X.env = (false, eval e X.env) :: starEach es X.env := by rfl) (hpl : (backTo pos (starEach es X.env)).any (·.1) = false := by rfl) : DP X B (.Call (.Name x p) (e :: es) [] pos) (mCall f ms) :=
  ⟨pe_weak (pe_callTy hc hg hm hv ha.pa hn hdb he hpl) (tCB_call hd)⟩
/-- .. that makes a list of its own -/
def CallL (K : PySem.W.Frag) (r : List V → Hp → VK → Prop) (f : List D → Option (List D)) : Prop := ∀ (J H : Hp) (ds es : List D) (vs : List V) (Q : VK), Same J H → PkL K J H ds vs → f ds = some es →
  (∀ p ws H0, Ext J H J H0 → H0 p = none → RpL K J es ws → Q (.ref p) (upd H0 p (.lst ws))) → r vs H Q
def mCallL (f : List D → Option (List D)) (ms : Rho → Out (List Hd)) : Rho → Out R := fun ρ => (mRes ms ρ).bind fun ds ρ1 => (Out.opt (f ds) ρ1).bind fun d ρ2 => .ok (.ol d) ρ2
theorem tCB_callL {r : List V → Hp → VK → Prop} {f : List D → Option (List D)} {ms : Rho → Out (List Hd)} {n : Nat} (hd : CallL X.K r f) (σ : L2.St) (H : Hp) (Q : VK) (h : lO X.K B (mCallL f ms) σ H Q) : tCB r (lA X.K B n ms) σ H Q := by
  obtain ⟨σ0, F, J, ρ, h, ρ', c, e, k⟩ := h
  obtain ⟨ds, ρ1, e1, e_38⟩ := bind_ok e
  obtain ⟨hs, e2, e3⟩ := mRes_ok e1
  obtain ⟨d, e4, e_39⟩ := bo_ok e_38
  cases e_39
  refine ⟨σ0, F, J, ρ, hs, _, c, e2, fun J1 H1 vs c1 s1 r1 l => hd J1 H1 ds d vs Q c1.jm (c1.resL r1 e3) e4 fun p ws H0 x hp w => ?_⟩
  exact k J1 _ _ ((c1.ext x).fresh hp ⟨p, ws, rfl, rfl, upd_same, w⟩) s1
variable {g : List D → Option (List D)}
theorem do_callB (hc : CallR X (.builtin id) r) (hd : CallL X.K r g) (hg : Gl X x) (hm : X.mg x = none) (hv : bootBuiltins x = some (.builtin id)) (ha : DA X B (e :: es) ms) (hn : x ≠ "__name__" := by decide) (hdb : (x == ("__debug__" : Str)) = false := by decide)
    (he : starEach (e :: es) X.env = (false, eval e X.env) :: starEach es X.env := by rfl) (hpl : (backTo pos (starEach es X.env)).any (·.1) = false := by rfl) : DO X B (.Call (.Name x p) (e :: es) [] pos) (mCallL g ms) :=
  ⟨pe_weak (pe_callB hc hg hm hv ha.pa hn hdb he hpl) (tCB_callL hd)⟩
theorem do_callTy (hc : CallR X (.type T) r) (hd : CallL X.K r g) (hg : Gl X x) (hm : X.mg x = none) (hv : bootBuiltins x = some (.type T)) (ha : DA X B (e :: es) ms) (hn : x ≠ "__name__" := by decide) (hdb : (x == ("__debug__" : Str)) = false := by decide)
    (he : starEach (e :: es) X.env = (false, eval e X.env) :: starEach es X.env := by rfl) (hpl : (backTo pos (starEach es X.env)).any (·.1) = false := by rfl) : DO X B (.Call (.Name x p) (e :: es) [] pos) (mCallL g ms) :=
  ⟨pe_weak (pe_callTy hc hg hm hv ha.pa hn hdb he hpl) (tCB_callL hd)⟩
/-- a built-in's method -/
def MtD (K : PySem.W.Frag) (T : String) (r : V → List V → Hp → VK → Prop) (f : D → List D → Option D) : Prop := (∀ (J H : Hp) (d0 : D) (v0 : V) (ds : List D) (d : D), Same J H → Pk K J H d0 v0 → f d0 ds = some d → tyV K T v0 H) ∧
  ∀ (J H : Hp) (d0 : D) (v0 : V) (ds : List D) (d : D) (vs : List V) (Q : VK), Same J H → Pk K J H d0 v0 → PkL K J H ds vs → f d0 ds = some d → (∀ J' H' v, Ext J H J' H' → Rp K J' d v → Q v H') → r v0 vs H Q
def mMt (f : D → List D → Option D) (m : Rho → Out Hd) (ms : Rho → Out (List Hd)) : Rho → Out Hd := fun ρ => (m ρ).bind fun h ρ1 => (Out.opt (res ρ1 h) ρ1).bind fun d0 _ => (mRes ms ρ1).bind fun ds ρ2 => (Out.opt (res ρ2 h) ρ2).bind fun d1 _ => (Out.opt (f d1 ds) ρ2).bind fun d ρ3 =>
  if (f d0 ds).isSome then .ok (.dat d) ρ3 else .bad
theorem dp_mt {o : Expr} {name : Str} {apos cpos : Pos} {r : V → List V → Hp → VK → Prop} {f : D → List D → Option D} (pa : PlainAttrs T) (slot : Slot T name id) (hty : typeOf (.builtin id) = pure (.type "method_descriptor")) (hm : MtR X id r) (hd : MtD X.K T r f) (ho : DP X B o m) (ha : DA X B (e :: es) ms)
    (hbase : attributeBase o name X.env (eval o X.env) = eval o X.env := by rfl)
    (hfew : ((backTo cpos (starEach (e :: es) X.env)).all (fun x => !x.1) && (backToKw cpos (keywordEach [] X.env)).all (fun x => x.1.isSome)
      && decide ((e :: es).length + ([] : List Keyword).length + (if ([] : List Keyword).isEmpty then 0 else 1) < 30)) = true := by rfl)
    (hline : (apos.endLine == cpos.line) = true := by rfl) (hs : starEach (e :: es) X.env = (false, eval e X.env) :: starEach es X.env := by rfl) (hplain : (backTo cpos (starEach es X.env)).any (·.1) = false := by rfl) :
    DP X B (.Call (.Attribute o name apos) (e :: es) [] cpos) (mMt f m ms) := ⟨pe_weak (pe_bm pa slot hty hm ho.pe ha.pa hbase hfew hline hs hplain) fun σ H Q ⟨σ0, F, J, ρ, h, ρ', c, e1, k⟩ => by
  obtain ⟨h0, ρ1, e2, e1_40⟩ := bind_ok e1
  obtain ⟨d0, e3, e1_41⟩ := bo_ok e1_40
  obtain ⟨ds, ρ3, e4, e1_42⟩ := bind_ok e1_41
  obtain ⟨hs, e4, e5⟩ := mRes_ok e4
  obtain ⟨d1, e6, e1_43⟩ := bo_ok e1_42
  obtain ⟨d, e7, e1_44⟩ := bo_ok e1_43
  split at e1_44
  · rename_i hi
    cases e1_44
    obtain ⟨dd, hdd⟩ := Option.isSome_iff_exists.mp hi
    refine ⟨σ0, F, J, ρ, h0, _, c, e2, fun J1 H1 v1 c1 s1 r1 => ⟨hd.1 J1 H1 d0 v1 ds dd c1.jm (c1.res r1 e3) hdd, σ0, F, J1, _, hs, _, c1, e4, fun J2 H2 vs c2 s2 r2 l => ?_⟩⟩
    exact hd.2 J2 H2 d1 v1 ds d vs Q c2.jm (c2.res (r1.mono s2) e6) (c2.resL r2 e5) e7 fun J3 H3 v x w => k J3 H3 v (c2.ext x) ((s1.trans s2).trans x.j) w
  · cases e1_44⟩
theorem dp_mt0 {o : Expr} {name : Str} {apos cpos : Pos} {r : V → List V → Hp → VK → Prop} {f : D → List D → Option D} (pa : PlainAttrs T) (slot : Slot T name id) (hty : typeOf (.builtin id) = pure (.type "method_descriptor")) (hm : MtR X id r) (hd : MtD X.K T r f) (ho : DP X B o m)
    (hbase : attributeBase o name X.env (eval o X.env) = eval o X.env := by rfl) (hline : (apos.endLine == cpos.line) = true := by rfl) : DP X B (.Call (.Attribute o name apos) [] [] cpos) (mUn (fun d => f d []) m) := ⟨pe_weak (pe_bm0 pa slot hty hm ho.pe hbase hline) fun σ H Q ⟨σ0, F, J, ρ, h, ρ', c, e0, k⟩ => by
  obtain ⟨h1, d1, d, e1, e3, e5, rfl⟩ := mUn_ok e0
  exact ⟨σ0, F, J, ρ, h1, _, c, e1, fun J1 H1 v1 c1 s1 r1 => ⟨hd.1 J1 H1 d1 v1 [] d c1.jm (c1.res r1 e3) e5, hd.2 J1 H1 d1 v1 [] d [] Q c1.jm (c1.res r1 e3) .nil e5 fun J3 H3 v x w => k J3 H3 v (c1.ext x) (s1.trans x.j) w⟩⟩⟩
/-- a[b] -/
theorem dp_ix {r : R2} {f : D → D → Option D} (hr : IxR X r) (hd : BinD X.K r f) (ha : DP X B a m1) (hb : DP X B b m2) (hs : PlainIx b := by intro _ _; rfl) : DP X B (.Subscript a b pos) (mBin f m1 m2) := ⟨pe_weak (pe_ix hr ha.pe hb.pe hs) (tOp_bin hd)⟩
/-- a[lo:hi] -/
structure DQ (X : Cx) (B : List Nat) (e : Option Expr) (m : Rho → Out (Option Int)) : Prop where
  po : PO X e (fun σ H Q => ∃ σ0 F J ρ o ρ', CI X.K B σ0 F J ρ σ H ∧ m ρ = .ok o ρ' ∧ ∀ J' H', CI X.K B σ0 F J' ρ' σ H' → Same J J' → Q o H')
def mQ0 : Rho → Out (Option Int) := fun ρ => .ok none ρ
def mQ1 (m : Rho → Out Hd) : Rho → Out (Option Int) := fun ρ => (m ρ).bind fun h ρ1 => match res ρ1 h with
  | some (.int i) => .ok (some i) ρ1
  | _ => .bad
theorem po_weak {e : Option Expr} {t t' : TO} (h : PO X e t) (w : ∀ σ H Q, t' σ H Q → t σ H Q) : PO X e t' := ⟨fun pins s σ H Q I q => h.run pins s σ H Q I (w σ H Q q)⟩
theorem dq_none : DQ X B none mQ0 := ⟨po_weak po_none fun σ H Q ⟨σ0, F, J, ρ, o, ρ', c, e, k⟩ => by
  cases e
  exact k J H c (Same.refl _)⟩
theorem dq_some (h : DP X B e m) : DQ X B (some e) (mQ1 m) := ⟨po_weak (po_some h.pe) fun σ H Q ⟨σ0, F, J, ρ, o, ρ', c, e, k⟩ => by
  obtain ⟨h1, ρ1, e1, e_45⟩ := bind_ok e
  split at e_45
  · rename_i i ei
    cases e_45
    exact ⟨σ0, F, J, ρ, h1, _, c, e1, fun J1 H1 v c1 s1 r1 => ⟨i, (c1.res r1 ei).int, k J1 H1 c1 s1⟩⟩
  · cases e_45⟩
def mSl (f : D → Option Int → Option Int → Option D) (m : Rho → Out Hd) (ml mh : Rho → Out (Option Int)) : Rho → Out Hd := fun ρ => (m ρ).bind fun h ρ1 => (ml ρ1).bind fun l ρ2 => (mh ρ2).bind fun u ρ3 => (Out.opt (res ρ3 h) ρ3).bind fun d0 _ => (Out.opt (f d0 l u) ρ3).bind fun d ρ4 => .ok (.dat d) ρ4
def SlD (K : PySem.W.Frag) (r : V → Option Int → Option Int → Hp → VK → Prop) (f : D → Option Int → Option Int → Option D) : Prop := ∀ (J H : Hp) (d1 d : D) (v1 : V) (lo hi : Option Int) (Q : VK), Same J H → Pk K J H d1 v1 → f d1 lo hi = some d →
  (∀ J' H' v, Ext J H J' H' → Rp K J' d v → Q v H') → r v1 lo hi H Q
theorem dp_sl {lo hi : Option Expr} {p2 : Pos} {r : V → Option Int → Option Int → Hp → VK → Prop} {f : D → Option Int → Option Int → Option D} {ml mh : Rho → Out (Option Int)} (hr : SlR X r) (hd : SlD X.K r f) (he : DP X B e m) (hl : DQ X B lo ml) (hh : DQ X B hi mh) :
    DP X B (.Subscript e (.Slice lo hi none p2) pos) (mSl f m ml mh) := ⟨pe_weak (pe_slice hr he.pe hl.po hh.po) fun σ H Q ⟨σ0, F, J, ρ, h, ρ', c, e, k⟩ => by
  obtain ⟨h1, ρ1, e1, e_46⟩ := bind_ok e
  obtain ⟨l, ρ2, e2, e_47⟩ := bind_ok e_46
  obtain ⟨u, ρ3, e3, e_48⟩ := bind_ok e_47
  obtain ⟨d0, e4, e_49⟩ := bo_ok e_48
  obtain ⟨d, e5, e_50⟩ := bo_ok e_49
  cases e_50
  exact ⟨σ0, F, J, ρ, h1, ρ1, c, e1, fun J1 H1 v c1 s1 r1 => ⟨σ0, F, J1, ρ1, l, ρ2, c1, e2, fun J2 H2 c2 s2 => ⟨σ0, F, J2, ρ2, u, _, c2, e3, fun J3 H3 c3 s3 =>
    hd J3 H3 d0 d v l u Q c3.jm (c3.res (r1.mono (s2.trans s3)) e4) e5 fun J4 H4 v4 x w => k J4 H4 v4 (c3.ext x) (((s1.trans s2).trans s3).trans x.j) w⟩⟩⟩⟩
end
end DL

set_option Elab.async false
set_option linter.all false
set_option maxRecDepth 100000
set_option maxHeartbeats 4000000
/-! DLd: statements, loops, comprehensions, calls, defs. -/
namespace DL
open PySem PySem.Spec PyProof.Rows L2

inductive SOut where
  | nx (ρ : Rho) | rt (r : R) (ρ : Rho) | bk (ρ : Rho) | ct (ρ : Rho) | bad
def SEnd (K : PySem.W.Frag) (B : List Nat) (σ0 : L2.St) (F : Fm) (J : Hp) (o : SOut) (D : Ends) : Prop := match o with
  | .nx ρ' => ∀ J' σ' H', CI K B σ0 F J' ρ' σ' H' → Same J J' → D.nx σ' H'
  | .bk ρ' => ∀ J' σ' H', CI K B σ0 F J' ρ' σ' H' → Same J J' → D.bk σ' H'
  | .ct ρ' => ∀ J' σ' H', CI K B σ0 F J' ρ' σ' H' → Same J J' → D.ct σ' H'
  | .rt r ρ' => ∀ J' σ' H' v, CI K B σ0 F J' (ρ' ++ [some r]) (σ' ++ [some v]) H' → Same J J' → σ0.length ≤ σ'.length → D.rt v H'
  | .bad => False
def lS (K : PySem.W.Frag) (B : List Nat) (m : Rho → SOut) : TS := fun D σ H => ∃ σ0 F J ρ, CI K B σ0 F J ρ σ H ∧ SEnd K B σ0 F J (m ρ) D
structure DS (X : Cx) (B : List Nat) (s : Stmt) (m : Rho → SOut) : Prop where
  ps : PS X s (lS X.K B m)
structure DSs (X : Cx) (B : List Nat) (s : List Stmt) (m : Rho → SOut) : Prop where
  pss : PSs X s (lS X.K B m)
theorem SEnd.mono {K : PySem.W.Frag} {B : List Nat} {σ0 : L2.St} {F : Fm} {J J1 : Hp} {o : SOut} {D : Ends} (h : SEnd K B σ0 F J o D) (s : Same J J1) : SEnd K B σ0 F J1 o D := by
  cases o with
  | nx ρ' => exact fun J' σ' H' c q => h J' σ' H' c (s.trans q)
  | bk ρ' => exact fun J' σ' H' c q => h J' σ' H' c (s.trans q)
  | ct ρ' => exact fun J' σ' H' c q => h J' σ' H' c (s.trans q)
  | rt r ρ' => exact fun J' σ' H' v c q => h J' σ' H' v c (s.trans q)
  | bad => exact h
section
variable {X : Cx} {B : List Nat} {st : Stmt} {sts : List Stmt} {a b c e : Expr} {es rest : List Expr} {pos : Pos} {m m1 m2 m3 : Rho → Out Hd} {n1 n2 : Rho → SOut}

/-! ### blocks -/
def mNext : Rho → SOut := fun ρ => .nx ρ
def mSeq (n1 n2 : Rho → SOut) : Rho → SOut := fun ρ => match n1 ρ with
  | .nx ρ' => n2 ρ'
  | o => o
theorem dss_nil : DSs X B [] mNext := ⟨pss_weak pss_nil fun D σ H ⟨σ0, F, J, ρ, c, e⟩ => e J σ H c (Same.refl _)⟩
theorem dss_cons (h1 : DS X B st n1) (h2 : DSs X B sts n2) : DSs X B (st :: sts) (mSeq n1 n2) := ⟨pss_weak (pss_cons h1.ps h2.pss) fun D σ H ⟨σ0, F, J, ρ, c, e⟩ => by
  refine ⟨σ0, F, J, ρ, c, ?_⟩
  unfold mSeq at e
  cases h : n1 ρ with
  | nx ρ' =>
    rw [h] at e
    exact fun J' σ' H' c' s => ⟨σ0, F, J', ρ', c', e.mono s⟩
  | rt r ρ' => rw [h] at e; exact e
  | bk ρ' => rw [h] at e; exact e
  | ct ρ' => rw [h] at e; exact e
  | bad => rw [h] at e; exact e⟩
theorem dss_one (h1 : DS X B st n1) : DSs X B [st] n1 := ⟨pss_one h1.ps⟩
def mBrk : Rho → SOut := fun ρ => .bk ρ
def mCnt : Rho → SOut := fun ρ => .ct ρ
theorem ds_pass : DS X B (.Pass pos) mNext := ⟨ps_weak ps_pass fun D σ H ⟨σ0, F, J, ρ, c, e⟩ => e J σ H c (Same.refl _)⟩
theorem ds_break : DS X B (.Break pos) mBrk := ⟨ps_weak ps_break fun D σ H ⟨σ0, F, J, ρ, c, e⟩ => e J σ H c (Same.refl _)⟩
theorem ds_continue : DS X B (.Continue pos) mCnt := ⟨ps_weak ps_continue fun D σ H ⟨σ0, F, J, ρ, c, e⟩ => e J σ H c (Same.refl _)⟩
def mDrop (m : Rho → Out Hd) : Rho → SOut := fun ρ => match m ρ with
  | .ok _ ρ' => .nx ρ'
  | .bad => .bad
theorem ds_expr (he : DP X B e m) (hs : swapsWith e none pos.line X.env = pure false := by rfl) : DS X B (.Expr e pos) (mDrop m) := ⟨ps_weak (ps_expr he.pe hs) fun D σ H ⟨σ0, F, J, ρ, c, q⟩ => by
  unfold mDrop at q
  split at q
  · rename_i h ρ' e1
    exact ⟨σ0, F, J, ρ, h, ρ', c, e1, fun J' H' v c' s _ => q J' σ H' c' s⟩
  · exact q.elim⟩
def mRet (m : Rho → Out R) : Rho → SOut := fun ρ => match m ρ with
  | .ok r ρ' => .rt r ρ'
  | .bad => .bad
theorem ds_ret {m : Rho → Out R} (he : DO X B e m) : DS X B (.Return (some e) pos) (mRet m) := ⟨ps_weak (ps_ret he.pe) fun D σ H ⟨σ0, F, J, ρ, c, q⟩ => by
  unfold mRet at q
  split at q
  · rename_i r ρ' e1
    exact ⟨σ0, F, J, ρ, r, ρ', c, e1, fun J' H' v c' s => q J' σ H' v c' s c.lb⟩
  · exact q.elim⟩
def mRetN : Rho → SOut := fun ρ => .rt (.sh .non) ρ
theorem ds_retN : DS X B (.Return none pos) mRetN := ⟨ps_weak ps_retN fun D σ H ⟨σ0, F, J, ρ, c, q⟩ => q J σ H .non (c.push .non) (Same.refl _) c.lb⟩
def mIf (n : Rho → Out Bool) (n1 n2 : Rho → SOut) : Rho → SOut := fun ρ => match n ρ with
  | .ok b ρ' => if b = true then n1 ρ' else n2 ρ'
  | .bad => .bad
theorem ds_if {as bs : List Stmt} {n : Rho → Out Bool} (hc : DT X B c n) (ha : DSs X B as n1) (hb : DSs X B bs n2) : DS X B (.If c as bs pos) (mIf n n1 n2) := ⟨ps_weak (ps_if hc.pt ha.pss hb.pss) fun D σ H ⟨σ0, F, J, ρ, c, q⟩ => by
  unfold mIf at q
  split at q
  · rename_i k ρ' e1
    refine ⟨σ0, F, J, ρ, k, ρ', c, e1, fun J' H' c' s => ?_⟩
    by_cases hk : k = true
    · rw [if_pos hk] at q ⊢
      exact ⟨σ0, F, J', ρ', c', q.mono s⟩
    · rw [if_neg hk] at q ⊢
      exact ⟨σ0, F, J', ρ', c', q.mono s⟩
  · exact q.elim⟩

/-! ### stores -/
/-- x = e -/
def mSet (i : Nat) (m : Rho → Out R) : Rho → SOut := fun ρ => match m ρ with
  | .ok r ρ' => if i < ρ'.length then .nx (ρ'.set i (some r)) else .bad
  | .bad => .bad
theorem ds_set (i : Nat) {x : Str} {pos' : Pos} {m : Rho → Out R} (hN : X.N.Nodup) (he : DO X B e m) (hi : X.N[i]? = some x := by rfl) (hx : Loc X.env.scope x := by first | exact Or.inl rfl | exact Or.inr rfl) (hB : B.contains i = false := by rfl)
    (hs : swapsWith e (some (.Name x pos')) pos.line X.env = pure false := by rfl) (hf : X.fn x = true ∨ X.env.scope.names.lookup x = some .local := by first | exact .inl rfl | exact .inr rfl | assumption) : DS X B (.Assign [.Name x pos'] e pos) (mSet i m) :=
  ⟨ps_weak (ps_set hN hi hx he.pe hs hf) fun D σ H ⟨σ0, F, J, ρ, c, q⟩ => by
  unfold mSet at q
  split at q
  · rename_i r ρ' e1
    split at q
    · rename_i hlt
      refine ⟨σ0, F, J, ρ, r, ρ', c, e1, fun J' H' v c' s => q J' _ H' (c'.store c.lb hlt fun hm => ?_) s⟩
      rw [List.contains_eq_mem, decide_eq_false_iff_not] at hB
      exact hB hm
    · exact q.elim
  · exact q.elim⟩
/-- targets: the slots ts alone change -/
def lG (K : PySem.W.Frag) (B ts : List Nat) (g : D → Rho → Option Rho) : TG := fun v σ H Q => ∃ σ0 F J ρ d ρ', CI K B σ0 F J ρ σ H ∧ Rp K J d v ∧ g d ρ = some ρ' ∧ ∀ σ' H', CI K B σ0 F J ρ' σ' H' → (∀ j, j ∉ ts → σ'[j]? = σ[j]?) → σ'.length = σ.length → Q σ' H'
def lGs (K : PySem.W.Frag) (B ts : List Nat) (g : List D → Rho → Option Rho) : TGs := fun vs σ H Q => ∃ σ0 F J ρ ds ρ', CI K B σ0 F J ρ σ H ∧ RpL K J ds vs ∧ g ds ρ = some ρ' ∧ ∀ σ' H', CI K B σ0 F J ρ' σ' H' → (∀ j, j ∉ ts → σ'[j]? = σ[j]?) → σ'.length = σ.length → Q σ' H'
structure DG (X : Cx) (B ts : List Nat) (tg : Expr) (g : D → Rho → Option Rho) : Prop where
  pg : PG X tg (lG X.K B ts g)
structure DGs (X : Cx) (B ts : List Nat) (tgs : List Expr) (g : List D → Rho → Option Rho) : Prop where
  pgs : PGs X tgs (lGs X.K B ts g)
theorem pg_weak {X : Cx} {e : Expr} {t t' : TG} (h : PG X e t) (w : ∀ v σ H Q, t' v σ H Q → t v σ H Q) : PG X e t' := ⟨fun pins s σ H v u Q I r q => h.run pins s σ H v u Q I r (w v σ H Q q)⟩
theorem pgs_weak {X : Cx} {e : List Expr} {t t' : TGs} (h : PGs X e t) (w : ∀ v σ H Q, t' v σ H Q → t v σ H Q) : PGs X e t' := ⟨fun pins s σ H v u Q I r q => h.run pins s σ H v u Q I r (w v σ H Q q)⟩
def gNm (i : Nat) : D → Rho → Option Rho := fun d ρ => if i < ρ.length then some (ρ.set i (some (.sh d))) else none
theorem dg_name (i : Nat) {x : Str} (hN : X.N.Nodup) (hi : X.N[i]? = some x := by rfl) (hx : Loc X.env.scope x := by first | exact Or.inl rfl | exact Or.inr rfl) (hB : B.contains i = false := by rfl)
    (hf : X.fn x = true ∨ X.env.scope.names.lookup x = some .local := by first | exact .inl rfl | exact .inr rfl | assumption) : DG X B [i] (.Name x pos) (gNm i) := ⟨pg_weak (pg_name hN hi hx hf) fun v σ H Q ⟨σ0, F, J, ρ, d, ρ', c, w, e, q⟩ => by
  unfold gNm at e
  split at e
  · rename_i hlt
    cases e
    refine q _ _ ((c.push w).store c.lb hlt fun hm => ?_) (fun j hj => ?_) (by simp)
    · rw [List.contains_eq_mem, decide_eq_false_iff_not] at hB
      exact hB hm
    · rw [List.getElem?_set_ne (fun e : i = j => hj (by simp [e]))]
  · cases e⟩
def gNil' : List D → Rho → Option Rho := fun ds ρ => match ds with
  | [] => some ρ
  | _ => none
def gCons' (g : D → Rho → Option Rho) (gs : List D → Rho → Option Rho) : List D → Rho → Option Rho := fun ds ρ => match ds with
  | d :: ds => match g d ρ with
    | some ρ1 => gs ds ρ1
    | none => none
  | [] => none
theorem dgs_nil : DGs X B [] [] gNil' := ⟨pgs_weak pgs_nil fun vs σ H Q ⟨σ0, F, J, ρ, ds, ρ', c, w, e, q⟩ => by
  cases w with
  | nil => cases e; exact ⟨rfl, q σ H c (fun _ _ => rfl) rfl⟩
  | cons _ _ => cases e⟩
theorem dgs_cons {ts us : List Nat} {g : D → Rho → Option Rho} {gs : List D → Rho → Option Rho} (h1 : DG X B ts e g) (h2 : DGs X B us es gs)
    (hs : (assignEach (e :: es) X.env).map (·.2) = assign e X.env :: (assignEach es X.env).map (·.2) := by rfl) : DGs X B (ts ++ us) (e :: es) (gCons' g gs) := ⟨pgs_weak (pgs_cons h1.pg h2.pgs hs) fun vs σ H Q ⟨σ0, F, J, ρ, ds, ρ', c, w, e, q⟩ => by
  cases w with
  | nil => cases e
  | @cons d v ds vs w1 w2 =>
    unfold gCons' at e
    dsimp only at e
    split at e
    · rename_i ρ1 e1
      refine ⟨v, vs, rfl, σ0, F, J, ρ, d, ρ1, c, w1, e1, fun σ1 H1 c1 s1 l1 => ⟨σ0, F, J, ρ1, ds, ρ', c1, w2, e, fun σ2 H2 c2 s2 l2 => q σ2 H2 c2 (fun j hj => ?_) (l2.trans l1)⟩⟩
      rw [List.mem_append, not_or] at hj
      rw [s2 j hj.2, s1 j hj.1]
    · cases e⟩
def gTup' (n : Nat) (g : List D → Rho → Option Rho) : D → Rho → Option Rho := fun d ρ => match d with
  | .tup ds => if ds.length = n then g ds ρ else none
  | _ => none
theorem RpL.len {K : PySem.W.Frag} {J : Hp} {ds : List D} {vs : List V} (h : RpL K J ds vs) : ds.length = vs.length := by
  induction ds generalizing vs with
  | nil => cases h; rfl
  | cons d ds ih => cases h with | cons _ r => simp [ih r]
theorem dg_tup {ts : List Nat} {k : Nat} {n : Nat} {g : List D → Rho → Option Rho} (hc : X.calm = true) (h : DGs X B ts es g) (hn : (assignEach es X.env).length = n := by rfl) (hst : (assignEach es X.env).findIdx? (·.1) = none := by rfl) :
    DG X B ts (.Tuple es k pos) (gTup' n g) := ⟨pg_weak (pg_tup hc h.pgs hn hst) fun v σ H Q ⟨σ0, F, J, ρ, d, ρ', c, w, e, q⟩ => by
  unfold gTup' at e
  split at e
  · rename_i ds
    split at e
    · rename_i hl
      cases w with
      | @tup a vs _ s r =>
        exact ⟨a, vs, rfl, (s.mono c.jm).sq, by rw [← r.len]; exact hl, σ0, F, J, ρ, ds, ρ', c, r, e, q⟩
    · cases e
  · cases e⟩
/-- a, b = e -/
def mAsg (m : Rho → Out R) (g : D → Rho → Option Rho) : Rho → SOut := fun ρ => match m ρ with
  | .ok (.sh d) ρ' => match g d ρ' with
    | some ρ2 => .nx ρ2
    | none => .bad
  | _ => .bad
theorem ds_asg {ts : List Nat} {tg : Expr} {g : D → Rho → Option Rho} {m : Rho → Out Hd} (he : DP X B e m) (hg : DG X B ts tg g) (hs : swapsWithSole [tg] e pos.line X.env = pure false := by rfl) (hw : swappedStores [tg] e X.env = pure none := by rfl)
    (h1 : (assignEach [tg] X.env).map (·.2) = [assign tg X.env] := by rfl) : DS X B (.Assign [tg] e pos) (mAsg (mS m) g) := ⟨ps_weak (ps_asg (do_of_dp he).pe hg.pg hs hw h1) fun D σ H ⟨σ0, F, J, ρ, c, q⟩ => by
  unfold mAsg at q
  split at q
  · rename_i d ρ' e1
    split at q
    · rename_i ρ2 e2
      refine ⟨σ0, F, J, ρ, .sh d, ρ', c, e1, fun J' H' v c' s => ?_⟩
      obtain ⟨fp, o1, _⟩ := c'.own
      obtain ⟨v', ev, _, w⟩ := o1 ρ'.length _ get_app_r
      have hl : ρ'.length = σ.length := by have := c'.len; simpa using this
      rw [hl, get_app_r] at ev
      cases ev
      exact ⟨σ0, F, J', ρ', d, ρ2, c'.pop c.lb, w, e2, fun σ' H2 c2 _ _ => q J' σ' H2 c2 s⟩
    · exact q.elim
  · exact q.elim⟩
/-- x op= e -/
def mAug (i : Nat) (f : D → D → Option D) (m : Rho → Out Hd) : Rho → SOut := fun ρ => match ρ[i]? with
  | some (some (.sh d1)) => match m ρ with
    | .ok h ρ' => match res ρ' h with
      | some d2 => match f d1 d2 with
        | some d => if i < ρ'.length then .nx (ρ'.set i (some (.sh d))) else .bad
        | none => .bad
      | none => .bad
    | .bad => .bad
  | _ => .bad
theorem ds_aug (i : Nat) {x : Str} {op : Operator} {r : R2} {f : D → D → Option D} {pos' : Pos} (hN : X.N.Nodup) (ho : OpR X (inplaceOp op) r) (hd : BinD X.K r f) (he : DP X B e m) (hi : X.N[i]? = some x := by rfl) (hx : Loc X.env.scope x := by first | exact Or.inl rfl | exact Or.inr rfl) (hB : B.contains i = false := by rfl)
    (hf : X.fn x = true ∨ X.env.scope.names.lookup x = some .local := by first | exact .inl rfl | exact .inr rfl | assumption) : DS X B (.AugAssign (.Name x pos') op e pos) (mAug i f m) := ⟨ps_weak (ps_aug hN hi hx he.pe ho hf) fun D σ H ⟨σ0, F, J, ρ, c, q⟩ => by
  unfold mAug at q
  split at q
  · rename_i d1 hr
    split at q
    · rename_i h ρ' e1
      split at q
      · rename_i d2 e2
        split at q
        · rename_i d e3
          split at q
          · rename_i hlt
            obtain ⟨fp, o1, _⟩ := id c.own
            obtain ⟨v1, ev, _, w⟩ := o1 i _ hr
            refine ⟨v1, ev, σ0, F, J, ρ, h, ρ', c, e1, fun J' H' v2 c' s r2 => ?_⟩
            refine hd J' H' d1 d2 d v1 v2 _ c'.jm (.sh (w.mono s)) (c'.res r2 e2) e3 fun J3 H3 v x w3 => q J3 _ H3 (((c'.ext x).push w3).store c.lb hlt fun hm => ?_) (s.trans x.j)
            rw [List.contains_eq_mem, decide_eq_false_iff_not] at hB
            exact hB hm
          · exact q.elim
        · exact q.elim
      · exact q.elim
    · exact q.elim
  · exact q.elim⟩

/-! ### what is walked -/
def ItRel (K : PySem.W.Frag) (J' : Hp) (Jt : It) (ds : List D) : Prop := ∀ (J1 H1 : Hp) (i : Nat), Same J' J1 → Same J1 H1 →
  (∀ d, ds[i]? = some d → Jt.go i H1 ∧ ∀ x H2, Jt.yld i H1 x H2 → ∃ J2, Ext J1 H1 J2 H2 ∧ Rp K J2 d x) ∧ (i = ds.length → Jt.stop i H1)
def lI (K : PySem.W.Frag) (B : List Nat) (m : Rho → Out (List D)) : TI := fun σ H Q => ∃ σ0 F J ρ ds ρ', CI K B σ0 F J ρ σ H ∧ m ρ = .ok ds ρ' ∧ ∀ J' H' Jt, CI K B σ0 F J' ρ' σ H' → Same J J' → ItRel K J' Jt ds → Q Jt H'
structure DI (X : Cx) (B : List Nat) (tg e : Expr) (m : Rho → Out (List D)) : Prop where
  pi : PI X tg e (lI X.K B m)
theorem pi_weak {X : Cx} {tg e : Expr} {t t' : TI} (h : PI X tg e t) (w : ∀ σ H Q, t' σ H Q → t σ H Q) : PI X tg e t' := ⟨fun pins s σ H Q I q => h.run pins s σ H Q I (w σ H Q q)⟩
/-- a list, a tuple or a text -/
def iSeq (K : PySem.W.Frag) (tl : TE) : TI := fun σ H R => tl σ H fun x H1 => (∃ a, x = .ref a ∧ (∃ xs, SqL K H1 a xs) ∧ R (Itl K a) H1) ∨ (∃ a, x = .ref a ∧ (∃ xs, SqT K H1 a xs) ∧ R (Itt K a) H1)
theorem pi_seq {tg l : Expr} {tl : TE} (hl : PE X l tl) : PI X tg l (iSeq X.K tl) := by
  refine ⟨fun pins s σ H R I h => ?_⟩
  refine thn (hl.run pins s σ H _ I h) fun v s1 ⟨x, H1, I1, r1, q1⟩ => ?_
  rcases q1 with ⟨a, e, ⟨xs, hq⟩, q⟩ | ⟨a, e, ⟨xs, hq⟩, q⟩
  · subst e
    cases r1
    obtain ⟨its, rv, p, hz⟩ := I1.list hq
    refine wpAny_pyIter_list p.isList ?_
    refine ⟨s1.heap.objs.size, [s1.heap.objs.size], _, _, H1, rfl, I1.kept (t' := s1.toks) fun b o e => Heap.get?_push_of_some _ e, turn_list a _, ⟨_, Heap.get?_push_size _ rfl, rfl, rfl⟩, fun b hb => ?_, q⟩
    have e : b = s1.heap.objs.size := by simpa using hb
    subst e
    exact I1.fpOk (Nat.le_refl _) (I1.hok.fresh (Nat.le_refl _))
  · subst e
    cases r1
    obtain ⟨its, rv, p, hz⟩ := I1.tuple hq
    refine wpAny_pyIter_tuple (show s1.heap.IsTuple a its.toArray from p) ?_
    refine ⟨s1.heap.objs.size, [s1.heap.objs.size], _, _, H1, rfl, I1.kept (t' := s1.toks) fun b o e => Heap.get?_push_of_some _ e, turn_tuple a _, ⟨_, Heap.get?_push_size _ rfl, rfl, rfl⟩, fun b hb => ?_, q⟩
    have e : b = s1.heap.objs.size := by simpa using hb
    subst e
    exact I1.fpOk (Nat.le_refl _) (I1.hok.fresh (Nat.le_refl _))
theorem RpL.get {K : PySem.W.Frag} {J : Hp} : ∀ {ds : List D} {vs : List V} {i : Nat} {d : D}, RpL K J ds vs → ds[i]? = some d → ∃ v, vs[i]? = some v ∧ Rp K J d v
  | _, _, _, _, .nil, e => by simp at e
  | _, _, 0, _, .cons w _, e => by simp at e; subst e; exact ⟨_, rfl, w⟩
  | _, _, i + 1, d, .cons _ r, e => by
    obtain ⟨v, h1, h2⟩ := RpL.get (i := i) (d := d) r (by simpa using e)
    exact ⟨v, by simpa using h1, h2⟩
/-- the items of what is walked -/
def mItS (m : Rho → Out Hd) : Rho → Out (List D) := fun ρ => (m ρ).bind fun h ρ1 => match fzAt ρ1 h with
  | some (.lst ds, ρ2) => .ok ds ρ2
  | some (.tup ds, ρ2) => .ok ds ρ2
  | _ => .bad
theorem di_seq {tg l : Expr} (hl : DP X B l m) : DI X B tg l (mItS m) := ⟨pi_weak (pi_seq hl.pe) fun σ H Q ⟨σ0, F, J, ρ, ds, ρ', c, e, q⟩ => by
  obtain ⟨h, ρ1, e1, e2⟩ := bind_ok e
  refine ⟨σ0, F, J, ρ, h, ρ1, c, e1, fun J1 H1 v c1 s1 r1 => ?_⟩
  split at e2
  · rename_i ds' ρ2 e3
    cases e2
    obtain ⟨J2, c2, s2, w⟩ := c1.fz r1 e3
    cases w with
    | @lst a vs _ s r =>
      have hs : SqL X.K H1 a vs := .inl (.inl (c2.jm _ _ s))
      refine .inl ⟨a, rfl, ⟨vs, hs⟩, q J2 H1 _ c2 (s1.trans s2) fun J3 H3 i s3 m3 => ⟨fun d hd => ?_, fun hi => ?_⟩⟩
      · obtain ⟨x, ex, wx⟩ := r.get hd
        have hs3 : SqL X.K H3 a vs := .inl (.inl (m3 _ _ (s3 _ _ s)))
        refine ⟨⟨vs, x, hs3, ex⟩, fun y H4 hy => ?_⟩
        obtain ⟨rfl, hy⟩ := hy
        have := (hy vs hs3).symm.trans ex
        cases this
        exact ⟨J3, Ext.refl m3, wx.mono s3⟩
      · exact ⟨vs, .inl (.inl (m3 _ _ (s3 _ _ s))), by rw [hi, r.len]; exact Nat.le_refl _⟩
  · rename_i ds' ρ2 e3
    cases e2
    obtain ⟨J2, c2, s2, w⟩ := c1.fz r1 e3
    cases w with
    | @tup a vs _ s r =>
      have hs : SqT X.K H1 a vs := (s.mono c2.jm).sq
      refine .inr ⟨a, rfl, ⟨vs, hs⟩, q J2 H1 _ c2 (s1.trans s2) fun J3 H3 i s3 m3 => ⟨fun d hd => ?_, fun hi => ?_⟩⟩
      · obtain ⟨x, ex, wx⟩ := r.get hd
        have hs3 : SqT X.K H3 a vs := ((s.mono s3).mono m3).sq
        refine ⟨⟨vs, x, hs3, ex⟩, fun y H4 hy => ?_⟩
        obtain ⟨rfl, hy⟩ := hy
        have := (hy vs hs3).symm.trans ex
        cases this
        exact ⟨J3, Ext.refl m3, wx.mono s3⟩
      · exact ⟨vs, ((s.mono s3).mono m3).sq, by rw [hi, r.len]; exact Nat.le_refl _⟩
  · cases e2⟩
def rngD (lo : Int) (n : Nat) : List D := (List.range n).map fun i => .int (lo + (i : Nat))
theorem itr_rel {K : PySem.W.Frag} {J' : Hp} (lo : Int) (n : Nat) : ItRel K J' (Itr lo n) (rngD lo n) := fun J1 H1 i s m => ⟨fun d hd => by
  unfold rngD at hd
  rw [List.getElem?_map] at hd
  cases h : (List.range n)[i]? with
  | none => rw [h] at hd; cases hd
  | some j =>
    rw [h] at hd
    obtain ⟨hl, hj⟩ := List.getElem?_eq_some_iff.mp h
    rw [List.getElem_range] at hj
    subst hj
    rw [List.length_range] at hl
    cases hd
    refine ⟨hl, fun x H2 hy => ?_⟩
    obtain ⟨rfl, rfl⟩ := hy
    exact ⟨J1, Ext.refl m, .int _⟩, fun hi => by
  unfold rngD at hi
  rw [List.length_map, List.length_range] at hi
  exact Nat.le_of_eq hi.symm⟩
def fRng1 : List D → Option (List D)
  | [.int j] => if -(2 ^ 62) ≤ j ∧ j < 2 ^ 62 then some (rngD 0 j.toNat) else none
  | _ => none
def fRng2 : List D → Option (List D)
  | [.int i, .int j] => if -(2 ^ 62) ≤ i ∧ i < 2 ^ 62 ∧ -(2 ^ 62) ≤ j ∧ j < 2 ^ 62 then some (rngD i (j - i).toNat) else none
  | _ => none
def mItR (f : List D → Option (List D)) (ms : Rho → Out (List Hd)) : Rho → Out (List D) := fun ρ => (mRes ms ρ).bind fun ds ρ1 => (Out.opt (f ds) ρ1).bind fun es ρ2 => .ok es ρ2
theorem di_range1 {tg : Expr} {ms : Rho → Out (List Hd)} {p : Pos} (hg : Gl X "range") (hm : X.mg "range" = none) (ha : DA X B [a] ms) (hs : starEach [a] X.env = [(false, eval a X.env)] := by rfl) : DI X B tg (.Call (.Name "range" p) [a] [] pos) (mItR fRng1 ms) :=
  ⟨pi_weak (pi_range1 hg hm ha.pa hs) fun σ H Q ⟨σ0, F, J, ρ, es, ρ', c, e, q⟩ => by
  obtain ⟨ds, ρ1, e1, ea⟩ := bind_ok e
  obtain ⟨hs, e2, e3⟩ := mRes_ok e1
  obtain ⟨es', e4, eb⟩ := bo_ok ea
  cases eb
  refine ⟨σ0, F, J, ρ, hs, _, c, e2, fun J1 H1 vs c1 s1 r1 l => ?_⟩
  have w := c1.resL r1 e3
  unfold fRng1 at e4
  split at e4
  · rename_i j
    split at e4
    · rename_i hj
      cases e4
      cases w with
      | cons w1 w2 => cases w2; exact ⟨j, by rw [w1.int], hj.1, hj.2, q J1 H1 _ c1 s1 (itr_rel 0 _)⟩
    · cases e4
  · cases e4⟩
theorem di_range2 {tg : Expr} {ms : Rho → Out (List Hd)} {p : Pos} (hg : Gl X "range") (hm : X.mg "range" = none) (ha : DA X B [a, b] ms) (hs : starEach [a, b] X.env = [(false, eval a X.env), (false, eval b X.env)] := by rfl) (hs2 : starEach [b] X.env = [(false, eval b X.env)] := by rfl) :
    DI X B tg (.Call (.Name "range" p) [a, b] [] pos) (mItR fRng2 ms) :=
  ⟨pi_weak (pi_range2 hg hm ha.pa hs hs2) fun σ H Q ⟨σ0, F, J, ρ, es, ρ', c, e, q⟩ => by
  obtain ⟨ds, ρ1, e1, ea⟩ := bind_ok e
  obtain ⟨hs, e2, e3⟩ := mRes_ok e1
  obtain ⟨es', e4, eb⟩ := bo_ok ea
  cases eb
  refine ⟨σ0, F, J, ρ, hs, _, c, e2, fun J1 H1 vs c1 s1 r1 l => ?_⟩
  have w := c1.resL r1 e3
  unfold fRng2 at e4
  split at e4
  · rename_i i j
    split at e4
    · rename_i hj
      cases e4
      cases w with
      | cons w1 w2 => cases w2 with
        | cons w2 w3 => cases w3; exact ⟨i, j, by rw [w1.int, w2.int], hj, q J1 H1 _ c1 s1 (itr_rel i _)⟩
    · cases e4
  · cases e4⟩

/-! ### loops -/
def forL (g : D → Rho → Option Rho) (mb : Rho → SOut) : List D → Rho → SOut
  | [], ρ => .nx ρ
  | d :: ds, ρ => match g d ρ with
    | some ρ1 => match mb ρ1 with
      | .nx ρ2 => forL g mb ds ρ2
      | .ct ρ2 => forL g mb ds ρ2
      | .bk ρ2 => .nx ρ2
      | .rt r ρ2 => .rt r ρ2
      | .bad => .bad
    | none => .bad
def mFor (mi : Rho → Out (List D)) (g : D → Rho → Option Rho) (mb : Rho → SOut) : Rho → SOut := fun ρ => match mi ρ with
  | .ok ds ρ1 => forL g mb ds ρ1
  | .bad => .bad
theorem ds_for {tg iter : Expr} {body : List Stmt} {ts : List Nat} {mi : Rho → Out (List D)} {g : D → Rho → Option Rho} {mb : Rho → SOut} (hp : PassesOwn (model X.prog X.w) X.A X.env X.xe) (hc : X.calm = true) (hi : DI X B tg iter mi) (hg : DG X B ts tg g) (hb : DSs X B body mb)
    (hs : ∀ x, foldedSetIterable iter X.env x = pure x := by intro _; rfl) : DS X B (.For tg iter body [] pos) (mFor mi g mb) := ⟨ps_weak (ps_for hp hc hi.pi hg.pg hb.pss hs) fun D σ H ⟨σ0, F, J, ρ, c, q⟩ => by
  unfold mFor at q
  split at q
  · rename_i ds ρ1 e1
    refine ⟨σ0, F, J, ρ, ds, ρ1, c, e1, fun J1 H1 Jt c1 s1 rel => ?_⟩
    refine ⟨fun i m σ H => m = ds.length - i ∧ i ≤ ds.length ∧ ∃ J2 ρ2, CI X.K B σ0 F J2 ρ2 σ H ∧ Same J1 J2 ∧ SEnd X.K B σ0 F J2 (forL g mb (ds.drop i) ρ2) D, ⟨ds.length, by simp, Nat.zero_le _, J1, ρ1, c1, Same.refl _, q.mono s1⟩, ?_⟩
    rintro i m σ2 H2 ⟨rfl, hi, J2, ρ2, c2, s2, q2⟩
    obtain ⟨r1, r2⟩ := rel J2 H2 i s2 c2.jm
    by_cases hlt : i < ds.length
    · refine .inr ?_
      have ed : ds[i]? = some ds[i] := List.getElem?_eq_getElem hlt
      obtain ⟨go, yl⟩ := r1 _ ed
      refine ⟨go, fun σ' H' => i + 1 ≤ ds.length ∧ ∃ J2 ρ2, CI X.K B σ0 F J2 ρ2 σ' H' ∧ Same J1 J2 ∧ SEnd X.K B σ0 F J2 (forL g mb (ds.drop (i + 1)) ρ2) D, fun σ' H' n => ⟨ds.length - (i + 1), by omega, rfl, n.1, n.2⟩, fun x H3 hy => ?_⟩
      obtain ⟨J3, x3, w⟩ := yl x H3 hy
      have dd : ds.drop i = ds[i] :: ds.drop (i + 1) := by rw [List.drop_eq_getElem_cons hlt]
      rw [dd] at q2
      unfold forL at q2
      cases eg : g ds[i] ρ2 with
      | none => rw [eg] at q2; exact q2.elim
      | some ρ3 =>
        rw [eg] at q2
        refine ⟨σ0, F, J3, ρ2, ds[i], ρ3, c2.ext x3, w, eg, fun σ4 H4 c4 _ _ => ?_⟩
        refine ⟨σ0, F, J3, ρ3, c4, ?_⟩
        have q3 := q2.mono x3.j
        dsimp only at q3
        cases eb : mb ρ3 with
        | nx ρ4 => rw [eb] at q3; exact fun J5 σ5 H5 c5 s5 => ⟨hlt, J5, ρ4, c5, (s2.trans x3.j).trans s5, q3.mono s5⟩
        | ct ρ4 => rw [eb] at q3; exact fun J5 σ5 H5 c5 s5 => ⟨hlt, J5, ρ4, c5, (s2.trans x3.j).trans s5, q3.mono s5⟩
        | bk ρ4 => rw [eb] at q3; exact q3
        | rt r ρ4 => rw [eb] at q3; exact q3
        | bad => rw [eb] at q3; exact q3
    · have e : i = ds.length := by omega
      subst e
      rw [List.drop_length] at q2
      exact .inl ⟨r2 rfl, q2 J2 σ2 H2 c2 (Same.refl _)⟩
  · exact q.elim⟩
def whileN (mc : Rho → Out Bool) (mb : Rho → SOut) : Nat → Rho → SOut
  | 0, _ => .bad
  | n + 1, ρ => match mc ρ with
    | .ok b ρ1 => if b = true then match mb ρ1 with
      | .nx ρ2 => whileN mc mb n ρ2
      | .ct ρ2 => whileN mc mb n ρ2
      | .bk ρ2 => .nx ρ2
      | .rt r ρ2 => .rt r ρ2
      | .bad => .bad
      else .nx ρ1
    | .bad => .bad
theorem ds_while (n : Nat) {body : List Stmt} {mc : Rho → Out Bool} {mb : Rho → SOut} (hp : PassesOwn (model X.prog X.w) X.A X.env X.xe) (hc : DT X B c mc) (hb : DSs X B body mb) : DS X B (.While c body [] pos) (whileN mc mb n) := ⟨ps_weak (ps_while hp hc.pt hb.pss) fun D σ H ⟨σ0, F, J, ρ, c, q⟩ => by
  refine ⟨fun m σ H => ∃ J2 ρ2, CI X.K B σ0 F J2 ρ2 σ H ∧ SEnd X.K B σ0 F J2 (whileN mc mb m ρ2) D, ⟨n, J, ρ, c, q⟩, ?_⟩
  rintro m σ2 H2 ⟨J2, ρ2, c2, q2⟩
  cases m with
  | zero => exact q2.elim
  | succ m =>
    unfold whileN at q2
    split at q2
    · rename_i k ρ3 e3
      refine ⟨σ0, F, J2, ρ2, k, ρ3, c2, e3, fun J4 H4 c4 s4 => ?_⟩
      by_cases hk : k = true
      · rw [if_pos hk] at q2 ⊢
        refine ⟨fun σ' H' => ∃ J2 ρ2, CI X.K B σ0 F J2 ρ2 σ' H' ∧ SEnd X.K B σ0 F J2 (whileN mc mb m ρ2) D, fun σ' H' w => ⟨m, Nat.lt_succ_self _, w⟩, σ0, F, J4, ρ3, c4, ?_⟩
        have q3 := q2.mono s4
        cases eb : mb ρ3 with
        | nx ρ4 => rw [eb] at q3; exact fun J5 σ5 H5 c5 s5 => ⟨J5, ρ4, c5, q3.mono s5⟩
        | ct ρ4 => rw [eb] at q3; exact fun J5 σ5 H5 c5 s5 => ⟨J5, ρ4, c5, q3.mono s5⟩
        | bk ρ4 => rw [eb] at q3; exact q3
        | rt r ρ4 => rw [eb] at q3; exact q3
        | bad => rw [eb] at q3; exact q3
      · rw [if_neg hk] at q2 ⊢
        exact q2 J4 σ2 H4 c4 s4
    · exact q2.elim⟩
end
end DL

set_option Elab.async false
set_option linter.all false
set_option maxRecDepth 100000
set_option maxHeartbeats 4000000
/-! DLe: comprehensions, calls of defs, defs. -/
namespace DL
open PySem PySem.Spec PyProof.Rows L2

/-! ### comprehensions -/
def wipeR (ρ : Rho) : List Nat → Rho
  | [] => ρ
  | v :: vs => (wipeR ρ vs).set v none
theorem wipeR_length (ρ : Rho) : ∀ vs : List Nat, (wipeR ρ vs).length = ρ.length
  | [] => rfl
  | v :: vs => by unfold wipeR; rw [List.length_set, wipeR_length ρ vs]
theorem wipeR_some {ρ : Rho} {i : Nat} {x : R} : ∀ {vs : List Nat}, (wipeR ρ vs)[i]? = some (some x) → ρ[i]? = some (some x) ∧ i ∉ vs
  | [], h => ⟨h, by simp⟩
  | v :: vs, h => by
    unfold wipeR at h
    by_cases hi : v = i
    · subst hi
      by_cases hv : v < (wipeR ρ vs).length
      · rw [List.getElem?_set_self hv] at h; cases h
      · rw [List.getElem?_eq_none (by simpa using hv)] at h; cases h
    · rw [List.getElem?_set_ne hi] at h
      obtain ⟨h1, h2⟩ := wipeR_some h
      exact ⟨h1, by simp only [List.mem_cons, not_or]; exact ⟨fun e => hi e.symm, h2⟩⟩
theorem wipe_get (σ : L2.St) (i : Nat) : ∀ {vs : List Nat}, i ∉ vs → (wipe σ vs)[i]? = σ[i]?
  | [], _ => rfl
  | v :: vs, h => by
    simp only [List.mem_cons, not_or] at h
    unfold wipe
    rw [List.getElem?_set_ne (fun e => h.1 e.symm), wipe_get σ i h.2]
theorem wipe_in (σ : L2.St) (i : Nat) : ∀ {vs : List Nat}, i ∈ vs → i < σ.length → (wipe σ vs)[i]? = some none
  | v :: vs, h, hl => by
    unfold wipe
    by_cases e : v = i
    · subst e; rw [List.getElem?_set_self (by rw [wipe_length]; exact hl)]
    · rw [List.getElem?_set_ne e]
      rcases List.mem_cons.mp h with h | h
      · exact absurd h.symm e
      · exact wipe_in σ i h hl
theorem wipe_same {σ σ2 : L2.St} {vs : List Nat} (h : ∀ j, j ∉ vs → σ2[j]? = (wipe σ vs)[j]?) (hl : σ2.length = (wipe σ vs).length) : wipe σ2 vs = wipe σ vs := by
  have hl' : σ2.length = σ.length := hl.trans (wipe_length σ vs)
  apply List.ext_getElem?
  intro j
  by_cases hj : j ∈ vs
  · by_cases lt : j < σ.length
    · rw [wipe_in σ2 j hj (by omega), wipe_in σ j hj lt]
    · rw [List.getElem?_eq_none (by rw [wipe_length]; omega), List.getElem?_eq_none (by rw [wipe_length]; omega)]
  · rw [wipe_get σ2 j hj, h j hj]
section
variable {K : PySem.W.Frag} {B : List Nat} {σ0 : L2.St} {F : Fm} {J J' : Hp} {ρ ρ' : Rho} {σ : L2.St} {H H' : Hp} {r : R} {v : V} {d : D} {i : Nat}
theorem CI.wipe {vs : List Nat} (c : CI K B σ0 F J ρ σ H) (hb : ∀ i ∈ B, i ∉ vs) : CI K B σ0 F J (wipeR ρ vs) (L2.wipe σ vs) H := by
  obtain ⟨fp, o1, o2, o3⟩ := c.own
  refine ⟨c.fr, c.jm, c.av, by rw [wipeR_length, wipe_length]; exact c.len, by rw [wipe_length]; exact c.lb, fun i hi => ⟨(c.pin i hi).1, by rw [wipe_get σ i (hb i hi)]; exact (c.pin i hi).2⟩, fp, fun i r h => ?_, fun i r a h => o2 i r a (wipeR_some h).1, fun i j r r' a h h' => o3 i j r r' a (wipeR_some h).1 (wipeR_some h').1⟩
  obtain ⟨h1, h2⟩ := wipeR_some h
  obtain ⟨v, e, w⟩ := o1 i r h1
  exact ⟨v, by rw [wipe_get σ i h2]; exact e, w⟩
theorem CI.unwipe {vs : List Nat} (c : CI K B σ0 F J (wipeR ρ vs) (L2.wipe σ vs) H) (hb : ∀ i ∈ B, i ∉ vs) : CI K B σ0 F J (wipeR ρ vs) σ H := by
  obtain ⟨fp, o1, o2, o3⟩ := c.own
  refine ⟨c.fr, c.jm, c.av, by have := c.len; rw [wipe_length] at this; exact this, by have := c.lb; rw [wipe_length] at this; exact this, fun i hi => ⟨(c.pin i hi).1, by have := (c.pin i hi).2; rw [wipe_get σ i (hb i hi)] at this; exact this⟩, fp, fun i r h => ?_, o2, o3⟩
  obtain ⟨h1, h2⟩ := wipeR_some h
  obtain ⟨v, e, w⟩ := o1 i r h
  exact ⟨v, by rw [wipe_get σ i h2] at e; exact e, w⟩
/-- a thing in the making: it stands in the frame, and is not shared -/
def Fm.grd (F : Fm) (a : Addr) (o : HO) : Fm := ⟨upd F.h a o, fun b => F.av b ∨ b = a, fun b hb => by
  by_cases e : b = a
  · subst e; exact ⟨o, upd_same⟩
  · rcases hb with hb | hb
    · obtain ⟨x, q⟩ := F.sub b hb
      exact ⟨x, by rw [upd_ne e]; exact q⟩
    · exact absurd hb e⟩
theorem CI.guard {a : Addr} {o : HO} (c : CI K B σ0 F J ρ σ H) (ha : H a = none) : CI K B σ0 (F.grd a o) J ρ σ (upd H a o) := by
  obtain ⟨fp, o1, o2, o3⟩ := c.own
  have s := same_upd (o := o) ha
  refine ⟨same_upd2 c.fr, c.jm.trans s, fun b hb => ?_, c.len, c.lb, c.pin, fp, fun i r h => ?_, fun i r b h hb => ⟨(o2 i r b h hb).1, ?_⟩, o3⟩
  · rcases hb with hb | rfl
    · exact c.av b hb
    · exact c.jm.free ha
  · obtain ⟨v, e, w⟩ := o1 i r h
    exact ⟨v, e, w.mono (Same.refl _) fun a _ o q => s _ _ q⟩
  · obtain ⟨v, e, w⟩ := o1 i r h
    obtain ⟨x, q⟩ := w.there b hb
    show upd F.h a o b = none
    rw [upd_ne (ne_of_none q ha)]
    exact (o2 i r b h hb).2
theorem grd_grd {a : Addr} {o o' : HO} (F : Fm) : (F.grd a o').h = (upd (F.grd a o).h a o') := by
  show upd F.h a o' = upd (upd F.h a o) a o'
  rw [upd_upd]
theorem CI.reguard {a : Addr} {o o' : HO} (c : CI K B σ0 (F.grd a o) J ρ σ H) : CI K B σ0 (F.grd a o') J ρ σ (upd H a o') := by
  obtain ⟨fp, o1, o2, o3⟩ := c.own
  have hj : J a = none := c.av a (.inr rfl)
  refine ⟨?_, fun b x e => ?_, c.av, c.len, c.lb, c.pin, fp, fun i r h => ?_, fun i r b h hb => ⟨(o2 i r b h hb).1, ?_⟩, o3⟩
  · rw [grd_grd (o := o)]; exact same_upd2 c.fr
  · rw [upd_ne (ne_of_none e hj)]; exact c.jm _ _ e
  · obtain ⟨v, e, w⟩ := o1 i r h
    refine ⟨v, e, w.mono (Same.refl _) fun b hb x q => ?_⟩
    have : b ≠ a := fun z => by
      have := (o2 i r b h hb).2
      rw [z] at this
      rw [show (F.grd a o).h a = some o from upd_same] at this; cases this
    rw [upd_ne this]; exact q
  · have q := (o2 i r b h hb).2
    have : b ≠ a := fun z => by
      rw [z, show (F.grd a o).h a = some o from upd_same] at q; cases q
    show upd F.h a o' b = none
    rw [upd_ne this]
    have q' : upd F.h a o b = none := q
    rwa [upd_ne this] at q'
theorem CI.guarded {a : Addr} {o : HO} (c : CI K B σ0 (F.grd a o) J ρ σ H) : H a = some o := c.fr _ _ upd_same
/-- what was in the making is in one's hand -/
theorem CI.release {a : Addr} {o : HO} (c : CI K B σ0 (F.grd a o) J ρ σ H) (hF : F.h a = none) (w : OwnAt K J H r (.ref a) [a]) : CI K B σ0 F J (ρ ++ [some r]) (σ ++ [some (.ref a)]) H := by
  obtain ⟨fp, o1, o2, o3⟩ := c.own
  have hj : J a = none := c.av a (.inr rfl)
  have np : ∀ {i r}, ρ[i]? = some (some r) → a ∉ fp i := fun {i r} h hm => by
    have := (o2 i r a h hm).2
    rw [show (F.grd a o).h a = some o from upd_same] at this; cases this
  have key : ∀ {j : Nat} {q : R}, (ρ ++ [some r])[j]? = some (some q) → (j = ρ.length ∧ q = r) ∨ (j ≠ ρ.length ∧ ρ[j]? = some (some q)) := fun {j q} h => by
    rcases get_app h with h | ⟨e, h⟩
    · exact .inr ⟨Nat.ne_of_lt (List.getElem?_eq_some_iff.mp h).1, h⟩
    · exact .inl ⟨e, (Option.some.inj h).symm⟩
  have hfr : Same F.h H := fun b x e => c.fr b x (by
    show upd F.h a o b = some x
    rw [upd_ne (ne_of_none e hF)]; exact e)
  have hf : ∀ b, (F.grd a o).h b = none → F.h b = none := fun b q => by
    by_cases e : b = a
    · subst e; exact hF
    · have q' : upd F.h a o b = none := q
      rwa [upd_ne e] at q'
  refine ⟨hfr, c.jm, fun b hb => c.av b (.inl hb), by simp [c.len], by have := c.lb; simp; omega, fun i hi => ⟨(c.pin i hi).1, by rw [List.getElem?_append_left (c.lt hi)]; exact (c.pin i hi).2⟩, ovr fp ρ.length [a], fun i r h => ?_, fun i r b h ha => ?_, fun i j r r' b h h' ha hb => ?_⟩
  · rcases key h with ⟨rfl, rfl⟩ | ⟨ne, h⟩
    · exact ⟨_, by rw [c.len]; exact get_app_r, by rw [ovr_eq]; exact w⟩
    · obtain ⟨v, e1, w⟩ := o1 i r h
      exact ⟨v, get_app_l e1, by rw [ovr_ne ne]; exact w⟩
  · rcases key h with ⟨rfl, rfl⟩ | ⟨ne, h⟩
    · rw [ovr_eq, List.mem_singleton] at ha
      subst ha
      exact ⟨hj, hF⟩
    · rw [ovr_ne ne] at ha; exact ⟨(o2 i r b h ha).1, hf b (o2 i r b h ha).2⟩
  · rcases key h with ⟨rfl, rfl⟩ | ⟨ne, h3⟩
    · rcases key h' with ⟨rfl, rfl⟩ | ⟨ne', h4⟩
      · rfl
      · rw [ovr_eq, List.mem_singleton] at ha
        subst ha
        rw [ovr_ne ne'] at hb
        exact absurd hb (np h4)
    · rcases key h' with ⟨rfl, rfl⟩ | ⟨ne', h4⟩
      · rw [ovr_eq, List.mem_singleton] at hb
        subst hb
        rw [ovr_ne ne] at ha
        exact absurd ha (np h3)
      · rw [ovr_ne ne] at ha; rw [ovr_ne ne'] at hb; exact o3 i j r r' b h3 h4 ha hb
end
/-- the turns of a comprehension, each behind the wiping -/
def compL (vs : List Nat) (g : D → Rho → Option Rho) (mt : Rho → Out Bool) (me : Rho → Out R) : List D → Rho → Out (List D)
  | [], ρ => .ok [] ρ
  | d :: ds, ρ => match g d ρ with
    | some ρ1 => (mt ρ1).bind fun b ρ2 => if b = true then match me ρ2 with
        | .ok (.sh x) ρ3 => (compL vs g mt me ds (wipeR ρ3 vs)).bind fun xs ρ4 => .ok (x :: xs) ρ4
        | _ => .bad
      else compL vs g mt me ds (wipeR ρ2 vs)
    | none => .bad
def mLc (vs : List Nat) (mi : Rho → Out (List D)) (g : D → Rho → Option Rho) (mt : Rho → Out Bool) (me : Rho → Out R) : Rho → Out R := fun ρ => (mi ρ).bind fun ds ρ1 =>
  if ds.length ≤ 1000000 then (compL vs g mt me ds (wipeR ρ1 vs)).bind fun xs ρ2 => .ok (.ol xs) ρ2 else .bad
def mTrue : Rho → Out Bool := fun ρ => .ok true ρ
structure DTs (X : Cx) (B : List Nat) (es : List Expr) (m : Rho → Out Bool) : Prop where
  pts : PTs X es (lT X.K B m)
theorem pts_weak {X : Cx} {e : List Expr} {t t' : TT} (h : PTs X e t) (w : ∀ σ H Q, t' σ H Q → t σ H Q) : PTs X e t' := ⟨fun pins s σ H Q I q => h.run pins s σ H Q I (w σ H Q q)⟩
theorem dts_nil {X : Cx} {B : List Nat} : DTs X B [] mTrue := ⟨pts_weak pts_nil fun σ H Q ⟨σ0, F, J, ρ, b, ρ', c, e, q⟩ => by
  cases e
  exact q J H c (Same.refl _)⟩
theorem dts_one {X : Cx} {B : List Nat} {c : Expr} {m : Rho → Out Bool} (h : DT X B c m) : DTs X B [c] m := ⟨pts_one h.pt⟩
theorem RpL.app {K : PySem.W.Frag} {J : Hp} : ∀ {ds es : List D} {vs ws : List V}, RpL K J ds vs → RpL K J es ws → RpL K J (ds ++ es) (vs ++ ws)
  | _, _, _, _, .nil, s => s
  | _, _, _, _, .cons a r, s => .cons a (RpL.app r s)
theorem small_line {n : Nat} (h : n ≤ 1000000) : n < sizeLine := Nat.lt_of_le_of_lt h (by rw [sizeLine_eq]; decide)
section
variable {X : Cx} {B : List Nat} {elt tg iter : Expr} {ifs : List Expr} {scope : Scope} {own : List (Str × Nat)} {pos : Pos} {ts : List Nat}
theorem tLc_lc {mi : Rho → Out (List D)} {g : D → Rho → Option Rho} {mt : Rho → Out Bool} {me : Rho → Out R} {vs : List Nat} (hts : ∀ j ∈ ts, j ∈ vs) (hB : ∀ i ∈ B, i ∉ vs) (σ : L2.St) (H : Hp) (Q : VK) (h : lO X.K B (mLc vs mi g mt me) σ H Q) :
    tLc (lI X.K B mi) (lG X.K B ts g) (lT X.K B mt) (lO X.K B me) vs σ H Q := by
  obtain ⟨σ0, F, J, ρ, r, ρ', c, e, q⟩ := h
  obtain ⟨ds, ρ1, e1, e2⟩ := bind_ok e
  by_cases hz : ds.length ≤ 1000000
  case neg => rw [if_neg hz] at e2; cases e2
  rw [if_pos hz] at e2
  obtain ⟨xs, ρ2, e3, e4⟩ := bind_ok e2
  cases e4
  refine ⟨σ0, F, J, ρ, ds, ρ1, c, e1, fun J1 H1 Jt c1 s1 rel => fun Da hD => ?_⟩
  have c2 : CI X.K B σ0 (F.grd Da (.lst [])) J1 (wipeR ρ1 vs) (wipe σ vs) (upd H1 Da (.lst [])) := (c1.wipe hB).guard hD
  have hF : F.h Da = none := c1.fr.free hD
  -- the word: what is made so far, and what the rest makes
  refine ⟨fun i m H => m = ds.length - i ∧ i ≤ ds.length ∧ ∃ J2 ρ2 acc vsA ys, CI X.K B σ0 (F.grd Da (.lst vsA)) J2 (wipeR ρ2 vs) (wipe σ vs) H ∧ Same J1 J2 ∧ RpL X.K J2 acc vsA ∧ acc.length ≤ i ∧ compL vs g mt me (ds.drop i) (wipeR ρ2 vs) = .ok ys ρ' ∧ xs = acc ++ ys,
    ⟨ds.length, by simp, Nat.zero_le _, J1, ρ1, [], [], xs, c2, Same.refl _, .nil, Nat.le_refl _, e3, rfl⟩, ?_⟩
  rintro i m H2 ⟨rfl, hi, J2, ρ2, acc, vsA, ys, c2, s2, w, ha, e5, rfl⟩
  have relc : Same J2 H2 := c2.jm
  obtain ⟨r1, r2⟩ := rel J2 H2 i s2 relc
  by_cases hlt : i < ds.length
  · refine .inr ?_
    have ed : ds[i]? = some ds[i] := List.getElem?_eq_getElem hlt
    obtain ⟨go, yl⟩ := r1 _ ed
    have dd : ds.drop i = ds[i] :: ds.drop (i + 1) := by rw [List.drop_eq_getElem_cons hlt]
    rw [dd] at e5
    unfold compL at e5
    refine ⟨go, fun H' => i + 1 ≤ ds.length ∧ ∃ J3 ρ3 acc3 vs3 ys3, CI X.K B σ0 (F.grd Da (.lst vs3)) J3 (wipeR ρ3 vs) (wipe σ vs) H' ∧ Same J1 J3 ∧ RpL X.K J3 acc3 vs3 ∧ acc3.length ≤ i + 1 ∧ compL vs g mt me (ds.drop (i + 1)) (wipeR ρ3 vs) = .ok ys3 ρ' ∧ acc ++ ys = acc3 ++ ys3, fun H' n => ⟨ds.length - (i + 1), by omega, rfl, n.1, n.2⟩, fun x H3 hy => ?_⟩
    obtain ⟨J3, x3, w3⟩ := yl x H3 hy
    cases eg : g ds[i] (wipeR ρ2 vs) with
    | none => rw [eg] at e5; cases e5
    | some ρ4 =>
      rw [eg] at e5
      dsimp only at e5
      obtain ⟨b, ρ5, e6, e7⟩ := bind_ok e5
      refine ⟨σ0, F.grd Da (.lst vsA), J3, _, ds[i], ρ4, c2.ext x3, w3, eg, fun σ4 H4 c4 ho hl => ⟨?_, ?_⟩⟩
      · exact wipe_same (fun j hj => ho j fun z => hj (hts j z)) hl
      · have hws : wipe σ4 vs = wipe σ vs := wipe_same (fun j hj => ho j fun z => hj (hts j z)) hl
        refine ⟨σ0, _, J3, ρ4, b, ρ5, c4, e6, fun J5 H5 c5 s5 => ?_⟩
        by_cases hb : b = true
        · rw [if_pos hb] at e7 ⊢
          split at e7
          · rename_i x ρ6 e8
            obtain ⟨zs, ρ7, e9, e10⟩ := bind_ok e7
            cases e10
            refine ⟨σ0, _, J5, ρ5, .sh x, ρ6, c5, e8, fun J6 H6 v6 c6 s6 => ?_⟩
            obtain ⟨fp, o1, _⟩ := c6.own
            obtain ⟨v', ev, _, wx⟩ := o1 ρ6.length _ get_app_r
            have hl6 : ρ6.length = σ4.length := by have := c6.len; simpa using this
            rw [hl6, get_app_r] at ev
            cases ev
            have c7 := c6.pop c5.lb
            have sj : Same J2 J6 := (x3.j.trans s5).trans s6
            have w7 : RpL X.K J6 (acc ++ [x]) (vsA ++ [v6]) := (w.mono sj).app (.cons wx .nil)
            have c8 := (c7.wipe hB).reguard (o' := .lst (vsA ++ [v6]))
            rw [hws] at c8
            exact ⟨vsA, c7.guarded, by rw [← w.len]; exact small_line (by omega), hlt, J6, ρ6, acc ++ [x], vsA ++ [v6], zs, c8, s2.trans sj, w7, by rw [List.length_append]; simp; omega, e9, by simp⟩
          · cases e7
        · rw [if_neg hb] at e7 ⊢
          have c8 := c5.wipe hB
          rw [hws] at c8
          exact ⟨hlt, J5, ρ5, acc, vsA, ys, c8, (s2.trans x3.j).trans s5, w.mono (x3.j.trans s5), by omega, e7, rfl⟩
  · have e : i = ds.length := by omega
    subst e
    rw [List.drop_length] at e5
    cases e5
    refine .inl ⟨r2 rfl, ?_⟩
    rw [List.append_nil] at q
    have c3 := (c2.unwipe hB).release (r := .ol acc) hF ⟨Da, vsA, rfl, rfl, c2.guarded, w⟩
    exact q J2 H2 (.ref Da) c3 (s1.trans s2)
theorem do_lc {mi : Rho → Out (List D)} {g : D → Rho → Option Rho} {mt : Rho → Out Bool} {me : Rho → Out R} (hc : X.calm = true) (hN : X.N.Nodup) (hi : DI X B tg iter mi) (ok : BlkOk X.N X.env.scope scope own)
    (hg : ∀ (s : Shared) (H : Hp) (C : Addr) (cl : List (Str × Addr)) (fp : List Addr), DG (X.blk s H scope (compEnvC scope cl C X.env) fp) B ts tg g) (ht : ∀ (s : Shared) (H : Hp) (C : Addr) (cl : List (Str × Addr)) (fp : List Addr), DTs (X.blk s H scope (compEnvC scope cl C X.env) fp) B ifs mt)
    (he : ∀ (s : Shared) (H : Hp) (C : Addr) (cl : List (Str × Addr)) (fp : List Addr), DO (X.blk s H scope (compEnvC scope cl C X.env) fp) B elt me) (hts : (ts.all fun j => (own.map (·.2)).contains j) = true := by decide) (hB : (B.all fun i => !(own.map (·.2)).contains i) = true := by decide)
    (hs : ∀ x, foldedSetIterable iter X.env x = pure x := by intro _; rfl) : DO X B (.ListComp elt [⟨tg, iter, ifs, 0⟩] scope pos) (mLc (own.map (·.2)) mi g mt me) :=
  ⟨pe_weak (pe_lc hc hN hi.pi ok (fun s H C cl fp => (hg s H C cl fp).pg) (fun s H C cl fp => (ht s H C cl fp).pts) (fun s H C cl fp => (he s H C cl fp).pe) hs) (tLc_lc (fun j hj => by
    have := List.all_eq_true.mp hts j hj
    rwa [List.contains_eq_mem, decide_eq_true_iff] at this) fun i hi => by
    have := List.all_eq_true.mp hB i hi
    rw [Bool.not_eq_true', List.contains_eq_mem, decide_eq_false_iff_not] at this
    exact this)⟩
/-- x = [..] -/
theorem ds_setLc (i : Nat) {y : Str} {py spos : Pos} {mi : Rho → Out (List D)} {g : D → Rho → Option Rho} {mt : Rho → Out Bool} {me : Rho → Out R} (hc : X.calm = true) (hN : X.N.Nodup) (hi : DI X B tg iter mi) (ok : BlkOk X.N X.env.scope scope own)
    (hg : ∀ (s : Shared) (H : Hp) (C : Addr) (cl : List (Str × Addr)) (fp : List Addr), DG (X.blk s H scope (compEnvC scope cl C X.env) fp) B ts tg g) (ht : ∀ (s : Shared) (H : Hp) (C : Addr) (cl : List (Str × Addr)) (fp : List Addr), DTs (X.blk s H scope (compEnvC scope cl C X.env) fp) B ifs mt)
    (he : ∀ (s : Shared) (H : Hp) (C : Addr) (cl : List (Str × Addr)) (fp : List Addr), DO (X.blk s H scope (compEnvC scope cl C X.env) fp) B elt me) (hsw : swapsWith (.ListComp elt [⟨tg, iter, ifs, 0⟩] scope pos) (some (.Name y py)) spos.line X.env = pure true)
    (hy : X.N[i]? = some y := by rfl) (hyl : X.env.scope.names.lookup y = some .local := by rfl) (hBi : B.contains i = false := by rfl) (hts : (ts.all fun j => (own.map (·.2)).contains j) = true := by decide) (hB : (B.all fun i => !(own.map (·.2)).contains i) = true := by decide)
    (hs : ∀ x, foldedSetIterable iter X.env x = pure x := by intro _; rfl) : DS X B (.Assign [.Name y py] (.ListComp elt [⟨tg, iter, ifs, 0⟩] scope pos) spos) (mSet i (mLc (own.map (·.2)) mi g mt me)) :=
  ⟨ps_weak (ps_setLc hc hN hy hyl hsw hi.pi ok (fun s H C cl fp => (hg s H C cl fp).pg) (fun s H C cl fp => (ht s H C cl fp).pts) (fun s H C cl fp => (he s H C cl fp).pe) hs) fun D σ H ⟨σ0, F, J, ρ, c, q⟩ => by
  unfold mSet at q
  split at q
  · rename_i r ρ' e1
    split at q
    · rename_i hlt
      refine tLc_lc (X := X) (fun j hj => by
        have := List.all_eq_true.mp hts j hj
        rwa [List.contains_eq_mem, decide_eq_true_iff] at this) (fun i hi => by
        have := List.all_eq_true.mp hB i hi
        rw [Bool.not_eq_true', List.contains_eq_mem, decide_eq_false_iff_not] at this
        exact this) σ H _ ⟨σ0, F, J, ρ, r, ρ', c, e1, fun J' H' v c' s => q J' _ H' (c'.store c.lb hlt fun hm => ?_) s⟩
      rw [List.contains_eq_mem, decide_eq_false_iff_not] at hBi
      exact hBi hm
    · exact q.elim
  · exact q.elim⟩
end
end DL

set_option Elab.async false
set_option linter.all false
set_option maxRecDepth 100000
set_option maxHeartbeats 4000000
/-! DLf: calls of defs; defs; stores into one's own things. -/
namespace DL
open PySem PySem.Spec PyProof.Rows L2

/-! ### room, with nothing under way that is being shown -/
structure RoomG (k : Nat) (A : Around) : Prop where
  rm : Room k A
  gd : A.guards = some []
section
variable {j k : Nat} {A : Around}
theorem RoomG.mono (r : RoomG k A) (h : j ≤ k) : RoomG j A := ⟨r.rm.mono h, r.gd⟩
theorem RoomG.units (r : RoomG k A) : A.units + 64 < cLine := r.rm.units
theorem RoomG.un (r : RoomG k A) : A.units + 16 * k + 200 < cLine := r.rm.un
theorem RoomG.deeper (r : RoomG (k + 1) A) (env : Env) : RoomG k (A.deeper env) := ⟨r.rm.deeper env, r.gd⟩
end
/-- a def that keeps its promise where nothing is being shown -/
structure FnG (P : Program) (w : World) (K : PySem.W.Frag) (mg : Str → Option Value) (base : Heap) (CX : CXT) (k : Nat) (f : Addr) (fd : FuncData) (ps : List Str) (sp : Sp) : Prop where
  len : ∀ vs H Q E, sp vs H Q E → vs.length = ps.length
  go : ∀ {A : Around} {outer : List Env} {s : Shared} {H : Hp} {args : Args} {us : List Value} {vs : List V} {Q : VK} {E : XK}, RoomG k A → Env0 P w K mg base A outer s H → BindsTo s fd args (ps.zip us) → Vals vs us →
    sp vs H Q E → codeAny (model P w) A (.call (.ref f) args) (CR CX outer P w H s Q E) s
section
variable {P : Program} {w : World} {K : PySem.W.Frag} {mg : Str → Option Value} {base : Heap} {CX : CXT} {k : Nat} {f : Addr} {fd : FuncData} {ps : List Str} {sp sp' : Sp}
theorem FnG.of (F : FnOk P w K mg base CX k f fd ps sp) : FnG P w K mg base CX k f fd ps sp := ⟨F.len, fun r e b v q => F.run _ _ _ _ _ _ _ _ _ r.rm e b v q⟩
theorem FnG.imp (F : FnG P w K mg base CX k f fd ps sp) (h : ∀ vs H Q E, sp' vs H Q E → sp vs H Q E) : FnG P w K mg base CX k f fd ps sp' := ⟨fun vs H Q E q => F.len vs H Q E (h vs H Q E q), fun r e b v q => F.go r e b v (h _ _ _ _ q)⟩
/-- THE RULE for a def by its body -/
theorem FnG.by {x qual : Str} {st : Stmt} {N : List Str} (F : Fun K x qual st f fd) (S : FnScope N ps (defScope st)) (len : ∀ vs H Q E, sp vs H Q E → vs.length = ps.length)
    (hb : ∀ (cdv : Value) (A : Around) (outer : List Env) (s : Shared) (H : Hp) (vs : List V) (Q : VK) (E : XK), RoomG k (A.deeper (envOfC qual (defScope st) s.heap.objs.size f cdv)) → sp vs H Q E →
      ∃ t, PSs (cxOf CX0 P w K mg base N qual (defScope st) f cdv A outer s H E).nox (defBody st) t ∧ t { nx := fun _ H' => Q .non H', rt := Q } (start N vs) H) : FnG P w K mg base CX0 (k + 1) f fd ps sp := by
  refine ⟨len, ?_⟩
  intro A outer s H args us vs Q E room e0 bind rel hsp
  obtain ⟨oc, od, kV, doc, pm, an, cdv, ct, osl, hfd, look, code⟩ := F.ex
  subst hfd
  have inK : K.In s.heap := e0.mod.kin.keeps fun b o e => (e0.bs b o e).1
  have noLim : s.heap.NoLimit := e0.mod.nolimit.keeps fun b o e => (e0.bs b o e).1
  refine codeAny_call_function room.rm.depth (inK _ _ look) rfl S.co S.gen rfl (PySem.W.codeRec_of inK code) (bind _ _ _ _ ?_)
  refine wpAny_newFunctionEnv_cells S.kind ?_ ?_
  · rintro ⟨y, u⟩ hy
    have hy1 := (List.of_mem_zip hy).1
    cases S.par y hy1 with
    | inl q => exact .inl q
    | inr q => exact .inr ⟨q, PySem.W.cellsFrom_some _ _ _ (.inl q)⟩
  · rintro env rfl s1 called
    refine ⟨noLim.keeps called.toInCall.keep, codeAny_func ?_⟩
    obtain ⟨t, ht, start_t⟩ := hb cdv A outer s H vs Q E (room.deeper _) hsp
    have inv := inv_start (CX := CX0) (cd := cdv) (qual := qual) (f := f) (E := E) S room.rm.hd e0 (len vs H Q E hsp) rel called
    refine wpAny_mono (ht.nox.run [] s1 (start N vs) H _ inv start_t) ?_ (fun e s' z => z)
    intro fl s' out
    cases fl with
    | next => obtain ⟨_, H', i2, q⟩ := out; exact ⟨.non, H', i2.os, i2.bare, i2.base, i2.hok, rfl, q⟩
    | ret u => obtain ⟨v, _, H', i2, rv, q⟩ := out; exact ⟨v, H', i2.os, i2.bare, i2.base, i2.hok, rv, q⟩
    | brk => obtain ⟨_, _, _, q⟩ := out; exact q.elim
    | cont => obtain ⟨_, _, _, q⟩ := out; exact q.elim
end
section
variable {X : Cx} {CX : CXT} {k : Nat} {f : Addr} {fd : FuncData} {ps : List Str} {sp : Sp} {E : XK} {x : Str} {p pos : Pos} {e : Expr} {es : List Expr} {t : TA}
/-- such a def runs -/
theorem FnG.called {pins : List (Addr × Obj)} {σ : L2.St} {H : Hp} {s : Shared} {Q : VK} {us : List Value} {vs : List V} (F : FnG X.prog X.w X.K X.mg X.base CX k f fd ps sp) (room : RoomG k X.A) (bind : Binds X.K fd ps []) (hx : Passes CX X E)
    (I : Inv X pins σ H s) (rel : Vals vs us) (q : sp (vs ++ []) H Q E) : wpAny (model X.prog X.w) X.A (call (.ref f) us) (EP X pins σ Q) X.xe s := by
  have rel' : Vals (vs ++ []) (us ++ []) := rel.append .nil
  have hlen : (us ++ []).length = ps.length := rel'.length.symm.trans (F.len _ _ _ _ q)
  have run := F.go (us := us ++ []) (args := ⟨us, []⟩) room I.env0 (bind s us I.kIn hlen) rel' q
  refine wpAny_call (codeAny_mono run ?_)
  rintro (e' | fl) s' out
  · exact hx pins σ H s e' s' I out
  · cases fl with
    | ret u => exact I.after out
    | next => exact out.elim
    | brk => exact out.elim
    | cont => exact out.elim
theorem pe_callG (F : FnG X.prog X.w X.K X.mg X.base CX k f fd ps sp) (room : RoomG k X.A) (hg : Gl X x) (hm : X.mg x = some (.ref f)) (hk : PySem.W.keepIn X.K (.ref f) = true) (bind : Binds X.K fd ps []) (hx : Passes CX X E)
    (ha : PA X (e :: es) t) (hdb : (x == ("__debug__" : Str)) = false := by decide) (he : starEach (e :: es) X.env = (false, eval e X.env) :: starEach es X.env := by rfl) (hpl : (backTo pos (starEach es X.env)).any (·.1) = false := by rfl) :
    PE X (.Call (.Name x p) (e :: es) [] pos) (tCall sp [] E t) :=
  ⟨fun pins s σ H Q I q => wpAny_Call_Name_kw (ld_glob I hg hm (PySem.W.callWith_K (h₀ := X.base) I.ok.mod.kin hk (thn (ha.run pos pins s σ H _ I q) fun us s1 ⟨vs, H1, I1, rel, q1⟩ => ⟨I1.kIn, F.called room bind hx I1 rel q1⟩) he hpl) hdb)⟩
theorem pe_callG0 (F : FnG X.prog X.w X.K X.mg X.base CX k f fd ps sp) (room : RoomG k X.A) (hg : Gl X x) (hm : X.mg x = some (.ref f)) (hk : PySem.W.keepIn X.K (.ref f) = true) (bind : Binds X.K fd ps []) (hx : Passes CX X E)
    (hdb : (x == ("__debug__" : Str)) = false := by decide) : PE X (.Call (.Name x p) [] [] pos) (tCall sp [] E tNil) :=
  ⟨fun pins s σ H Q I q => wpAny_Call_Name_kw (ld_glob I hg hm (PySem.W.callWith_K0 I.kIn hk (F.called (us := []) room bind hx I .nil q)) hdb)⟩
end
def spM (K : PySem.W.Frag) (n : Nat) (f : List R → Option (R × List R)) : Sp := fun vs H Q E => ∃ F J rs r rs', vs.length = n ∧ CI K [] [] F J (rs.map some) (vs.map some) H ∧ f rs = some (r, rs') ∧
  ∀ J' H' v, CI K [] [] F J' (rs'.map some ++ [some r]) (vs.map some ++ [some v]) H' → Same J J' → Q v H'
theorem spM_len {K : PySem.W.Frag} {n : Nat} {f : List R → Option (R × List R)} {vs : List V} {H : Hp} {Q : VK} {E : XK} (h : spM K n f vs H Q E) : vs.length = n := by
  obtain ⟨_, _, _, _, _, h, _⟩ := h
  exact h
/-- what a callee may not touch, may not share: all but S -/
def lendF (H J : Hp) (S : List Addr) : Fm := ⟨fun a => if a ∈ S then none else H a, fun a => (∃ o, (if a ∈ S then none else H a) = some o) ∧ J a = none, fun _ h => h.1⟩
section
variable {K : PySem.W.Frag} {B : List Nat} {σ0 : L2.St} {F : Fm} {J J' : Hp} {ρ ρ' : Rho} {σ : L2.St} {H H' : Hp} {r r0 r1 : R} {v v0 : V} {d : D} {i : Nat} {S S0 : List Addr}
theorem lendF_nil {H J : Hp} {a : Addr} : (lendF H J []).h a = H a := by
  show (if a ∈ ([] : List Addr) then none else H a) = H a
  rw [if_neg (by simp)]
theorem lendF_in {a : Addr} (h : a ∈ S) : (lendF H J S).h a = none := if_pos h
theorem lendF_out {a : Addr} (h : a ∉ S) : (lendF H J S).h a = H a := if_neg h
theorem CI.join (c : CI K B σ0 F J ρ σ H) (e : Ext J H J' H') (w : OwnAt K J' H' r v S) (hS : ∀ a ∈ S, J' a = none ∧ H a = none) : CI K B σ0 F J' (ρ ++ [some r]) (σ ++ [some v]) H' := by
  obtain ⟨fp, o1, o2, o3⟩ := id c.own
  have np : ∀ {i r}, ρ[i]? = some (some r) → ∀ a ∈ S, a ∉ fp i := fun {i r} h a hm hf => by
    obtain ⟨v, _, w⟩ := o1 i r h
    obtain ⟨o, e⟩ := w.there a hf
    rw [(hS a hm).2] at e; cases e
  have key : ∀ {j : Nat} {q : R}, (ρ ++ [some r])[j]? = some (some q) → (j = ρ.length ∧ q = r) ∨ (j ≠ ρ.length ∧ ρ[j]? = some (some q)) := fun {j q} h => by
    rcases get_app h with h | ⟨e, h⟩
    · exact .inr ⟨Nat.ne_of_lt (List.getElem?_eq_some_iff.mp h).1, h⟩
    · exact .inl ⟨e, (Option.some.inj h).symm⟩
  refine ⟨c.fr.trans e.h, e.m, fun a ha => e.n a (c.av a ha) (by obtain ⟨o, q⟩ := F.sub a ha; rw [c.fr _ _ q]; simp), by simp [c.len], by have := c.lb; simp; omega, fun i hi => ⟨(c.pin i hi).1, by rw [List.getElem?_append_left (c.lt hi)]; exact (c.pin i hi).2⟩, ovr fp ρ.length S, fun i r h => ?_, fun i r a h ha => ?_, fun i j r r' a h h' ha hb => ?_⟩
  · rcases key h with ⟨rfl, rfl⟩ | ⟨ne, h⟩
    · exact ⟨_, by rw [c.len]; exact get_app_r, by rw [ovr_eq]; exact w⟩
    · obtain ⟨v, e1, w⟩ := o1 i r h
      exact ⟨v, get_app_l e1, by rw [ovr_ne ne]; exact w.mono e.j fun a _ o q => e.h _ _ q⟩
  · rcases key h with ⟨rfl, rfl⟩ | ⟨ne, h⟩
    · rw [ovr_eq] at ha
      exact ⟨(hS a ha).1, c.fr.free (hS a ha).2⟩
    · rw [ovr_ne ne] at ha
      obtain ⟨v, e1, w⟩ := o1 i r h
      obtain ⟨o, q⟩ := w.there a ha
      exact ⟨e.n a (o2 i r a h ha).1 (by rw [q]; simp), (o2 i r a h ha).2⟩
  · rcases key h with ⟨rfl, rfl⟩ | ⟨ne, h3⟩
    · rcases key h' with ⟨rfl, rfl⟩ | ⟨ne', h4⟩
      · rfl
      · rw [ovr_eq] at ha
        rw [ovr_ne ne'] at hb
        exact absurd hb (np h4 a ha)
    · rcases key h' with ⟨rfl, rfl⟩ | ⟨ne', h4⟩
      · rw [ovr_eq] at hb
        rw [ovr_ne ne] at ha
        exact absurd ha (np h3 a hb)
      · rw [ovr_ne ne] at ha; rw [ovr_ne ne'] at hb; exact o3 i j r r' a h3 h4 ha hb
/-- shared arguments, for a callee -/
theorem CI.args {ds : List D} {vs : List V} (m : Same J H) (w : RpL K J ds vs) : CI K [] [] (lendF H J []) J ((ds.map R.sh).map some) (vs.map some) H := by
  refine ⟨fun a o h => by rw [lendF_nil] at h; exact h, m, fun a h => h.2, by simp [w.len], by simp, fun i hi => absurd hi (by simp), fun _ => [], fun i r h => ?_, fun i r a h ha => absurd ha (by simp), fun i j r r' a h h' ha => absurd ha (by simp)⟩
  rw [List.getElem?_map, List.getElem?_map] at h
  cases e : ds[i]? with
  | none => rw [e] at h; cases h
  | some d =>
    rw [e] at h
    cases h
    obtain ⟨v, e1, w1⟩ := w.get e
    exact ⟨v, by rw [List.getElem?_map, e1]; rfl, rfl, w1⟩
/-- .. the first one lent -/
theorem CI.args1 {ds : List D} {vs : List V} (m : Same J H) (w : RpL K J ds vs) (w0 : OwnAt K J H r0 v0 S) (hS : ∀ a ∈ S, J a = none) : CI K [] [] (lendF H J S) J ((r0 :: ds.map R.sh).map some) ((v0 :: vs).map some) H := by
  refine ⟨fun a o h => ?_, m, fun a h => h.2, by simp [w.len], by simp, fun i hi => absurd hi (by simp), ovr (fun _ => []) 0 S, fun i r h => ?_, fun i r a h ha => ?_, fun i j r r' a h h' ha hb => ?_⟩
  · by_cases e : a ∈ S
    · rw [lendF_in e] at h; cases h
    · rw [lendF_out e] at h; exact h
  · cases i with
    | zero => cases h; exact ⟨v0, rfl, w0⟩
    | succ i =>
      rw [List.map_cons, List.getElem?_cons_succ, List.getElem?_map, List.getElem?_map] at h
      cases e : ds[i]? with
      | none => rw [e] at h; cases h
      | some d =>
        rw [e] at h
        cases h
        obtain ⟨v, e1, w1⟩ := w.get e
        exact ⟨v, by rw [List.map_cons, List.getElem?_cons_succ, List.getElem?_map, e1]; rfl, rfl, w1⟩
  · by_cases e : i = 0
    · subst e; rw [ovr_eq] at ha; exact ⟨hS a ha, lendF_in ha⟩
    · rw [ovr_ne e] at ha; cases ha
  · by_cases e : i = 0
    · by_cases e' : j = 0
      · rw [e, e']
      · rw [ovr_ne e'] at hb; cases hb
    · rw [ovr_ne e] at ha; cases ha
/-- behind a callee to which nothing was lent -/
theorem CI.ext_of {ρc : Rho} {σc : L2.St} (m : Same J H) (c' : CI K [] [] (lendF H J []) J' ρc σc H') (s : Same J J') : Ext J H J' H' where
  j := s
  h := fun a o h => c'.fr a o (by rw [lendF_nil]; exact h)
  m := c'.jm
  n := fun a h1 h2 => by
    cases e : H a with
    | none => exact absurd e h2
    | some o => exact c'.av a ⟨⟨o, by rw [if_neg (by simp)]; exact e⟩, h1⟩
theorem CI.back {rs : List R} {vs : List V} (c : CI K B σ0 F J ρ σ H) (c' : CI K [] [] (lendF H J []) J' (rs.map some ++ [some r]) (vs.map some ++ [some v]) H') (s : Same J J') : CI K B σ0 F J' (ρ ++ [some r]) (σ ++ [some v]) H' := by
  obtain ⟨fp, o1, o2, o3⟩ := id c'.own
  have hl : (rs.map some).length = (vs.map some).length := by have := c'.len; simpa using this
  obtain ⟨v', e, w⟩ := o1 (rs.map some).length r get_app_r
  rw [hl, get_app_r] at e
  cases e
  refine c.join (CI.ext_of c.jm c' s) w fun a ha => ?_
  obtain ⟨h1, h2⟩ := o2 _ r a get_app_r ha
  rw [lendF_nil] at h2
  exact ⟨h1, h2⟩
def flatD : D → Bool
  | .non => true
  | .bl _ => true
  | .int _ => true
  | .str _ => true
  | .fn _ => true
  | .ty _ => true
  | _ => false
def flatR : R → Bool
  | .sh d => flatD d
  | _ => false
theorem flat_rp (h : flatD d = true) (w : Rp K J d v) : ∀ J2, Rp K J2 d v := fun J2 => by
  cases w with
  | non => exact .non
  | bl b => exact .bl b
  | int i => exact .int i
  | str x => exact .str x
  | fn a => exact .fn a
  | ty n => exact .ty n
  | tup _ _ => cases h
  | lst _ _ => cases h
  | dK _ _ => cases h
  | dT _ _ => cases h
/-- behind a callee to which nothing was lent, and whose answer is flat: what it saw as shared may be one's own again -/
theorem CI.back0 {J2 : Hp} {rs : List R} {vs : List V} (c : CI K B σ0 F J ρ σ H) (s2 : Same J J2) (c' : CI K [] [] (lendF H J2 []) J' (rs.map some ++ [some r]) (vs.map some ++ [some v]) H') (hf : flatR r = true) : CI K B σ0 F J (ρ ++ [some r]) (σ ++ [some v]) H' := by
  obtain ⟨fp, o1, o2, o3⟩ := id c'.own
  have hl : (rs.map some).length = (vs.map some).length := by have := c'.len; simpa using this
  obtain ⟨v', e, w⟩ := o1 (rs.map some).length r get_app_r
  rw [hl, get_app_r] at e
  cases e
  have hH : Same H H' := fun a o h => c'.fr a o (by rw [lendF_nil]; exact h)
  cases r with
  | sh d =>
    have c2 : CI K B σ0 F J ρ σ H' := c.ext ⟨Same.refl _, hH, c.jm.trans hH, fun _ h _ => h⟩
    exact c2.push (flat_rp hf w.2 J)
  | _ => cases hf
/-- behind a callee to which the thing of slot i was lent -/
theorem CI.back1 {rs : List R} {vs : List V} {fp0 : Nat → List Addr} (c : CI K B σ0 F J ρ σ H) (o1 : ∀ i r, ρ[i]? = some (some r) → ∃ v, σ[i]? = some (some v) ∧ OwnAt K J H r v (fp0 i)) (o2 : ∀ i r a, ρ[i]? = some (some r) → a ∈ fp0 i → J a = none ∧ F.h a = none)
    (o3 : ∀ i j r r' a, ρ[i]? = some (some r) → ρ[j]? = some (some r') → a ∈ fp0 i → a ∈ fp0 j → i = j) (hi : ρ[i]? = some (some r0)) (hv : σ[i]? = some (some v0))
    (c' : CI K [] [] (lendF H J (fp0 i)) J' ((r1 :: rs).map some ++ [some r]) ((v0 :: vs).map some ++ [some v]) H') (s : Same J J') : CI K B σ0 F J' (ρ.set i (some r1) ++ [some r]) (σ ++ [some v]) H' := by
  obtain ⟨fq, p1, p2, p3⟩ := id c'.own
  have hlt : i < ρ.length := (List.getElem?_eq_some_iff.mp hi).1
  have hl : ((r1 :: rs).map some).length = ((v0 :: vs).map some).length := by have := c'.len; simpa using this
  obtain ⟨vr, er, wr⟩ := p1 ((r1 :: rs).map some).length r get_app_r
  rw [hl, get_app_r] at er
  cases er
  have h0 : ((r1 :: rs).map some ++ [some r])[0]? = some (some r1) := rfl
  obtain ⟨vi, ei, wi⟩ := p1 0 r1 h0
  have ev : vi = v0 := by
    have ei' : some (some v0) = some (some vi) := ei
    injection ei' with ei'; injection ei' with ei'; exact ei'.symm
  subst ev
  have hrl : ((r1 :: rs).map some).length ≠ 0 := by simp
  -- what stands outside of what was lent stands as before
  have keep : ∀ a o, H a = some o → a ∉ fp0 i → H' a = some o := fun a o h hn => c'.fr a o (by rw [lendF_out hn]; exact h)
  have nav : ∀ a, (∃ o, H a = some o) → a ∉ fp0 i → J a = none → J' a = none := fun a ⟨o, h⟩ hn hj => c'.av a ⟨⟨o, by rw [if_neg hn]; exact h⟩, hj⟩
  have oth : ∀ {j : Nat} {q : R}, j ≠ i → ρ[j]? = some (some q) → ∀ a ∈ fp0 j, a ∉ fp0 i ∧ ∃ o, H a = some o := fun {j q} ne h a ha => by
    obtain ⟨v, _, w⟩ := o1 j q h
    exact ⟨fun z => ne (o3 j i q r0 a h hi ha z), w.there a ha⟩
  have inner : ∀ {k : Nat} {q : R} {a : Addr}, ((r1 :: rs).map some ++ [some r])[k]? = some (some q) → a ∈ fq k → a ∈ fp0 i ∨ H a = none := fun {k q a} h ha => by
    have := (p2 k q a h ha).2
    by_cases z : a ∈ fp0 i
    · exact .inl z
    · rw [lendF_out z] at this; exact .inr this
  have key : ∀ {j : Nat} {q : R}, (ρ.set i (some r1) ++ [some r])[j]? = some (some q) → (j = ρ.length ∧ q = r) ∨ (j = i ∧ q = r1) ∨ (j ≠ i ∧ j ≠ ρ.length ∧ ρ[j]? = some (some q)) := fun {j q} h => by
    rcases get_app h with h | ⟨e, h⟩
    · by_cases e : j = i
      · subst e; rw [List.getElem?_set_self hlt] at h; exact .inr (.inl ⟨rfl, by injection h with h; injection h with h; exact h.symm⟩)
      · rw [List.getElem?_set_ne (Ne.symm e)] at h; exact .inr (.inr ⟨e, Nat.ne_of_lt (List.getElem?_eq_some_iff.mp h).1, h⟩)
    · exact .inl ⟨by simpa using e, (Option.some.inj h).symm⟩
  have ne1 : i ≠ ρ.length := Nat.ne_of_lt hlt
  refine ⟨fun a o h => keep a o (c.fr _ _ h) (fun z => by rw [(o2 i r0 a hi z).2] at h; cases h), c'.jm, fun a ha => ?_, by simp [c.len], by have := c.lb; simp; omega, fun j hj => ⟨(c.pin j hj).1, by rw [List.getElem?_append_left (c.lt hj)]; exact (c.pin j hj).2⟩,
    ovr (ovr fp0 i (fq 0)) ρ.length (fq ((r1 :: rs).map some).length), fun j q h => ?_, fun j q a h ha => ?_, fun j k q q' a h h' ha hb => ?_⟩
  · obtain ⟨o, q⟩ := F.sub a ha
    exact nav a ⟨o, c.fr _ _ q⟩ (fun z => by rw [(o2 i r0 a hi z).2] at q; cases q) (c.av a ha)
  · rcases key h with ⟨rfl, rfl⟩ | ⟨rfl, rfl⟩ | ⟨n1, n2, h⟩
    · exact ⟨_, by rw [c.len]; exact get_app_r, by rw [ovr_eq]; exact wr⟩
    · exact ⟨_, get_app_l hv, by rw [ovr_ne ne1, ovr_eq]; exact wi⟩
    · obtain ⟨v, e1, w⟩ := o1 j q h
      refine ⟨v, get_app_l e1, ?_⟩
      rw [ovr_ne n2, ovr_ne n1]
      exact w.mono s fun a ha o z => keep a o z (oth n1 h a ha).1
  · rcases key h with ⟨rfl, rfl⟩ | ⟨rfl, rfl⟩ | ⟨n1, n2, h⟩
    · rw [ovr_eq] at ha
      refine ⟨(p2 _ _ a get_app_r ha).1, ?_⟩
      rcases inner get_app_r ha with z | z
      · exact (o2 i r0 a hi z).2
      · exact c.fr.free z
    · rw [ovr_ne ne1, ovr_eq] at ha
      refine ⟨(p2 _ _ a h0 ha).1, ?_⟩
      rcases inner h0 ha with z | z
      · exact (o2 _ r0 a hi z).2
      · exact c.fr.free z
    · rw [ovr_ne n2, ovr_ne n1] at ha
      obtain ⟨z1, z2⟩ := oth n1 h a ha
      exact ⟨nav a z2 z1 (o2 j q a h ha).1, (o2 j q a h ha).2⟩
  · have clash : ∀ {k l : Nat} {q q' : R}, ((r1 :: rs).map some ++ [some r])[k]? = some (some q) → a ∈ fq k → l ≠ i → ρ[l]? = some (some q') → a ∈ fp0 l → False := fun h1 h2 h3 h4 h5 => by
      obtain ⟨z1, o, z2⟩ := oth h3 h4 a h5
      rcases inner h1 h2 with z | z
      · exact z1 z
      · rw [z] at z2; cases z2
    rcases key h with ⟨rfl, rfl⟩ | ⟨rfl, rfl⟩ | ⟨n1, n2, h3⟩
    · rw [ovr_eq] at ha
      rcases key h' with ⟨rfl, rfl⟩ | ⟨rfl, rfl⟩ | ⟨m1, m2, h4⟩
      · rfl
      · rw [ovr_ne ne1, ovr_eq] at hb
        exact absurd (p3 _ _ _ _ a get_app_r h0 ha hb) hrl
      · rw [ovr_ne m2, ovr_ne m1] at hb
        exact (clash get_app_r ha m1 h4 hb).elim
    · rw [ovr_ne ne1, ovr_eq] at ha
      rcases key h' with ⟨rfl, rfl⟩ | ⟨rfl, rfl⟩ | ⟨m1, m2, h4⟩
      · rw [ovr_eq] at hb
        exact absurd (p3 _ _ _ _ a get_app_r h0 hb ha) hrl
      · rfl
      · rw [ovr_ne m2, ovr_ne m1] at hb
        exact (clash h0 ha m1 h4 hb).elim
    · rw [ovr_ne n2, ovr_ne n1] at ha
      rcases key h' with ⟨rfl, rfl⟩ | ⟨rfl, rfl⟩ | ⟨m1, m2, h4⟩
      · rw [ovr_eq] at hb
        exact (clash get_app_r hb n1 h3 ha).elim
      · rw [ovr_ne ne1, ovr_eq] at hb
        exact (clash h0 hb n1 h3 ha).elim
      · rw [ovr_ne m2, ovr_ne m1] at hb
        exact o3 _ _ _ _ a h3 h4 ha hb
end

/-! ### calls -/
def mFn (f : List R → Option (R × List R)) (ms : Rho → Out (List Hd)) : Rho → Out R := fun ρ => (ms ρ).bind fun hs ρ1 => match fzL ρ1 hs with
  | some (ds, ρ2) => match f (ds.map R.sh) with
    | some (r, _) => if flatR r = true then .ok r ρ1 else .ok r ρ2
    | none => .bad
  | none => .bad
def mFn1 (i : Nat) (f : List R → Option (R × List R)) (ms : Rho → Out (List Hd)) : Rho → Out R := fun ρ => match ρ[i]? with
  | some (some _) => (ms ρ).bind fun hs ρ1 => match fzL ρ1 hs with
    | some (ds, ρ2) => match ρ2[i]? with
      | some (some r0) => match f (r0 :: ds.map R.sh) with
        | some (r, r1 :: _) => .ok r (ρ2.set i (some r1))
        | _ => .bad
      | _ => .bad
    | none => .bad
  | _ => .bad
section
variable {X : Cx} {B : List Nat} {CX : CXT} {k : Nat} {f : Addr} {fd : FuncData} {ps : List Str} {n : Nat} {g : List R → Option (R × List R)} {E : XK} {x : Str} {p pos : Pos} {e : Expr} {es : List Expr} {ms : Rho → Out (List Hd)}
theorem fn_sp {σ : L2.St} {H : Hp} {Q : VK} {n' : Nat} (hn : n' = n) (h : lO X.K B (mFn g ms) σ H Q) : (lA X.K B n' ms) σ H fun vs H1 => spM X.K n g (vs ++ []) H1 Q E := by
  obtain ⟨σ0, F, J, ρ, r, ρ', c, e, q⟩ := h
  obtain ⟨hs, ρ1, e1, e2⟩ := bind_ok e
  split at e2
  · rename_i ds ρ2 e3
    split at e2
    · rename_i r' rs e4
      refine ⟨σ0, F, J, ρ, hs, ρ1, c, e1, fun J1 H1 vs c1 s1 r1 l => ?_⟩
      obtain ⟨J2, c2, s2, w⟩ := c1.fzL r1 e3
      rw [List.append_nil]
      refine ⟨_, J2, _, r', rs, l.trans hn, CI.args c2.jm w, e4, fun J' H' v c' s' => ?_⟩
      by_cases hf : flatR r' = true
      · rw [if_pos hf] at e2
        cases e2
        exact q J1 H' v (c1.back0 s2 c' hf) s1
      · rw [if_neg hf] at e2
        cases e2
        exact q J' H' v (c2.back c' s') ((s1.trans s2).trans s')
    · cases e2
  · cases e2
theorem do_fn (F : FnG X.prog X.w X.K X.mg X.base CX k f fd ps (spM X.K n g)) (hr : RoomG k X.A) (hg : Gl X x) (hm : X.mg x = some (.ref f)) (hk : PySem.W.keepIn X.K (.ref f) = true) (hb : Binds X.K fd ps []) (hx : Passes CX X E)
    (ha : DA X B (e :: es) ms) (hn : (e :: es).length = n := by rfl) (hdb : (x == ("__debug__" : Str)) = false := by decide) (he : starEach (e :: es) X.env = (false, eval e X.env) :: starEach es X.env := by rfl) (hpl : (backTo pos (starEach es X.env)).any (·.1) = false := by rfl) :
    DO X B (.Call (.Name x p) (e :: es) [] pos) (mFn g ms) := ⟨pe_weak (pe_callG F hr hg hm hk hb hx ha.pa hdb he hpl) fun σ H Q h => fn_sp hn h⟩
theorem do_fn0 (F : FnG X.prog X.w X.K X.mg X.base CX k f fd ps (spM X.K 0 g)) (hr : RoomG k X.A) (hg : Gl X x) (hm : X.mg x = some (.ref f)) (hk : PySem.W.keepIn X.K (.ref f) = true) (hb : Binds X.K fd ps []) (hx : Passes CX X E)
    (hdb : (x == ("__debug__" : Str)) = false := by decide) : DO X B (.Call (.Name x p) [] [] pos) (mFn g mNil) := ⟨pe_weak (pe_callG0 F hr hg hm hk hb hx hdb) fun σ H Q h => by
  obtain ⟨σ0, F, J, ρ, hs, ρ', c, e1, q⟩ := fn_sp (X := X) (n := 0) (E := E) (n' := 0) rfl h
  cases e1
  exact q J H [] c (Same.refl _) .nil rfl⟩
theorem do_fn1 (i : Nat) {y : Str} {py : Pos} (F : FnG X.prog X.w X.K X.mg X.base CX k f fd ps (spM X.K n g)) (hr : RoomG k X.A) (hg : Gl X x) (hm : X.mg x = some (.ref f)) (hk : PySem.W.keepIn X.K (.ref f) = true) (hb : Binds X.K fd ps []) (hx : Passes CX X E)
    (ha : DA X B es ms) (hn : es.length + 1 = n := by rfl) (hN : X.N[i]? = some y := by rfl) (hv : Vis X.env.scope y := by first | exact Or.inl rfl | exact Or.inr (Or.inl rfl) | exact Or.inr (Or.inr rfl)) (hdy : (y == ("__debug__" : Str)) = false := by decide) (hcd : (y == ("__classdict__" : Str)) = false := by decide)
    (hdb : (x == ("__debug__" : Str)) = false := by decide) (he : starEach (.Name y py :: es) X.env = (false, eval (.Name y py) X.env) :: starEach es X.env := by rfl) (hpl : (backTo pos (starEach es X.env)).any (·.1) = false := by rfl) :
    DO X B (.Call (.Name x p) (.Name y py :: es) [] pos) (mFn1 i g ms) := ⟨pe_weak (pe_callG F hr hg hm hk hb hx (pa_cons (pe_var hN hv hdy hcd) ha.pa he) hdb he hpl) fun σ H Q ⟨σ0, F, J, ρ, r, ρ', c, e, q⟩ => by
  unfold mFn1 at e
  split at e
  · rename_i rr hrr
    obtain ⟨v0, ev0⟩ := c.slot hrr
    obtain ⟨hs, ρ1, e1, e2⟩ := bind_ok e
    split at e2
    · rename_i ds ρ2 e3
      split at e2
      · rename_i r0 hr0
        split at e2
        · rename_i r' r1 rs e4
          cases e2
          refine ⟨v0, ev0, σ0, F, J, ρ, hs, ρ1, c, e1, fun J1 H1 vs c1 s1 r1' l => ?_⟩
          obtain ⟨J2, c2, s2, w⟩ := c1.fzL r1' e3
          obtain ⟨fp, o1, o2, o3⟩ := id c2.own
          obtain ⟨v0', ev, w0⟩ := o1 i r0 hr0
          rw [ev0] at ev
          cases ev
          rw [List.append_nil]
          refine ⟨_, J2, _, r, r1 :: rs, by rw [List.length_cons, l]; exact hn, CI.args1 c2.jm w w0 fun a ha => (o2 i r0 a hr0 ha).1, e4, fun J' H' v c' s' => ?_⟩
          exact q J' H' v (c2.back1 o1 o2 o3 hr0 ev0 c' s') ((s1.trans s2).trans s')
        · cases e2
      · cases e2
    · cases e2
  · cases e⟩

/-! ### a def by its body -/
/-- what the parameters hold behind a body: those of B as their slots, the others as before -/
def collect (B : List Nat) (ρ : Rho) : Nat → List R → Option (List R)
  | _, [] => some []
  | k, r :: rs => match collect B ρ (k + 1) rs with
    | some rs' => if B.contains k then match ρ[k]? with
        | some (some r') => some (r' :: rs')
        | _ => none
      else match r with
        | .sh _ => some (r :: rs')
        | _ => none
    | none => none
def fnM (N n : Nat) (B : List Nat) (mb : Rho → SOut) : List R → Option (R × List R) := fun rs => if rs.length = n then match mb (rs.map some ++ List.replicate (N - n) none) with
  | .rt r ρ' => match collect B ρ' 0 rs with
    | some rs' => some (r, rs')
    | none => none
  | .nx ρ' => match collect B ρ' 0 rs with
    | some rs' => some (.sh .non, rs')
    | none => none
  | _ => none
  else none
theorem collect_get {B : List Nat} {ρ : Rho} : ∀ {rs rs' : List R} {k : Nat}, collect B ρ k rs = some rs' → rs'.length = rs.length ∧ ∀ (j : Nat) (r' : R), rs'[j]? = some r' → (k + j ∈ B ∧ ρ[k + j]? = some (some r')) ∨ (k + j ∉ B ∧ ∃ d, r' = .sh d ∧ rs[j]? = some (.sh d))
  | [], rs', k, e => by cases e; exact ⟨rfl, fun j r' h => by simp at h⟩
  | r :: rs, rs', k, e => by
    unfold collect at e
    split at e
    · rename_i rs1 e1
      obtain ⟨hl, hg⟩ := collect_get e1
      have tail : ∀ (x : R) (j : Nat) (r' : R), (x :: rs1)[j + 1]? = some r' → (k + (j + 1) ∈ B ∧ ρ[k + (j + 1)]? = some (some r')) ∨ (k + (j + 1) ∉ B ∧ ∃ d, r' = .sh d ∧ (r :: rs)[j + 1]? = some (.sh d)) := fun x j r' h => by
        have := hg j r' (by simpa using h)
        rw [show k + 1 + j = k + (j + 1) by omega] at this
        rcases this with z | ⟨z0, d, z1, z2⟩
        · exact .inl z
        · exact .inr ⟨z0, d, z1, by simpa using z2⟩
      split at e
      · rename_i hB
        rw [List.contains_eq_mem, decide_eq_true_iff] at hB
        split at e
        · rename_i r2 h2
          cases e
          refine ⟨by simp [hl], fun j r' h => ?_⟩
          cases j with
          | zero => cases h; exact .inl ⟨hB, h2⟩
          | succ j => exact tail _ j r' h
        · cases e
      · rename_i hB
        rw [List.contains_eq_mem, decide_eq_true_iff] at hB
        split at e
        · rename_i d
          cases e
          refine ⟨by simp [hl], fun j r' h => ?_⟩
          cases j with
          | zero => cases h; exact .inr ⟨hB, d, rfl, rfl⟩
          | succ j => exact tail _ j r' h
        · cases e
    · cases e
section
variable {K : PySem.W.Frag} {B : List Nat} {σ0 : L2.St} {F : Fm} {J J' : Hp} {ρ ρ' : Rho} {σ : L2.St} {H H' : Hp}
theorem CI.enter {m : Nat} {rs : List R} {vs : List V} (c : CI K [] [] F J (rs.map some) (vs.map some) H) (hB : ∀ i ∈ B, i < rs.length) : CI K B (vs.map some ++ List.replicate m none) F J (rs.map some ++ List.replicate m none) (vs.map some ++ List.replicate m none) H := by
  obtain ⟨fp, o1, o2, o3⟩ := c.own
  have hl : rs.length = vs.length := by have := c.len; simpa using this
  have key : ∀ {i : Nat} {r : R}, (rs.map some ++ List.replicate m none)[i]? = some (some r) → (rs.map some)[i]? = some (some r) := fun {i r} h => by
    by_cases hi : i < rs.length
    · rwa [List.getElem?_append_left (by simpa using hi)] at h
    · rw [List.getElem?_append_right (by simpa using hi), List.getElem?_replicate] at h
      split at h <;> cases h
  refine ⟨c.fr, c.jm, c.av, by simp [hl], Nat.le_refl _, fun i hi => ⟨by have := hB i hi; simp; omega, rfl⟩, fp, fun i r h => ?_, fun i r a h => o2 i r a (key h), fun i j r r' a h h' => o3 i j r r' a (key h) (key h')⟩
  obtain ⟨v, e, w⟩ := o1 i r (key h)
  refine ⟨v, ?_, w⟩
  rw [List.getElem?_append_left (by have := (List.getElem?_eq_some_iff.mp e).1; exact this)]
  exact e
def onB (B : List Nat) (fp : Nat → List Addr) : Nat → List Addr := fun i => if i ∈ B then fp i else []
theorem onB_in {fp : Nat → List Addr} {i : Nat} (h : i ∈ B) : onB B fp i = fp i := if_pos h
theorem onB_out {fp : Nat → List Addr} {i : Nat} (h : i ∉ B) : onB B fp i = [] := if_neg h
theorem CI.leave {m : Nat} {rs rs' : List R} {r : R} {v : V} {vs : List V} (c : CI K [] [] F J (rs.map some) (vs.map some) H) (hc : collect B ρ' 0 rs = some rs') (hB : ∀ i ∈ B, i < rs.length)
    (c' : CI K B (vs.map some ++ List.replicate m none) F J' (ρ' ++ [some r]) (σ ++ [some v]) H') (s : Same J J') (hb : (vs.map some ++ List.replicate m none).length ≤ σ.length) : CI K [] [] F J' (rs'.map some ++ [some r]) (vs.map some ++ [some v]) H' := by
  obtain ⟨fp, o1, o2, o3⟩ := id c'.own
  obtain ⟨fq, p1, _⟩ := id c.own
  obtain ⟨hl, hg⟩ := collect_get hc
  have hv : rs.length = vs.length := by have := c.len; simpa using this
  have hs : ρ'.length = σ.length := by have := c'.len; simpa using this
  have hρ : rs.length ≤ ρ'.length := by rw [hs]; simp at hb; omega
  have key : ∀ {i : Nat} {q : R}, (rs'.map some ++ [some r])[i]? = some (some q) → (i = rs.length ∧ q = r) ∨ (i ≠ rs.length ∧ i < rs.length ∧ i ∈ B ∧ ρ'[i]? = some (some q)) ∨ (i ≠ rs.length ∧ i ∉ B ∧ ∃ d, q = .sh d ∧ rs[i]? = some (.sh d)) := fun {i q} h => by
    rcases get_app h with h | ⟨e, h⟩
    · rw [List.getElem?_map] at h
      cases e : rs'[i]? with
      | none => rw [e] at h; cases h
      | some q' =>
        rw [e] at h
        cases h
        have lt : i < rs.length := by rw [← hl]; exact (List.getElem?_eq_some_iff.mp e).1
        rcases hg i q e with ⟨z1, z2⟩ | ⟨z1, z2⟩
        · rw [Nat.zero_add] at z1 z2; exact .inr (.inl ⟨Nat.ne_of_lt lt, lt, z1, z2⟩)
        · rw [Nat.zero_add] at z1; exact .inr (.inr ⟨Nat.ne_of_lt lt, z1, z2⟩)
    · exact .inl ⟨by rw [e]; simp [hl], (Option.some.inj h).symm⟩
  refine ⟨c'.fr, c'.jm, c'.av, by simp [hl, hv], by simp, fun i hi => absurd hi (by simp), ovr (onB B fp) rs.length (fp ρ'.length), fun i q h => ?_, fun i q a h ha => ?_, fun i j q q' a h h' ha hb' => ?_⟩
  · rcases key h with ⟨rfl, rfl⟩ | ⟨ne, lt, hi, h8⟩ | ⟨ne, hi, d, rfl, h9⟩
    · obtain ⟨v', e, w⟩ := o1 ρ'.length q get_app_r
      rw [hs, get_app_r] at e
      cases e
      refine ⟨v, by rw [show rs.length = (vs.map some).length by simp [hv]]; exact get_app_r, ?_⟩
      rw [ovr_eq]; exact w
    · obtain ⟨v', e, w⟩ := o1 i q (get_app_l h8)
      have hp := (c'.pin i hi).2
      rw [e] at hp
      rw [List.getElem?_append_left (by simp; omega)] at hp
      refine ⟨v', get_app_l hp.symm, ?_⟩
      rw [ovr_ne ne, onB_in hi]; exact w
    · obtain ⟨v', e, _, w⟩ := p1 i (.sh d) (by rw [List.getElem?_map, h9]; rfl)
      refine ⟨v', get_app_l e, ?_⟩
      rw [ovr_ne ne, onB_out hi]; exact ⟨rfl, w.mono s⟩
  · rcases key h with ⟨rfl, rfl⟩ | ⟨ne, lt, hi, h⟩ | ⟨ne, hi, d, rfl, h⟩
    · rw [ovr_eq] at ha; exact o2 _ _ a get_app_r ha
    · rw [ovr_ne ne, onB_in hi] at ha; exact o2 _ _ a (get_app_l h) ha
    · rw [ovr_ne ne, onB_out hi] at ha; cases ha
  · rcases key h with ⟨rfl, rfl⟩ | ⟨ne, lt, hi, h1⟩ | ⟨ne, hi, d, rfl, h1⟩
    · rw [ovr_eq] at ha
      rcases key h' with ⟨rfl, rfl⟩ | ⟨ne', lt', hi', h2⟩ | ⟨ne', hi', d', rfl, h2⟩
      · rfl
      · rw [ovr_ne ne', onB_in hi'] at hb'
        have := o3 _ _ _ _ a get_app_r (get_app_l h2) ha hb'
        omega
      · rw [ovr_ne ne', onB_out hi'] at hb'; cases hb'
    · rw [ovr_ne ne, onB_in hi] at ha
      rcases key h' with ⟨rfl, rfl⟩ | ⟨ne', lt', hi', h2⟩ | ⟨ne', hi', d', rfl, h2⟩
      · rw [ovr_eq] at hb'
        have := o3 _ _ _ _ a (get_app_l h1) get_app_r ha hb'
        omega
      · rw [ovr_ne ne', onB_in hi'] at hb'
        exact o3 _ _ _ _ a (get_app_l h1) (get_app_l h2) ha hb'
      · rw [ovr_ne ne', onB_out hi'] at hb'; cases hb'
    · rw [ovr_ne ne, onB_out hi] at ha; cases ha
end
/-- THE RULE for a def over data -/
theorem fn_ok {P : Program} {w : World} {K : PySem.W.Frag} {mg : Str → Option Value} {base : Heap} {x qual : Str} {st : Stmt} {f : Addr} {fd : FuncData} {N ps : List Str} {k : Nat} {B : List Nat} {mb : Rho → SOut} (F : Fun K x qual st f fd) (S : FnScope N ps (defScope st))
    (hbody : ∀ (cdv : Value) (A : Around) (outer : List Env) (s : Shared) (H : Hp) (E : XK), RoomG k (A.deeper (envOfC qual (defScope st) s.heap.objs.size f cdv)) →
      DSs (cxOf CX0 P w K mg base N qual (defScope st) f cdv A outer s H E).nox B (defBody st) mb) (hB : (B.all fun i => decide (i < ps.length)) = true := by decide) : FnG P w K mg base CX0 (k + 1) f fd ps (spM K ps.length (fnM N.length ps.length B mb)) := by
  refine FnG.by F S (fun vs H Q E h => spM_len h) fun cdv A outer s H vs Q E hr h => ?_
  refine ⟨_, (hbody cdv A outer s H E hr).pss, ?_⟩
  obtain ⟨Fm', J, rs, r, rs', hlen, c, e, q⟩ := h
  have hl : rs.length = vs.length := by have := c.len; simpa using this
  have hB' : ∀ i ∈ B, i < rs.length := fun i hi => by
    have := List.all_eq_true.mp hB i hi
    rw [decide_eq_true_iff] at this
    omega
  have c0 := c.enter (B := B) (m := N.length - vs.length) hB'
  unfold fnM at e
  split at e
  · have em : List.replicate (N.length - ps.length) (none : Option R) = List.replicate (N.length - vs.length) none := by rw [hlen]
    rw [em] at e
    refine ⟨start N vs, Fm', J, _, c0, ?_⟩
    split at e
    · rename_i r' ρ' e1
      split at e
      · rename_i rs1 e2
        cases e
        show SEnd _ _ _ _ _ (mb _) _
        rw [e1]
        exact fun J' σ' H' v c' s' hb => q J' H' v (c.leave e2 hB' c' s' hb) s'
      · cases e
    · rename_i ρ' e1
      split at e
      · rename_i rs1 e2
        cases e
        show SEnd _ _ _ _ _ (mb _) _
        rw [e1]
        exact fun J' σ' H' c' s' => q J' H' .non (c.leave e2 hB' (c'.push .non) s' c'.lb) s'
      · cases e
    · cases e
  · cases e
end
end DL

set_option Elab.async false
set_option linter.all false
set_option maxRecDepth 100000
set_option maxHeartbeats 4000000
/-! DLm: a tuple times any int. -/
namespace DL
open PySem PySem.Spec PyProof.Rows L2
theorem tuple_mul1 (l : Addr) (items : Array Value) (n : Nat) (dd : Option Addr) (sl : Array (Option Value)) (u : Tok) :
    Meets (Builtin.«tuple.__mul__» ⟨[.ref l, .int 1 u], []⟩) (fun _ R s => s.heap.get? l = some { cls := .type "tuple", dict := dd, data := .seq items n, slots := sl } ∧
      R (.ok (.ret (Value.ref l))) s) :=
  .of_wp fun prog w A R s h => by
    obtain ⟨hp, g, d, tk, os⟩ := s
    obtain ⟨hl, h⟩ := h
    have f1 := AutoSeq1.idx_int
    have c1 : (items.isEmpty || (1 : Int) == 1) = true := by simp
    wp_walk using wpAny_loadPart' hl
    repeat (first
      | (refine wpAny_ite_true (decide_eq_true c1) ?_; wp_walk using wpAny_loadPart' hl))
    exact ⟨_, rfl, h⟩
theorem tuple_mul0 (l : Addr) (items : Array Value) (n : Nat) (dd : Option Addr) (sl : Array (Option Value)) (x : Int) (u : Tok) (c0 : (decide (x < -(2 ^ 63)) || decide (x ≥ 2 ^ 63)) = false) (c1 : (items.isEmpty || x == 1) = false) (c2 : (decide (x ≤ 0) || items.isEmpty) = true) :
    Meets (Builtin.«tuple.__mul__» ⟨[.ref l, .int x u], []⟩) (fun _ R s => s.heap.get? l = some { cls := .type "tuple", dict := dd, data := .seq items n, slots := sl } ∧
      R (.ok (.ret (Value.ref s.heap.objs.size))) { s with heap := s.heap.push { cls := Value.type "tuple", data := Data.seq #[] }, toks := s.toks }) :=
  .of_wp fun prog w A R s h => by
    obtain ⟨hp, g, d, tk, os⟩ := s
    obtain ⟨hl, h⟩ := h
    have f1 := AutoSeq1.idx_int
    wp_walk using wpAny_loadPart' hl
    repeat (first
      | (refine wpAny_ite_false (decide_eq_false (by rw [c0]; exact Bool.false_ne_true)) ?_; wp_walk using wpAny_loadPart' hl)
      | (refine wpAny_ite_false (decide_eq_false (by rw [c1]; exact Bool.false_ne_true)) ?_; wp_walk using wpAny_loadPart' hl)
      | (refine wpAny_ite_true (decide_eq_true c2) ?_; wp_walk using wpAny_loadPart' hl))
    exact ⟨_, rfl, h⟩
def rRepA (K : PySem.W.Frag) : R2 := fun x y H Q => ∃ l k xs, x = .ref l ∧ y = .int k ∧ SqT K H l xs ∧ xs ≠ [] ∧ -(2 ^ 63) ≤ k ∧ k < 2 ^ 63 ∧ xs.length * k.toNat ≤ sizeLine ∧ (k = 1 → Q (.ref l) H) ∧ ∀ p, H p = none → Q (.ref p) (upd H p (.tup (List.replicate k.toNat xs).flatten))
section
variable {X : Cx}
theorem op_repA : OpR X (binaryOp .Mult) (rRepA X.K) := by
  intro pins s σ H x y v u Q I rx ry h
  obtain ⟨l, k, xs, rfl, rfl, hT, hne, h1, h2, hz, q1, q⟩ := h
  cases rx
  obtain ⟨t, rfl⟩ := ry
  obtain ⟨its, r, ⟨⟨cls, dd, data, sl⟩, ho, hc, n, hd⟩, hs⟩ := I.tuple hT
  simp only at hc hd
  subst hc hd
  have hle : its.length = xs.length := r.length.symm
  have hn : its ≠ [] := fun e => hne (by
    rw [e] at hle
    exact List.eq_nil_of_length_eq_zero hle.symm)
  have hi : its.toArray.isEmpty = false := by
    cases its with
    | nil => exact absurd rfl hn
    | cons a b => rfl
  have hsz0 : its.toArray.size = xs.length := by rw [List.size_toArray, hle]
  have c0 : (decide (k < -(2 ^ 63)) || decide (k ≥ 2 ^ 63)) = false := by
    rw [decide_eq_false (by omega), decide_eq_false (by omega)] <;> rfl
  by_cases k1 : k = 1
  · subst k1
    refine wpAny_binaryOp_repeat_ref (T := "tuple") (U := "int") (by decide) ⟨_, ho, rfl⟩ (fun s' => typeIs_int s' 1 t) noFill_tuple_mul F.fills_int_mul F.slot_int_rmul repeat_tuple F.slot_int_index.lookup
      (call_meets F.slot_int_rmul (typeIs_int s 1 t) F.entry_int_rmul (F.args_int_rmul_2 _ _) (int_rmul_tuple 1 t l its.toArray n dd sl)
        ⟨ho, rfl, ⟨_, ho, rfl⟩, call_meets F.slot_tuple_mul ⟨_, ho, rfl⟩ F.entry_tuple_mul (F.args_tuple_mul_2 _ _) (tuple_mul1 l its.toArray n dd sl t) ⟨ho, ?_⟩⟩)
    exact ⟨.ref l, _, I, rfl, q1 rfl⟩
  have c1 : (its.toArray.isEmpty || k == 1) = false := by
    rw [hi, Bool.false_or]
    exact beq_eq_false_iff_ne.mpr k1
  by_cases k0 : k ≤ 0
  · have c2 : (decide (k ≤ 0) || its.toArray.isEmpty) = true := by rw [decide_eq_true k0]; rfl
    have e0 : k.toNat = 0 := by omega
    refine wpAny_binaryOp_repeat_ref (T := "tuple") (U := "int") (by decide) ⟨_, ho, rfl⟩ (fun s' => typeIs_int s' k t) noFill_tuple_mul F.fills_int_mul F.slot_int_rmul repeat_tuple F.slot_int_index.lookup
      (call_meets F.slot_int_rmul (typeIs_int s k t) F.entry_int_rmul (F.args_int_rmul_2 _ _) (int_rmul_tuple k t l its.toArray n dd sl)
        ⟨ho, rfl, ⟨_, ho, rfl⟩, call_meets F.slot_tuple_mul ⟨_, ho, rfl⟩ F.entry_tuple_mul (F.args_tuple_mul_2 _ _) (tuple_mul0 l its.toArray n dd sl k t c0 c1 c2) ⟨ho, ?_⟩⟩)
    rw [e0] at q
    refine ⟨.ref s.heap.objs.size, _, I.laid (t' := s.toks) (o := .tup (List.replicate 0 xs).flatten) (fun b ob q => Heap.get?_push_of_some _ q) (Nat.le_refl _) ?_, rfl, q _ (I.hok.fresh (Nat.le_refl _))⟩
    exact ⟨by simp, [], .nil, IsTup.new _ _⟩
  have flen : (List.replicate k.toNat its).flatten.length ≤ sizeLine := by
    rw [PyProof.Rows.lm_len_rep_flat, hle, Nat.mul_comm]
    exact hz
  have hprod : ((its.toArray.size : Nat) : Int) * k = ((xs.length * k.toNat : Nat) : Int) := by
    rw [hsz0, Int.natCast_mul, Int.toNat_of_nonneg (by omega)]
  have c2 : (decide (k ≤ 0) || its.toArray.isEmpty) = false := by
    rw [hi, Bool.or_false]
    exact decide_eq_false (by omega)
  have c3 : ¬ ((its.toArray.size : Nat) : Int) * k > (2 ^ 63 - 1) / 8 := by
    rw [hprod]
    rw [sizeLine_eq] at hz
    omega
  have c4 : Builtin.Tuple.tupleTooMany (((its.toArray.size : Nat) : Int) * k) = false := by
    rw [hprod]
    unfold Builtin.Tuple.tupleTooMany
    exact decide_eq_false (by omega)
  refine wpAny_binaryOp_repeat_ref (T := "tuple") (U := "int") (by decide) ⟨_, ho, rfl⟩ (fun s' => typeIs_int s' k t) noFill_tuple_mul F.fills_int_mul F.slot_int_rmul repeat_tuple F.slot_int_index.lookup
    (call_meets F.slot_int_rmul (typeIs_int s k t) F.entry_int_rmul (F.args_int_rmul_2 _ _) (int_rmul_tuple k t l its.toArray n dd sl)
      ⟨ho, rfl, ⟨_, ho, rfl⟩, call_meets F.slot_tuple_mul ⟨_, ho, rfl⟩ F.entry_tuple_mul (F.args_tuple_mul_2 _ _) (tuple_mulW l its.toArray n dd sl k t c0 c1 c2 c3 c4 (by rw [size_rep, List.size_toArray]; exact flen)) ⟨ho, ?_⟩⟩)
  rw [size_rep]
  refine ⟨.ref s.heap.objs.size, _, I.laid (t' := s.toks) (o := .tup (List.replicate k.toNat xs).flatten) (fun b ob q => Heap.get?_push_of_some _ q) (Nat.le_refl _) ?_, rfl, q _ (I.hok.fresh (Nat.le_refl _))⟩
  exact ⟨by rw [PyProof.Rows.lm_len_rep_flat, Nat.mul_comm]; exact hz, _, r.rep k.toNat, IsTup.new _ _⟩
end
end DL

set_option Elab.async false
set_option linter.all false
set_option maxRecDepth 100000
set_option maxHeartbeats 4000000
/-! DLg: operations over data. -/
namespace DL
open PySem PySem.Spec PyProof.Rows L2

theorem OpR.or {X : Cx} {f : Value → Value → Sem Value} {r r' : R2} (h : OpR X f r) (h' : OpR X f r') : OpR X f (fun x y H Q => r x y H Q ∨ r' x y H Q) := by
  intro pins s σ H x y v u Q I rx ry q
  rcases q with q | q
  · exact h pins s σ H x y v u Q I rx ry q
  · exact h' pins s σ H x y v u Q I rx ry q
theorem CallR.or {X : Cx} {f : Value} {r r' : List V → Hp → VK → Prop} (h : CallR X f r) (h' : CallR X f r') : CallR X f (fun xs H Q => r xs H Q ∨ r' xs H Q) := by
  intro pins s σ H xs us Q I rx q
  rcases q with q | q
  · exact h pins s σ H xs us Q I rx q
  · exact h' pins s σ H xs us Q I rx q
section
variable {K : PySem.W.Frag} {X : Cx}
theorem pkl1 {J H : Hp} {d : D} {vs : List V} (h : PkL K J H [d] vs) : ∃ v, vs = [v] ∧ Pk K J H d v := by
  cases h with | cons a b => cases b; exact ⟨_, rfl, a⟩
theorem pkl2 {J H : Hp} {d e : D} {vs : List V} (h : PkL K J H [d, e] vs) : ∃ v w, vs = [v, w] ∧ Pk K J H d v ∧ Pk K J H e w := by
  cases h with | cons a b => cases b with | cons c b => cases b; exact ⟨_, _, rfl, a, c⟩

/-! ### arithmetic -/
def fAdd : D → D → Option D
  | .int i, .int j => some (.int (i + j))
  | .str x, .str y => if x.length + y.length ≤ sizeLine then some (.str (x ++ y)) else none
  | .lst xs, .lst ys => if xs.length + ys.length ≤ sizeLine then some (.lst (xs ++ ys)) else none
  | .tup xs, .tup ys => if xs.length + ys.length ≤ sizeLine then some (.tup (xs ++ ys)) else none
  | _, _ => none
abbrev rAddD (K : PySem.W.Frag) : R2 := fun x y H Q => rI0 (fun i j => .int (i + j)) x y H Q ∨ (∃ i j, x = .str i ∧ y = .str j ∧ i.length + j.length ≤ sizeLine ∧ Q (.str (i ++ j)) H) ∨ rCat x y H Q ∨ rCatA K x y H Q
theorem or_add : OpR X (binaryOp .Add) (rAddD X.K) := op_add.or (op_add_str.or (op_cat.or op_catA))
theorem bd_add : BinD K (rAddD K) fAdd := fun J H d1 d2 d v1 v2 Q m p1 p2 e q => by
  unfold fAdd at e
  split at e
  · cases e
    cases p1.int; cases p2.int
    exact .inl ⟨_, _, rfl, rfl, q J H _ (Ext.refl m) (.int _)⟩
  · split at e
    · cases e
      cases p1.str; cases p2.str
      exact .inr (.inl ⟨_, _, rfl, rfl, by assumption, q J H _ (Ext.refl m) (.str _)⟩)
    · cases e
  · split at e
    · rename_i hz
      cases e
      obtain ⟨a, vs, rfl, h1, r1⟩ := p1.lst m
      obtain ⟨b, ws, rfl, h2, r2⟩ := p2.lst m
      refine .inr (.inr (.inl ⟨a, b, vs, ws, rfl, rfl, h1, h2, by rw [← r1.len, ← r2.len]; exact hz, fun p hp => ?_⟩))
      have x := Ext.new (o := .lst (vs ++ ws)) m hp
      exact q _ _ _ x (.lst upd_same ((r1.app r2).mono x.j))
    · cases e
  · split at e
    · rename_i hz
      cases e
      obtain ⟨a, vs, rfl, h1, r1⟩ := p1.tup m
      obtain ⟨b, ws, rfl, h2, r2⟩ := p2.tup m
      cases p1 with
      | sh w1 => cases p2 with
        | sh w2 =>
          refine .inr (.inr (.inr ⟨a, b, vs, ws, rfl, rfl, h1, h2, by rw [← r1.len, ← r2.len]; exact hz, fun z => ?_, fun z z2 => ?_, fun z z2 p hp => ?_⟩))
          · subst z
            cases r1
            exact q J H _ (Ext.refl m) w2
          · subst z2
            cases r2
            rw [List.append_nil] at q
            exact q J H _ (Ext.refl m) w1
          · have x := Ext.new (o := .tup (vs ++ ws)) m hp
            exact q _ _ _ x (.tup (.inl upd_same) ((r1.app r2).mono x.j))
    · cases e
  · cases e
def fSub : D → D → Option D
  | .int i, .int j => some (.int (i - j))
  | _, _ => none
theorem bd_sub : BinD K (rI0 fun i j => .int (i - j)) fSub := fun J H d1 d2 d v1 v2 Q m p1 p2 e q => by
  unfold fSub at e
  split at e
  · cases e; cases p1.int; cases p2.int; exact ⟨_, _, rfl, rfl, q J H _ (Ext.refl m) (.int _)⟩
  · cases e
def fMul : D → D → Option D
  | .int i, .int j => if (-(2 ^ 64) < i ∧ i < 2 ^ 64) ∨ (-(2 ^ 64) < j ∧ j < 2 ^ 64) then some (.int (i * j)) else none
  | .lst xs, .int k => if -(2 ^ 63) ≤ k ∧ k < 2 ^ 63 ∧ xs.length * k.toNat ≤ sizeLine then some (.lst (List.replicate k.toNat xs).flatten) else none
  | .tup xs, .int k => if -(2 ^ 63) ≤ k ∧ k < 2 ^ 63 ∧ xs ≠ [] ∧ xs.length * k.toNat ≤ sizeLine then some (.tup (List.replicate k.toNat xs).flatten) else none
  | _, _ => none
theorem RpL.rep {J : Hp} {ds : List D} {vs : List V} (r : RpL K J ds vs) : ∀ n : Nat, RpL K J (List.replicate n ds).flatten (List.replicate n vs).flatten
  | 0 => .nil
  | n + 1 => by
    rw [List.replicate_succ, List.replicate_succ, List.flatten_cons, List.flatten_cons]
    exact r.app (RpL.rep r n)
theorem or_mul : OpR X (binaryOp .Mult) (fun x y H Q => rI CMul (fun i j => .int (i * j)) x y H Q ∨ rRep x y H Q ∨ rRepA X.K x y H Q) := op_mul.or (op_rep.or op_repA)
theorem bd_mul : BinD K (fun x y H Q => rI CMul (fun i j => .int (i * j)) x y H Q ∨ rRep x y H Q ∨ rRepA K x y H Q) fMul := fun J H d1 d2 d v1 v2 Q m p1 p2 e q => by
  unfold fMul at e
  split at e
  · split at e
    · rename_i h
      cases e; cases p1.int; cases p2.int
      exact .inl ⟨_, _, rfl, rfl, h, q J H _ (Ext.refl m) (.int _)⟩
    · cases e
  · split at e
    · rename_i h
      cases e; cases p2.int
      obtain ⟨a, vs, rfl, h1, r1⟩ := p1.lst m
      refine .inr (.inl ⟨a, _, vs, rfl, rfl, h1, h.1, h.2.1, by rw [← r1.len]; exact h.2.2, fun p hp => ?_⟩)
      exact q _ _ _ (Ext.new m hp) (.lst upd_same ((r1.rep _).mono (Ext.new m hp).j))
    · cases e
  · split at e
    · rename_i xs k h
      cases e; cases p2.int
      obtain ⟨a, vs, rfl, h1, r1⟩ := p1.tup m
      refine .inr (.inr ⟨a, _, vs, rfl, rfl, h1, fun z => ?_, h.1, h.2.1, by rw [← r1.len]; exact h.2.2.2, fun k1 => ?_, fun p hp => ?_⟩)
      · subst z
        cases r1
        exact h.2.2.1 rfl
      · subst k1
        have e1 : (List.replicate (1 : Int).toNat xs).flatten = xs := by simp
        rw [e1] at q
        cases p1 with
        | sh w1 => exact q J H _ (Ext.refl m) w1
      · exact q _ _ _ (Ext.new m hp) (.tup (.inl upd_same) ((r1.rep _).mono (Ext.new m hp).j))
    · cases e
  · cases e
def fMod : D → D → Option D
  | .int i, .int j => if 0 < j then some (.int (i % j)) else none
  | _, _ => none
theorem bd_mod : BinD K (rI (fun _ j => 0 < j) fun i j => .int (i % j)) fMod := fun J H d1 d2 d v1 v2 Q m p1 p2 e q => by
  unfold fMod at e
  split at e
  · split at e
    · rename_i h
      cases e; cases p1.int; cases p2.int; exact ⟨_, _, rfl, rfl, h, q J H _ (Ext.refl m) (.int _)⟩
    · cases e
  · cases e
def fDiv : D → D → Option D
  | .int i, .int j => if 0 < j ∧ j < 2 ^ 64 then some (.int (i / j)) else none
  | _, _ => none
theorem bd_div : BinD K (rI CDivW fun i j => .int (i / j)) fDiv := fun J H d1 d2 d v1 v2 Q m p1 p2 e q => by
  unfold fDiv at e
  split at e
  · split at e
    · rename_i h
      cases e; cases p1.int; cases p2.int; exact ⟨_, _, rfl, rfl, wide_div h.1 (b := 64) (by omega) (by decide) (by decide), q J H _ (Ext.refl m) (.int _)⟩
    · cases e
  · cases e
def fPow : D → D → Option D
  | .int i, .int j => if 0 ≤ j ∧ j ≤ 1000000 ∧ i.natAbs < 2 ^ 64 then some (.int (i ^ j.toNat)) else none
  | _, _ => none
theorem bd_pow : BinD K (rI CPow fun i j => .int (i ^ j.toNat)) fPow := fun J H d1 d2 d v1 v2 Q m p1 p2 e q => by
  unfold fPow at e
  split at e
  · split at e
    · rename_i h
      cases e; cases p1.int; cases p2.int; exact ⟨_, _, rfl, rfl, h, q J H _ (Ext.refl m) (.int _)⟩
    · cases e
  · cases e
def fNeg : D → Option D
  | .int i => some (.int (-i))
  | _ => none
theorem ud_neg : UnD K (rU fun i => .int (-i)) fNeg := fun J H d1 d v1 Q m p1 e q => by
  unfold fNeg at e
  split at e
  · cases e; cases p1.int; exact ⟨_, rfl, q J H _ (Ext.refl m) (.int _)⟩
  · cases e

/-! ### comparisons -/
def fLt : D → D → Option D
  | .int i, .int j => some (.bl (decide (i < j)))
  | .str i, .str j => some (.bl (decide (i.cps.toList < j.cps.toList)))
  | _, _ => none
theorem or_lt : OpR X (compareOp .Lt) (fun x y H Q => rI0 (fun i j => .bl (decide (i < j))) x y H Q ∨ ∃ i j, x = .str i ∧ y = .str j ∧ Q (.bl (decide (i.cps.toList < j.cps.toList))) H) := op_lt.or op_lt_str
theorem bd_lt : BinD K (fun x y H Q => rI0 (fun i j => .bl (decide (i < j))) x y H Q ∨ ∃ i j, x = .str i ∧ y = .str j ∧ Q (.bl (decide (i.cps.toList < j.cps.toList))) H) fLt := fun J H d1 d2 d v1 v2 Q m p1 p2 e q => by
  unfold fLt at e
  split at e
  · cases e; cases p1.int; cases p2.int; exact .inl ⟨_, _, rfl, rfl, q J H _ (Ext.refl m) (.bl _)⟩
  · cases e; cases p1.str; cases p2.str; exact .inr ⟨_, _, rfl, rfl, q J H _ (Ext.refl m) (.bl _)⟩
  · cases e
def fLe : D → D → Option D
  | .int i, .int j => some (.bl (decide (i ≤ j)))
  | _, _ => none
theorem bd_le : BinD K (rI0 fun i j => .bl (decide (i ≤ j))) fLe := fun J H d1 d2 d v1 v2 Q m p1 p2 e q => by
  unfold fLe at e
  split at e
  · cases e; cases p1.int; cases p2.int; exact ⟨_, _, rfl, rfl, q J H _ (Ext.refl m) (.bl _)⟩
  · cases e
def fGt : D → D → Option D
  | .int i, .int j => some (.bl (decide (j < i)))
  | _, _ => none
theorem bd_gt : BinD K (rI0 fun i j => .bl (decide (j < i))) fGt := fun J H d1 d2 d v1 v2 Q m p1 p2 e q => by
  unfold fGt at e
  split at e
  · cases e; cases p1.int; cases p2.int; exact ⟨_, _, rfl, rfl, q J H _ (Ext.refl m) (.bl _)⟩
  · cases e
def fGe : D → D → Option D
  | .int i, .int j => some (.bl (decide (j ≤ i)))
  | _, _ => none
theorem bd_ge : BinD K (rI0 fun i j => .bl (decide (j ≤ i))) fGe := fun J H d1 d2 d v1 v2 Q m p1 p2 e q => by
  unfold fGe at e
  split at e
  · cases e; cases p1.int; cases p2.int; exact ⟨_, _, rfl, rfl, q J H _ (Ext.refl m) (.bl _)⟩
  · cases e

/-! data without dicts, as the library's -/
mutual
def toPy : D → Option PyData
  | .non => some .none
  | .bl b => some (.bool b)
  | .int i => some (.int i)
  | .str x => some (.str x)
  | .lst ds => (toPyL ds).map .list
  | .tup ds => (toPyL ds).map .tuple
  | _ => none
def toPyL : List D → Option (List PyData)
  | [] => some []
  | d :: ds => match toPy d with
    | some a => match toPyL ds with
      | some as => some (a :: as)
      | none => none
    | none => none
end
mutual
theorem toPy_dp {H : Hp} : ∀ {d : D} {v : V} {a : PyData}, Rp K H d v → toPy d = some a → Dp K H v a
  | .non, _, _, w, e => by cases w; rw [toPy] at e; cases e; exact .non
  | .bl b, _, _, w, e => by cases w; rw [toPy] at e; cases e; exact .bl b
  | .int i, _, _, w, e => by cases w; rw [toPy] at e; cases e; exact .int i
  | .str x, _, _, w, e => by cases w; rw [toPy] at e; cases e; exact .str x
  | .lst ds, _, _, w, e => by
    cases w with
    | lst h r =>
      rw [toPy] at e
      cases ea : toPyL ds with
      | none => rw [ea] at e; cases e
      | some as => rw [ea] at e; cases e; exact .lst (.inl (.inl h)) (toPyL_dp r ea)
  | .tup ds, _, _, w, e => by
    cases w with
    | tup h r =>
      rw [toPy] at e
      cases ea : toPyL ds with
      | none => rw [ea] at e; cases e
      | some as => rw [ea] at e; cases e; exact .tup h.sq (toPyL_dp r ea)
  | .fn _, _, _, _, e => by rw [toPy] at e <;> first | cases e | (intros; rename_i z; cases z)
  | .ty _, _, _, _, e => by rw [toPy] at e <;> first | cases e | (intros; rename_i z; cases z)
  | .dK _, _, _, _, e => by rw [toPy] at e <;> first | cases e | (intros; rename_i z; cases z)
  | .dT _, _, _, _, e => by rw [toPy] at e <;> first | cases e | (intros; rename_i z; cases z)
theorem toPyL_dp {H : Hp} : ∀ {ds : List D} {vs : List V} {as : List PyData}, RpL K H ds vs → toPyL ds = some as → DpAll K H vs as
  | [], _, _, w, e => by cases w; rw [toPyL] at e; cases e; exact .nil
  | d :: ds, _, _, w, e => by
    cases w with
    | cons w r =>
      rw [toPyL] at e
      cases ea : toPy d with
      | none => rw [ea] at e; cases e
      | some a =>
        rw [ea] at e
        dsimp only at e
        cases eb : toPyL ds with
        | none => rw [eb] at e; cases e
        | some as => rw [eb] at e; cases e; exact .cons (toPy_dp w ea) (toPyL_dp r eb)
end
/-- == over data -/
def deq : D → D → Option Bool
  | .int i, .int j => some (decide (i = j))
  | .str x, .str y => some (decide (x = y))
  | .bl a, .bl b => some (decide (a = b))
  | .non, .non => some true
  | .non, .int _ => some false
  | .int _, .non => some false
  | .non, .str _ => some false
  | .str _, .non => some false
  | .non, .bl _ => some false
  | .bl _, .non => some false
  | .int _, .str _ => some false
  | .str _, .int _ => some false
  | .bl _, .str _ => some false
  | .str _, .bl _ => some false
  | d, e => match toPy d, toPy e with
    | some a, some b => if SeqAt.shaped a = true ∧ SeqAt.shaped b = true then some (PyData.eqv a b) else none
    | _, _ => none
def fEq (d e : D) : Option D := (deq d e).map .bl
def fNe (d e : D) : Option D := (deq d e).map fun b => .bl (!b)
theorem deq_ok {J H : Hp} {d e : D} {v w : V} {b : Bool} (m : Same J H) (p1 : Pk K J H d v) (p2 : Pk K J H e w) (h : deq d e = some b) : (scal v w = true ∧ decide (v = w) = b) ∨ ∃ a c, Dp K H v a ∧ Dp K H w c ∧ SeqAt.shaped a = true ∧ SeqAt.shaped c = true ∧ PyData.eqv a c = b := by
  unfold deq at h
  split at h
  · cases h; cases p1.int; cases p2.int; exact .inl ⟨rfl, by simp⟩
  · cases h; cases p1.str; cases p2.str; exact .inl ⟨rfl, by simp⟩
  · cases h; cases p1.bl; cases p2.bl; exact .inl ⟨rfl, by simp⟩
  · cases h; cases p1.non; cases p2.non; exact .inl ⟨rfl, by simp⟩
  · cases h; cases p1.non; cases p2.int; exact .inl ⟨rfl, by simp⟩
  · cases h; cases p1.int; cases p2.non; exact .inl ⟨rfl, by simp⟩
  · cases h; cases p1.non; cases p2.str; exact .inl ⟨rfl, by simp⟩
  · cases h; cases p1.str; cases p2.non; exact .inl ⟨rfl, by simp⟩
  · cases h; cases p1.non; cases p2.bl; exact .inl ⟨rfl, by simp⟩
  · cases h; cases p1.bl; cases p2.non; exact .inl ⟨rfl, by simp⟩
  · cases h; cases p1.int; cases p2.str; exact .inl ⟨rfl, by simp⟩
  · cases h; cases p1.str; cases p2.int; exact .inl ⟨rfl, by simp⟩
  · cases h; cases p1.bl; cases p2.str; exact .inl ⟨rfl, by simp⟩
  · cases h; cases p1.str; cases p2.bl; exact .inl ⟨rfl, by simp⟩
  · split at h
    · rename_i a c e1 e2
      split at h
      · rename_i hs
        cases h
        exact .inr ⟨a, c, toPy_dp (p1.rp m) e1, toPy_dp (p2.rp m) e2, hs.1, hs.2, rfl⟩
      · cases h
    · cases h
theorem or_eq (hu : X.A.units + 64 < cLine) : OpR X (compareOp .Eq) (fun x y H Q => rEq x y H Q ∨ rEqD X.K x y H Q) := op_eq.or (op_eqD hu)
theorem or_ne (hu : X.A.units + 64 < cLine) : OpR X (compareOp .NotEq) (fun x y H Q => rNe x y H Q ∨ rNeD X.K x y H Q) := op_ne.or (op_neD hu)
theorem bd_eq : BinD K (fun x y H Q => rEq x y H Q ∨ rEqD K x y H Q) fEq := fun J H d1 d2 d v1 v2 Q m p1 p2 e q => by
  unfold fEq at e
  cases eb : deq d1 d2 with
  | none => rw [eb] at e; cases e
  | some b =>
    rw [eb] at e
    cases e
    rcases deq_ok m p1 p2 eb with ⟨h1, rfl⟩ | ⟨a, c, h1, h2, h3, h4, rfl⟩
    · exact .inl ⟨h1, q J H _ (Ext.refl m) (.bl _)⟩
    · exact .inr ⟨a, c, h1, h2, h3, h4, q J H _ (Ext.refl m) (.bl _)⟩
theorem bd_ne : BinD K (fun x y H Q => rNe x y H Q ∨ rNeD K x y H Q) fNe := fun J H d1 d2 d v1 v2 Q m p1 p2 e q => by
  unfold fNe at e
  cases eb : deq d1 d2 with
  | none => rw [eb] at e; cases e
  | some b =>
    rw [eb] at e
    cases e
    rcases deq_ok m p1 p2 eb with ⟨h1, rfl⟩ | ⟨a, c, h1, h2, h3, h4, rfl⟩
    · exact .inl ⟨h1, q J H _ (Ext.refl m) (.bl _)⟩
    · exact .inr ⟨a, c, h1, h2, h3, h4, q J H _ (Ext.refl m) (.bl _)⟩
def isNon : D → Bool
  | .non => true
  | _ => false
theorem isNon_of {J H : Hp} {d : D} {v : V} (p : Pk K J H d v) : decide (v = .non) = isNon d := by
  cases p with
  | sh w => cases w <;> simp [isNon]
  | ol _ _ => simp [isNon]
  | oK _ _ => simp [isNon]
  | oT _ _ => simp [isNon]
def fIs (d e : D) : Option D := if isNon e = true then some (.bl (isNon d)) else none
def fIsNot (d e : D) : Option D := if isNon e = true then some (.bl (!isNon d)) else none
theorem bd_is : BinD K (fun x y H Q => y = .non ∧ Q (.bl (decide (x = .non))) H) fIs := fun J H d1 d2 d v1 v2 Q m p1 p2 e q => by
  unfold fIs at e
  split at e
  · rename_i h
    cases e
    refine ⟨?_, by rw [isNon_of p1]; exact q J H _ (Ext.refl m) (.bl _)⟩
    have := isNon_of p2
    rw [h] at this
    exact of_decide_eq_true this
  · cases e
theorem bd_isnot : BinD K (fun x y H Q => y = .non ∧ Q (.bl (!decide (x = .non))) H) fIsNot := fun J H d1 d2 d v1 v2 Q m p1 p2 e q => by
  unfold fIsNot at e
  split at e
  · rename_i h
    cases e
    refine ⟨?_, by rw [isNon_of p1]; exact q J H _ (Ext.refl m) (.bl _)⟩
    have := isNon_of p2
    rw [h] at this
    exact of_decide_eq_true this
  · cases e

/-! ### subscripts, slices -/
def fIx : D → D → Option D
  | .lst ds, .int i => atI ds i
  | .tup ds, .int i => atI ds i
  | .str z, .int i => if z.length ≤ sizeLine then (atI z.cps.toList i).map fun c => .str ⟨#[c]⟩ else none
  | _, _ => none
theorem RpL.atI {J : Hp} {ds : List D} {vs : List V} {i : Int} {d : D} (r : RpL K J ds vs) (h : L2.atI ds i = some d) : ∃ v, L2.atI vs i = some v ∧ Rp K J d v := by
  unfold L2.atI at h ⊢
  rw [← r.len]
  cases e : ixN ds.length i with
  | none => rw [e] at h; cases h
  | some j =>
    rw [e] at h
    exact r.get h
theorem bd_ix : BinD K (rIx K) fIx := fun J H d1 d2 d v1 v2 Q m p1 p2 e q => by
  unfold fIx at e
  split at e
  · cases p2.int
    obtain ⟨a, vs, rfl, h, r⟩ := p1.lst m
    obtain ⟨v, h1, h2⟩ := r.atI e
    exact .inl ⟨a, vs, _, v, rfl, rfl, SqL.of h, h1, q J H v (Ext.refl m) h2⟩
  · cases p2.int
    obtain ⟨a, vs, rfl, h, r⟩ := p1.tup m
    obtain ⟨v, h1, h2⟩ := r.atI e
    exact .inr (.inl ⟨a, vs, _, v, rfl, rfl, h, h1, q J H v (Ext.refl m) h2⟩)
  · split at e
    · rename_i z i hz
      cases p2.int; cases p1.str
      cases ec : L2.atI z.cps.toList i with
      | none => rw [ec] at e; cases e
      | some c => rw [ec] at e; cases e; exact .inr (.inr ⟨z, i, c, rfl, rfl, hz, ec, q J H _ (Ext.refl m) (.str _)⟩)
    · cases e
  · cases e
def cutD (ds : List D) (lo hi : Option Int) : List D := (ds.drop (HT.sIx ds.length 0 lo)).take (HT.sIx ds.length ds.length hi - HT.sIx ds.length 0 lo)
theorem RpL.drop {J : Hp} : ∀ {ds : List D} {vs : List V} (n : Nat), RpL K J ds vs → RpL K J (ds.drop n) (vs.drop n)
  | _, _, 0, r => r
  | _, _, _ + 1, .nil => .nil
  | _, _, n + 1, .cons _ r => RpL.drop n r
theorem RpL.take {J : Hp} : ∀ {ds : List D} {vs : List V} (n : Nat), RpL K J ds vs → RpL K J (ds.take n) (vs.take n)
  | _, _, 0, _ => .nil
  | _, _, _ + 1, .nil => .nil
  | _, _, n + 1, .cons w r => .cons w (RpL.take n r)
theorem RpL.cut {J : Hp} {ds : List D} {vs : List V} {lo hi : Option Int} (r : RpL K J ds vs) : RpL K J (cutD ds lo hi) (cutV vs lo hi) := by
  unfold cutD cutV
  rw [r.len]
  exact (r.drop _).take _
def fSl (d : D) (lo hi : Option Int) : Option D := match d with
  | .lst ds => some (.lst (cutD ds lo hi))
  | .tup ds => some (.tup (cutD ds lo hi))
  | .str z => if z.length ≤ sizeLine then some (.str (cutS z lo hi)) else none
  | _ => none
abbrev rSlD (K : PySem.W.Frag) : V → Option Int → Option Int → Hp → VK → Prop := fun x lo hi H Q => rSlL K x lo hi H Q ∨ rSlA K x lo hi H Q ∨ rSlS x lo hi H Q
theorem or_sl : SlR X (rSlD X.K) := sl_list.or (sl_tupA.or sl_str)
theorem sd_sl : SlD K (rSlD K) fSl := fun J H d1 d v1 lo hi Q m p e q => by
  unfold fSl at e
  split at e
  · cases e
    obtain ⟨a, vs, rfl, h, r⟩ := p.lst m
    refine .inl ⟨a, vs, rfl, SqL.of h, fun l hl => ?_⟩
    have x := Ext.new (o := .lst (cutV vs lo hi)) m hl
    exact q _ _ _ x (.lst upd_same (r.cut.mono x.j))
  · rename_i ds
    cases e
    obtain ⟨a, vs, ev, h, r⟩ := p.tup m
    subst ev
    refine .inr (.inl ⟨a, vs, rfl, h, fun z => ?_, fun z l hl => ?_⟩)
    · have : cutD ds lo hi = ds := by
        unfold cutD
        rw [r.len, z.1, z.2, List.drop_zero, Nat.sub_zero, ← r.len, List.take_length]
      rw [this] at q
      cases p with
      | sh w => exact q J H _ (Ext.refl m) w
    · have x := Ext.new (o := .tup (cutV vs lo hi)) m hl
      exact q _ _ _ x (.tup (.inl upd_same) (r.cut.mono x.j))
  · split at e
    · rename_i hz
      cases e; cases p.str
      exact .inr (.inr ⟨_, rfl, hz, q J H _ (Ext.refl m) (.str _)⟩)
    · cases e
  · cases e

/-! ### built-ins -/
def fLen : List D → Option D
  | [.lst ds] => some (.int ds.length)
  | [.tup ds] => some (.int ds.length)
  | [.str x] => if x.length ≤ sizeLine then some (.int x.length) else none
  | _ => none
theorem cd_len : CallD K (fun xs H Q => ∃ x n, xs = [x] ∧ LenV K x H n ∧ Q (.int n) H) fLen := fun J H ds d vs Q m p e q => by
  unfold fLen at e
  split at e
  · cases e
    obtain ⟨v, rfl, p1⟩ := pkl1 p
    obtain ⟨a, ws, rfl, h, r⟩ := p1.lst m
    exact ⟨_, _, rfl, .inl ⟨ws, SqL.of h, r.len⟩, q J H _ (Ext.refl m) (.int _)⟩
  · cases e
    obtain ⟨v, rfl, p1⟩ := pkl1 p
    obtain ⟨a, ws, rfl, h, r⟩ := p1.tup m
    exact ⟨_, _, rfl, .inr ⟨ws, h, r.len⟩, q J H _ (Ext.refl m) (.int _)⟩
  · split at e
    · rename_i hz
      cases e
      obtain ⟨v, rfl, p1⟩ := pkl1 p
      cases p1.str
      exact ⟨_, _, rfl, ⟨hz, rfl⟩, q J H _ (Ext.refl m) (.int _)⟩
    · cases e
  · cases e
def fAbs : List D → Option D
  | [.int i] => some (.int (if i < 0 then -i else i))
  | _ => none
theorem cd_abs : CallD K (fun xs H Q => ∃ i, xs = [.int i] ∧ Q (.int (if i < 0 then -i else i)) H) fAbs := fun J H ds d vs Q m p e q => by
  unfold fAbs at e
  split at e
  · cases e
    obtain ⟨v, rfl, p1⟩ := pkl1 p
    cases p1.int
    exact ⟨_, rfl, q J H _ (Ext.refl m) (.int _)⟩
  · cases e
def fInt : List D → Option D
  | [.int i] => some (.int i)
  | [.bl k] => some (.int (if k = true then 1 else 0))
  | _ => none
theorem cd_int : CallD K (fun xs H Q => (∃ i, xs = [.int i] ∧ Q (.int i) H) ∨ ∃ k, xs = [.bl k] ∧ Q (.int (if k = true then 1 else 0)) H) fInt := fun J H ds d vs Q m p e q => by
  unfold fInt at e
  split at e
  · cases e
    obtain ⟨v, rfl, p1⟩ := pkl1 p
    cases p1.int
    exact .inl ⟨_, rfl, q J H _ (Ext.refl m) (.int _)⟩
  · cases e
    obtain ⟨v, rfl, p1⟩ := pkl1 p
    cases p1.bl
    exact .inr ⟨_, rfl, q J H _ (Ext.refl m) (.int _)⟩
  · cases e
def intsD : List D → Option (List Int)
  | [] => some []
  | .int i :: ds => (intsD ds).map (i :: ·)
  | _ => none
theorem intsD_of {J : Hp} : ∀ {ds : List D} {vs : List V} {ns : List Int}, RpL K J ds vs → intsD ds = some ns → vs = ns.map V.int
  | _, _, _, .nil, e => by cases e; rfl
  | _, _, ns, .cons (d := d) (ds := ds) w r, e => by
    cases d with
    | int i =>
      unfold intsD at e
      cases h : intsD ds with
      | none => rw [h] at e; cases e
      | some ms => rw [h] at e; cases e; cases w; rw [intsD_of r h]; rfl
    | _ => cases e
@[simp] theorem intsD_map (ns : List Int) : intsD (ns.map D.int) = some ns := by
  induction ns with
  | nil => rfl
  | cons n ns ih => rw [List.map_cons, intsD, ih]; rfl
def blsD : List D → Option (List Bool)
  | [] => some []
  | .bl i :: ds => (blsD ds).map (i :: ·)
  | _ => none
theorem blsD_of {J : Hp} : ∀ {ds : List D} {vs : List V} {ns : List Bool}, RpL K J ds vs → blsD ds = some ns → vs = ns.map V.bl
  | _, _, _, .nil, e => by cases e; rfl
  | _, _, ns, .cons (d := d) (ds := ds) w r, e => by
    cases d with
    | bl i =>
      unfold blsD at e
      cases h : blsD ds with
      | none => rw [h] at e; cases e
      | some ms => rw [h] at e; cases e; cases w; rw [blsD_of r h]; rfl
    | _ => cases e
@[simp] theorem blsD_map (ns : List Bool) : blsD (ns.map D.bl) = some ns := by
  induction ns with
  | nil => rfl
  | cons n ns ih => rw [List.map_cons, blsD, ih]; rfl
def fAll : List D → Option D
  | [.lst ds] => (blsD ds).map fun bs => .bl (bs.all id)
  | _ => none
def fAny : List D → Option D
  | [.lst ds] => (blsD ds).map fun bs => .bl (bs.any id)
  | _ => none
theorem cd_all : CallD K (rAll K) fAll := fun J H ds d vs Q m p e q => by
  unfold fAll at e
  split at e
  · rename_i es
    obtain ⟨v, rfl, p1⟩ := pkl1 p
    obtain ⟨a, ws, rfl, h, r⟩ := p1.lst m
    cases eb : blsD es with
    | none => rw [eb] at e; cases e
    | some bs =>
      rw [eb] at e
      cases e
      have := blsD_of r eb
      subst this
      exact ⟨a, bs, rfl, SqL.of h, q J H _ (Ext.refl m) (.bl _)⟩
  · cases e
theorem cd_any : CallD K (rAny K) fAny := fun J H ds d vs Q m p e q => by
  unfold fAny at e
  split at e
  · rename_i es
    obtain ⟨v, rfl, p1⟩ := pkl1 p
    obtain ⟨a, ws, rfl, h, r⟩ := p1.lst m
    cases eb : blsD es with
    | none => rw [eb] at e; cases e
    | some bs =>
      rw [eb] at e
      cases e
      have := blsD_of r eb
      subst this
      exact ⟨a, bs, rfl, SqL.of h, q J H _ (Ext.refl m) (.bl _)⟩
  · cases e
def fSum : List D → Option D
  | [.lst ds] => (intsD ds).map fun ns => .int ns.sum
  | _ => none
theorem cd_sum : CallD K (rSum K) fSum := fun J H ds d vs Q m p e q => by
  unfold fSum at e
  split at e
  · rename_i es
    obtain ⟨v, rfl, p1⟩ := pkl1 p
    obtain ⟨a, ws, rfl, h, r⟩ := p1.lst m
    cases eb : intsD es with
    | none => rw [eb] at e; cases e
    | some bs =>
      rw [eb] at e
      cases e
      have := intsD_of r eb
      subst this
      exact ⟨a, bs, rfl, SqL.of h, q J H _ (Ext.refl m) (.int _)⟩
  · cases e
def leastI : Int → List Int → Int
  | m, [] => m
  | m, n :: ns => leastI (if n < m then n else m) ns
def mostI : Int → List Int → Int
  | m, [] => m
  | m, n :: ns => mostI (if n > m then n else m) ns
theorem leastI_le : ∀ (ns : List Int) (m : Int), leastI m ns ≤ m ∧ (∀ n ∈ ns, leastI m ns ≤ n) ∧ (leastI m ns = m ∨ leastI m ns ∈ ns)
  | [], m => ⟨Int.le_refl _, by simp, .inl rfl⟩
  | n :: ns, m => by
    unfold leastI
    by_cases h : n < m
    · rw [if_pos h]
      obtain ⟨h1, h2, h3⟩ := leastI_le ns n
      refine ⟨by omega, fun k hk => ?_, ?_⟩
      · rcases List.mem_cons.mp hk with rfl | hk
        · exact h1
        · exact h2 k hk
      · rcases h3 with h3 | h3
        · exact .inr (by rw [h3]; simp)
        · exact .inr (List.mem_cons_of_mem _ h3)
    · rw [if_neg h]
      obtain ⟨h1, h2, h3⟩ := leastI_le ns m
      refine ⟨by omega, fun k hk => ?_, ?_⟩
      · rcases List.mem_cons.mp hk with rfl | hk
        · omega
        · exact h2 k hk
      · rcases h3 with h3 | h3
        · exact .inl h3
        · exact .inr (List.mem_cons_of_mem _ h3)
theorem mostI_le : ∀ (ns : List Int) (m : Int), m ≤ mostI m ns ∧ (∀ n ∈ ns, n ≤ mostI m ns) ∧ (mostI m ns = m ∨ mostI m ns ∈ ns)
  | [], m => ⟨Int.le_refl _, by simp, .inl rfl⟩
  | n :: ns, m => by
    unfold mostI
    by_cases h : n > m
    · rw [if_pos h]
      obtain ⟨h1, h2, h3⟩ := mostI_le ns n
      refine ⟨by omega, fun k hk => ?_, ?_⟩
      · rcases List.mem_cons.mp hk with rfl | hk
        · exact h1
        · exact h2 k hk
      · rcases h3 with h3 | h3
        · exact .inr (by rw [h3]; simp)
        · exact .inr (List.mem_cons_of_mem _ h3)
    · rw [if_neg h]
      obtain ⟨h1, h2, h3⟩ := mostI_le ns m
      refine ⟨by omega, fun k hk => ?_, ?_⟩
      · rcases List.mem_cons.mp hk with rfl | hk
        · omega
        · exact h2 k hk
      · rcases h3 with h3 | h3
        · exact .inl h3
        · exact .inr (List.mem_cons_of_mem _ h3)
def fMin : List D → Option D
  | [.int i, .int j] => some (.int (if j < i then j else i))
  | [.lst ds] => match intsD ds with
    | some (n :: ns) => some (.int (leastI n ns))
    | _ => none
  | _ => none
def fMax : List D → Option D
  | [.int i, .int j] => some (.int (if j > i then j else i))
  | [.lst ds] => match intsD ds with
    | some (n :: ns) => some (.int (mostI n ns))
    | _ => none
  | _ => none
abbrev rMinD (K : PySem.W.Frag) : List V → Hp → VK → Prop := fun xs H Q => (∃ i j, xs = [.int i, .int j] ∧ Q (.int (if j < i then j else i)) H) ∨ rMin K xs H Q
abbrev rMaxD (K : PySem.W.Frag) : List V → Hp → VK → Prop := fun xs H Q => (∃ i j, xs = [.int i, .int j] ∧ Q (.int (if j > i then j else i)) H) ∨ rMax K xs H Q
theorem or_min (hc : X.calm = true) : CallR X (.builtin "min") (rMinD X.K) := (call_min2 hc).or (cr_min hc)
theorem or_max (hc : X.calm = true) : CallR X (.builtin "max") (rMaxD X.K) := (call_max2 hc).or (cr_max hc)
theorem cd_min : CallD K (rMinD K) fMin := fun J H ds d vs Q m p e q => by
  unfold fMin at e
  split at e
  · cases e
    obtain ⟨v, w, rfl, p1, p2⟩ := pkl2 p
    cases p1.int; cases p2.int
    exact .inl ⟨_, _, rfl, q J H _ (Ext.refl m) (.int _)⟩
  · rename_i es
    split at e
    · rename_i n ns eb
      cases e
      obtain ⟨v, rfl, p1⟩ := pkl1 p
      obtain ⟨a, ws, rfl, h, r⟩ := p1.lst m
      have := intsD_of r eb
      subst this
      refine .inr ⟨a, n :: ns, rfl, SqL.of h, by simp, fun k hk hl => ?_⟩
      obtain ⟨h1, h2, h3⟩ := leastI_le ns n
      have e1 : k = leastI n ns := by
        have a1 : leastI n ns ∈ n :: ns := by
          rcases h3 with h3 | h3
          · rw [h3]; simp
          · exact List.mem_cons_of_mem _ h3
        have a2 := hl _ a1
        have a3 : leastI n ns ≤ k := by
          rcases List.mem_cons.mp hk with rfl | hk
          · exact h1
          · exact h2 k hk
        omega
      rw [e1]
      exact q J H _ (Ext.refl m) (.int _)
    · cases e
  · cases e
theorem cd_max : CallD K (rMaxD K) fMax := fun J H ds d vs Q m p e q => by
  unfold fMax at e
  split at e
  · cases e
    obtain ⟨v, w, rfl, p1, p2⟩ := pkl2 p
    cases p1.int; cases p2.int
    exact .inl ⟨_, _, rfl, q J H _ (Ext.refl m) (.int _)⟩
  · rename_i es
    split at e
    · rename_i n ns eb
      cases e
      obtain ⟨v, rfl, p1⟩ := pkl1 p
      obtain ⟨a, ws, rfl, h, r⟩ := p1.lst m
      have := intsD_of r eb
      subst this
      refine .inr ⟨a, n :: ns, rfl, SqL.of h, by simp, fun k hk hl => ?_⟩
      obtain ⟨h1, h2, h3⟩ := mostI_le ns n
      have e1 : k = mostI n ns := by
        have a1 : mostI n ns ∈ n :: ns := by
          rcases h3 with h3 | h3
          · rw [h3]; simp
          · exact List.mem_cons_of_mem _ h3
        have a2 := hl _ a1
        have a3 : k ≤ mostI n ns := by
          rcases List.mem_cons.mp hk with rfl | hk
          · exact h1
          · exact h2 k hk
        omega
      rw [e1]
      exact q J H _ (Ext.refl m) (.int _)
    · cases e
  · cases e
/-- list(x): a list of one's own -/
def fList : List D → Option (List D)
  | [.lst ds] => some ds
  | [.tup ds] => some ds
  | _ => none
theorem cl_list : CallL K (fun xs H Q => ∃ p ys, xs = [.ref p] ∧ (SqL K H p ys ∨ SqT K H p ys) ∧ ∀ l, H l = none → Q (.ref l) (upd H l (.lst ys))) fList := fun J H ds es vs Q m p e q => by
  unfold fList at e
  split at e
  · cases e
    obtain ⟨v, rfl, p1⟩ := pkl1 p
    obtain ⟨a, ws, rfl, h, r⟩ := p1.lst m
    exact ⟨a, ws, rfl, .inl (SqL.of h), fun l hl => q l ws H (Ext.refl m) hl r⟩
  · cases e
    obtain ⟨v, rfl, p1⟩ := pkl1 p
    obtain ⟨a, ws, rfl, h, r⟩ := p1.tup m
    exact ⟨a, ws, rfl, .inr h, fun l hl => q l ws H (Ext.refl m) hl r⟩
  · cases e
def fTuple : List D → Option D
  | [.lst ds] => some (.tup ds)
  | [.tup ds] => some (.tup ds)
  | _ => none
theorem cd_tuple : CallD K (fun xs H Q => ∃ p ys, xs = [.ref p] ∧ ((SqL K H p ys ∧ ∀ l, H l = none → Q (.ref l) (upd H l (.tup ys))) ∨ (SqT K H p ys ∧ Q (.ref p) H))) fTuple := fun J H ds d vs Q m p e q => by
  unfold fTuple at e
  split at e
  · cases e
    obtain ⟨v, rfl, p1⟩ := pkl1 p
    obtain ⟨a, ws, rfl, h, r⟩ := p1.lst m
    refine ⟨a, ws, rfl, .inl ⟨SqL.of h, fun l hl => ?_⟩⟩
    have x := Ext.new (o := .tup ws) m hl
    exact q _ _ _ x (.tup (.inl upd_same) (r.mono x.j))
  · cases e
    obtain ⟨v, rfl, p1⟩ := pkl1 p
    obtain ⟨a, ws, ev, h, r⟩ := p1.tup m
    subst ev
    cases p1 with
    | sh w => exact ⟨a, ws, rfl, .inr ⟨h, q J H _ (Ext.refl m) w⟩⟩
  · cases e
theorem perm_sort {ns ms : List Int} (h : ms.Perm ns) (s : ms.Pairwise (· ≤ ·)) : ms = ns.mergeSort (fun a b => decide (a ≤ b)) := by
  have h2 : (ns.mergeSort (fun a b => decide (a ≤ b))).Perm ns := List.mergeSort_perm _ _
  have s2 : (ns.mergeSort (fun a b => decide (a ≤ b))).Pairwise (fun a b => a ≤ b) := by
    have := List.pairwise_mergeSort (le := fun (a b : Int) => decide (a ≤ b)) (fun a b c h1 h2 => by simp at *; omega) (fun a b => by simp; omega) ns
    exact this.imp fun h => by simpa using h
  exact (h.trans h2.symm).eq_of_pairwise (fun a b _ _ h1 h2 => Int.le_antisymm h1 h2) s s2
def fSorted : List D → Option (List D)
  | [.lst ds] => (intsD ds).map fun ns => (ns.mergeSort (fun a b => decide (a ≤ b))).map D.int
  | _ => none
theorem RpL.ints {J : Hp} : ∀ ns : List Int, RpL K J (ns.map D.int) (ns.map V.int)
  | [] => .nil
  | n :: ns => .cons (.int n) (RpL.ints ns)

/-! ### kinds -/
def tyD : D → Option String
  | .non => some "NoneType"
  | .bl _ => some "bool"
  | .int _ => some "int"
  | .str _ => some "str"
  | .tup _ => some "tuple"
  | .lst _ => some "list"
  | .dK _ => some "dict"
  | .dT _ => some "dict"
  | _ => none
theorem tyD_of {J H : Hp} {d : D} {v : V} {n : String} (m : Same J H) (p : Pk K J H d v) (e : tyD d = some n) : TyX K H v (.type n) := by
  cases d with
  | non => cases e; cases p.non; exact .base .non
  | bl b => cases e; cases p.bl; exact .base (.bl b)
  | int i => cases e; cases p.int; exact .base (.int i)
  | str x => cases e; cases p.str; exact .base (.str x)
  | tup ds =>
    cases e
    obtain ⟨a, vs, rfl, h, r⟩ := p.tupAt m
    rcases h with h | ⟨o, its, n, h1, h2, _⟩
    · exact .base (.tup h)
    · exact .kTuple h1 h2
  | lst ds => cases e; obtain ⟨a, vs, rfl, h, r⟩ := p.lst m; exact .base (.lst h)
  | dK kvs => cases e; obtain ⟨a, vs, rfl, h, r⟩ := p.dK m; exact .base (.dK h)
  | dT kvs => cases e; obtain ⟨a, vs, rfl, h, r⟩ := p.dT m; exact .base (.dT h)
  | _ => cases e
def isiAny (t : String) : List D → Option Bool
  | [] => some false
  | .ty n :: ds => match kitB t n with
    | some true => (isiAny t ds).map fun _ => true
    | some false => isiAny t ds
    | none => none
  | _ => none
theorem isiAny_of {J : Hp} {t : String} : ∀ {ds : List D} {vs : List V} {b : Bool}, RpL K J ds vs → isiAny t ds = some b → ∃ us, Paired ClsV vs us ∧ PySem.W.kitAny K (.type t) us = some b
  | _, _, _, .nil, e => by cases e; exact ⟨[], .nil, kitAny_nil⟩
  | _, _, b, .cons (d := d) (ds := ds) w r, e => by
    cases d with
    | ty n =>
      unfold isiAny at e
      cases w
      split at e
      · rename_i h
        cases h2 : isiAny t ds with
        | none => rw [h2] at e; cases e
        | some c =>
          rw [h2] at e
          cases e
          obtain ⟨us, h3, h4⟩ := isiAny_of r h2
          exact ⟨_, .cons (.ty n) h3, kitAny_cons (kit_ty h) (fun z => by cases z) fun _ => rfl⟩
      · rename_i h
        obtain ⟨us, h3, h4⟩ := isiAny_of r e
        exact ⟨_, .cons (.ty n) h3, kitAny_cons (kit_ty h) (fun _ => h4) fun z => by cases z⟩
      · cases e
    | _ => cases e
def fIsi : List D → Option D
  | [d, .ty n] => match tyD d with
    | some t => (kitB t n).map .bl
    | none => none
  | [d, .tup ds] => match tyD d with
    | some t => (isiAny t ds).map .bl
    | none => none
  | _ => none
abbrev rIsiD (K : PySem.W.Frag) : List V → Hp → VK → Prop := fun xs H Q => rIsi K xs H Q ∨ rIsiT K xs H Q ∨ rIsiK K xs H Q
theorem or_isi : CallR X (.builtin "isinstance") (rIsiD X.K) := call_isi.or (call_isiT.or call_isiK)
theorem cd_isi : CallD K (rIsiD K) fIsi := fun J H ds d vs Q m p e q => by
  unfold fIsi at e
  split at e
  · rename_i d1 n
    obtain ⟨v, w, rfl, p1, p2⟩ := pkl2 p
    cases p2.ty
    split at e
    · rename_i t ht
      cases hk : kitB t n with
      | none => rw [hk] at e; cases e
      | some b =>
        rw [hk] at e
        cases e
        exact .inl ⟨v, _, _, _, b, rfl, .ty n, tyD_of m p1 ht, kit_ty hk, q J H _ (Ext.refl m) (.bl b)⟩
    · cases e
  · rename_i d1 es
    obtain ⟨v, w, rfl, p1, p2⟩ := pkl2 p
    obtain ⟨a, ws, rfl, h, r⟩ := p2.tupAt m
    split at e
    · rename_i t ht
      cases hk : isiAny t es with
      | none => rw [hk] at e; cases e
      | some b =>
        rw [hk] at e
        cases e
        obtain ⟨us, h1, h2⟩ := isiAny_of r hk
        rcases h with h | ⟨o, its, k, g1, g2, g3, g4, g5⟩
        · exact .inr (.inl ⟨v, a, ws, _, us, b, rfl, h, h1, tyD_of m p1 ht, h2, q J H _ (Ext.refl m) (.bl b)⟩)
        · obtain ⟨oc, od, dt, sl⟩ := o
          simp only at g2 g3
          subst g2 g3
          have := ClsV.all h1 g5
          refine .inr (.inr ⟨v, a, od, us, k, sl, _, b, rfl, ?_, tyD_of m p1 ht, h2, q J H _ (Ext.refl m) (.bl b)⟩)
          rw [← this]
          simpa using g1
    · cases e
  · cases e
end
@[simp] theorem kb1 : kitB "NoneType" "bool" = some false := by decide +kernel
@[simp] theorem kb2 : kitB "NoneType" "str" = some false := by decide +kernel
@[simp] theorem kb3 : kitB "NoneType" "int" = some false := by decide +kernel
@[simp] theorem kb4 : kitB "NoneType" "dict" = some false := by decide +kernel
@[simp] theorem kb5 : kitB "NoneType" "tuple" = some false := by decide +kernel
@[simp] theorem kb6 : kitB "NoneType" "list" = some false := by decide +kernel
@[simp] theorem kb7 : kitB "bool" "bool" = some true := by decide +kernel
@[simp] theorem kb8 : kitB "bool" "str" = some false := by decide +kernel
@[simp] theorem kb9 : kitB "bool" "int" = some true := by decide +kernel
@[simp] theorem kb10 : kitB "bool" "dict" = some false := by decide +kernel
@[simp] theorem kb11 : kitB "bool" "tuple" = some false := by decide +kernel
@[simp] theorem kb12 : kitB "bool" "list" = some false := by decide +kernel
@[simp] theorem kb13 : kitB "int" "bool" = some false := by decide +kernel
@[simp] theorem kb14 : kitB "int" "str" = some false := by decide +kernel
@[simp] theorem kb15 : kitB "int" "int" = some true := by decide +kernel
@[simp] theorem kb16 : kitB "int" "dict" = some false := by decide +kernel
@[simp] theorem kb17 : kitB "int" "tuple" = some false := by decide +kernel
@[simp] theorem kb18 : kitB "int" "list" = some false := by decide +kernel
@[simp] theorem kb19 : kitB "str" "bool" = some false := by decide +kernel
@[simp] theorem kb20 : kitB "str" "str" = some true := by decide +kernel
@[simp] theorem kb21 : kitB "str" "int" = some false := by decide +kernel
@[simp] theorem kb22 : kitB "str" "dict" = some false := by decide +kernel
@[simp] theorem kb23 : kitB "str" "tuple" = some false := by decide +kernel
@[simp] theorem kb24 : kitB "str" "list" = some false := by decide +kernel
@[simp] theorem kb25 : kitB "tuple" "bool" = some false := by decide +kernel
@[simp] theorem kb26 : kitB "tuple" "str" = some false := by decide +kernel
@[simp] theorem kb27 : kitB "tuple" "int" = some false := by decide +kernel
@[simp] theorem kb28 : kitB "tuple" "dict" = some false := by decide +kernel
@[simp] theorem kb29 : kitB "tuple" "tuple" = some true := by decide +kernel
@[simp] theorem kb30 : kitB "tuple" "list" = some false := by decide +kernel
@[simp] theorem kb31 : kitB "list" "bool" = some false := by decide +kernel
@[simp] theorem kb32 : kitB "list" "str" = some false := by decide +kernel
@[simp] theorem kb33 : kitB "list" "int" = some false := by decide +kernel
@[simp] theorem kb34 : kitB "list" "dict" = some false := by decide +kernel
@[simp] theorem kb35 : kitB "list" "tuple" = some false := by decide +kernel
@[simp] theorem kb36 : kitB "list" "list" = some true := by decide +kernel
@[simp] theorem kb37 : kitB "dict" "bool" = some false := by decide +kernel
@[simp] theorem kb38 : kitB "dict" "str" = some false := by decide +kernel
@[simp] theorem kb39 : kitB "dict" "int" = some false := by decide +kernel
@[simp] theorem kb40 : kitB "dict" "dict" = some true := by decide +kernel
@[simp] theorem kb41 : kitB "dict" "tuple" = some false := by decide +kernel
@[simp] theorem kb42 : kitB "dict" "list" = some false := by decide +kernel
end DL

set_option Elab.async false
set_option linter.all false
set_option maxRecDepth 100000
set_option maxHeartbeats 4000000
/-! DLh: stores into one's own lists; the script; the draws. -/
namespace DL
open PySem PySem.Spec PyProof.Rows L2

section
variable {K : PySem.W.Frag} {B : List Nat} {σ0 : L2.St} {F : Fm} {J J' : Hp} {ρ ρ' : Rho} {σ : L2.St} {H H' : Hp} {r r0 r1 : R} {v v0 : V} {d : D} {i : Nat} {S S0 : List Addr}
/-- one's own thing at slot i is changed where it stands -/
theorem CI.change {a : Addr} {o : HO} (c : CI K B σ0 F J ρ σ H) (hi : ρ[i]? = some (some r0)) (h0 : ∀ S, OwnAt K J H r0 v S → S = [a]) (hv : σ[i]? = some (some v)) (h1 : OwnAt K J (upd H a o) r1 v [a]) : CI K B σ0 F J (ρ.set i (some r1)) σ (upd H a o) := by
  obtain ⟨fp, o1, o2, o3⟩ := id c.own
  have hlt : i < ρ.length := (List.getElem?_eq_some_iff.mp hi).1
  obtain ⟨v', ev, w⟩ := o1 i r0 hi
  rw [hv] at ev
  cases ev
  have hS := h0 _ w
  obtain ⟨hj, hf⟩ := o2 i r0 a hi (by rw [hS]; simp)
  have key : ∀ {j : Nat} {q : R}, (ρ.set i (some r1))[j]? = some (some q) → (j = i ∧ q = r1) ∨ (j ≠ i ∧ ρ[j]? = some (some q)) := fun {j q} h => by
    by_cases e : j = i
    · subst e; rw [List.getElem?_set_self hlt] at h; exact .inl ⟨rfl, by injection h with h; injection h with h; exact h.symm⟩
    · rw [List.getElem?_set_ne (Ne.symm e)] at h; exact .inr ⟨e, h⟩
  have fpe : ∀ {j : Nat} {q : R}, (ρ.set i (some r1))[j]? = some (some q) → ∃ q', ρ[j]? = some (some q') := fun {j q} h => by
    rcases key h with ⟨rfl, _⟩ | ⟨_, h⟩
    · exact ⟨r0, hi⟩
    · exact ⟨q, h⟩
  have ups : ∀ {G : Hp}, G a = none → Same G H → Same G (upd H a o) := fun {G} g s b x e => by
    rw [upd_ne (ne_of_none e g)]; exact s _ _ e
  refine ⟨ups hf c.fr, ups hj c.jm, c.av, by simp [c.len], c.lb, c.pin, fp, fun j q h => ?_, fun j q b h hb => ?_, fun j k q q' b h h' hb hb' => ?_⟩
  · rcases key h with ⟨rfl, rfl⟩ | ⟨ne, h⟩
    · exact ⟨v, hv, by rw [hS]; exact h1⟩
    · obtain ⟨u, e1, w1⟩ := o1 j q h
      refine ⟨u, e1, w1.mono (Same.refl _) fun b hb x e => ?_⟩
      have : b ≠ a := fun z => ne (o3 j i q r0 b h hi hb (by rw [hS, z]; simp))
      rw [upd_ne this]; exact e
  · obtain ⟨q', h'⟩ := fpe h
    exact o2 j q' b h' hb
  · obtain ⟨q1, h1⟩ := fpe h
    obtain ⟨q2, h2⟩ := fpe h'
    exact o3 j k q1 q2 b h1 h2 hb hb'
theorem own_ol {ds : List D} {a : Addr} {S : List Addr} (w : OwnAt K J H (.ol ds) (.ref a) S) : S = [a] := by
  obtain ⟨b, vs, e, rfl, _⟩ := w
  cases e; rfl
theorem CI.olAt {ds : List D} (c : CI K B σ0 F J ρ σ H) (hi : ρ[i]? = some (some (.ol ds))) : ∃ a vs, σ[i]? = some (some (.ref a)) ∧ H a = some (.lst vs) ∧ RpL K J ds vs := by
  obtain ⟨fp, o1, _⟩ := c.own
  obtain ⟨v, e, a, vs, rfl, _, h, r⟩ := o1 i _ hi
  exact ⟨a, vs, e, h, r⟩
theorem CI.olSet {ds ds' : List D} {a : Addr} {vs : List V} (c : CI K B σ0 F J ρ σ H) (hi : ρ[i]? = some (some (.ol ds))) (hv : σ[i]? = some (some (.ref a))) (w : RpL K J ds' vs) : CI K B σ0 F J (ρ.set i (some (.ol ds'))) σ (upd H a (.lst vs)) :=
  c.change hi (fun S w => own_ol w) hv ⟨a, vs, rfl, rfl, upd_same, w⟩
theorem RpL.set {J : Hp} : ∀ {ds : List D} {vs : List V} {d : D} {v : V} (n : Nat), RpL K J ds vs → Rp K J d v → RpL K J (ds.set n d) (vs.set n v)
  | _, _, _, _, _, .nil, _ => .nil
  | _, _, _, _, 0, .cons _ r, w => .cons w r
  | _, _, _, _, n + 1, .cons a r, w => .cons a (RpL.set n r w)
end
section
variable {X : Cx} {B : List Nat} {a b c e : Expr} {es rest : List Expr} {pos : Pos} {m m1 m2 m3 : Rho → Out Hd}
/-- x.append(e) -/
def mApp (i : Nat) (m : Rho → Out Hd) : Rho → SOut := fun ρ => match ρ[i]? with
  | some (some (.ol _)) => match mS m ρ with
    | .ok (.sh d) ρ1 => match ρ1[i]? with
      | some (some (.ol ds)) => if ds.length < 1000000 then .nx (ρ1.set i (some (.ol (ds ++ [d])))) else .bad
      | _ => .bad
    | _ => .bad
  | _ => .bad
theorem CI.shAt {K : PySem.W.Frag} {σ0 : L2.St} {F : Fm} {J : Hp} {ρ : Rho} {σ : L2.St} {H : Hp} {d : D} {v : V} (c : CI K B σ0 F J (ρ ++ [some (.sh d)]) (σ ++ [some v]) H) : Rp K J d v := by
  obtain ⟨fp, o1, _⟩ := c.own
  obtain ⟨v', ev, _, w⟩ := o1 ρ.length _ get_app_r
  have hl : ρ.length = σ.length := by have := c.len; simpa using this
  rw [hl, get_app_r] at ev
  cases ev
  exact w
theorem ds_append (i : Nat) {x : Str} {px apos cpos : Pos} (he : DP X B e m) (hN : X.N[i]? = some x := by rfl) (hv : Vis X.env.scope x := by first | exact Or.inl rfl | exact Or.inr (Or.inl rfl) | exact Or.inr (Or.inr rfl)) (hd : (x == ("__debug__" : Str)) = false := by decide) (hcd : (x == ("__classdict__" : Str)) = false := by decide)
    (hbase : attributeBase (.Name x px) "append" X.env (eval (.Name x px) X.env) = eval (.Name x px) X.env := by rfl)
    (hfew : ((backTo cpos (starEach [e] X.env)).all (fun x => !x.1) && (backToKw cpos (keywordEach [] X.env)).all (fun x => x.1.isSome)
      && decide ([e].length + ([] : List Keyword).length + (if ([] : List Keyword).isEmpty then 0 else 1) < 30)) = true := by rfl)
    (hline : (apos.endLine == cpos.line) = true := by rfl) (hst : starEach [e] X.env = (false, eval e X.env) :: starEach [] X.env := by rfl) (hplain : (backTo cpos (starEach [] X.env)).any (·.1) = false := by rfl)
    (hs : swapsWith (.Call (.Attribute (.Name x px) "append" apos) [e] [] cpos) none pos.line X.env = pure false := by rfl) :
    DS X B (.Expr (.Call (.Attribute (.Name x px) "append" apos) [e] [] cpos) pos) (mApp i m) :=
  ⟨ps_weak (ps_expr (pe_bm PySem.F.plainAttrs_list PySem.F.slot_list_append PySem.F.type_list_append mt_append (pe_var hN hv hd hcd) (pa_cons (do_of_dp he).pe pa_nil hst) hbase hfew hline hst hplain) hs) fun D σ H ⟨σ0, F, J, ρ, c, q⟩ => by
  unfold mApp at q
  split at q
  · rename_i ds0 h0
    obtain ⟨l, vs0, el, hl, _⟩ := c.olAt h0
    split at q
    · rename_i d ρ1 e1
      split at q
      · rename_i ds h1
        split at q
        · rename_i hz
          refine ⟨_, el, .inl ⟨rfl, vs0, SqL.of hl⟩, σ0, F, J, ρ, .sh d, ρ1, c, e1, fun J1 H1 v1 c1 s1 => ?_⟩
          have c2 := c1.pop c.lb
          obtain ⟨l', vs, el', hl', r⟩ := c2.olAt h1
          rw [el] at el'
          cases el'
          refine ⟨l, vs, v1, rfl, rfl, hl', by rw [← r.len]; exact small_line (by omega), ?_⟩
          exact q J1 σ _ (c2.olSet h1 el (r.app (.cons c1.shAt .nil))) s1
        · exact q.elim
      · exact q.elim
    · exact q.elim
  · exact q.elim⟩
/-- x[i] = e -/
def mSetL (i : Nat) (mi m : Rho → Out Hd) : Rho → SOut := fun ρ => match mS m ρ with
  | .ok (.sh d) ρ1 => match ρ1[i]? with
    | some (some (.ol _)) => match mi ρ1 with
      | .ok h ρ2 => match res ρ2 h with
        | some (.int k) => match ρ2[i]? with
          | some (some (.ol ds)) => match ixN ds.length k with
            | some j => .nx (ρ2.set i (some (.ol (ds.set j d))))
            | none => .bad
          | _ => .bad
        | _ => .bad
      | .bad => .bad
    | _ => .bad
  | _ => .bad
theorem ds_setL (i : Nat) {x : Str} {ix : Expr} {px pt : Pos} {mi : Rho → Out Hd} (he : DP X B e m) (hix : DP X B ix mi) (hN : X.N[i]? = some x := by rfl) (hv : Vis X.env.scope x := by first | exact Or.inl rfl | exact Or.inr (Or.inl rfl) | exact Or.inr (Or.inr rfl)) (hd : (x == ("__debug__" : Str)) = false := by decide) (hcd : (x == ("__classdict__" : Str)) = false := by decide)
    (ha : ∀ v, assign (.Subscript (.Name x px) ix pt) X.env v = (do
      let ov ← holding [v] (eval (.Name x px) X.env)
      let iv ← holding [v, ov] (eval ix X.env)
      standAt pt
      holding [v, ov, iv] (setItem ov iv v)
      release [v, ov, iv] []) := by intro _; rfl)
    (hs : swapsWithSole [.Subscript (.Name x px) ix pt] e pos.line X.env = pure false := by rfl) (hw : swappedStores [.Subscript (.Name x px) ix pt] e X.env = pure none := by rfl)
    (h1 : (assignEach [.Subscript (.Name x px) ix pt] X.env).map (·.2) = [assign (.Subscript (.Name x px) ix pt) X.env] := by rfl) :
    DS X B (.Assign [.Subscript (.Name x px) ix pt] e pos) (mSetL i mi m) :=
  ⟨ps_weak (ps_asg (do_of_dp he).pe (pg_sub (pe_var hN hv hd hcd) hix.pe set_list ha) hs hw h1) fun D σ H ⟨σ0, F, J, ρ, c, q⟩ => by
  unfold mSetL at q
  split at q
  · rename_i d ρ1 e1
    split at q
    · rename_i ds0 h0
      split at q
      · rename_i h ρ2 e2
        split at q
        · rename_i k ek
          split at q
          · rename_i ds h2
            split at q
            · rename_i j ej
              refine ⟨σ0, F, J, ρ, .sh d, ρ1, c, e1, fun J1 H1 v1 c1 s1 => ?_⟩
              have c1' := c1.pop c.lb
              obtain ⟨l, vs0, el, hl, _⟩ := c1'.olAt h0
              refine ⟨_, el, σ0, F, J1, ρ1, h, ρ2, c1', e2, fun J2 H2 v2 c2 s2 r2 => ?_⟩
              obtain ⟨l', vs, el', hl', r⟩ := c2.olAt h2
              rw [el] at el'
              cases el'
              refine ⟨l, vs, k, j, rfl, (c2.res r2 ek).int, hl', by rw [← r.len]; exact ej, ?_⟩
              exact q J2 σ _ (c2.olSet h2 el (r.set j (c1.shAt.mono s2))) (s1.trans s2)
            · exact q.elim
          · exact q.elim
        · exact q.elim
      · exact q.elim
    · exact q.elim
  · exact q.elim⟩

/-! ### the script -/
/-- script[lo:hi] -/
def mScrSl (i : Nat) (ml mh : Rho → Out (Option Int)) : Rho → Out Hd := fun ρ => match ρ[i]? with
  | some (some (.scr ns)) => (ml ρ).bind fun l ρ2 => (mh ρ2).bind fun u ρ3 => .ok (.dat (.lst (cutD (ns.map D.int) l u))) ρ3
  | _ => .bad
theorem dp_scrSl (i : Nat) {x : Str} {px p2 : Pos} {lo hi : Option Expr} {ml mh : Rho → Out (Option Int)} (hl : DQ X B lo ml) (hh : DQ X B hi mh) (hN : X.N[i]? = some x := by rfl) (hv : Vis X.env.scope x := by first | exact Or.inl rfl | exact Or.inr (Or.inl rfl) | exact Or.inr (Or.inr rfl)) (hd : (x == ("__debug__" : Str)) = false := by decide) (hcd : (x == ("__classdict__" : Str)) = false := by decide) :
    DP X B (.Subscript (.Name x px) (.Slice lo hi none p2) pos) (mScrSl i ml mh) := ⟨pe_weak (pe_slice sl_list (pe_var hN hv hd hcd) hl.po hh.po) fun σ H Q ⟨σ0, F, J, ρ, h, ρ', c, e, k⟩ => by
  unfold mScrSl at e
  split at e
  · rename_i ns hns
    obtain ⟨l, ρ2, e2, ea⟩ := bind_ok e
    obtain ⟨u, ρ3, e3, eb⟩ := bind_ok ea
    cases eb
    obtain ⟨fp, o1, _⟩ := id c.own
    obtain ⟨v, ev, _, s, rfl, hs⟩ := o1 i _ hns
    refine ⟨_, ev, σ0, F, J, ρ, l, ρ2, c, e2, fun J2 H2 c2 s2 => ⟨σ0, F, J2, ρ2, u, _, c2, e3, fun J3 H3 c3 s3 => ?_⟩⟩
    refine ⟨s, _, rfl, same_sql ((s2.trans s3).trans c3.jm) hs, fun p hp => ?_⟩
    have x := Ext.new (o := .lst (cutV (ns.map V.int) l u)) c3.jm hp
    exact k _ _ _ (c3.ext x) ((s2.trans s3).trans x.j) (.lst upd_same ((RpL.ints ns).cut.mono x.j))
  · cases e⟩
/-- [0, cells]: the beginning of the draws -/
def mSt (n : Int) (i : Nat) : Rho → Out R := fun ρ => match ρ[i]? with
  | some (some (.ol ds)) => match intsD ds with
    | some cs => .ok (.st n cs) (ρ.set i none)
    | none => .bad
  | _ => .bad
theorem do_st (i : Nat) {x : Str} {px p0 : Pos} {n : Int} {j : Nat} (hN : X.N[i]? = some x := by rfl) (hv : Vis X.env.scope x := by first | exact Or.inl rfl | exact Or.inr (Or.inl rfl) | exact Or.inr (Or.inr rfl)) (hd : (x == ("__debug__" : Str)) = false := by decide) (hcd : (x == ("__classdict__" : Str)) = false := by decide)
    (h1 : starEach [.Constant (.int n) j p0, .Name x px] X.env = (false, eval (.Constant (.int n) j p0) X.env) :: starEach [.Name x px] X.env := by rfl) (h2 : starEach [.Name x px] X.env = (false, eval (.Name x px) X.env) :: starEach [] X.env := by rfl) :
    DO X B (.List [.Constant (.int n) j p0, .Name x px] pos) (mSt n i) := ⟨pe_weak (pe_lst (pa_cons pe_int (pa_cons (pe_var hN hv hd hcd) pa_nil h2) h1)) fun σ H Q ⟨σ0, F, J, ρ, h, ρ', c, e, k⟩ => by
  unfold mSt at e
  split at e
  · rename_i ds hds
    split at e
    · rename_i cs hcs
      cases e
      obtain ⟨l, vs, el, hl, r⟩ := c.olAt hds
      have := intsD_of r hcs
      subst this
      refine ⟨_, el, le_line (by simp), fun p hp => ?_⟩
      have npl : p ≠ l := fun z => by rw [z, hl] at hp; cases hp
      have c1 := c.take hds el
      obtain ⟨fp, o1, o2, o3⟩ := id c1.own
      have s0 : Same H (upd H p (.lst [.int n, .ref l])) := same_upd hp
      have hlr : (ρ.set i none).length = σ.length := by simp [c.len]
      obtain ⟨v', ev, w⟩ := o1 (ρ.set i none).length _ get_app_r
      rw [hlr, get_app_r] at ev
      cases ev
      have hfp : fp (ρ.set i none).length = [l] := own_ol w
      have np : ∀ {j : Nat} {q : R}, (ρ.set i none)[j]? = some (some q) → p ∉ fp j := fun {j q} h hm => by
        obtain ⟨v, _, w⟩ := o1 j q (get_app_l h)
        obtain ⟨o, e⟩ := w.there p hm
        rw [hp] at e; cases e
      have key : ∀ {j : Nat} {q : R}, (ρ.set i none ++ [some (.st n cs)])[j]? = some (some q) → (j = (ρ.set i none).length ∧ q = .st n cs) ∨ (j ≠ (ρ.set i none).length ∧ (ρ.set i none)[j]? = some (some q)) := fun {j q} h => by
        rcases get_app h with h | ⟨e, h⟩
        · exact .inr ⟨Nat.ne_of_lt (List.getElem?_eq_some_iff.mp h).1, h⟩
        · exact .inl ⟨e, (Option.some.inj h).symm⟩
      refine k J _ _ ⟨c1.fr.trans s0, c1.jm.trans s0, c1.av, by simp [c.len], by have := c.lb; simp; omega, fun i hi => ⟨(c.pin i hi).1, by rw [List.getElem?_append_left (c.lt hi)]; exact (c.pin i hi).2⟩, ovr fp (ρ.set i none).length [p, l], fun j q h => ?_, fun j q a h ha => ?_, fun j k q q' a h h' ha hb => ?_⟩ (Same.refl _)
      · rcases key h with ⟨rfl, rfl⟩ | ⟨ne, h⟩
        · refine ⟨.ref p, by rw [hlr]; exact get_app_r, ?_⟩
          rw [ovr_eq]
          exact ⟨p, l, rfl, rfl, npl, upd_same, by rw [upd_ne npl.symm]; exact hl⟩
        · obtain ⟨v, e1, w⟩ := o1 j q (get_app_l h)
          rcases get_app e1 with e1 | ⟨z, _⟩
          · exact ⟨v, get_app_l e1, by rw [ovr_ne ne]; exact w.mono (Same.refl _) fun a _ o q => s0 _ _ q⟩
          · exact absurd (z.trans hlr.symm) ne
      · rcases key h with ⟨rfl, rfl⟩ | ⟨ne, h⟩
        · rw [ovr_eq] at ha
          rcases List.mem_cons.mp ha with rfl | ha
          · exact ⟨c1.jm.free hp, c1.fr.free hp⟩
          · exact o2 _ _ a get_app_r (by rw [hfp]; exact ha)
        · rw [ovr_ne ne] at ha; exact o2 j q a (get_app_l h) ha
      · rcases key h with ⟨rfl, rfl⟩ | ⟨ne, h3⟩
        · rcases key h' with ⟨rfl, rfl⟩ | ⟨ne', h4⟩
          · rfl
          · rw [ovr_eq] at ha
            rw [ovr_ne ne'] at hb
            rcases List.mem_cons.mp ha with rfl | ha
            · exact absurd hb (np h4)
            · exact o3 _ _ _ _ a get_app_r (get_app_l h4) (by rw [hfp]; exact ha) hb
        · rcases key h' with ⟨rfl, rfl⟩ | ⟨ne', h4⟩
          · rw [ovr_eq] at hb
            rw [ovr_ne ne] at ha
            rcases List.mem_cons.mp hb with rfl | hb
            · exact absurd ha (np h3)
            · exact o3 _ _ _ _ a (get_app_l h3) get_app_r ha (by rw [hfp]; exact hb)
          · rw [ovr_ne ne] at ha; rw [ovr_ne ne'] at hb
            exact o3 _ _ _ _ a (get_app_l h3) (get_app_l h4) ha hb
    · cases e
  · cases e⟩
end
end DL

set_option Elab.async false
set_option linter.all false
set_option maxRecDepth 100000
set_option maxHeartbeats 4000000
/-! DLi: what a draw is. -/
namespace DL
open PySem PySem.Spec PyProof.Rows L2
def bigI : Int := 1000000000000000000
/-- the place of a draw, its cell, the mixed number -/
def cellI (n : Int) (cs : List Int) : Int := cs.getD (n % (cs.length : Int)).toNat 0
def mixI (n c : Int) : Int := ((c * 48271 + (n + 1) * 69621) % 2147483647 * 16807 + (n + 1) * 7919) % 1000000007
def takeV (n : Int) (cs : List Int) (most : Int) : Int := if most < 2 then 0 else if cellI n cs ≥ bigI then cellI n cs % most else mixI n (cellI n cs) / 7 % most
def takeN (n : Int) (cs : List Int) (most : Int) : Int := if most < 2 then n else if cellI n cs ≥ bigI then n else n + 1
def takeC (n : Int) (cs : List Int) (most : Int) : List Int := if most < 2 then cs else if cellI n cs ≥ bigI then cs.set (n % (cs.length : Int)).toNat (cellI n cs / most) else cs
def takeF : List R → Option (R × List R)
  | [.st n cs, .sh (.int most)] => if cs ≠ [] ∧ most < 2 ^ 64 then some (.sh (.int (takeV n cs most)), [.st (takeN n cs most) (takeC n cs most), .sh (.int most)]) else none
  | _ => none
theorem takeV_range {n : Int} {cs : List Int} {most : Int} (h : 0 < most) : 0 ≤ takeV n cs most ∧ takeV n cs most < most := by
  unfold takeV
  split
  · omega
  · split
    · exact ⟨Int.emod_nonneg _ (by omega), Int.emod_lt_of_pos _ h⟩
    · exact ⟨Int.emod_nonneg _ (by omega), Int.emod_lt_of_pos _ h⟩
theorem takeC_length {n : Int} {cs : List Int} {most : Int} : (takeC n cs most).length = cs.length := by
  unfold takeC
  split
  · rfl
  · split
    · simp
    · rfl
theorem takeC_ne {n : Int} {cs : List Int} {most : Int} (h : cs ≠ []) : takeC n cs most ≠ [] := by
  intro e
  have := takeC_length (n := n) (cs := cs) (most := most)
  rw [e] at this
  exact h (List.length_eq_zero_iff.mp this.symm)
section
variable {K : PySem.W.Frag} {B : List Nat} {σ0 : L2.St} {F : Fm} {J J' : Hp} {ρ ρ' : Rho} {σ : L2.St} {H H' : Hp}
/-- behind a draw: the two lists stand where they stood -/
theorem st_back {n n' m : Int} {cs cs' : List Int} {v w : V} {x : Int} (c : CI K [] [] F J [some (.st n cs), some (.sh (.int m))] [some v, some w] H) (hv : ∀ a l, v = .ref a → H a = some (.lst [.int n, .ref l]) → (∀ b o, b ≠ a → b ≠ l → H b = some o → H' b = some o) ∧ H' a = some (.lst [.int n', .ref l]) ∧ H' l = some (.lst (cs'.map V.int))) :
    CI K [] [] F J ([some (.st n' cs'), some (.sh (.int m))] ++ [some (.sh (.int x))]) ([some v, some w] ++ [some (.int x)]) H' := by
  obtain ⟨fp, o1, o2, o3⟩ := id c.own
  obtain ⟨v', ev, a, l, rfl, eS, hal, ha, hl⟩ := o1 0 _ rfl
  cases ev
  obtain ⟨w', ew, _, hw⟩ := o1 1 _ rfl
  cases ew
  obtain ⟨h1, h2, h3⟩ := hv a l rfl ha
  have na := o2 0 _ a rfl (by rw [eS]; simp)
  have nl := o2 0 _ l rfl (by rw [eS]; simp)
  have up : ∀ {G : Hp}, G a = none → G l = none → Same G H → Same G H' := fun {G} g1 g2 s b x e => h1 b x (fun z => by rw [z, g1] at e; cases e) (fun z => by rw [z, g2] at e; cases e) (s _ _ e)
  refine ⟨up na.2 nl.2 c.fr, up na.1 nl.1 c.jm, c.av, rfl, by simp, fun i hi => absurd hi (by simp), fun i => if i = 0 then [a, l] else [], fun i r h => ?_, fun i r b h hb => ?_, fun i j r r' b h h' hb hb' => ?_⟩
  · match i, h with
    | 0, h => cases h; exact ⟨_, rfl, a, l, rfl, rfl, hal, h2, h3⟩
    | 1, h => cases h; exact ⟨_, rfl, rfl, hw⟩
    | 2, h => cases h; exact ⟨_, rfl, rfl, .int x⟩
    | i + 3, h => simp at h
  · match i, hb with
    | 0, hb =>
      have hb : b ∈ [a, l] := hb
      rcases List.mem_cons.mp hb with rfl | hb
      · exact na
      · rw [List.mem_singleton] at hb; subst hb; exact nl
    | i + 1, hb => have hb : b ∈ ([] : List Addr) := hb; cases hb
  · match i, j, hb, hb' with
    | 0, 0, _, _ => rfl
    | 0, j + 1, _, hb' => have hb' : b ∈ ([] : List Addr) := hb'; cases hb'
    | i + 1, _, hb, _ => have hb : b ∈ ([] : List Addr) := hb; cases hb
theorem st_at {n m : Int} {cs : List Int} {v w : V} (c : CI K [] [] F J [some (.st n cs), some (.sh (.int m))] [some v, some w] H) : ∃ a l, v = .ref a ∧ w = .int m ∧ a ≠ l ∧ H a = some (.lst [.int n, .ref l]) ∧ H l = some (.lst (cs.map V.int)) := by
  obtain ⟨fp, o1, o2, o3⟩ := id c.own
  obtain ⟨v', ev, a, l, rfl, eS, hal, ha, hl⟩ := o1 0 _ rfl
  cases ev
  obtain ⟨w', ew, _, hw⟩ := o1 1 _ rfl
  cases ew
  cases hw
  exact ⟨a, l, rfl, rfl, hal, ha, hl⟩
end
theorem cell_at {n : Int} {cs : List Int} (h : cs ≠ []) : 0 < (cs.length : Int) ∧ 0 ≤ n % (cs.length : Int) ∧ n % (cs.length : Int) < cs.length ∧ atI (cs.map V.int) (n % (cs.length : Int)) = some (.int (cellI n cs)) ∧ ixN (cs.map V.int).length (n % (cs.length : Int)) = some (n % (cs.length : Int)).toNat := by
  have hl : 0 < (cs.length : Int) := by
    cases cs with
    | nil => exact absurd rfl h
    | cons x r => simp
  have h1 := Int.emod_nonneg n (show (cs.length : Int) ≠ 0 by omega)
  have h2 := Int.emod_lt_of_pos n hl
  have hx : ixN (cs.map V.int).length (n % (cs.length : Int)) = some (n % (cs.length : Int)).toNat := by
    unfold ixN
    rw [if_pos h1, List.length_map, if_pos h2]
  refine ⟨hl, h1, h2, ?_, hx⟩
  unfold atI
  rw [hx]
  show (cs.map V.int)[(n % (cs.length : Int)).toNat]? = _
  have hlt : (n % (cs.length : Int)).toNat < cs.length := by omega
  rw [List.getElem?_map, List.getElem?_eq_getElem hlt]
  unfold cellI
  rw [List.getD_eq_getElem?_getD, List.getElem?_eq_getElem hlt]
  rfl
end DL

set_option Elab.async false
set_option linter.all false
set_option maxRecDepth 100000
set_option maxHeartbeats 4000000
/-! DLj: dicts that are read, membership, sorted. -/
namespace DL
open PySem PySem.Spec PyProof.Rows L2

def keyD : D → Option Key
  | .int i => some (.inl i)
  | .str x => some (.inr x)
  | _ => none
def valD (kvs : List (Key × D)) (k : Key) : Option D := (kvs.find? fun kv => decide (kv.1 = k)).map (·.2)
def putD (kvs : List (Key × D)) (k : Key) (d : D) : List (Key × D) := if (kvs.any fun kv => decide (kv.1 = k)) = true then kvs.map fun kv => if kv.1 = k then (k, d) else kv else kvs ++ [(k, d)]
def dropD (kvs : List (Key × D)) (k : Key) : List (Key × D) := kvs.filter fun kv => decide (kv.1 ≠ k)
section
variable {K : PySem.W.Frag} {X : Cx} {J H : Hp}
theorem keyD_of {d : D} {v : V} {k : Key} (p : Pk K J H d v) (e : keyD d = some k) : v = kV k := by
  cases d with
  | int i => cases e; rw [p.int]; rfl
  | str i => cases e; rw [p.str]; rfl
  | _ => cases e
theorem RpK.val {kvs : List (Key × D)} {ws : List (Key × V)} {k : Key} (r : RpK K J kvs ws) : (∀ d, valD kvs k = some d → ∃ v, valV ws k = some v ∧ Rp K J d v) ∧ (valD kvs k).isSome = (valV ws k).isSome := by
  induction kvs generalizing ws with
  | nil => cases r; exact ⟨fun d h => (by cases h), rfl⟩
  | cons kv kvs ih =>
    cases r with
    | @cons k' d v _ ws w r =>
      obtain ⟨h1, h2⟩ := ih r
      unfold valD valV at *
      rw [List.find?_cons, List.find?_cons]
      by_cases hk : k' = k
      · simp only [hk, decide_true]
        exact ⟨fun d' e => by cases e; exact ⟨v, rfl, w⟩, rfl⟩
      · simp only [hk, decide_false]
        exact ⟨h1, h2⟩
theorem RpK.len {kvs : List (Key × D)} {ws : List (Key × V)} (r : RpK K J kvs ws) : kvs.length = ws.length := by
  induction kvs generalizing ws with
  | nil => cases r; rfl
  | cons kv kvs ih => cases r with | cons w r => simp [ih r]
/-- d[k] by values -/
theorem ix_dict (hu : X.A.units + 1 < cLine) : IxR X (fun x y H Q => ∃ a v, x = .ref a ∧ DGet H a y (some v) ∧ Q v H) := by
  intro value slice pins s σ H x y v u Q I rx ry h hs
  obtain ⟨a, v', rfl, g, q⟩ := h
  cases rx
  exact tail_any (dict_typeIs I g) PySem.F.slot_dict_getitem.lookup (d_getItem hu I g ry fun w' s' I' rw' => ⟨v', H, I', rw', q⟩) hs
theorem or_ix (hu : X.A.units + 1 < cLine) : IxR X (fun x y H Q => rIx X.K x y H Q ∨ ∃ a v, x = .ref a ∧ DGet H a y (some v) ∧ Q v H) := ix_seq.or (ix_dict hu)
def fIxD (d e : D) : Option D := match d with
  | .dK kvs => match keyD e with
    | some k => valD kvs k
    | none => none
  | d => fIx d e
theorem bd_ixD : BinD K (fun x y H Q => rIx K x y H Q ∨ ∃ a v, x = .ref a ∧ DGet H a y (some v) ∧ Q v H) fIxD := fun J H d1 d2 d v1 v2 Q m p1 p2 e q => by
  unfold fIxD at e
  split at e
  · split at e
    · rename_i k hk
      obtain ⟨a, ws, rfl, h, r⟩ := p1.dK m
      obtain ⟨v, h1, h2⟩ := (r.val (k := k)).1 d e
      refine .inr ⟨a, v, rfl, ?_, q J H v (Ext.refl m) h2⟩
      rw [← h1, keyD_of p2 hk]
      exact DGet.k h
    · cases e
  · exact .inl (bd_ix J H d1 d2 d v1 v2 Q m p1 p2 e q)
/-- k in d, by values -/
theorem op_in_dict (hu : X.A.units + 1 < cLine) : OpR X (compareOp .In) (fun x y H Q => ∃ a o, y = .ref a ∧ DGet H a x o ∧ Q (.bl o.isSome) H) := by
  intro pins s σ H x y v u Q I rx ry h
  obtain ⟨a, o, rfl, g, q⟩ := h
  cases ry
  exact d_in hu I g rx fun s' I' => ⟨.bl o.isSome, H, I', rfl, q⟩
theorem op_notIn_dict (hu : X.A.units + 1 < cLine) : OpR X (compareOp .NotIn) (fun x y H Q => ∃ a o, y = .ref a ∧ DGet H a x o ∧ Q (.bl (!o.isSome)) H) := by
  intro pins s σ H x y v u Q I rx ry h
  obtain ⟨a, o, rfl, g, q⟩ := h
  cases ry
  exact d_notIn hu I g rx fun s' I' => ⟨.bl (!o.isSome), H, I', rfl, q⟩
/-- flat data as a value -/
def toV : D → Option V
  | .non => some .non
  | .bl b => some (.bl b)
  | .int i => some (.int i)
  | .str x => some (.str x)
  | _ => none
def toVL : List D → Option (List V)
  | [] => some []
  | d :: ds => match toV d with
    | some v => (toVL ds).map (v :: ·)
    | none => none
theorem toV_of {d : D} {v w : V} (p : Pk K J H d v) (e : toV d = some w) : v = w ∧ flatV v = true := by
  cases d with
  | non => cases e; rw [p.non]; exact ⟨rfl, rfl⟩
  | bl b => cases e; rw [p.bl]; exact ⟨rfl, rfl⟩
  | int i => cases e; rw [p.int]; exact ⟨rfl, rfl⟩
  | str i => cases e; rw [p.str]; exact ⟨rfl, rfl⟩
  | _ => cases e
theorem toVL_of : ∀ {ds : List D} {vs ws : List V}, RpL K J ds vs → toVL ds = some ws → vs = ws ∧ vs.all flatV = true
  | _, _, _, .nil, e => by cases e; exact ⟨rfl, rfl⟩
  | _, _, ws, .cons (d := d) (ds := ds) w r, e => by
    unfold toVL at e
    split at e
    · rename_i v hv
      cases h : toVL ds with
      | none => rw [h] at e; cases e
      | some us =>
        rw [h] at e
        cases e
        obtain ⟨rfl, h1⟩ := toV_of (H := J) (.sh w) hv
        obtain ⟨rfl, h2⟩ := toVL_of r h
        exact ⟨rfl, by rw [List.all_cons, h1, h2]; rfl⟩
    · cases e
/-- is x in it -/
def memD (x c : D) : Option Bool := match c with
  | .dK kvs => (keyD x).map fun k => (valD kvs k).isSome
  | .str z => match x with
    | .str y => some (!(Builtin.Str.occurrences z y 0 z.length 1).isEmpty)
    | _ => none
  | .lst ds => match toV x, toVL ds with
    | some v, some vs => some (inV v vs)
    | _, _ => match toPy x, toPyL ds with
      | some a, some as => if SeqAt.shaped a = true ∧ SeqAt.shaped (.list as) = true then some (as.any fun z => PyData.eqv z a) else none
      | _, _ => none
  | .tup ds => match toV x, toVL ds with
    | some v, some vs => some (inV v vs)
    | _, _ => none
  | _ => none
abbrev rInAll (K : PySem.W.Frag) : R2 := fun x y H Q => (∃ a o, y = .ref a ∧ DGet H a x o ∧ Q (.bl o.isSome) H) ∨ (∃ i j, x = .str i ∧ y = .str j ∧ Q (.bl (!(Builtin.Str.occurrences j i 0 j.length 1).isEmpty)) H) ∨ rIn K false x y H Q ∨ rInD K x y H Q
abbrev rNotInAll (K : PySem.W.Frag) : R2 := fun x y H Q => (∃ a o, y = .ref a ∧ DGet H a x o ∧ Q (.bl (!o.isSome)) H) ∨ (∃ i j, x = .str i ∧ y = .str j ∧ Q (.bl (!(!(Builtin.Str.occurrences j i 0 j.length 1).isEmpty))) H) ∨ rIn K true x y H Q ∨ rNotInD K x y H Q
theorem memD_ok {d1 d2 : D} {v1 v2 : V} {b : Bool} (m : Same J H) (p1 : Pk K J H d1 v1) (p2 : Pk K J H d2 v2) (e : memD d1 d2 = some b) :
    (∃ a o, v2 = .ref a ∧ DGet H a v1 o ∧ o.isSome = b) ∨ (∃ i j, v1 = .str i ∧ v2 = .str j ∧ (!(Builtin.Str.occurrences j i 0 j.length 1).isEmpty) = b) ∨
    (∃ p xs, v2 = .ref p ∧ (SqL K H p xs ∨ SqT K H p xs) ∧ flatV v1 = true ∧ xs.all flatV = true ∧ inV v1 xs = b) ∨
    (∃ d ds, Dp K H v1 d ∧ Dp K H v2 (.list ds) ∧ SeqAt.shaped d = true ∧ SeqAt.shaped (.list ds) = true ∧ (ds.any fun z => PyData.eqv z d) = b) := by
  unfold memD at e
  split at e
  · rename_i kvs
    cases hk : keyD d1 with
    | none => rw [hk] at e; cases e
    | some k =>
      rw [hk] at e
      cases e
      obtain ⟨a, ws, rfl, h, r⟩ := p2.dK m
      refine .inl ⟨a, valV ws k, rfl, ?_, ((r.val (k := k)).2).symm⟩
      rw [keyD_of p1 hk]
      exact DGet.k h
  · split at e
    · cases e; cases p1.str; cases p2.str
      exact .inr (.inl ⟨_, _, rfl, rfl, rfl⟩)
    · cases e
  · rename_i ds
    split at e
    · rename_i v vs h1 h2
      cases e
      obtain ⟨a, ws, rfl, h, r⟩ := p2.lst m
      obtain ⟨rfl, f1⟩ := toV_of p1 h1
      obtain ⟨rfl, f2⟩ := toVL_of r h2
      exact .inr (.inr (.inl ⟨a, ws, rfl, .inl (SqL.of h), f1, f2, rfl⟩))
    · split at e
      · rename_i a as h1 h2
        split at e
        · rename_i hs
          cases e
          refine .inr (.inr (.inr ⟨a, as, toPy_dp (p1.rp m) h1, toPy_dp (p2.rp m) ?_, hs.1, hs.2, rfl⟩))
          rw [toPy, h2]; rfl
        · cases e
      · cases e
  · rename_i ds
    split at e
    · rename_i v vs h1 h2
      cases e
      obtain ⟨a, ws, rfl, h, r⟩ := p2.tup m
      obtain ⟨rfl, f1⟩ := toV_of p1 h1
      obtain ⟨rfl, f2⟩ := toVL_of r h2
      exact .inr (.inr (.inl ⟨a, ws, rfl, .inr h, f1, f2, rfl⟩))
    · cases e
  · cases e
def fIn (d e : D) : Option D := (memD d e).map .bl
def fNotIn (d e : D) : Option D := (memD d e).map fun b => .bl (!b)
theorem hu_of {k : Nat} {X : Cx} (hr : RoomG k X.A) : X.A.units + 1 < cLine := by have := hr.units; omega
theorem or_in {k : Nat} (hr : RoomG k X.A) : OpR X (compareOp .In) (rInAll X.K) := (op_in_dict (DL.hu_of hr)).or (op_in_str.or (op_in_seq.or (op_inD (by have := hr.un; omega))))
theorem or_notin {k : Nat} (hr : RoomG k X.A) : OpR X (compareOp .NotIn) (rNotInAll X.K) := (op_notIn_dict (DL.hu_of hr)).or (L2.op_notin_str.or (op_notIn_seq.or (op_notInD (by have := hr.un; omega))))
theorem bd_in : BinD K (rInAll K) fIn := fun J H d1 d2 d v1 v2 Q m p1 p2 e q => by
  unfold fIn at e
  cases eb : memD d1 d2 with
  | none => rw [eb] at e; cases e
  | some b =>
    rw [eb] at e
    cases e
    rcases memD_ok m p1 p2 eb with ⟨a, o, rfl, g, rfl⟩ | ⟨i, j, rfl, rfl, rfl⟩ | ⟨p, xs, rfl, h1, h2, h3, rfl⟩ | ⟨a, as, h1, h2, h3, h4, rfl⟩
    · exact .inl ⟨a, o, rfl, g, q J H _ (Ext.refl m) (.bl _)⟩
    · exact .inr (.inl ⟨i, j, rfl, rfl, q J H _ (Ext.refl m) (.bl _)⟩)
    · exact .inr (.inr (.inl ⟨p, xs, rfl, h1, h2, h3, q J H _ (Ext.refl m) (.bl _)⟩))
    · exact .inr (.inr (.inr ⟨a, as, h1, h2, h3, h4, q J H _ (Ext.refl m) (.bl _)⟩))
theorem bd_notin : BinD K (rNotInAll K) fNotIn := fun J H d1 d2 d v1 v2 Q m p1 p2 e q => by
  unfold fNotIn at e
  cases eb : memD d1 d2 with
  | none => rw [eb] at e; cases e
  | some b =>
    rw [eb] at e
    cases e
    rcases memD_ok m p1 p2 eb with ⟨a, o, rfl, g, rfl⟩ | ⟨i, j, rfl, rfl, rfl⟩ | ⟨p, xs, rfl, h1, h2, h3, rfl⟩ | ⟨a, as, h1, h2, h3, h4, rfl⟩
    · exact .inl ⟨a, o, rfl, g, q J H _ (Ext.refl m) (.bl _)⟩
    · exact .inr (.inl ⟨i, j, rfl, rfl, q J H _ (Ext.refl m) (.bl _)⟩)
    · exact .inr (.inr (.inl ⟨p, xs, rfl, h1, h2, h3, q J H _ (Ext.refl m) (.bl _)⟩))
    · exact .inr (.inr (.inr ⟨a, as, h1, h2, h3, h4, q J H _ (Ext.refl m) (.bl _)⟩))
/-- sorted(xs) of ints -/
theorem cl_sorted : CallL K (rSortedI K) fSorted := fun J H ds es vs Q m p e q => by
  unfold fSorted at e
  split at e
  · rename_i ds'
    cases hn : intsD ds' with
    | none => rw [hn] at e; cases e
    | some ns =>
      rw [hn] at e
      cases e
      obtain ⟨v, rfl, p1⟩ := pkl1 p
      obtain ⟨a, ws, rfl, h, r⟩ := p1.lst m
      have := intsD_of r hn
      subst this
      refine ⟨a, ns, rfl, SqL.of h, fun ns' p' h1 h2 h3 => ?_⟩
      rw [perm_sort h1 h2]
      exact q p' _ H (Ext.refl m) h3 (RpL.ints _)
  · cases e
end
/-- turns enough -/
def fuel : Nat := 100000
/-- the law's promise -/
def spLaw (K : PySem.W.Frag) : Sp := fun vs H Q _ => ∃ (a : Addr) (ns : List Int), vs = [.ref a] ∧ SqL K H a (ns.map V.int) ∧ ns.length ≤ 63 ∧ ∀ H', Q (.bl true) H'
theorem law_end {K : PySem.W.Frag} {f : List R → Option (R × List R)} (h : ∀ ns : List Int, ns.length ≤ 63 → ∃ rs', f [.scr ns] = some (.sh (.bl true), rs')) : ∀ vs H Q E, spLaw K vs H Q E → spM K 1 f vs H Q E := by
  intro vs H Q E ⟨a, ns, e, hs, hl, q⟩
  subst e
  obtain ⟨rs', hf⟩ := h ns hl
  refine ⟨⟨H, fun _ => False, fun _ z => z.elim⟩, H, [.scr ns], _, rs', rfl, ?_, hf, fun J' H' v c s => ?_⟩
  · refine ⟨Same.refl _, Same.refl _, fun _ z => z.elim, rfl, by simp, fun i hi => absurd hi (by simp), fun _ => [], fun i r h => ?_, fun i r b h hb => absurd hb (by simp), fun i j r r' b h h' hb => absurd hb (by simp)⟩
    match i, h with
    | 0, h => cases h; exact ⟨_, rfl, rfl, a, rfl, hs⟩
    | i + 1, h => simp at h
  · have w := c.shAt
    cases w
    exact q H'
end DL

set_option Elab.async false
set_option linter.all false
set_option maxRecDepth 100000
set_option maxHeartbeats 4000000
/-! DLk: reckoning with defs over data. -/
namespace DL
open PySem PySem.Spec PyProof.Rows L2
theorem fuel_eq : fuel = 99999 + 1 := rfl
@[simp] theorem dmap_int (ns : List Int) : (ns.map D.int).length = ns.length := by simp
@[simp] theorem collect_nil (B : List Nat) (ρ : Rho) (k : Nat) : collect B ρ k [] = some [] := rfl
theorem collect_cons (B : List Nat) (ρ : Rho) (k : Nat) (r : R) (rs : List R) : collect B ρ k (r :: rs) = (match collect B ρ (k + 1) rs with
    | some rs' => if B.contains k then match ρ[k]? with
        | some (some r') => some (r' :: rs')
        | _ => none
      else match r with
        | .sh _ => some (r :: rs')
        | _ => none
    | none => none) := rfl
theorem toPy_int (i : Int) : toPy (.int i) = some (.int i) := by rw [toPy]
theorem toPy_bl (i : Bool) : toPy (.bl i) = some (.bool i) := by rw [toPy]
theorem toPy_str (i : Str) : toPy (.str i) = some (.str i) := by rw [toPy]
theorem toPy_non : toPy .non = some .none := by rw [toPy]
theorem toPy_lst (ds : List D) : toPy (.lst ds) = (toPyL ds).map .list := by rw [toPy]
theorem toPy_tup (ds : List D) : toPy (.tup ds) = (toPyL ds).map .tuple := by rw [toPy]
theorem toPyL_nil : toPyL [] = some [] := by rw [toPyL]
theorem toPyL_cons (d : D) (ds : List D) : toPyL (d :: ds) = (match toPy d with
    | some a => match toPyL ds with
      | some as => some (a :: as)
      | none => none
    | none => none) := by
  first
    | (rw [toPyL]; done)
    | (rw [toPyL]
       cases toPy d with
       | none => rfl
       | some a => cases toPyL ds <;> rfl)
theorem toPyL_ints (ns : List Int) : toPyL (ns.map D.int) = some (ns.map PyData.int) := by
  induction ns with
  | nil => exact toPyL_nil
  | cons n ns ih => rw [List.map_cons, toPyL_cons, toPy_int, ih]; rfl
theorem eqvAll_ints (ns ms : List Int) : PyData.eqvAll (ns.map PyData.int) (ms.map PyData.int) = decide (ns = ms) := by
  induction ns generalizing ms with
  | nil => cases ms with
    | nil => rw [List.map_nil, PyData.eqvAll]; simp
    | cons m ms => rw [List.map_nil, List.map_cons, PyData.eqvAll]; simp
  | cons n ns ih => cases ms with
    | nil => rw [List.map_nil, List.map_cons, PyData.eqvAll]; simp
    | cons m ms =>
      rw [List.map_cons, List.map_cons, PyData.eqvAll, ih, PyData.eqv]
      by_cases h : n = m
      · subst h; simp
      · simp [h]
theorem shaped_ints (ns : List Int) : SeqAt.shaped (.list (ns.map PyData.int)) = true := by
  have h1 : PyData.canLayAll0 (ns.map PyData.int) = true := by
    induction ns with
    | nil => rw [List.map_nil, PyData.canLayAll0]
    | cons n ns ih => rw [List.map_cons, PyData.canLayAll0, PyData.canLay0, ih]; rfl
  have h2 : PyData.depthAll (ns.map PyData.int) = 0 := by
    induction ns with
    | nil => rw [List.map_nil, PyData.depthAll]
    | cons n ns ih => rw [List.map_cons, PyData.depthAll, PyData.depth, ih (by
        rw [List.map_cons, PyData.canLayAll0, Bool.and_eq_true] at h1; exact h1.2)]; rfl
  unfold SeqAt.shaped
  rw [PyData.canLay0, PyData.depth, h1, h2]
  rfl
theorem deq_ints (ns ms : List Int) : deq (.lst (ns.map D.int)) (.lst (ms.map D.int)) = some (decide (ns = ms)) := by
  show (match toPy (.lst (ns.map D.int)), toPy (.lst (ms.map D.int)) with
    | some a, some b => if SeqAt.shaped a = true ∧ SeqAt.shaped b = true then some (PyData.eqv a b) else none
    | _, _ => none) = _
  rw [toPy_lst, toPy_lst, toPyL_ints, toPyL_ints]
  show (if SeqAt.shaped _ = true ∧ SeqAt.shaped _ = true then some (PyData.eqv _ _) else none) = _
  rw [if_pos ⟨shaped_ints ns, shaped_ints ms⟩, PyData.eqv, eqvAll_ints]
theorem rng1_int {n : Int} (h0 : 0 ≤ n) (h1 : n ≤ 1000000000) : fRng1 [.int n] = some (rngD 0 n.toNat) := by
  have a : -(2 ^ 62) ≤ n := by omega
  have b : n < 2 ^ 62 := by omega
  exact if_pos ⟨a, b⟩
theorem rng1_nat {n : Nat} (h : n ≤ 1000000000) : fRng1 [.int (n : Int)] = some (rngD 0 n) := by
  rw [rng1_int (by omega) (by omega), Int.toNat_natCast]
theorem rng2_int {i j : Int} (h0 : -1000000000 ≤ i) (h1 : i ≤ 1000000000) (h2 : -1000000000 ≤ j) (h3 : j ≤ 1000000000) : fRng2 [.int i, .int j] = some (rngD i (j - i).toNat) := by
  have a : -(2 ^ 62) ≤ i ∧ i < 2 ^ 62 ∧ -(2 ^ 62) ≤ j ∧ j < 2 ^ 62 := by omega
  exact if_pos a
/-! the draws, where they are legal -/
theorem takeF_eq {n : Int} {cs : List Int} {most : Int} (h : cs ≠ []) (h2 : most < 2 ^ 64) : takeF [.st n cs, .sh (.int most)] = some (.sh (.int (takeV n cs most)), [.st (takeN n cs most) (takeC n cs most), .sh (.int most)]) := if_pos ⟨h, h2⟩
/-- items of a made list of numbers -/
theorem atI_lt {α : Type} {xs : List α} {i : Int} (h0 : 0 ≤ i) (h1 : i < xs.length) : atI xs i = xs[i.toNat]? := by
  unfold atI ixN
  rw [if_pos h0, if_pos h1]
  rfl

def oD (o : Option D) (ρ : Rho) : Out Hd := match o with
  | some d => .ok (.dat d) ρ
  | none => .bad
def oB (o : Option Bool) (ρ : Rho) : Out Bool := match o with
  | some b => .ok b ρ
  | none => .bad
def oL (o : Option (List D)) (ρ : Rho) : Out R := match o with
  | some ds => .ok (.ol ds) ρ
  | none => .bad
def oDs (o : Option (List D)) (ρ : Rho) : Out (List D) := match o with
  | some ds => .ok ds ρ
  | none => .bad
def kF (r : R) (ρ : Rho) : Out Hd := oD r.frz ρ
def kS2 (o : Option (D × Rho)) : Out R := match o with
  | some (d, ρ2) => .ok (.sh d) ρ2
  | none => .bad
def kS (h : Hd) (ρ : Rho) : Out R := kS2 (fzAt ρ h)
def kV (i : Nat) (ρ : Rho) (o : Option (Option R)) : Out Hd := match o with
  | some (some _) => .ok (.slt i) ρ
  | _ => .bad
def kM (i : Nat) (ρ : Rho) (o : Option (Option R)) : Out R := match o with
  | some (some r) => .ok r (ρ.set i none)
  | _ => .bad
def kBin3 (f : D → D → Option D) (ρ : Rho) (o1 o2 : Option D) : Out Hd := match o1, o2 with
  | some d1, some d2 => oD (f d1 d2) ρ
  | _, _ => .bad
def kBin2 (f : D → D → Option D) (h1 h2 : Hd) (ρ : Rho) : Out Hd := kBin3 f ρ (res ρ h1) (res ρ h2)
def kBin1 (f : D → D → Option D) (m2 : Rho → Out Hd) (h1 : Hd) (ρ : Rho) : Out Hd := (m2 ρ).bind (kBin2 f h1)
def kCh4 (g : D → D → Option D) (h2 h3 : Hd) (ρ : Rho) : Out Hd := kBin3 g ρ (res ρ h2) (res ρ h3)
def kCh3 (g : D → D → Option D) (m3 : Rho → Out Hd) (h2 : Hd) (ρ : Rho) (o : Option D) : Out Hd := match o with
  | some (.bl true) => (m3 ρ).bind (kCh4 g h2)
  | some (.bl false) => .ok (.dat (.bl false)) ρ
  | _ => .bad
def kCh2' (f g : D → D → Option D) (m3 : Rho → Out Hd) (h2 : Hd) (ρ : Rho) (o1 o2 : Option D) : Out Hd := match o1, o2 with
  | some d1, some d2 => kCh3 g m3 h2 ρ (f d1 d2)
  | _, _ => .bad
def kCh2 (f g : D → D → Option D) (m3 : Rho → Out Hd) (h1 h2 : Hd) (ρ : Rho) : Out Hd := kCh2' f g m3 h2 ρ (res ρ h1) (res ρ h2)
def kCh1 (f g : D → D → Option D) (m2 m3 : Rho → Out Hd) (h1 : Hd) (ρ : Rho) : Out Hd := (m2 ρ).bind (kCh2 f g m3 h1)
def kUn2 (f : D → Option D) (ρ : Rho) (o : Option D) : Out Hd := match o with
  | some d => oD (f d) ρ
  | none => .bad
def kUn (f : D → Option D) (h : Hd) (ρ : Rho) : Out Hd := kUn2 f ρ (res ρ h)
def kTst2 (ρ : Rho) (o : Option D) : Out Bool := match o with
  | some (.bl b) => .ok b ρ
  | _ => .bad
def kTst (h : Hd) (ρ : Rho) : Out Bool := kTst2 ρ (res ρ h)
def kTru2 (ρ : Rho) (o : Option D) : Out Bool := match o with
  | some d => oB (tru d) ρ
  | none => .bad
def kTru (h : Hd) (ρ : Rho) : Out Bool := kTru2 ρ (res ρ h)
def kAnd (m : Rho → Out Bool) (b : Bool) (ρ : Rho) : Out Bool := if b = true then m ρ else .ok false ρ
def kOr (m : Rho → Out Bool) (b : Bool) (ρ : Rho) : Out Bool := if b = true then .ok true ρ else m ρ
def kNot (b : Bool) (ρ : Rho) : Out Bool := .ok (!b) ρ
def kAndV (m : Rho → Out Hd) (b : Bool) (ρ : Rho) : Out Hd := if b = true then m ρ else .ok (.dat (.bl false)) ρ
def kOrV (m : Rho → Out Hd) (b : Bool) (ρ : Rho) : Out Hd := if b = true then .ok (.dat (.bl true)) ρ else m ρ
def kNotV (b : Bool) (ρ : Rho) : Out Hd := .ok (.dat (.bl (!b))) ρ
def kIfE (m1 m2 : Rho → Out Hd) (b : Bool) (ρ : Rho) : Out Hd := if b = true then m1 ρ else m2 ρ
def kCons2 (h : Hd) (hs : List Hd) (ρ : Rho) : Out (List Hd) := .ok (h :: hs) ρ
def kCons (ms : Rho → Out (List Hd)) (h : Hd) (ρ : Rho) : Out (List Hd) := (ms ρ).bind (kCons2 h)
def kFz2 (o : Option (List D × Rho)) : Out (List D) := match o with
  | some (ds, ρ2) => .ok ds ρ2
  | none => .bad
def kFz (hs : List Hd) (ρ : Rho) : Out (List D) := kFz2 (fzL ρ hs)
def kTup (ds : List D) (ρ : Rho) : Out Hd := .ok (.dat (.tup ds)) ρ
def kLst (ds : List D) (ρ : Rho) : Out R := .ok (.ol ds) ρ
def kRes (hs : List Hd) (ρ : Rho) : Out (List D) := oDs (resL ρ hs) ρ
def kCall (f : List D → Option D) (ds : List D) (ρ : Rho) : Out Hd := oD (f ds) ρ
def kCallL (f : List D → Option (List D)) (ds : List D) (ρ : Rho) : Out R := oL (f ds) ρ
def kFn3 (ρ1 ρ2 : Rho) (o : Option (R × List R)) : Out R := match o with
  | some (r, _) => if flatR r = true then .ok r ρ1 else .ok r ρ2
  | none => .bad
def kFn2 (f : List R → Option (R × List R)) (ρ1 : Rho) (o : Option (List D × Rho)) : Out R := match o with
  | some (ds, ρ2) => kFn3 ρ1 ρ2 (f (ds.map R.sh))
  | none => .bad
def kFn (f : List R → Option (R × List R)) (hs : List Hd) (ρ : Rho) : Out R := kFn2 f ρ (fzL ρ hs)
def kG4 (i : Nat) (ρ2 : Rho) (o : Option (R × List R)) : Out R := match o with
  | some (r, r1 :: _) => .ok r (ρ2.set i (some r1))
  | _ => .bad
def kG3 (i : Nat) (f : List R → Option (R × List R)) (ds : List D) (ρ2 : Rho) (o : Option (Option R)) : Out R := match o with
  | some (some r0) => kG4 i ρ2 (f (r0 :: ds.map R.sh))
  | _ => .bad
def kG2 (i : Nat) (f : List R → Option (R × List R)) (o : Option (List D × Rho)) : Out R := match o with
  | some (ds, ρ2) => kG3 i f ds ρ2 ρ2[i]?
  | none => .bad
def kG1 (i : Nat) (f : List R → Option (R × List R)) (hs : List Hd) (ρ : Rho) : Out R := kG2 i f (fzL ρ hs)
def kG0 (i : Nat) (f : List R → Option (R × List R)) (ms : Rho → Out (List Hd)) (ρ : Rho) (o : Option (Option R)) : Out R := match o with
  | some (some _) => (ms ρ).bind (kG1 i f)
  | _ => .bad
def kQ (ρ : Rho) (o : Option D) : Out (Option Int) := match o with
  | some (.int i) => .ok (some i) ρ
  | _ => .bad
def kQ1 (h : Hd) (ρ : Rho) : Out (Option Int) := kQ ρ (res ρ h)
def kSl4 (f : D → Option Int → Option Int → Option D) (l u : Option Int) (ρ : Rho) (o : Option D) : Out Hd := match o with
  | some d => oD (f d l u) ρ
  | none => .bad
def kSl3 (f : D → Option Int → Option Int → Option D) (h : Hd) (l u : Option Int) (ρ : Rho) : Out Hd := kSl4 f l u ρ (res ρ h)
def kSl2 (f : D → Option Int → Option Int → Option D) (mh : Rho → Out (Option Int)) (h : Hd) (l : Option Int) (ρ : Rho) : Out Hd := (mh ρ).bind (kSl3 f h l)
def kSl1 (f : D → Option Int → Option Int → Option D) (ml mh : Rho → Out (Option Int)) (h : Hd) (ρ : Rho) : Out Hd := (ml ρ).bind (kSl2 f mh h)
def kSeq (n : Rho → SOut) (o : SOut) : SOut := match o with
  | .nx ρ => n ρ
  | o => o
def kDrop (o : Out Hd) : SOut := match o with
  | .ok _ ρ => .nx ρ
  | .bad => .bad
def kRet (o : Out R) : SOut := match o with
  | .ok r ρ => .rt r ρ
  | .bad => .bad
def kIf (a b : Rho → SOut) (o : Out Bool) : SOut := match o with
  | .ok k ρ => if k = true then a ρ else b ρ
  | .bad => .bad
def kSet (i : Nat) (o : Out R) : SOut := match o with
  | .ok r ρ => if i < ρ.length then .nx (ρ.set i (some r)) else .bad
  | .bad => .bad
def kAsg2 (o : Option Rho) : SOut := match o with
  | some ρ => .nx ρ
  | none => .bad
def kAsg (g : D → Rho → Option Rho) (o : Out R) : SOut := match o with
  | .ok (.sh d) ρ => kAsg2 (g d ρ)
  | _ => .bad
def kAug4 (i : Nat) (ρ : Rho) (o : Option D) : SOut := match o with
  | some d => if i < ρ.length then .nx (ρ.set i (some (.sh d))) else .bad
  | none => .bad
def kAug3 (i : Nat) (f : D → D → Option D) (d1 : D) (ρ : Rho) (o : Option D) : SOut := match o with
  | some d2 => kAug4 i ρ (f d1 d2)
  | none => .bad
def kAug2 (i : Nat) (f : D → D → Option D) (d1 : D) (o : Out Hd) : SOut := match o with
  | .ok h ρ => kAug3 i f d1 ρ (res ρ h)
  | .bad => .bad
def kAug1 (i : Nat) (f : D → D → Option D) (m : Rho → Out Hd) (ρ : Rho) (o : Option (Option R)) : SOut := match o with
  | some (some (.sh d1)) => kAug2 i f d1 (m ρ)
  | _ => .bad
def kIt2 (o : Option (D × Rho)) : Out (List D) := match o with
  | some (.lst ds, ρ2) => .ok ds ρ2
  | some (.tup ds, ρ2) => .ok ds ρ2
  | _ => .bad
def kIt (h : Hd) (ρ : Rho) : Out (List D) := kIt2 (fzAt ρ h)
def kItR (f : List D → Option (List D)) (ds : List D) (ρ : Rho) : Out (List D) := oDs (f ds) ρ
def kFor (g : D → Rho → Option Rho) (mb : Rho → SOut) (o : Out (List D)) : SOut := match o with
  | .ok ds ρ => forL g mb ds ρ
  | .bad => .bad
def kFo2 (g : D → Rho → Option Rho) (mb : Rho → SOut) (ds : List D) (o : SOut) : SOut := match o with
  | .nx ρ2 => forL g mb ds ρ2
  | .ct ρ2 => forL g mb ds ρ2
  | .bk ρ2 => .nx ρ2
  | .rt r ρ2 => .rt r ρ2
  | .bad => .bad
def kFo1 (g : D → Rho → Option Rho) (mb : Rho → SOut) (ds : List D) (o : Option Rho) : SOut := match o with
  | some ρ1 => kFo2 g mb ds (mb ρ1)
  | none => .bad
def kW2 (mc : Rho → Out Bool) (mb : Rho → SOut) (n : Nat) (o : SOut) : SOut := match o with
  | .nx ρ2 => whileN mc mb n ρ2
  | .ct ρ2 => whileN mc mb n ρ2
  | .bk ρ2 => .nx ρ2
  | .rt r ρ2 => .rt r ρ2
  | .bad => .bad
def kW1 (mc : Rho → Out Bool) (mb : Rho → SOut) (n : Nat) (o : Out Bool) : SOut := match o with
  | .ok b ρ1 => if b = true then kW2 mc mb n (mb ρ1) else .nx ρ1
  | .bad => .bad
def kLc2 (xs : List D) (ρ : Rho) : Out R := .ok (.ol xs) ρ
def kLc1 (vs : List Nat) (g : D → Rho → Option Rho) (mt : Rho → Out Bool) (me : Rho → Out R) (ds : List D) (ρ : Rho) : Out R := if ds.length ≤ 1000000 then (compL vs g mt me ds (wipeR ρ vs)).bind kLc2 else .bad
def kC4 (x : D) (xs : List D) (ρ : Rho) : Out (List D) := .ok (x :: xs) ρ
def kC3 (vs : List Nat) (g : D → Rho → Option Rho) (mt : Rho → Out Bool) (me : Rho → Out R) (ds : List D) (o : Out R) : Out (List D) := match o with
  | .ok (.sh x) ρ3 => (compL vs g mt me ds (wipeR ρ3 vs)).bind (kC4 x)
  | _ => .bad
def kC2 (vs : List Nat) (g : D → Rho → Option Rho) (mt : Rho → Out Bool) (me : Rho → Out R) (ds : List D) (b : Bool) (ρ : Rho) : Out (List D) := if b = true then kC3 vs g mt me ds (me ρ) else compL vs g mt me ds (wipeR ρ vs)
def kC1 (vs : List Nat) (g : D → Rho → Option Rho) (mt : Rho → Out Bool) (me : Rho → Out R) (ds : List D) (o : Option Rho) : Out (List D) := match o with
  | some ρ1 => (mt ρ1).bind (kC2 vs g mt me ds)
  | none => .bad
def kApp3 (i : Nat) (d : D) (ρ : Rho) (o : Option (Option R)) : SOut := match o with
  | some (some (.ol ds)) => if ds.length < 1000000 then .nx (ρ.set i (some (.ol (ds ++ [d])))) else .bad
  | _ => .bad
def kApp2 (i : Nat) (o : Out R) : SOut := match o with
  | .ok (.sh d) ρ1 => kApp3 i d ρ1 ρ1[i]?
  | _ => .bad
def kApp1 (i : Nat) (m : Rho → Out Hd) (ρ : Rho) (o : Option (Option R)) : SOut := match o with
  | some (some (.ol _)) => kApp2 i (mS m ρ)
  | _ => .bad
def kSL5 (i : Nat) (d : D) (ds : List D) (ρ : Rho) (o : Option Nat) : SOut := match o with
  | some j => .nx (ρ.set i (some (.ol (ds.set j d))))
  | none => .bad
def kSL4 (i : Nat) (d : D) (k : Int) (ρ : Rho) (o : Option (Option R)) : SOut := match o with
  | some (some (.ol ds)) => kSL5 i d ds ρ (ixN ds.length k)
  | _ => .bad
def kSL3 (i : Nat) (d : D) (ρ : Rho) (o : Option D) : SOut := match o with
  | some (.int k) => kSL4 i d k ρ ρ[i]?
  | _ => .bad
def kSL2 (i : Nat) (d : D) (o : Out Hd) : SOut := match o with
  | .ok h ρ => kSL3 i d ρ (res ρ h)
  | .bad => .bad
def kSL1 (i : Nat) (mi : Rho → Out Hd) (d : D) (ρ : Rho) (o : Option (Option R)) : SOut := match o with
  | some (some (.ol _)) => kSL2 i d (mi ρ)
  | _ => .bad
def kSL0 (i : Nat) (mi : Rho → Out Hd) (o : Out R) : SOut := match o with
  | .ok (.sh d) ρ => kSL1 i mi d ρ ρ[i]?
  | _ => .bad
def kFM (B : List Nat) (rs : List R) (o : SOut) : Option (R × List R) := match o with
  | .rt r ρ => (collect B ρ 0 rs).map fun rs' => (r, rs')
  | .nx ρ => (collect B ρ 0 rs).map fun rs' => (.sh .non, rs')
  | _ => none
def kMt3 (f : D → List D → Option D) (d0 : D) (ds : List D) (ρ : Rho) (o : Option D) : Out Hd := match o with
  | some d1 => if (f d0 ds).isSome then oD (f d1 ds) ρ else .bad
  | none => .bad
def kMt2 (f : D → List D → Option D) (h : Hd) (d0 : D) (ds : List D) (ρ : Rho) : Out Hd := kMt3 f d0 ds ρ (res ρ h)
def kMt1 (f : D → List D → Option D) (ms : Rho → Out (List Hd)) (h : Hd) (ρ : Rho) (o : Option D) : Out Hd := match o with
  | some d0 => (mRes ms ρ).bind (kMt2 f h d0)
  | none => .bad
def kMt (f : D → List D → Option D) (ms : Rho → Out (List Hd)) (h : Hd) (ρ : Rho) : Out Hd := kMt1 f ms h ρ (res ρ h)
def kAt (ρ : Rho) (i : Nat) (o : Option (Option R)) : Option (D × Rho) := match o with
  | some (some (.sh d)) => some (d, ρ)
  | some (some r) => match r.frz with
    | some d => some (d, ρ.set i (some (.sh d)))
    | none => none
  | _ => none
def kRs (o : Option (Option R)) : Option D := match o with
  | some (some r) => r.rd
  | _ => none

theorem ev_F (m : Rho → Out R) (ρ : Rho) : mF m ρ = (m ρ).bind kF := by
  unfold mF; cases m ρ with
  | bad => rfl
  | ok r ρ1 => show (Out.opt r.frz ρ1).bind _ = oD r.frz ρ1; cases r.frz <;> rfl
theorem ev_S (m : Rho → Out Hd) (ρ : Rho) : mS m ρ = (m ρ).bind kS := by
  unfold mS; cases m ρ with
  | bad => rfl
  | ok h ρ1 => rfl
theorem ev_V (i : Nat) (ρ : Rho) : mV i ρ = kV i ρ ρ[i]? := (rfl)
theorem ev_Mv (i : Nat) (ρ : Rho) : mMove i ρ = kM i ρ ρ[i]? := (rfl)
theorem ev_C (d : D) (ρ : Rho) : mC d ρ = .ok (.dat d) ρ := (rfl)
theorem bin3_eq (f : D → D → Option D) (ρ : Rho) (o1 o2 : Option D) : ((Out.opt o1 ρ).bind fun d1 _ => (Out.opt o2 ρ).bind fun d2 _ => (Out.opt (f d1 d2) ρ).bind fun d ρ3 => .ok (.dat d) ρ3) = kBin3 f ρ o1 o2 := by
  cases o1 with
  | none => cases o2 <;> rfl
  | some d1 => cases o2 with
    | none => rfl
    | some d2 => show (Out.opt (f d1 d2) ρ).bind _ = oD (f d1 d2) ρ; cases f d1 d2 <;> rfl
theorem ev_Bin (f : D → D → Option D) (m1 m2 : Rho → Out Hd) (ρ : Rho) : mBin f m1 m2 ρ = (m1 ρ).bind (kBin1 f m2) := by
  unfold mBin; cases m1 ρ with
  | bad => rfl
  | ok h1 ρ1 =>
    show (m2 ρ1).bind _ = (m2 ρ1).bind _
    cases m2 ρ1 with
    | bad => rfl
    | ok h2 ρ2 => exact bin3_eq f ρ2 (res ρ2 h1) (res ρ2 h2)
theorem ev_Chain (f g : D → D → Option D) (m1 m2 m3 : Rho → Out Hd) (ρ : Rho) : mChain f g m1 m2 m3 ρ = (m1 ρ).bind (kCh1 f g m2 m3) := by
  unfold mChain; cases m1 ρ with
  | bad => rfl
  | ok h1 ρ1 =>
    show (m2 ρ1).bind _ = (m2 ρ1).bind _
    cases m2 ρ1 with
    | bad => rfl
    | ok h2 ρ2 =>
      show ((Out.opt (res ρ2 h1) ρ2).bind _) = kCh2' f g m3 h2 ρ2 (res ρ2 h1) (res ρ2 h2)
      cases e1 : res ρ2 h1 with
      | none => cases res ρ2 h2 <;> rfl
      | some d1 => cases e2 : res ρ2 h2 with
        | none => rfl
        | some d2 =>
          show (match f d1 d2 with
            | some (.bl true) => _
            | some (.bl false) => _
            | _ => _) = kCh3 g m3 h2 ρ2 (f d1 d2)
          unfold kCh3
          split
          · cases m3 ρ2 with
            | bad => rfl
            | ok h3 ρ3 => exact bin3_eq g ρ3 (res ρ3 h2) (res ρ3 h3)
          · rfl
          · rfl
theorem ev_Un (f : D → Option D) (m : Rho → Out Hd) (ρ : Rho) : mUn f m ρ = (m ρ).bind (kUn f) := by
  unfold mUn; cases m ρ with
  | bad => rfl
  | ok h ρ1 =>
    show ((Out.opt (res ρ1 h) ρ1).bind _) = kUn2 f ρ1 (res ρ1 h)
    cases res ρ1 h with
    | none => rfl
    | some d => show (Out.opt (f d) ρ1).bind _ = oD (f d) ρ1; cases f d <;> rfl
theorem ev_Tst (m : Rho → Out Hd) (ρ : Rho) : mTst m ρ = (m ρ).bind kTst := by
  unfold mTst; cases m ρ <;> rfl
theorem ev_Tru (m : Rho → Out Hd) (ρ : Rho) : mTru m ρ = (m ρ).bind kTru := by
  unfold mTru; cases m ρ with
  | bad => rfl
  | ok h ρ1 =>
    show ((Out.opt (res ρ1 h) ρ1).bind _) = kTru2 ρ1 (res ρ1 h)
    cases res ρ1 h with
    | none => rfl
    | some d => show (Out.opt (tru d) ρ1).bind _ = oB (tru d) ρ1; cases tru d <;> rfl
theorem ev_And (m1 m2 : Rho → Out Bool) (ρ : Rho) : mAnd m1 m2 ρ = (m1 ρ).bind (kAnd m2) := (rfl)
theorem ev_Or (m1 m2 : Rho → Out Bool) (ρ : Rho) : mOr m1 m2 ρ = (m1 ρ).bind (kOr m2) := (rfl)
theorem ev_Not (m : Rho → Out Bool) (ρ : Rho) : mNot m ρ = (m ρ).bind kNot := (rfl)
theorem ev_AndV (m1 m2 : Rho → Out Hd) (ρ : Rho) : mAndV m1 m2 ρ = (mTst m1 ρ).bind (kAndV m2) := (rfl)
theorem ev_OrV (m1 m2 : Rho → Out Hd) (ρ : Rho) : mOrV m1 m2 ρ = (mTst m1 ρ).bind (kOrV m2) := (rfl)
theorem ev_NotV (m : Rho → Out Hd) (ρ : Rho) : mNotV m ρ = (mTst m ρ).bind kNotV := (rfl)
theorem ev_IfE (n : Rho → Out Bool) (m1 m2 : Rho → Out Hd) (ρ : Rho) : mIfE n m1 m2 ρ = (n ρ).bind (kIfE m1 m2) := (rfl)
theorem ev_Nil (ρ : Rho) : mNil ρ = .ok [] ρ := (rfl)
theorem ev_Cons (m : Rho → Out Hd) (ms : Rho → Out (List Hd)) (ρ : Rho) : mCons m ms ρ = (m ρ).bind (kCons ms) := (rfl)
theorem ev_Fz (ms : Rho → Out (List Hd)) (ρ : Rho) : mFz ms ρ = (ms ρ).bind kFz := by
  unfold mFz; cases ms ρ <;> rfl
theorem ev_Tup (ms : Rho → Out (List Hd)) (ρ : Rho) : mTup ms ρ = (mFz ms ρ).bind kTup := (rfl)
theorem ev_Lst (ms : Rho → Out (List Hd)) (ρ : Rho) : mLst ms ρ = (mFz ms ρ).bind kLst := (rfl)
theorem ev_Res (ms : Rho → Out (List Hd)) (ρ : Rho) : mRes ms ρ = (ms ρ).bind kRes := by
  unfold mRes; cases ms ρ with
  | bad => rfl
  | ok hs ρ1 => show (Out.opt (resL ρ1 hs) ρ1).bind _ = oDs (resL ρ1 hs) ρ1; cases resL ρ1 hs <;> rfl
theorem ev_Call (f : List D → Option D) (ms : Rho → Out (List Hd)) (ρ : Rho) : mCall f ms ρ = (mRes ms ρ).bind (kCall f) := by
  unfold mCall; cases mRes ms ρ with
  | bad => rfl
  | ok ds ρ1 => show (Out.opt (f ds) ρ1).bind _ = oD (f ds) ρ1; cases f ds <;> rfl
theorem ev_CallL (f : List D → Option (List D)) (ms : Rho → Out (List Hd)) (ρ : Rho) : mCallL f ms ρ = (mRes ms ρ).bind (kCallL f) := by
  unfold mCallL; cases mRes ms ρ with
  | bad => rfl
  | ok ds ρ1 => show (Out.opt (f ds) ρ1).bind _ = oL (f ds) ρ1; cases f ds <;> rfl
theorem ev_Fn (f : List R → Option (R × List R)) (ms : Rho → Out (List Hd)) (ρ : Rho) : mFn f ms ρ = (ms ρ).bind (kFn f) := by
  unfold mFn; cases ms ρ with
  | bad => rfl
  | ok hs ρ1 =>
    show _ = kFn2 f ρ1 (fzL ρ1 hs)
    show (match fzL ρ1 hs with
      | some (ds, ρ2) => _
      | none => _) = _
    cases fzL ρ1 hs with
    | none => rfl
    | some p => obtain ⟨ds, ρ2⟩ := p; show _ = kFn3 ρ1 ρ2 (f (ds.map R.sh)); show (match f (ds.map R.sh) with | some (r, _) => _ | none => _) = _; cases f (ds.map R.sh) <;> rfl
theorem ev_Fn1 (i : Nat) (f : List R → Option (R × List R)) (ms : Rho → Out (List Hd)) (ρ : Rho) : mFn1 i f ms ρ = kG0 i f ms ρ ρ[i]? := by
  unfold mFn1
  generalize ρ[i]? = o
  match o with
  | none => rfl
  | some none => rfl
  | some (some r) =>
    show (ms ρ).bind _ = (ms ρ).bind (kG1 i f)
    cases ms ρ with
    | bad => rfl
    | ok hs ρ1 =>
      show (match fzL ρ1 hs with
        | some (ds, ρ2) => _
        | none => _) = kG2 i f (fzL ρ1 hs)
      cases fzL ρ1 hs with
      | none => rfl
      | some p =>
        obtain ⟨ds, ρ2⟩ := p
        show (match ρ2[i]? with
          | some (some r0) => _
          | _ => _) = kG3 i f ds ρ2 ρ2[i]?
        unfold kG3
        split
        · rename_i r0 _
          unfold kG4
          rfl
        · rfl
theorem ev_Q0 (ρ : Rho) : mQ0 ρ = .ok none ρ := (rfl)
theorem ev_Q1 (m : Rho → Out Hd) (ρ : Rho) : mQ1 m ρ = (m ρ).bind kQ1 := by
  unfold mQ1; cases m ρ <;> rfl
theorem ev_Sl (f : D → Option Int → Option Int → Option D) (m : Rho → Out Hd) (ml mh : Rho → Out (Option Int)) (ρ : Rho) : mSl f m ml mh ρ = (m ρ).bind (kSl1 f ml mh) := by
  unfold mSl; cases m ρ with
  | bad => rfl
  | ok h ρ1 =>
    show (ml ρ1).bind _ = (ml ρ1).bind _
    cases ml ρ1 with
    | bad => rfl
    | ok l ρ2 =>
      show (mh ρ2).bind _ = (mh ρ2).bind _
      cases mh ρ2 with
      | bad => rfl
      | ok u ρ3 =>
        show ((Out.opt (res ρ3 h) ρ3).bind _) = kSl4 f l u ρ3 (res ρ3 h)
        cases res ρ3 h with
        | none => rfl
        | some d => show (Out.opt (f d l u) ρ3).bind _ = oD (f d l u) ρ3; cases f d l u <;> rfl
theorem ev_Mt (f : D → List D → Option D) (m : Rho → Out Hd) (ms : Rho → Out (List Hd)) (ρ : Rho) : mMt f m ms ρ = (m ρ).bind (kMt f ms) := by
  unfold mMt; cases m ρ with
  | bad => rfl
  | ok h ρ1 =>
    show ((Out.opt (res ρ1 h) ρ1).bind _) = kMt1 f ms h ρ1 (res ρ1 h)
    cases res ρ1 h with
    | none => rfl
    | some d0 =>
      show (mRes ms ρ1).bind _ = (mRes ms ρ1).bind _
      cases mRes ms ρ1 with
      | bad => rfl
      | ok ds ρ2 =>
        show ((Out.opt (res ρ2 h) ρ2).bind _) = kMt3 f d0 ds ρ2 (res ρ2 h)
        cases res ρ2 h with
        | none => rfl
        | some d1 =>
          show (Out.opt (f d1 ds) ρ2).bind _ = if (f d0 ds).isSome then oD (f d1 ds) ρ2 else .bad
          cases f d1 ds <;> cases h2 : (f d0 ds).isSome <;> first | rfl | simp [Out.opt, Out.bind, oD]
theorem ev_Next (ρ : Rho) : mNext ρ = .nx ρ := (rfl)
theorem ev_Brk (ρ : Rho) : mBrk ρ = .bk ρ := (rfl)
theorem ev_Cnt (ρ : Rho) : mCnt ρ = .ct ρ := (rfl)
theorem ev_Seq (n1 n2 : Rho → SOut) (ρ : Rho) : mSeq n1 n2 ρ = kSeq n2 (n1 ρ) := by
  unfold mSeq kSeq; cases n1 ρ <;> rfl
theorem ev_Drop (m : Rho → Out Hd) (ρ : Rho) : mDrop m ρ = kDrop (m ρ) := (rfl)
theorem ev_Ret (m : Rho → Out R) (ρ : Rho) : mRet m ρ = kRet (m ρ) := (rfl)
theorem ev_RetN (ρ : Rho) : mRetN ρ = .rt (.sh .non) ρ := (rfl)
theorem ev_If (n : Rho → Out Bool) (a b : Rho → SOut) (ρ : Rho) : mIf n a b ρ = kIf a b (n ρ) := (rfl)
theorem ev_Set (i : Nat) (m : Rho → Out R) (ρ : Rho) : mSet i m ρ = kSet i (m ρ) := (rfl)
theorem ev_Asg (m : Rho → Out R) (g : D → Rho → Option Rho) (ρ : Rho) : mAsg m g ρ = kAsg g (m ρ) := by
  unfold mAsg
  generalize m ρ = o
  match o with
  | .bad => rfl
  | .ok (.sh d) ρ' => show (match g d ρ' with | some ρ2 => _ | none => _) = kAsg2 (g d ρ'); cases g d ρ' <;> rfl
  | .ok (.ol _) _ => rfl
  | .ok (.oK _) _ => rfl
  | .ok (.oT _) _ => rfl
  | .ok (.st _ _) _ => rfl
  | .ok (.scr _) _ => rfl
  | .ok (.tp _ _ _) _ => rfl
  | .ok (.oL _) _ => rfl
  | .ok (.oKC _) _ => rfl
theorem ev_Aug (i : Nat) (f : D → D → Option D) (m : Rho → Out Hd) (ρ : Rho) : mAug i f m ρ = kAug1 i f m ρ ρ[i]? := by
  unfold mAug
  generalize ρ[i]? = o
  match o with
  | none => rfl
  | some none => rfl
  | some (some (.sh d1)) =>
    show (match m ρ with | .ok h ρ' => _ | .bad => _) = kAug2 i f d1 (m ρ)
    cases m ρ with
    | bad => rfl
    | ok h ρ' =>
      show (match res ρ' h with | some d2 => _ | none => _) = kAug3 i f d1 ρ' (res ρ' h)
      unfold kAug3; cases res ρ' h with
      | none => rfl
      | some d2 => show (match f d1 d2 with | some d => _ | none => _) = kAug4 i ρ' (f d1 d2); unfold kAug4; cases f d1 d2 <;> rfl
  | some (some (.ol _)) => rfl
  | some (some (.oK _)) => rfl
  | some (some (.oT _)) => rfl
  | some (some (.st _ _)) => rfl
  | some (some (.scr _)) => rfl
  | some (some (.tp _ _ _)) => rfl
  | some (some (.oL _)) => rfl
  | some (some (.oKC _)) => rfl
theorem ev_ItS (m : Rho → Out Hd) (ρ : Rho) : mItS m ρ = (m ρ).bind kIt := by
  unfold mItS; cases m ρ <;> rfl
theorem ev_ItR (f : List D → Option (List D)) (ms : Rho → Out (List Hd)) (ρ : Rho) : mItR f ms ρ = (mRes ms ρ).bind (kItR f) := by
  unfold mItR; cases mRes ms ρ with
  | bad => rfl
  | ok ds ρ1 => show (Out.opt (f ds) ρ1).bind _ = oDs (f ds) ρ1; cases f ds <;> rfl
theorem ev_For (mi : Rho → Out (List D)) (g : D → Rho → Option Rho) (mb : Rho → SOut) (ρ : Rho) : mFor mi g mb ρ = kFor g mb (mi ρ) := (rfl)
theorem ev_forN (g : D → Rho → Option Rho) (mb : Rho → SOut) (ρ : Rho) : forL g mb [] ρ = .nx ρ := (rfl)
theorem ev_forC (g : D → Rho → Option Rho) (mb : Rho → SOut) (d : D) (ds : List D) (ρ : Rho) : forL g mb (d :: ds) ρ = kFo1 g mb ds (g d ρ) := by
  rw [forL]; cases g d ρ with
  | none => rfl
  | some ρ1 => rfl
theorem ev_while (mc : Rho → Out Bool) (mb : Rho → SOut) (n : Nat) (ρ : Rho) : whileN mc mb (n + 1) ρ = kW1 mc mb n (mc ρ) := by
  rw [whileN]; cases mc ρ <;> rfl
theorem ev_Lc (vs : List Nat) (mi : Rho → Out (List D)) (g : D → Rho → Option Rho) (mt : Rho → Out Bool) (me : Rho → Out R) (ρ : Rho) : mLc vs mi g mt me ρ = (mi ρ).bind (kLc1 vs g mt me) := (rfl)
theorem ev_compN (vs : List Nat) (g : D → Rho → Option Rho) (mt : Rho → Out Bool) (me : Rho → Out R) (ρ : Rho) : compL vs g mt me [] ρ = .ok [] ρ := (rfl)
theorem ev_compC (vs : List Nat) (g : D → Rho → Option Rho) (mt : Rho → Out Bool) (me : Rho → Out R) (d : D) (ds : List D) (ρ : Rho) : compL vs g mt me (d :: ds) ρ = kC1 vs g mt me ds (g d ρ) := by
  rw [compL]; cases g d ρ with
  | none => rfl
  | some ρ1 =>
    show (mt ρ1).bind _ = (mt ρ1).bind _
    cases mt ρ1 with
    | bad => rfl
    | ok b ρ2 => rfl
theorem ev_True (ρ : Rho) : mTrue ρ = .ok true ρ := (rfl)
theorem app3_eq (i : Nat) (d : D) (ρ : Rho) : (match ρ[i]? with
      | some (some (.ol ds)) => if ds.length < 1000000 then SOut.nx (ρ.set i (some (.ol (ds ++ [d])))) else .bad
      | _ => .bad) = kApp3 i d ρ ρ[i]? := by
  unfold kApp3
  generalize ρ[i]? = o
  match o with
  | none => rfl
  | some none => rfl
  | some (some (.sh _)) => rfl
  | some (some (.ol _)) => rfl
  | some (some (.oK _)) => rfl
  | some (some (.oT _)) => rfl
  | some (some (.st _ _)) => rfl
  | some (some (.scr _)) => rfl
  | some (some (.tp _ _ _)) => rfl
  | some (some (.oL _)) => rfl
  | some (some (.oKC _)) => rfl
theorem ev_App (i : Nat) (m : Rho → Out Hd) (ρ : Rho) : mApp i m ρ = kApp1 i m ρ ρ[i]? := by
  unfold mApp
  generalize ρ[i]? = o
  match o with
  | none => rfl
  | some none => rfl
  | some (some (.sh _)) => rfl
  | some (some (.ol _)) =>
    show (match mS m ρ with | .ok (.sh d) ρ1 => _ | _ => _) = kApp2 i (mS m ρ)
    generalize mS m ρ = o
    match o with
    | .bad => rfl
    | .ok (.sh d) ρ' => exact app3_eq i d ρ'
    | .ok (.ol _) _ => rfl
    | .ok (.oK _) _ => rfl
    | .ok (.oT _) _ => rfl
    | .ok (.st _ _) _ => rfl
    | .ok (.scr _) _ => rfl
    | .ok (.tp _ _ _) _ => rfl
    | .ok (.oL _) _ => rfl
    | .ok (.oKC _) _ => rfl
  | some (some (.oK _)) => rfl
  | some (some (.oT _)) => rfl
  | some (some (.st _ _)) => rfl
  | some (some (.scr _)) => rfl
  | some (some (.tp _ _ _)) => rfl
  | some (some (.oL _)) => rfl
  | some (some (.oKC _)) => rfl
theorem sl4_eq (i : Nat) (d : D) (k : Int) (ρ : Rho) : (match ρ[i]? with
      | some (some (.ol ds)) => match ixN ds.length k with
            | some j => SOut.nx (ρ.set i (some (.ol (ds.set j d))))
            | none => .bad
      | _ => .bad) = kSL4 i d k ρ ρ[i]? := by
  generalize ρ[i]? = o
  match o with
  | none => rfl
  | some none => rfl
  | some (some (.sh _)) => rfl
  | some (some (.ol ds)) => show (match ixN ds.length k with | some j => SOut.nx (ρ.set i (some (.ol (ds.set j d)))) | none => .bad) = kSL5 i d ds ρ (ixN ds.length k); cases ixN ds.length k <;> rfl
  | some (some (.oK _)) => rfl
  | some (some (.oT _)) => rfl
  | some (some (.st _ _)) => rfl
  | some (some (.scr _)) => rfl
  | some (some (.tp _ _ _)) => rfl
  | some (some (.oL _)) => rfl
  | some (some (.oKC _)) => rfl
theorem ev_SetL (i : Nat) (mi m : Rho → Out Hd) (ρ : Rho) : mSetL i mi m ρ = kSL0 i mi (mS m ρ) := by
  unfold mSetL
  generalize mS m ρ = o
  match o with
  | .bad => rfl
  | .ok (.sh d) ρ1 =>
    show _ = kSL1 i mi d ρ1 ρ1[i]?
    show (match ρ1[i]? with | some (some (.ol _)) => _ | _ => _) = _
    generalize ρ1[i]? = o
    match o with
    | none => rfl
    | some none => rfl
    | some (some (.sh _)) => rfl
    | some (some (.ol _)) =>
      show (match mi ρ1 with | .ok h ρ2 => _ | .bad => _) = kSL2 i d (mi ρ1)
      cases mi ρ1 with
      | bad => rfl
      | ok h ρ2 =>
        show (match res ρ2 h with | some (.int k) => _ | _ => _) = kSL3 i d ρ2 (res ρ2 h)
        generalize res ρ2 h = o
        match o with
        | some (.int k) => exact sl4_eq i d k ρ2
        | none => rfl
        | some .non => rfl
        | some (.bl _) => rfl
        | some (.str _) => rfl
        | some (.fn _) => rfl
        | some (.ty _) => rfl
        | some (.tup _) => rfl
        | some (.lst _) => rfl
        | some (.dK _) => rfl
        | some (.dT _) => rfl
    | some (some (.oK _)) => rfl
    | some (some (.oT _)) => rfl
    | some (some (.st _ _)) => rfl
    | some (some (.scr _)) => rfl
    | some (some (.tp _ _ _)) => rfl
    | some (some (.oL _)) => rfl
    | some (some (.oKC _)) => rfl
  | .ok (.ol _) _ => rfl
  | .ok (.oK _) _ => rfl
  | .ok (.oT _) _ => rfl
  | .ok (.st _ _) _ => rfl
  | .ok (.scr _) _ => rfl
  | .ok (.tp _ _ _) _ => rfl
  | .ok (.oL _) _ => rfl
  | .ok (.oKC _) _ => rfl
theorem ev_fnM (N n : Nat) (B : List Nat) (mb : Rho → SOut) (rs : List R) (h : rs.length = n) : fnM N n B mb rs = kFM B rs (mb (rs.map some ++ List.replicate (N - n) none)) := by
  unfold fnM kFM; rw [if_pos h]
  cases mb (rs.map some ++ List.replicate (N - n) none) with
  | rt r ρ => show (match collect B ρ 0 rs with | some rs' => some (r, rs') | none => none) = (collect B ρ 0 rs).map fun rs' => (r, rs'); cases collect B ρ 0 rs <;> rfl
  | nx ρ => show (match collect B ρ 0 rs with | some rs' => some (R.sh .non, rs') | none => none) = (collect B ρ 0 rs).map fun rs' => (R.sh .non, rs'); cases collect B ρ 0 rs <;> rfl
  | _ => rfl
theorem ev_at (ρ : Rho) (i : Nat) : fzAt ρ (.slt i) = kAt ρ i ρ[i]? := (rfl)
theorem ev_atD (ρ : Rho) (d : D) : fzAt ρ (.dat d) = some (d, ρ) := (rfl)
theorem ev_rs (ρ : Rho) (i : Nat) : res ρ (.slt i) = kRs ρ[i]? := (rfl)
theorem ev_rsD (ρ : Rho) (d : D) : res ρ (.dat d) = some d := (rfl)
theorem oD_s (d : D) (ρ : Rho) : oD (some d) ρ = .ok (.dat d) ρ := (rfl)
theorem oB_s (b : Bool) (ρ : Rho) : oB (some b) ρ = .ok b ρ := (rfl)
theorem oL_s (ds : List D) (ρ : Rho) : oL (some ds) ρ = .ok (.ol ds) ρ := (rfl)
theorem oDs_s (ds : List D) (ρ : Rho) : oDs (some ds) ρ = .ok ds ρ := (rfl)
theorem kF_ (r : R) (ρ : Rho) : kF r ρ = oD r.frz ρ := (rfl)
theorem kS_ (h : Hd) (ρ : Rho) : kS h ρ = kS2 (fzAt ρ h) := (rfl)
theorem kS2_ (d : D) (ρ : Rho) : kS2 (some (d, ρ)) = .ok (.sh d) ρ := (rfl)
theorem kV_ (i : Nat) (ρ : Rho) (r : R) : kV i ρ (some (some r)) = .ok (.slt i) ρ := (rfl)
theorem kM_ (i : Nat) (ρ : Rho) (r : R) : kM i ρ (some (some r)) = .ok r (ρ.set i none) := (rfl)
theorem kBin3_ (f : D → D → Option D) (ρ : Rho) (d1 d2 : D) : kBin3 f ρ (some d1) (some d2) = oD (f d1 d2) ρ := (rfl)
theorem kBin2_ (f : D → D → Option D) (h1 h2 : Hd) (ρ : Rho) : kBin2 f h1 h2 ρ = kBin3 f ρ (res ρ h1) (res ρ h2) := (rfl)
theorem kBin1_ (f : D → D → Option D) (m2 : Rho → Out Hd) (h1 : Hd) (ρ : Rho) : kBin1 f m2 h1 ρ = (m2 ρ).bind (kBin2 f h1) := (rfl)
theorem kCh4_ (g : D → D → Option D) (h2 h3 : Hd) (ρ : Rho) : kCh4 g h2 h3 ρ = kBin3 g ρ (res ρ h2) (res ρ h3) := (rfl)
theorem kCh3t (g : D → D → Option D) (m3 : Rho → Out Hd) (h2 : Hd) (ρ : Rho) : kCh3 g m3 h2 ρ (some (.bl true)) = (m3 ρ).bind (kCh4 g h2) := (rfl)
theorem kCh3f (g : D → D → Option D) (m3 : Rho → Out Hd) (h2 : Hd) (ρ : Rho) : kCh3 g m3 h2 ρ (some (.bl false)) = .ok (.dat (.bl false)) ρ := (rfl)
theorem kCh2'_ (f g : D → D → Option D) (m3 : Rho → Out Hd) (h2 : Hd) (ρ : Rho) (d1 d2 : D) : kCh2' f g m3 h2 ρ (some d1) (some d2) = kCh3 g m3 h2 ρ (f d1 d2) := (rfl)
theorem kCh2_ (f g : D → D → Option D) (m3 : Rho → Out Hd) (h1 h2 : Hd) (ρ : Rho) : kCh2 f g m3 h1 h2 ρ = kCh2' f g m3 h2 ρ (res ρ h1) (res ρ h2) := (rfl)
theorem kCh1_ (f g : D → D → Option D) (m2 m3 : Rho → Out Hd) (h1 : Hd) (ρ : Rho) : kCh1 f g m2 m3 h1 ρ = (m2 ρ).bind (kCh2 f g m3 h1) := (rfl)
theorem kUn2_ (f : D → Option D) (ρ : Rho) (d : D) : kUn2 f ρ (some d) = oD (f d) ρ := (rfl)
theorem kUn_ (f : D → Option D) (h : Hd) (ρ : Rho) : kUn f h ρ = kUn2 f ρ (res ρ h) := (rfl)
theorem kTst2_ (ρ : Rho) (b : Bool) : kTst2 ρ (some (.bl b)) = .ok b ρ := (rfl)
theorem kTst_ (h : Hd) (ρ : Rho) : kTst h ρ = kTst2 ρ (res ρ h) := (rfl)
theorem kTru2_ (ρ : Rho) (d : D) : kTru2 ρ (some d) = oB (tru d) ρ := (rfl)
theorem kTru_ (h : Hd) (ρ : Rho) : kTru h ρ = kTru2 ρ (res ρ h) := (rfl)
theorem kAndt (m : Rho → Out Bool) (ρ : Rho) : kAnd m true ρ = m ρ := (rfl)
theorem kAndf (m : Rho → Out Bool) (ρ : Rho) : kAnd m false ρ = .ok false ρ := (rfl)
theorem kOrt (m : Rho → Out Bool) (ρ : Rho) : kOr m true ρ = .ok true ρ := (rfl)
theorem kOrf (m : Rho → Out Bool) (ρ : Rho) : kOr m false ρ = m ρ := (rfl)
theorem kNot_ (b : Bool) (ρ : Rho) : kNot b ρ = .ok (!b) ρ := (rfl)
theorem kAndVt (m : Rho → Out Hd) (ρ : Rho) : kAndV m true ρ = m ρ := (rfl)
theorem kAndVf (m : Rho → Out Hd) (ρ : Rho) : kAndV m false ρ = .ok (.dat (.bl false)) ρ := (rfl)
theorem kOrVt (m : Rho → Out Hd) (ρ : Rho) : kOrV m true ρ = .ok (.dat (.bl true)) ρ := (rfl)
theorem kOrVf (m : Rho → Out Hd) (ρ : Rho) : kOrV m false ρ = m ρ := (rfl)
theorem kNotV_ (b : Bool) (ρ : Rho) : kNotV b ρ = .ok (.dat (.bl (!b))) ρ := (rfl)
theorem kIfEt (m1 m2 : Rho → Out Hd) (ρ : Rho) : kIfE m1 m2 true ρ = m1 ρ := (rfl)
theorem kIfEf (m1 m2 : Rho → Out Hd) (ρ : Rho) : kIfE m1 m2 false ρ = m2 ρ := (rfl)
theorem kCons2_ (h : Hd) (hs : List Hd) (ρ : Rho) : kCons2 h hs ρ = .ok (h :: hs) ρ := (rfl)
theorem kCons_ (ms : Rho → Out (List Hd)) (h : Hd) (ρ : Rho) : kCons ms h ρ = (ms ρ).bind (kCons2 h) := (rfl)
theorem kFz2_ (ds : List D) (ρ : Rho) : kFz2 (some (ds, ρ)) = .ok ds ρ := (rfl)
theorem kFz_ (hs : List Hd) (ρ : Rho) : kFz hs ρ = kFz2 (fzL ρ hs) := (rfl)
theorem kTup_ (ds : List D) (ρ : Rho) : kTup ds ρ = .ok (.dat (.tup ds)) ρ := (rfl)
theorem kLst_ (ds : List D) (ρ : Rho) : kLst ds ρ = .ok (.ol ds) ρ := (rfl)
theorem kRes_ (hs : List Hd) (ρ : Rho) : kRes hs ρ = oDs (resL ρ hs) ρ := (rfl)
theorem kCall_ (f : List D → Option D) (ds : List D) (ρ : Rho) : kCall f ds ρ = oD (f ds) ρ := (rfl)
theorem kCallL_ (f : List D → Option (List D)) (ds : List D) (ρ : Rho) : kCallL f ds ρ = oL (f ds) ρ := (rfl)
theorem kFn3_ (ρ1 ρ2 : Rho) (r : R) (rs : List R) : kFn3 ρ1 ρ2 (some (r, rs)) = if flatR r = true then .ok r ρ1 else .ok r ρ2 := (rfl)
theorem kFn2_ (f : List R → Option (R × List R)) (ρ1 ρ2 : Rho) (ds : List D) : kFn2 f ρ1 (some (ds, ρ2)) = kFn3 ρ1 ρ2 (f (ds.map R.sh)) := (rfl)
theorem kFn_ (f : List R → Option (R × List R)) (hs : List Hd) (ρ : Rho) : kFn f hs ρ = kFn2 f ρ (fzL ρ hs) := (rfl)
theorem kG4_ (i : Nat) (ρ2 : Rho) (r r1 : R) (rs : List R) : kG4 i ρ2 (some (r, r1 :: rs)) = .ok r (ρ2.set i (some r1)) := (rfl)
theorem kG3_ (i : Nat) (f : List R → Option (R × List R)) (ds : List D) (ρ2 : Rho) (r0 : R) : kG3 i f ds ρ2 (some (some r0)) = kG4 i ρ2 (f (r0 :: ds.map R.sh)) := (rfl)
theorem kG2_ (i : Nat) (f : List R → Option (R × List R)) (ds : List D) (ρ2 : Rho) : kG2 i f (some (ds, ρ2)) = kG3 i f ds ρ2 ρ2[i]? := (rfl)
theorem kG1_ (i : Nat) (f : List R → Option (R × List R)) (hs : List Hd) (ρ : Rho) : kG1 i f hs ρ = kG2 i f (fzL ρ hs) := (rfl)
theorem kG0_ (i : Nat) (f : List R → Option (R × List R)) (ms : Rho → Out (List Hd)) (ρ : Rho) (r : R) : kG0 i f ms ρ (some (some r)) = (ms ρ).bind (kG1 i f) := (rfl)
theorem kQ_ (ρ : Rho) (i : Int) : kQ ρ (some (.int i)) = .ok (some i) ρ := (rfl)
theorem kQ1_ (h : Hd) (ρ : Rho) : kQ1 h ρ = kQ ρ (res ρ h) := (rfl)
theorem kSl4_ (f : D → Option Int → Option Int → Option D) (l u : Option Int) (ρ : Rho) (d : D) : kSl4 f l u ρ (some d) = oD (f d l u) ρ := (rfl)
theorem kSl3_ (f : D → Option Int → Option Int → Option D) (h : Hd) (l u : Option Int) (ρ : Rho) : kSl3 f h l u ρ = kSl4 f l u ρ (res ρ h) := (rfl)
theorem kSl2_ (f : D → Option Int → Option Int → Option D) (mh : Rho → Out (Option Int)) (h : Hd) (l : Option Int) (ρ : Rho) : kSl2 f mh h l ρ = (mh ρ).bind (kSl3 f h l) := (rfl)
theorem kSl1_ (f : D → Option Int → Option Int → Option D) (ml mh : Rho → Out (Option Int)) (h : Hd) (ρ : Rho) : kSl1 f ml mh h ρ = (ml ρ).bind (kSl2 f mh h) := (rfl)
theorem kSeq_nx (n : Rho → SOut) (ρ : Rho) : kSeq n (.nx ρ) = n ρ := (rfl)
theorem kSeq_rt (n : Rho → SOut) (r : R) (ρ : Rho) : kSeq n (.rt r ρ) = .rt r ρ := (rfl)
theorem kSeq_bk (n : Rho → SOut) (ρ : Rho) : kSeq n (.bk ρ) = .bk ρ := (rfl)
theorem kSeq_ct (n : Rho → SOut) (ρ : Rho) : kSeq n (.ct ρ) = .ct ρ := (rfl)
theorem kDrop_ (h : Hd) (ρ : Rho) : kDrop (.ok h ρ) = .nx ρ := (rfl)
theorem kRet_ (r : R) (ρ : Rho) : kRet (.ok r ρ) = .rt r ρ := (rfl)
theorem kIft (a b : Rho → SOut) (ρ : Rho) : kIf a b (.ok true ρ) = a ρ := (rfl)
theorem kIff (a b : Rho → SOut) (ρ : Rho) : kIf a b (.ok false ρ) = b ρ := (rfl)
theorem kSet_ (i : Nat) (r : R) (ρ : Rho) : kSet i (.ok r ρ) = if i < ρ.length then .nx (ρ.set i (some r)) else .bad := (rfl)
theorem kAsg2_ (ρ : Rho) : kAsg2 (some ρ) = .nx ρ := (rfl)
theorem kAsg_ (g : D → Rho → Option Rho) (d : D) (ρ : Rho) : kAsg g (.ok (.sh d) ρ) = kAsg2 (g d ρ) := (rfl)
theorem kAug4_ (i : Nat) (ρ : Rho) (d : D) : kAug4 i ρ (some d) = if i < ρ.length then .nx (ρ.set i (some (.sh d))) else .bad := (rfl)
theorem kAug3_ (i : Nat) (f : D → D → Option D) (d1 d2 : D) (ρ : Rho) : kAug3 i f d1 ρ (some d2) = kAug4 i ρ (f d1 d2) := (rfl)
theorem kAug2_ (i : Nat) (f : D → D → Option D) (d1 : D) (h : Hd) (ρ : Rho) : kAug2 i f d1 (.ok h ρ) = kAug3 i f d1 ρ (res ρ h) := (rfl)
theorem kAug1_ (i : Nat) (f : D → D → Option D) (m : Rho → Out Hd) (ρ : Rho) (d1 : D) : kAug1 i f m ρ (some (some (.sh d1))) = kAug2 i f d1 (m ρ) := (rfl)
theorem kIt2l (ds : List D) (ρ : Rho) : kIt2 (some (.lst ds, ρ)) = .ok ds ρ := (rfl)
theorem kIt2t (ds : List D) (ρ : Rho) : kIt2 (some (.tup ds, ρ)) = .ok ds ρ := (rfl)
theorem kIt_ (h : Hd) (ρ : Rho) : kIt h ρ = kIt2 (fzAt ρ h) := (rfl)
theorem kItR_ (f : List D → Option (List D)) (ds : List D) (ρ : Rho) : kItR f ds ρ = oDs (f ds) ρ := (rfl)
theorem kFor_ (g : D → Rho → Option Rho) (mb : Rho → SOut) (ds : List D) (ρ : Rho) : kFor g mb (.ok ds ρ) = forL g mb ds ρ := (rfl)
theorem kFo2n (g : D → Rho → Option Rho) (mb : Rho → SOut) (ds : List D) (ρ : Rho) : kFo2 g mb ds (.nx ρ) = forL g mb ds ρ := (rfl)
theorem kFo2c (g : D → Rho → Option Rho) (mb : Rho → SOut) (ds : List D) (ρ : Rho) : kFo2 g mb ds (.ct ρ) = forL g mb ds ρ := (rfl)
theorem kFo2b (g : D → Rho → Option Rho) (mb : Rho → SOut) (ds : List D) (ρ : Rho) : kFo2 g mb ds (.bk ρ) = .nx ρ := (rfl)
theorem kFo2r (g : D → Rho → Option Rho) (mb : Rho → SOut) (ds : List D) (r : R) (ρ : Rho) : kFo2 g mb ds (.rt r ρ) = .rt r ρ := (rfl)
theorem kFo1_ (g : D → Rho → Option Rho) (mb : Rho → SOut) (ds : List D) (ρ : Rho) : kFo1 g mb ds (some ρ) = kFo2 g mb ds (mb ρ) := (rfl)
theorem kW2n (mc : Rho → Out Bool) (mb : Rho → SOut) (n : Nat) (ρ : Rho) : kW2 mc mb n (.nx ρ) = whileN mc mb n ρ := (rfl)
theorem kW2c (mc : Rho → Out Bool) (mb : Rho → SOut) (n : Nat) (ρ : Rho) : kW2 mc mb n (.ct ρ) = whileN mc mb n ρ := (rfl)
theorem kW2b (mc : Rho → Out Bool) (mb : Rho → SOut) (n : Nat) (ρ : Rho) : kW2 mc mb n (.bk ρ) = .nx ρ := (rfl)
theorem kW2r (mc : Rho → Out Bool) (mb : Rho → SOut) (n : Nat) (r : R) (ρ : Rho) : kW2 mc mb n (.rt r ρ) = .rt r ρ := (rfl)
theorem kW1t (mc : Rho → Out Bool) (mb : Rho → SOut) (n : Nat) (ρ : Rho) : kW1 mc mb n (.ok true ρ) = kW2 mc mb n (mb ρ) := (rfl)
theorem kW1f (mc : Rho → Out Bool) (mb : Rho → SOut) (n : Nat) (ρ : Rho) : kW1 mc mb n (.ok false ρ) = .nx ρ := (rfl)
theorem kLc2_ (xs : List D) (ρ : Rho) : kLc2 xs ρ = .ok (.ol xs) ρ := (rfl)
theorem kLc1_ (vs : List Nat) (g : D → Rho → Option Rho) (mt : Rho → Out Bool) (me : Rho → Out R) (ds : List D) (ρ : Rho) : kLc1 vs g mt me ds ρ = if ds.length ≤ 1000000 then (compL vs g mt me ds (wipeR ρ vs)).bind kLc2 else .bad := (rfl)
theorem kC4_ (x : D) (xs : List D) (ρ : Rho) : kC4 x xs ρ = .ok (x :: xs) ρ := (rfl)
theorem kC3_ (vs : List Nat) (g : D → Rho → Option Rho) (mt : Rho → Out Bool) (me : Rho → Out R) (ds : List D) (x : D) (ρ : Rho) : kC3 vs g mt me ds (.ok (.sh x) ρ) = (compL vs g mt me ds (wipeR ρ vs)).bind (kC4 x) := (rfl)
theorem kC2t (vs : List Nat) (g : D → Rho → Option Rho) (mt : Rho → Out Bool) (me : Rho → Out R) (ds : List D) (ρ : Rho) : kC2 vs g mt me ds true ρ = kC3 vs g mt me ds (me ρ) := (rfl)
theorem kC2f (vs : List Nat) (g : D → Rho → Option Rho) (mt : Rho → Out Bool) (me : Rho → Out R) (ds : List D) (ρ : Rho) : kC2 vs g mt me ds false ρ = compL vs g mt me ds (wipeR ρ vs) := (rfl)
theorem kC1_ (vs : List Nat) (g : D → Rho → Option Rho) (mt : Rho → Out Bool) (me : Rho → Out R) (ds : List D) (ρ : Rho) : kC1 vs g mt me ds (some ρ) = (mt ρ).bind (kC2 vs g mt me ds) := (rfl)
theorem kApp3_ (i : Nat) (d : D) (ρ : Rho) (ds : List D) : kApp3 i d ρ (some (some (.ol ds))) = if ds.length < 1000000 then .nx (ρ.set i (some (.ol (ds ++ [d])))) else .bad := (rfl)
theorem kApp2_ (i : Nat) (d : D) (ρ : Rho) : kApp2 i (.ok (.sh d) ρ) = kApp3 i d ρ ρ[i]? := (rfl)
theorem kApp1_ (i : Nat) (m : Rho → Out Hd) (ρ : Rho) (ds : List D) : kApp1 i m ρ (some (some (.ol ds))) = kApp2 i (mS m ρ) := (rfl)
theorem kSL5_ (i : Nat) (d : D) (ds : List D) (ρ : Rho) (j : Nat) : kSL5 i d ds ρ (some j) = .nx (ρ.set i (some (.ol (ds.set j d)))) := (rfl)
theorem kSL4_ (i : Nat) (d : D) (k : Int) (ρ : Rho) (ds : List D) : kSL4 i d k ρ (some (some (.ol ds))) = kSL5 i d ds ρ (ixN ds.length k) := (rfl)
theorem kSL3_ (i : Nat) (d : D) (ρ : Rho) (k : Int) : kSL3 i d ρ (some (.int k)) = kSL4 i d k ρ ρ[i]? := (rfl)
theorem kSL2_ (i : Nat) (d : D) (h : Hd) (ρ : Rho) : kSL2 i d (.ok h ρ) = kSL3 i d ρ (res ρ h) := (rfl)
theorem kSL1_ (i : Nat) (mi : Rho → Out Hd) (d : D) (ρ : Rho) (ds : List D) : kSL1 i mi d ρ (some (some (.ol ds))) = kSL2 i d (mi ρ) := (rfl)
theorem kSL0_ (i : Nat) (mi : Rho → Out Hd) (d : D) (ρ : Rho) : kSL0 i mi (.ok (.sh d) ρ) = kSL1 i mi d ρ ρ[i]? := (rfl)
theorem kFM_rt (B : List Nat) (rs : List R) (r : R) (ρ : Rho) : kFM B rs (.rt r ρ) = (collect B ρ 0 rs).map fun rs' => (r, rs') := (rfl)
theorem kFM_nx (B : List Nat) (rs : List R) (ρ : Rho) : kFM B rs (.nx ρ) = (collect B ρ 0 rs).map fun rs' => (.sh .non, rs') := (rfl)
theorem kMt3_ (f : D → List D → Option D) (d0 : D) (ds : List D) (ρ : Rho) (d1 : D) : kMt3 f d0 ds ρ (some d1) = if (f d0 ds).isSome then oD (f d1 ds) ρ else .bad := (rfl)
theorem kMt2_ (f : D → List D → Option D) (h : Hd) (d0 : D) (ds : List D) (ρ : Rho) : kMt2 f h d0 ds ρ = kMt3 f d0 ds ρ (res ρ h) := (rfl)
theorem kMt1_ (f : D → List D → Option D) (ms : Rho → Out (List Hd)) (h : Hd) (ρ : Rho) (d0 : D) : kMt1 f ms h ρ (some d0) = (mRes ms ρ).bind (kMt2 f h d0) := (rfl)
theorem kMt_ (f : D → List D → Option D) (ms : Rho → Out (List Hd)) (h : Hd) (ρ : Rho) : kMt f ms h ρ = kMt1 f ms h ρ (res ρ h) := (rfl)
theorem kAt_sh (ρ : Rho) (i : Nat) (d : D) : kAt ρ i (some (some (.sh d))) = some (d, ρ) := (rfl)
theorem kAt_ol (ρ : Rho) (i : Nat) (ds : List D) : kAt ρ i (some (some (.ol ds))) = some (.lst ds, ρ.set i (some (.sh (.lst ds)))) := (rfl)
theorem kAt_oK (ρ : Rho) (i : Nat) (ds : List (Key × D)) : kAt ρ i (some (some (.oK ds))) = some (.dK ds, ρ.set i (some (.sh (.dK ds)))) := (rfl)
theorem kRs_sh (d : D) : kRs (some (some (.sh d))) = some d := (rfl)
theorem kRs_ol (ds : List D) : kRs (some (some (.ol ds))) = some (.lst ds) := (rfl)
theorem kRs_oK (ds : List (Key × D)) : kRs (some (some (.oK ds))) = some (.dK ds) := (rfl)
theorem frz_sh (d : D) : R.frz (.sh d) = some d := (rfl)
theorem frz_ol (ds : List D) : R.frz (.ol ds) = some (.lst ds) := (rfl)
theorem frz_oK (ds : List (Key × D)) : R.frz (.oK ds) = some (.dK ds) := (rfl)
theorem flat_ol (ds : List D) : flatR (.ol ds) = false := (rfl)
theorem flat_oK (ds : List (Key × D)) : flatR (.oK ds) = false := (rfl)
theorem flat_sh (d : D) : flatR (.sh d) = flatD d := (rfl)
theorem flat_int (i : Int) : flatD (.int i) = true := (rfl)
theorem flat_bl (i : Bool) : flatD (.bl i) = true := (rfl)
theorem flat_str (i : Str) : flatD (.str i) = true := (rfl)
theorem flat_non : flatD .non = true := (rfl)
theorem flat_tup (ds : List D) : flatD (.tup ds) = false := (rfl)
theorem flat_lst (ds : List D) : flatD (.lst ds) = false := (rfl)
theorem flat_dK (ds : List (Key × D)) : flatD (.dK ds) = false := (rfl)
theorem gNm_ (i : Nat) (d : D) (ρ : Rho) : gNm i d ρ = if i < ρ.length then some (ρ.set i (some (.sh d))) else none := (rfl)
theorem gNil_ (ρ : Rho) : gNil' [] ρ = some ρ := (rfl)
theorem gTup_ (n : Nat) (g : List D → Rho → Option Rho) (ds : List D) (ρ : Rho) : gTup' n g (.tup ds) ρ = if ds.length = n then g ds ρ else none := (rfl)
theorem resL_n (ρ : Rho) : resL ρ [] = some [] := (rfl)
theorem fzL_n (ρ : Rho) : fzL ρ [] = some ([], ρ) := (rfl)
theorem wipeR_n (ρ : Rho) : wipeR ρ [] = ρ := (rfl)
theorem wipeR_c (ρ : Rho) (v : Nat) (vs : List Nat) : wipeR ρ (v :: vs) = (wipeR ρ vs).set v none := (rfl)
def kL2 (d : D) (o : Option (List D)) : Option (List D) := match o with
  | some ds => some (d :: ds)
  | none => none
def kL1 (ρ : Rho) (hs : List Hd) (o : Option D) : Option (List D) := match o with
  | some d => kL2 d (resL ρ hs)
  | none => none
theorem resL_c (ρ : Rho) (h : Hd) (hs : List Hd) : resL ρ (h :: hs) = kL1 ρ hs (res ρ h) := by
  rw [resL]; cases res ρ h with
  | none => rfl
  | some d => show (match resL ρ hs with | some ds => _ | none => _) = kL2 d (resL ρ hs); cases resL ρ hs <;> rfl
theorem kL2_ (d : D) (ds : List D) : kL2 d (some ds) = some (d :: ds) := (rfl)
theorem kL1_ (ρ : Rho) (hs : List Hd) (d : D) : kL1 ρ hs (some d) = kL2 d (resL ρ hs) := (rfl)
def kZ2 (d : D) (o : Option (List D × Rho)) : Option (List D × Rho) := match o with
  | some (ds, ρ) => some (d :: ds, ρ)
  | none => none
def kZ1 (hs : List Hd) (o : Option (D × Rho)) : Option (List D × Rho) := match o with
  | some (d, ρ) => kZ2 d (fzL ρ hs)
  | none => none
theorem fzL_c (ρ : Rho) (h : Hd) (hs : List Hd) : fzL ρ (h :: hs) = kZ1 hs (fzAt ρ h) := by
  rw [fzL]; cases fzAt ρ h with
  | none => rfl
  | some p => obtain ⟨d, ρ1⟩ := p; show (match fzL ρ1 hs with | some (ds, ρ2) => _ | none => _) = kZ2 d (fzL ρ1 hs); cases fzL ρ1 hs <;> rfl
theorem kZ2_ (d : D) (ds : List D) (ρ : Rho) : kZ2 d (some (ds, ρ)) = some (d :: ds, ρ) := (rfl)
theorem kZ1_ (hs : List Hd) (d : D) (ρ : Rho) : kZ1 hs (some (d, ρ)) = kZ2 d (fzL ρ hs) := (rfl)
def kGc (gs : List D → Rho → Option Rho) (ds : List D) (o : Option Rho) : Option Rho := match o with
  | some ρ => gs ds ρ
  | none => none
theorem gCons_ (g : D → Rho → Option Rho) (gs : List D → Rho → Option Rho) (d : D) (ds : List D) (ρ : Rho) : gCons' g gs (d :: ds) ρ = kGc gs ds (g d ρ) := by
  show (match g d ρ with | some ρ1 => gs ds ρ1 | none => none) = kGc gs ds (g d ρ); cases g d ρ <;> rfl
theorem kGc_ (gs : List D → Rho → Option Rho) (ds : List D) (ρ : Rho) : kGc gs ds (some ρ) = gs ds ρ := (rfl)
def kCo2 (B : List Nat) (k : Nat) (r : R) (rs : List R) (o : Option (Option R)) : Option (List R) := if B.contains k then match o with
    | some (some r') => some (r' :: rs)
    | _ => none
  else match r with
    | .sh _ => some (r :: rs)
    | _ => none
def kCo (B : List Nat) (ρ : Rho) (k : Nat) (r : R) (o : Option (List R)) : Option (List R) := match o with
  | some rs => kCo2 B k r rs ρ[k]?
  | none => none
theorem coll_c (B : List Nat) (ρ : Rho) (k : Nat) (r : R) (rs : List R) : collect B ρ k (r :: rs) = kCo B ρ k r (collect B ρ (k + 1) rs) := by
  rw [collect]; cases collect B ρ (k + 1) rs <;> rfl
theorem kCo_ (B : List Nat) (ρ : Rho) (k : Nat) (r : R) (rs : List R) : kCo B ρ k r (some rs) = kCo2 B k r rs ρ[k]? := (rfl)
theorem kCo2_in (B : List Nat) (k : Nat) (r r' : R) (rs : List R) (h : B.contains k = true) : kCo2 B k r rs (some (some r')) = some (r' :: rs) := by unfold kCo2; rw [if_pos h]
theorem kCo2_out (B : List Nat) (k : Nat) (d : D) (rs : List R) (o : Option (Option R)) (h : B.contains k = false) : kCo2 B k (.sh d) rs o = some (.sh d :: rs) := by unfold kCo2; rw [if_neg (by rw [h]; exact Bool.false_ne_true)]

end DL

set_option Elab.async false
set_option linter.all false
set_option maxRecDepth 100000
set_option maxHeartbeats 4000000
set_option profiler true
set_option profiler.threshold 1500
/-! DLs: the helpers that the laws share. -/
namespace DL
open PySem PySem.Spec PyProof.Rows L2
local macro_rules | `(tactic| walk_at "dl") => `(tactic| simp -implicitDefEqProofs [*, ev_fnM, ev_F, ev_S, ev_V, ev_Mv, ev_C, ev_Bin, ev_Chain, ev_Un, ev_Tst, ev_Tru, ev_And, ev_Or, ev_Not, ev_AndV, ev_OrV, ev_NotV, ev_IfE, ev_Nil, ev_Cons, ev_Fz, ev_Tup, ev_Lst, ev_Res, ev_Call, ev_CallL, ev_Fn, ev_Fn1, ev_Q0, ev_Q1, ev_Sl, ev_Mt, ev_Next, ev_Brk, ev_Cnt, ev_Seq, ev_Drop, ev_Ret, ev_RetN, ev_If, ev_Set, ev_Asg, ev_Aug, ev_ItS, ev_ItR, ev_For, ev_forN, ev_True, ev_App, ev_SetL, ev_fnM, ev_at, ev_atD, ev_rs, ev_rsD, oD_s, oB_s, oL_s, oDs_s, kF_, kS_, kS2_, kV_, kM_, kBin3_, kBin2_, kBin1_, kCh4_, kCh3t, kCh3f, kCh2'_, kCh2_, kCh1_, kUn2_, kUn_, kTst2_, kTst_, kTru2_, kTru_, kAndt, kAndf, kOrt, kOrf, kNot_, kAndVt, kAndVf, kOrVt, kOrVf, kNotV_, kIfEt, kIfEf, kCons2_, kCons_, kFz2_, kFz_, kTup_, kLst_, kRes_, kCall_, kCallL_, kFn3_, kFn2_, kFn_, kG4_, kG3_, kG2_, kG1_, kG0_, kQ_, kQ1_, kSl4_, kSl3_, kSl2_, kSl1_, kSeq_nx, kSeq_rt, kSeq_bk, kSeq_ct, kDrop_, kRet_, kIft, kIff, kSet_, kAsg2_, kAsg_, kAug4_, kAug3_, kAug2_, kAug1_, kIt2l, kIt2t, kIt_, kItR_, kFor_, kFo2n, kFo2c, kFo2b, kFo2r, kFo1_, kW2n, kW2c, kW2b, kW2r, kW1t, kW1f, kLc2_, kLc1_, kC4_, kC3_, kC2t, kC2f, kC1_, kApp3_, kApp2_, kApp1_, kSL5_, kSL4_, kSL3_, kSL2_, kSL1_, kSL0_, kFM_rt, kFM_nx, kMt3_, kMt2_, kMt1_, kMt_, kAt_sh, kAt_ol, kAt_oK, kRs_sh, kRs_ol, kRs_oK, frz_sh, frz_ol, frz_oK, flat_ol, flat_oK, flat_sh, flat_int, flat_bl, flat_str, flat_non, flat_tup, flat_lst, flat_dK, gNm_, gNil_, gTup_, resL_n, fzL_n, wipeR_n, wipeR_c, resL_c, kL2_, kL1_, fzL_c, kZ2_, kZ1_, gCons_, kGc_, coll_c, kCo_, kCo2_in, kCo2_out, collect_nil, fAdd, fSub, fMul, fMod, fDiv, fPow, fNeg, fLt, fLe, fGt, fGe, fEq, fNe, deq, fIs, fIsNot, isNon, fLen, fAbs, fInt, fMin, fMax, tru, fIsi, isiAny, tyD, fIxD, fIx, fSl, fSum, fAll, fAny, fList, fTuple, fSorted, bind_ok'])
/-- a comprehension whose turns leave the slots as they were -/
theorem compL_map {vs : List Nat} {g : D → Rho → Option Rho} {me : Rho → Out R} (h : D → D) (ρ : Rho) : ∀ {ds : List D}, (∀ d ∈ ds, ∃ ρ1 ρ2, g d ρ = some ρ1 ∧ me ρ1 = .ok (.sh (h d)) ρ2 ∧ wipeR ρ2 vs = ρ) → compL vs g mTrue me ds ρ = .ok (ds.map h) ρ
  | [], _ => rfl
  | d :: ds, hh => by
    obtain ⟨ρ1, ρ2, e1, e2, e3⟩ := hh d (by simp)
    have ih := compL_map (vs := vs) (g := g) (me := me) h ρ (ds := ds) fun d' hd => hh d' (by simp [hd])
    unfold compL
    rw [e1]
    show (mTrue ρ1).bind _ = _
    simp only [mTrue, bind_ok', if_true, e2, e3, ih, List.map_cons]
theorem forL_inv {g : D → Rho → Option Rho} {mb : Rho → SOut} (P : Rho → Prop) : ∀ {ds : List D} {ρ : Rho}, P ρ → (∀ d ∈ ds, ∀ ρ, P ρ → ∃ ρ1 ρ2, g d ρ = some ρ1 ∧ mb ρ1 = .nx ρ2 ∧ P ρ2) → ∃ ρ', forL g mb ds ρ = .nx ρ' ∧ P ρ'
  | [], ρ, h0, _ => ⟨ρ, rfl, h0⟩
  | d :: ds, ρ, h0, h => by
    obtain ⟨ρ1, ρ2, e1, e2, h2⟩ := h d (by simp) ρ h0
    obtain ⟨ρ', e3, h3⟩ := forL_inv (ds := ds) P h2 fun d' hd => h d' (by simp [hd])
    refine ⟨ρ', ?_, h3⟩
    unfold forL
    simp only [e1, e2, e3]

/-! ### the beginning of the draws -/
def b_law_state : Rho → SOut := (mSeq (mSet 1 (mLc [2] (mItS (mScrSl 0 mQ0 (mQ1 (mC (.int 63))))) (gNm 2) mTrue (mS (mCall fAbs (mCons (mV 2) mNil))))) (mSeq (mIf (mTst (mBin fEq (mCall fLen (mCons (mV 1) mNil)) (mC (.int 0)))) (mSet 1 (mLst (mCons (mC (.int 0)) mNil))) mNext) (mRet (mSt 0 1))))
def f_law_state : List R → Option (R × List R) := fnM 3 1 [0] b_law_state
def absD : D → D
  | .int i => .int (if i < 0 then -i else i)
  | d => d
theorem cut63 (ds : List D) : cutD ds none (some 63) = ds.take 63 := by
  unfold cutD
  rw [HT.sIx_none, show HT.sIx ds.length ds.length (some 63) = min 63 ds.length from HT.sIx_nat ds.length ds.length 63]
  rw [List.drop_zero, Nat.sub_zero]
  by_cases h : 63 ≤ ds.length
  · rw [Nat.min_eq_left h]
  · rw [Nat.min_eq_right (by omega), List.take_length, List.take_of_length_le (by omega)]
theorem state_eq (ns : List Int) : ∃ cs : List Int, cs ≠ [] ∧ f_law_state [.scr ns] = some (.st 0 cs, [.scr ns]) := by
  have hl : ((ns.map D.int).take 63).length ≤ 1000000 := by rw [List.length_take]; omega
  have key : compL [2] (gNm 2) mTrue (mS (mCall fAbs (mCons (mV 2) mNil))) ((ns.map D.int).take 63) [some (.scr ns), none, none] = .ok (((ns.map D.int).take 63).map absD) [some (.scr ns), none, none] := by
    refine compL_map absD _ fun d hd => ?_
    obtain ⟨i, _, rfl⟩ := List.mem_map.mp (List.mem_of_mem_take hd)
    refine ⟨[some (.scr ns), none, some (.sh (.int i))], _, rfl, rfl, ?_⟩
    simp [wipeR]
  have em : ((ns.map D.int).take 63).map absD = ((ns.take 63).map fun i => if i < 0 then -i else i).map D.int := by
    rw [← List.map_take, List.map_map, List.map_map]
    rfl
  have e1 : mLc [2] (mItS (mScrSl 0 mQ0 (mQ1 (mC (.int 63))))) (gNm 2) mTrue (mS (mCall fAbs (mCons (mV 2) mNil))) [some (.scr ns), none, none] = .ok (.ol (((ns.take 63).map fun i => if i < 0 then -i else i).map D.int)) [some (.scr ns), none, none] := by
    unfold mLc
    have e0 : mItS (mScrSl 0 mQ0 (mQ1 (mC (.int 63)))) [some (.scr ns), none, none] = .ok ((ns.map D.int).take 63) [some (.scr ns), none, none] := by
      simp [mItS, mScrSl, mQ0, mQ1, mC, res, fzAt, cut63]
    rw [e0, bind_ok', if_pos hl]
    show (compL [2] (gNm 2) mTrue _ ((ns.map D.int).take 63) [some (.scr ns), none, none]).bind _ = _
    rw [key, em]
    rfl
  generalize ((ns.take 63).map fun i => if i < 0 then -i else i) = cs at e1
  cases cs with
  | nil =>
    refine ⟨[0], by simp, ?_⟩
    simp only [f_law_state, b_law_state]
    simp [fnM, mSeq, mSet, e1, mIf, mTst, mBin, mCall, mRes, mCons, mV, mNil, res, resL, R.frz, R.rd, fLen, mC, fEq, deq, mLst, mFz, fzL, fzAt, mRet, mSt, intsD, collect_cons]
  | cons c cs =>
    refine ⟨c :: cs, by simp, ?_⟩
    have e2 : ¬ ((cs.length : Int) + 1 = 0) := by omega
    simp only [f_law_state, b_law_state]
    simp [fnM, mSeq, mSet, e1, mIf, mTst, mBin, mCall, mRes, mCons, mV, mNil, res, resL, R.frz, R.rd, fLen, mC, fEq, deq, mLst, mFz, fzL, fzAt, mRet, mSt, intsD, collect_cons, e2, mNext]

/-! ### one of a row -/
def b_law_pick : Rho → SOut := (mRet (mS (mBin fIxD (mV 1) (mF (mFn1 0 takeF (mCons (mCall fLen (mCons (mV 1) mNil)) mNil))))))
def f_law_pick : List R → Option (R × List R) := fnM 2 2 [0] b_law_pick
theorem pick_eq {n : Int} {cs : List Int} {ds : List D} (h : cs ≠ []) (h1 : ds ≠ []) (h2 : ds.length < 2 ^ 63) : ∃ (d : D) (n' : Int) (cs' : List Int), d ∈ ds ∧ cs' ≠ [] ∧ f_law_pick [.st n cs, .sh (.lst ds)] = some (.sh d, [.st n' cs', .sh (.lst ds)]) := by
  have hpos : 0 < (ds.length : Int) := by
    cases ds with
    | nil => exact absurd rfl h1
    | cons d r => simp
  obtain ⟨r0, r1⟩ := takeV_range (n := n) (cs := cs) hpos
  have hlt : (takeV n cs ds.length).toNat < ds.length := by omega
  refine ⟨ds[(takeV n cs ds.length).toNat], takeN n cs ds.length, takeC n cs ds.length, List.getElem_mem hlt, takeC_ne h, ?_⟩
  have e := takeF_eq (n := n) h (show (ds.length : Int) < 2 ^ 64 by omega)
  have e2 : atI ds (takeV n cs ds.length) = some ds[(takeV n cs ds.length).toNat] := by
    rw [atI_lt r0 r1, List.getElem?_eq_getElem hlt]
  simp only [f_law_pick, b_law_pick]
  simp [fnM, mRet, mS, mBin, mV, mF, mFn1, mCons, mCall, mRes, mNil, res, resL, R.frz, R.rd, fLen, fzL, fzAt, e, e2, fIxD, fIx, collect_cons]

/-! ### a number of a span -/
def b_law_number : Rho → SOut := (mSeq (mSet 3 (mFn1 0 takeF (mCons (mC (.int 6)) mNil))) (mSeq (mIf (mTst (mBin fEq (mV 3) (mC (.int 0)))) (mRet (mMove 1)) mNext) (mSeq (mIf (mTst (mBin fEq (mV 3) (mC (.int 1)))) (mRet (mMove 2)) mNext) (mSeq (mIf (mTst (mBin fEq (mV 3) (mC (.int 2)))) (mRet (mS (mCall fMin (mCons (mV 2) (mCons (mBin fAdd (mBin fAdd (mV 1) (mC (.int 1))) (mF (mFn1 0 takeF (mCons (mC (.int 3)) mNil)))) mNil))))) mNext) (mSeq (mIf (mTst (mBin fEq (mV 3) (mC (.int 3)))) (mRet (mS (mCall fMax (mCons (mV 1) (mCons (mBin fSub (mBin fSub (mV 2) (mC (.int 1))) (mF (mFn1 0 takeF (mCons (mC (.int 3)) mNil)))) mNil))))) mNext) (mSeq (mSet 4 (mS (mBin fAdd (mBin fSub (mV 2) (mV 1)) (mC (.int 1))))) (mRet (mS (mBin fAdd (mV 1) (mBin fMod (mCall fInt (mCons (mBin fAdd (mBin fMul (mF (mFn1 0 takeF (mCons (mC (.int 65536)) mNil))) (mC (.int 65536))) (mF (mFn1 0 takeF (mCons (mC (.int 65536)) mNil)))) mNil)) (mV 4)))))))))))
def f_law_number : List R → Option (R × List R) := fnM 5 3 [0] b_law_number
theorem number_eq {n : Int} {cs : List Int} {lo hi : Int} (h : cs ≠ []) (hh : lo ≤ hi) : ∃ (x n' : Int) (cs' : List Int), lo ≤ x ∧ x ≤ hi ∧ cs' ≠ [] ∧ f_law_number [.st n cs, .sh (.int lo), .sh (.int hi)] = some (.sh (.int x), [.st n' cs', .sh (.int lo), .sh (.int hi)]) := by
  have e1 := takeF_eq (n := n) (most := 6) h (by decide)
  have g1 : takeC n cs 6 ≠ [] := takeC_ne h
  generalize takeN n cs 6 = n1 at *
  generalize takeC n cs 6 = cs1 at *
  generalize takeV n cs 6 = k at *
  simp only [f_law_number, b_law_number]
  by_cases k0 : k = 0
  · subst k0
    refine ⟨lo, n1, cs1, by omega, hh, g1, ?_⟩
    walk_at "dl"
  by_cases k1 : k = 1
  · subst k1
    refine ⟨hi, n1, cs1, by omega, by omega, g1, ?_⟩
    walk_at "dl"
  have e2 := takeF_eq (n := n1) (most := 3) g1 (by decide)
  have g2 : takeC n1 cs1 3 ≠ [] := takeC_ne g1
  obtain ⟨r0, r1⟩ := takeV_range (n := n1) (cs := cs1) (most := 3) (by decide)
  generalize hn2 : takeN n1 cs1 3 = n2 at *
  generalize hc2 : takeC n1 cs1 3 = cs2 at *
  generalize hx2 : takeV n1 cs1 3 = x2 at *
  by_cases k2 : k = 2
  · subst k2
    refine ⟨if lo + 1 + x2 < hi then lo + 1 + x2 else hi, n2, cs2, by split <;> omega, by split <;> omega, g2, ?_⟩
    walk_at "dl"
  by_cases k3 : k = 3
  · subst k3
    refine ⟨if hi - 1 - x2 > lo then hi - 1 - x2 else lo, n2, cs2, by split <;> omega, by split <;> omega, g2, ?_⟩
    walk_at "dl"
  have e3 := takeF_eq (n := n1) (most := 65536) g1 (by decide)
  have g3 : takeC n1 cs1 65536 ≠ [] := takeC_ne g1
  obtain ⟨q0, q1⟩ := takeV_range (n := n1) (cs := cs1) (most := 65536) (by decide)
  generalize hn3 : takeN n1 cs1 65536 = n3 at *
  generalize hc3 : takeC n1 cs1 65536 = cs3 at *
  generalize hx3 : takeV n1 cs1 65536 = x3 at *
  have e4 := takeF_eq (n := n3) (most := 65536) g3 (by decide)
  have g4 : takeC n3 cs3 65536 ≠ [] := takeC_ne g3
  generalize hn4 : takeN n3 cs3 65536 = n4 at *
  generalize hc4 : takeC n3 cs3 65536 = cs4 at *
  generalize hx4 : takeV n3 cs3 65536 = x4 at *
  have hs : 0 < hi - lo + 1 := by omega
  have h1 := Int.emod_nonneg (x3 * 65536 + x4) (show hi - lo + 1 ≠ 0 by omega)
  have h2 := Int.emod_lt_of_pos (x3 * 65536 + x4) hs
  refine ⟨lo + (x3 * 65536 + x4) % (hi - lo + 1), n4, cs4, by omega, by omega, g4, ?_⟩
  walk_at "dl"
/-! ### the same: of the kind of what is due, and equal to it -/
def b_law_same (self : List R → Option (R × List R)) : Rho → SOut := (mSeq (mIf (mTst (mBin fIs (mV 1) (mC .non))) (mRet (mS (mBin fIs (mV 0) (mC .non)))) mNext) (mSeq (mIf (mTru (mCall fIsi (mCons (mV 1) (mCons (mTup (mCons (mC (.ty "bool")) (mCons (mC (.ty "str")) mNil))) mNil)))) (mRet (mS (mAndV (mBin fEq (mCall fIsi (mCons (mV 0) (mCons (mC (.ty "bool")) mNil))) (mCall fIsi (mCons (mV 1) (mCons (mC (.ty "bool")) mNil)))) (mAndV (mBin fEq (mCall fIsi (mCons (mV 0) (mCons (mC (.ty "str")) mNil))) (mCall fIsi (mCons (mV 1) (mCons (mC (.ty "str")) mNil)))) (mBin fEq (mV 0) (mV 1)))))) mNext) (mSeq (mIf (mTru (mCall fIsi (mCons (mV 1) (mCons (mC (.ty "int")) mNil)))) (mRet (mS (mAndV (mCall fIsi (mCons (mV 0) (mCons (mC (.ty "int")) mNil))) (mAndV (mNotV (mCall fIsi (mCons (mV 0) (mCons (mC (.ty "bool")) mNil)))) (mBin fEq (mV 0) (mV 1)))))) mNext) (mSeq (mIf (mTru (mCall fIsi (mCons (mV 1) (mCons (mC (.ty "dict")) mNil)))) (mSeq (mIf (mOr (mNot (mTru (mCall fIsi (mCons (mV 0) (mCons (mC (.ty "dict")) mNil))))) (mTst (mBin fNe (mCall fLen (mCons (mV 0) mNil)) (mCall fLen (mCons (mV 1) mNil))))) (mRet (mS (mC (.bl false)))) mNext) (mRet (mS (mCall fAll (mCons (mF (mLc [2] (mItS (mV 1)) (gNm 2) mTrue (mS (mAndV (mBin fIn (mV 2) (mV 0)) (mF (mFn self (mCons (mBin fIxD (mV 0) (mV 2)) (mCons (mBin fIxD (mV 1) (mV 2)) mNil)))))))) mNil))))) mNext) (mSeq (mIf (mOr (mTst (mBin fNe (mCall fIsi (mCons (mV 0) (mCons (mC (.ty "tuple")) mNil))) (mCall fIsi (mCons (mV 1) (mCons (mC (.ty "tuple")) mNil))))) (mOr (mNot (mTru (mCall fIsi (mCons (mV 0) (mCons (mTup (mCons (mC (.ty "tuple")) (mCons (mC (.ty "list")) mNil))) mNil))))) (mTst (mBin fNe (mCall fLen (mCons (mV 0) mNil)) (mCall fLen (mCons (mV 1) mNil)))))) (mRet (mS (mC (.bl false)))) mNext) (mRet (mS (mCall fAll (mCons (mF (mLc [3] (mItR fRng1 (mCons (mCall fLen (mCons (mV 1) mNil)) mNil)) (gNm 3) mTrue (mS (mF (mFn self (mCons (mBin fIxD (mV 0) (mV 3)) (mCons (mBin fIxD (mV 1) (mV 3)) mNil))))))) mNil)))))))))
def f_law_same : Nat → List R → Option (R × List R)
  | 0 => fun _ => none
  | k + 1 => fnM 4 2 [] (b_law_same (f_law_same k))
def plainD : Nat → D → Prop
  | _, .non => True
  | _, .bl _ => True
  | _, .int _ => True
  | _, .str _ => True
  | k + 1, .lst ds => ds.length ≤ 1000000 ∧ ∀ d ∈ ds, plainD k d
  | k + 1, .tup ds => ds.length ≤ 1000000 ∧ ∀ d ∈ ds, plainD k d
  | _, _ => False
theorem same_turns {k : Nat} {ds : List D} {d : D} {x : List D → D} (hx : x = D.lst ∨ x = D.tup) (hl : ds.length ≤ 1000000) (h : ∀ d ∈ ds, f_law_same k [.sh d, .sh d] = some (.sh (.bl true), [.sh d, .sh d])) :
    mLc [3] (mItR fRng1 (mCons (mCall fLen (mCons (mV 1) mNil)) mNil)) (gNm 3) mTrue (mS (mF (mFn (f_law_same k) (mCons (mBin fIxD (mV 0) (mV 3)) (mCons (mBin fIxD (mV 1) (mV 3)) mNil))))) [some (.sh (x ds)), some (.sh (x ds)), none, none] = .ok (.ol ((rngD 0 ds.length).map fun _ => .bl true)) [some (.sh (x ds)), some (.sh (x ds)), none, none] := by
  have e0 : mItR fRng1 (mCons (mCall fLen (mCons (mV 1) mNil)) mNil) [some (.sh (x ds)), some (.sh (x ds)), none, none] = .ok (rngD 0 ds.length) [some (.sh (x ds)), some (.sh (x ds)), none, none] := by
    have e := rng1_nat (n := ds.length) (by omega)
    rcases hx with rfl | rfl <;> walk_at "dl"
  have key : compL [3] (gNm 3) mTrue (mS (mF (mFn (f_law_same k) (mCons (mBin fIxD (mV 0) (mV 3)) (mCons (mBin fIxD (mV 1) (mV 3)) mNil))))) (rngD 0 ds.length) [some (.sh (x ds)), some (.sh (x ds)), none, none] = .ok ((rngD 0 ds.length).map fun _ => .bl true) [some (.sh (x ds)), some (.sh (x ds)), none, none] := by
    refine compL_map (fun _ => .bl true) _ fun d hd => ?_
    obtain ⟨i, hi, rfl⟩ := List.mem_map.mp hd
    rw [List.mem_range] at hi
    refine ⟨[some (.sh (x ds)), some (.sh (x ds)), none, some (.sh (.int (0 + (i : Nat))))], [some (.sh (x ds)), some (.sh (x ds)), none, some (.sh (.int (0 + (i : Nat))))], rfl, ?_, ?_⟩
    · have e1 : atI ds ((0 : Int) + (i : Nat)) = some ds[i] := by
        rw [atI_lt (by omega) (by omega)]
        simp [hi]
      have e2 := h ds[i] (List.getElem_mem hi)
      rw [Int.zero_add] at e1
      rcases hx with rfl | rfl <;> simp only [Int.zero_add] <;> walk_at "dl"
    · simp [wipeR]
  unfold mLc
  rw [e0, bind_ok', if_pos (by unfold rngD; simpa using hl)]
  show (compL [3] (gNm 3) mTrue _ (rngD 0 ds.length) [some (.sh (x ds)), some (.sh (x ds)), none, none]).bind _ = _
  rw [key]
  rfl
theorem bls_true : ∀ xs : List D, blsD (xs.map fun _ => .bl true) = some (List.replicate xs.length true)
  | [] => rfl
  | x :: xs => by rw [List.map_cons, blsD, bls_true xs]; rfl
theorem same_refl : ∀ (k : Nat) (d : D), plainD k d → f_law_same (k + 1) [.sh d, .sh d] = some (.sh (.bl true), [.sh d, .sh d])
  | k, .non, _ => by simp only [f_law_same, b_law_same]; walk_at "dl"
  | k, .bl b, _ => by simp only [f_law_same, b_law_same]; walk_at "dl"
  | k, .int b, _ => by simp only [f_law_same, b_law_same]; walk_at "dl"
  | k, .str b, _ => by simp only [f_law_same, b_law_same]; walk_at "dl"
  | k + 1, .lst ds, h => by
    have e := same_turns (k := k + 1) (d := .non) (x := D.lst) (.inl rfl) h.1 fun d hd => same_refl k d (h.2 d hd)
    simp only [f_law_same] at e
    simp only [f_law_same, b_law_same]
    simp only [b_law_same] at e
    have e2 := bls_true (rngD 0 ds.length)
    walk_at "dl"
  | k + 1, .tup ds, h => by
    have e := same_turns (k := k + 1) (d := .non) (x := D.tup) (.inr rfl) h.1 fun d hd => same_refl k d (h.2 d hd)
    simp only [f_law_same] at e
    simp only [f_law_same, b_law_same]
    simp only [b_law_same] at e
    have e2 := bls_true (rngD 0 ds.length)
    walk_at "dl"
  | 0, .lst _, h => h.elim
  | 0, .tup _, h => h.elim
  | 0, .fn _, h => h.elim
  | 0, .ty _, h => h.elim
  | 0, .dK _, h => h.elim
  | 0, .dT _, h => h.elim
  | _ + 1, .fn _, h => h.elim
  | _ + 1, .ty _, h => h.elim
  | _ + 1, .dK _, h => h.elim
  | _ + 1, .dT _, h => h.elim
end DL

set_option Elab.async false
set_option linter.all false
set_option maxRecDepth 100000
namespace DL
open PySem PySem.Spec PyProof.Rows L2
/-! ### a walk in steps -/
theorem seq_nx {s t : Rho → SOut} {ρ ρ1 : Rho} (h : s ρ = .nx ρ1) : mSeq s t ρ = t ρ1 := by
  simp only [ev_Seq, h, kSeq_nx]
theorem seq_rt {s t : Rho → SOut} {ρ ρ1 : Rho} {r : R} (h : s ρ = .rt r ρ1) : mSeq s t ρ = .rt r ρ1 := by
  simp only [ev_Seq, h, kSeq_rt]
theorem seq_bk {s t : Rho → SOut} {ρ ρ1 : Rho} (h : s ρ = .bk ρ1) : mSeq s t ρ = .bk ρ1 := by
  simp only [ev_Seq, h, kSeq_bk]
theorem seq_ct {s t : Rho → SOut} {ρ ρ1 : Rho} (h : s ρ = .ct ρ1) : mSeq s t ρ = .ct ρ1 := by
  simp only [ev_Seq, h, kSeq_ct]
/-- a loop over a literal range -/
theorem for_rng {c : Int} {g : D → Rho → Option Rho} {mb : Rho → SOut} {ρ : Rho} (h0 : 0 ≤ c := by decide) (h1 : c ≤ 1000000000 := by decide) : mFor (mItR fRng1 (mCons (mC (.int c)) mNil)) g mb ρ = forL g mb (rngD 0 c.toNat) ρ := by
  have r1 := rng1_int h0 h1
  simp -implicitDefEqProofs [r1, ev_F, ev_S, ev_V, ev_Mv, ev_C, ev_Bin, ev_Chain, ev_Un, ev_Tst, ev_Tru, ev_And, ev_Or, ev_Not, ev_AndV, ev_OrV, ev_NotV, ev_IfE, ev_Nil, ev_Cons, ev_Fz, ev_Tup, ev_Lst, ev_Res, ev_Call, ev_CallL, ev_Fn, ev_Fn1, ev_Q0, ev_Q1, ev_Sl, ev_Mt, ev_Next, ev_Brk, ev_Cnt, ev_Seq, ev_Drop, ev_Ret, ev_RetN, ev_If, ev_Set, ev_Asg, ev_Aug, ev_ItS, ev_ItR, ev_For, ev_forN, ev_True, ev_App, ev_SetL, ev_fnM, ev_at, ev_atD, ev_rs, ev_rsD, oD_s, oB_s, oL_s, oDs_s, kF_, kS_, kS2_, kV_, kM_, kBin3_, kBin2_, kBin1_, kCh4_, kCh3t, kCh3f, kCh2'_, kCh2_, kCh1_, kUn2_, kUn_, kTst2_, kTst_, kTru2_, kTru_, kAndt, kAndf, kOrt, kOrf, kNot_, kAndVt, kAndVf, kOrVt, kOrVf, kNotV_, kIfEt, kIfEf, kCons2_, kCons_, kFz2_, kFz_, kTup_, kLst_, kRes_, kCall_, kCallL_, kFn3_, kFn2_, kFn_, kG4_, kG3_, kG2_, kG1_, kG0_, kQ_, kQ1_, kSl4_, kSl3_, kSl2_, kSl1_, kSeq_nx, kSeq_rt, kSeq_bk, kSeq_ct, kDrop_, kRet_, kIft, kIff, kSet_, kAsg2_, kAsg_, kAug4_, kAug3_, kAug2_, kAug1_, kIt2l, kIt2t, kIt_, kItR_, kFor_, kFo2n, kFo2c, kFo2b, kFo2r, kFo1_, kW2n, kW2c, kW2b, kW2r, kW1t, kW1f, kLc2_, kLc1_, kC4_, kC3_, kC2t, kC2f, kC1_, kApp3_, kApp2_, kApp1_, kSL5_, kSL4_, kSL3_, kSL2_, kSL1_, kSL0_, kFM_rt, kFM_nx, kMt3_, kMt2_, kMt1_, kMt_, kAt_sh, kAt_ol, kAt_oK, kRs_sh, kRs_ol, kRs_oK, frz_sh, frz_ol, frz_oK, flat_ol, flat_oK, flat_sh, flat_int, flat_bl, flat_str, flat_non, flat_tup, flat_lst, flat_dK, gNm_, gNil_, gTup_, resL_n, fzL_n, wipeR_n, wipeR_c, resL_c, kL2_, kL1_, fzL_c, kZ2_, kZ1_, gCons_, kGc_, coll_c, kCo_, kCo2_in, kCo2_out, collect_nil, fAdd, fSub, fMul, fMod, fDiv, fPow, fNeg, fLt, fLe, fGt, fGe, fEq, fNe, deq, fIs, fIsNot, isNon, fLen, fAbs, fInt, fMin, fMax, tru, fIsi, isiAny, tyD, fIxD, fIx, fSl, fSum, fAll, fAny, fList, fTuple, fSorted, bind_ok']
theorem mem_rng {lo : Int} {n : Nat} {d : D} (h : d ∈ rngD lo n) : ∃ i : Int, lo ≤ i ∧ i < lo + n ∧ d = .int i := by
  unfold rngD at h
  obtain ⟨i, hi, rfl⟩ := List.mem_map.mp h
  exact ⟨lo + i, by omega, by have := List.mem_range.mp hi; omega, rfl⟩
theorem fnM_rt {N n : Nat} {B : List Nat} {mb : Rho → SOut} {rs rs' : List R} {r : R} {ρ : Rho} (h : mb (rs.map some ++ List.replicate (N - n) none) = .rt r ρ) (hl : rs.length = n) (hc : collect B ρ 0 rs = some rs') : fnM N n B mb rs = some (r, rs') := by
  rw [ev_fnM N n B mb rs hl, h, kFM_rt, hc]; rfl
theorem fnM_nx {N n : Nat} {B : List Nat} {mb : Rho → SOut} {rs rs' : List R} {ρ : Rho} (h : mb (rs.map some ++ List.replicate (N - n) none) = .nx ρ) (hl : rs.length = n) (hc : collect B ρ 0 rs = some rs') : fnM N n B mb rs = some (.sh .non, rs') := by
  rw [ev_fnM N n B mb rs hl, h, kFM_nx, hc]; rfl
/-- a loop whose every pass goes through keeps what a pass keeps -/
theorem for_rng_inv {c : Int} {g : D → Rho → Option Rho} {mb : Rho → SOut} (P : Rho → Prop) {ρ : Rho} (h : P ρ) (hs : ∀ i : Int, 0 ≤ i → i < c → ∀ ρ, P ρ → ∃ ρ1 ρ2, g (.int i) ρ = some ρ1 ∧ mb ρ1 = .nx ρ2 ∧ P ρ2) (h0 : 0 ≤ c := by decide) (h1 : c ≤ 1000000000 := by decide) : ∃ ρ', mFor (mItR fRng1 (mCons (mC (.int c)) mNil)) g mb ρ = .nx ρ' ∧ P ρ' := by
  rw [for_rng h0 h1]
  refine forL_inv P h fun d hd ρ hp => ?_
  obtain ⟨i, a, b, rfl⟩ := mem_rng hd
  exact hs i a (by omega) ρ hp
/-- a comprehension with a state: each pass keeps what it keeps, each item is as told -/
theorem comp_st {vs : List Nat} {g : D → Rho → Option Rho} {me : Rho → Out R} (P : Rho → Prop) (Q : D → Prop) : ∀ {ds : List D} {ρ : Rho}, P ρ → (∀ d ∈ ds, ∀ ρ, P ρ → ∃ ρ1 x ρ2, g d ρ = some ρ1 ∧ me ρ1 = .ok (.sh x) ρ2 ∧ Q x ∧ P (wipeR ρ2 vs)) → ∃ xs ρ', compL vs g mTrue me ds ρ = .ok xs ρ' ∧ P ρ' ∧ xs.length = ds.length ∧ ∀ x ∈ xs, Q x
  | [], ρ, h0, _ => ⟨[], ρ, rfl, h0, rfl, fun x hx => absurd hx (by simp)⟩
  | d :: ds, ρ, h0, h => by
    obtain ⟨ρ1, x, ρ2, e1, e2, q, h2⟩ := h d (by simp) ρ h0
    obtain ⟨xs, ρ', e3, h3, hl, hq⟩ := comp_st (vs := vs) (g := g) (me := me) P Q (ds := ds) h2 fun d' hd => h d' (by simp [hd])
    refine ⟨x :: xs, ρ', ?_, h3, by simp [hl], fun y hy => ?_⟩
    · unfold compL
      rw [e1]
      show (mTrue ρ1).bind _ = _
      simp only [mTrue, bind_ok', if_true, e2, e3]
    · rcases List.mem_cons.mp hy with rfl | hy
      · exact q
      · exact hq y hy
theorem rng_len {lo : Int} {n : Nat} : (rngD lo n).length = n := by simp [rngD]
/-- `[e for v in range(n)]` whose passes keep what they keep -/
theorem lc_rng {vs : List Nat} {ms : Rho → Out (List Hd)} {g : D → Rho → Option Rho} {me : Rho → Out R} {n : Nat} (P : Rho → Prop) (Q : D → Prop) {ρ ρ1 : Rho} (hi : mItR fRng1 ms ρ = .ok (rngD 0 n) ρ1) (hn : n ≤ 1000000) (h0 : P (wipeR ρ1 vs)) (h : ∀ i : Int, 0 ≤ i → i < n → ∀ ρ, P ρ → ∃ ρ1 x ρ2, g (.int i) ρ = some ρ1 ∧ me ρ1 = .ok (.sh x) ρ2 ∧ Q x ∧ P (wipeR ρ2 vs)) : ∃ xs ρ', mLc vs (mItR fRng1 ms) g mTrue me ρ = .ok (.ol xs) ρ' ∧ P ρ' ∧ xs.length = n ∧ ∀ x ∈ xs, Q x := by
  obtain ⟨xs, ρ', e, h1, h2, h3⟩ := comp_st (vs := vs) (g := g) (me := me) P Q (ds := rngD 0 n) h0 fun d hd ρ hp => by
    obtain ⟨i, a, b, rfl⟩ := mem_rng hd
    exact h i a (by omega) ρ hp
  refine ⟨xs, ρ', ?_, h1, by rw [h2, rng_len], h3⟩
  unfold mLc
  rw [hi, bind_ok', if_pos (by rw [rng_len]; exact hn), e]
  rfl
theorem pick_int {n : Int} {cs : List Int} {ds : List D} (h : cs ≠ []) (h1 : ds ≠ []) (h2 : ds.length < 2 ^ 63) (h3 : ∀ d ∈ ds, ∃ z, d = D.int z) : ∃ (z : Int) (n' : Int) (cs' : List Int), .int z ∈ ds ∧ cs' ≠ [] ∧ f_law_pick [.st n cs, .sh (.lst ds)] = some (.sh (.int z), [.st n' cs', .sh (.lst ds)]) := by
  obtain ⟨d, n', cs', hd, g, e⟩ := pick_eq (n := n) h h1 h2
  obtain ⟨z, rfl⟩ := h3 d hd
  exact ⟨z, n', cs', hd, g, e⟩
theorem take_eq {n : Int} {cs : List Int} {most : Int} (h : cs ≠ []) (h0 : 0 < most) (h1 : most < 2 ^ 64) : ∃ (z : Int) (n' : Int) (cs' : List Int), 0 ≤ z ∧ z < most ∧ cs' ≠ [] ∧ takeF [.st n cs, .sh (.int most)] = some (.sh (.int z), [.st n' cs', .sh (.int most)]) := by
  obtain ⟨r0, r1⟩ := takeV_range (n := n) (cs := cs) h0
  exact ⟨_, _, _, r0, r1, takeC_ne h, takeF_eq (n := n) h h1⟩
/-- a loop with a count -/
theorem forL_cnt {g : D → Rho → Option Rho} {mb : Rho → SOut} (P : Nat → Rho → Prop) : ∀ {ds : List D} {k : Nat} {ρ : Rho}, P k ρ → (∀ d ∈ ds, ∀ k' ρ, k ≤ k' → k' < k + ds.length → P k' ρ → ∃ ρ1 ρ2, g d ρ = some ρ1 ∧ mb ρ1 = .nx ρ2 ∧ P (k' + 1) ρ2) → ∃ ρ', forL g mb ds ρ = .nx ρ' ∧ P (k + ds.length) ρ'
  | [], k, ρ, h0, _ => ⟨ρ, rfl, h0⟩
  | d :: ds, k, ρ, h0, h => by
    obtain ⟨ρ1, ρ2, e1, e2, h2⟩ := h d (by simp) k ρ (Nat.le_refl k) (by rw [List.length_cons]; omega) h0
    obtain ⟨ρ', e3, h3⟩ := forL_cnt (ds := ds) P h2 fun d' hd k' ρ' l u => h d' (by simp [hd]) k' ρ' (by omega) (by rw [List.length_cons]; omega)
    refine ⟨ρ', ?_, by rw [List.length_cons, show k + (ds.length + 1) = k + 1 + ds.length by omega]; exact h3⟩
    unfold forL
    simp only [e1, e2, e3]
def Ints (ds : List D) : Prop := ∀ d ∈ ds, ∃ z, d = D.int z
theorem Ints.map {ds : List D} (h : Ints ds) : ∃ zs : List Int, ds = zs.map D.int := by
  induction ds with
  | nil => exact ⟨[], rfl⟩
  | cons d ds ih =>
    obtain ⟨z, rfl⟩ := h d (by simp)
    obtain ⟨zs, e⟩ := ih fun d hd => h d (by simp [hd])
    exact ⟨z :: zs, by rw [e]; rfl⟩
theorem Ints.app {ds es : List D} (h : Ints ds) (g : Ints es) : Ints (ds ++ es) := fun d hd => (List.mem_append.mp hd).elim (h d) (g d)
theorem Ints.nil : Ints [] := fun d hd => absurd hd (by simp)
theorem Ints.sub {ds es : List D} (h : Ints ds) (g : ∀ d ∈ es, d ∈ ds) : Ints es := fun d hd => h d (g d hd)
/-- an owned list or a plain one -/
def Row (r : R) (ds : List D) : Prop := r = .ol ds ∨ r = .sh (.lst ds)
theorem cut_take {ds : List D} {h : Int} (h0 : 0 ≤ h) : cutD ds none (some h) = ds.take h.toNat := by
  obtain ⟨n, rfl⟩ : ∃ n : Nat, h = n := ⟨h.toNat, by omega⟩
  unfold cutD
  rw [HT.sIx_none, show HT.sIx ds.length ds.length (some (n : Int)) = min n ds.length from HT.sIx_nat ds.length ds.length n]
  rw [List.drop_zero, Nat.sub_zero, Int.toNat_natCast]
  by_cases h : n ≤ ds.length
  · rw [Nat.min_eq_left h]
  · rw [Nat.min_eq_right (by omega), List.take_length, List.take_of_length_le (by omega)]
theorem cut_drop {ds : List D} {h : Int} (h0 : 0 ≤ h) : cutD ds (some h) none = ds.drop h.toNat := by
  obtain ⟨n, rfl⟩ : ∃ n : Nat, h = n := ⟨h.toNat, by omega⟩
  unfold cutD
  rw [HT.sIx_none, show HT.sIx ds.length 0 (some (n : Int)) = min n ds.length from HT.sIx_nat ds.length 0 n]
  rw [Int.toNat_natCast]
  by_cases h : n ≤ ds.length
  · rw [Nat.min_eq_left h]
    exact List.take_of_length_le (by rw [List.length_drop]; omega)
  · rw [Nat.min_eq_right (by omega)]
    rw [List.drop_of_length_le (by omega), List.drop_of_length_le (by omega), List.take_nil]
theorem cut_mem {ds : List D} {lo hi : Option Int} {d : D} (h : d ∈ cutD ds lo hi) : d ∈ ds := List.mem_of_mem_drop (List.mem_of_mem_take h)
end DL
namespace DL
open PySem PySem.Spec PyProof.Rows L2
/-- a loop by its places -/
theorem forL_ix {g : D → Rho → Option Rho} {mb : Rho → SOut} (P : Nat → Rho → Prop) : ∀ {ds : List D} {k : Nat} {ρ : Rho}, P k ρ → (∀ (j : Nat) (d : D) (ρ : Rho), ds[j]? = some d → P (k + j) ρ → ∃ ρ1 ρ2, g d ρ = some ρ1 ∧ mb ρ1 = .nx ρ2 ∧ P (k + j + 1) ρ2) → ∃ ρ', forL g mb ds ρ = .nx ρ' ∧ P (k + ds.length) ρ'
  | [], k, ρ, h0, _ => ⟨ρ, rfl, h0⟩
  | d :: ds, k, ρ, h0, h => by
    obtain ⟨ρ1, ρ2, e1, e2, h2⟩ := h 0 d ρ rfl h0
    obtain ⟨ρ', e3, h3⟩ := forL_ix (ds := ds) P (k := k + 1) h2 fun j d' ρ' hj hp => by
      obtain ⟨ρ3, ρ4, a, b, c⟩ := h (j + 1) d' ρ' hj (by rw [show k + (j + 1) = k + 1 + j by omega]; exact hp)
      exact ⟨ρ3, ρ4, a, b, by rw [show k + 1 + j + 1 = k + (j + 1) + 1 by omega]; exact c⟩
    refine ⟨ρ', ?_, by rw [List.length_cons, show k + (ds.length + 1) = k + 1 + ds.length by omega]; exact h3⟩
    unfold forL
    simp only [e1, e2, e3]
theorem rng_at {lo : Int} {n j : Nat} {d : D} (h : (rngD lo n)[j]? = some d) : j < n ∧ d = .int (lo + j) := by
  unfold rngD at h
  rw [List.getElem?_map] at h
  cases e : (List.range n)[j]? with
  | none => rw [e] at h; cases h
  | some i =>
    rw [e] at h
    obtain ⟨hl, hj⟩ := List.getElem?_eq_some_iff.mp e
    rw [List.getElem_range] at hj
    subst hj
    rw [List.length_range] at hl
    cases h
    exact ⟨hl, rfl⟩
theorem rng_ix {n : Nat} {g : D → Rho → Option Rho} {mb : Rho → SOut} (P : Nat → Rho → Prop) {ρ : Rho} (h : P 0 ρ) (hs : ∀ (i : Nat) (ρ : Rho), i < n → P i ρ → ∃ ρ1 ρ2, g (.int i) ρ = some ρ1 ∧ mb ρ1 = .nx ρ2 ∧ P (i + 1) ρ2) : ∃ ρ', forL g mb (rngD 0 n) ρ = .nx ρ' ∧ P n ρ' := by
  obtain ⟨ρ', e, q⟩ := forL_ix (g := g) (mb := mb) P (ds := rngD 0 n) (k := 0) h fun j d ρ hj hp => by
    obtain ⟨a, rfl⟩ := rng_at hj
    rw [Nat.zero_add] at hp ⊢
    rw [Int.zero_add]
    exact hs j ρ a hp
  rw [rng_len, Nat.zero_add] at q
  exact ⟨ρ', e, q⟩
theorem props_map {p : Int → Prop} {ds : List D} (h : ∀ d ∈ ds, ∃ z, d = D.int z ∧ p z) : ∃ zs : List Int, ds = zs.map D.int ∧ ∀ z ∈ zs, p z := by
  induction ds with
  | nil => exact ⟨[], rfl, fun z hz => absurd hz (by simp)⟩
  | cons d ds ih =>
    obtain ⟨z, rfl, hz⟩ := h d (by simp)
    obtain ⟨zs, e, q⟩ := ih fun d hd => h d (by simp [hd])
    refine ⟨z :: zs, by rw [e]; rfl, fun y hy => ?_⟩
    rcases List.mem_cons.mp hy with rfl | hy
    · exact hz
    · exact q y hy
theorem mul_ok {i j : Int} (h : (-(2 ^ 64) < i ∧ i < 2 ^ 64) ∨ (-(2 ^ 64) < j ∧ j < 2 ^ 64)) : fMul (.int i) (.int j) = some (.int (i * j)) := if_pos h
end DL

set_option Elab.async false
set_option linter.all false
set_option maxRecDepth 100000
set_option maxHeartbeats 4000000
/-! DLu: what further laws want. -/
namespace DL
open PySem PySem.Spec PyProof.Rows L2
section
variable {X : Cx} {B : List Nat} {a b c : Expr}
/-! ### range with a step -/
def rngC (lo c : Int) (n : Nat) : List D := (List.range n).map fun i => .int (lo + (i : Nat) * c)
theorem itc_rel {K : PySem.W.Frag} {J' : Hp} (lo c : Int) (n : Nat) : ItRel K J' (Itc lo c n) (rngC lo c n) := fun J1 H1 i s m => ⟨fun d hd => by
  unfold rngC at hd
  rw [List.getElem?_map] at hd
  cases h : (List.range n)[i]? with
  | none => rw [h] at hd; cases hd
  | some j =>
    rw [h] at hd
    obtain ⟨hl, hj⟩ := List.getElem?_eq_some_iff.mp h
    rw [List.getElem_range] at hj
    subst hj
    rw [List.length_range] at hl
    cases hd
    refine ⟨hl, fun x H2 hy => ?_⟩
    obtain ⟨rfl, rfl⟩ := hy
    exact ⟨J1, Ext.refl m, .int _⟩, fun hi => by
  unfold rngC at hi
  rw [List.length_map, List.length_range] at hi
  exact Nat.le_of_eq hi.symm⟩
def rngN (i j c : Int) : Nat := (Builtin.Range.rangeSize i j c).toNat
def rngOk (i j c : Int) : Bool := decide (c ≠ 0) && decide (c.natAbs < 1073741824) && Builtin.Range.small i j c && decide (Builtin.Range.rangeSize i j c = (rngN i j c : Int))
def fRng3 : List D → Option (List D)
  | [.int i, .int j, .int c] => if rngOk i j c = true then some (rngC i c (rngN i j c)) else none
  | _ => none
theorem rngOk_ok {i j c : Int} (h : rngOk i j c = true) : RgC i j c (rngN i j c) := by
  unfold rngOk at h
  simp only [Bool.and_eq_true, decide_eq_true_eq] at h
  exact ⟨h.1.1.1, h.1.1.2, h.1.2, h.2⟩
theorem di_range3 {tg : Expr} {ms : Rho → Out (List Hd)} {p pos : Pos} (hg : Gl X "range") (hm : X.mg "range" = none) (ha : DA X B [a, b, c] ms) (hs : starEach [a, b, c] X.env = (false, eval a X.env) :: starEach [b, c] X.env := by rfl) (hpl : (backTo pos (starEach [b, c] X.env)).any (·.1) = false := by rfl) :
    DI X B tg (.Call (.Name "range" p) [a, b, c] [] pos) (mItR fRng3 ms) :=
  ⟨pi_weak (pi_range3 hg hm ha.pa hs hpl) fun σ H Q ⟨σ0, F, J, ρ, es, ρ', c, e, q⟩ => by
  obtain ⟨ds, ρ1, e1, ea⟩ := bind_ok e
  obtain ⟨hs, e2, e3⟩ := mRes_ok e1
  obtain ⟨es', e4, eb⟩ := bo_ok ea
  cases eb
  refine ⟨σ0, F, J, ρ, hs, _, c, e2, fun J1 H1 vs c1 s1 r1 l => ?_⟩
  have w := c1.resL r1 e3
  unfold fRng3 at e4
  split at e4
  · rename_i i j k
    split at e4
    · rename_i hj
      cases e4
      cases w with
      | cons w1 w2 => cases w2 with
        | cons w2 w3 => cases w3 with
          | cons w3 w4 => cases w4; exact ⟨i, j, k, _, by rw [w1.int, w2.int, w3.int], rngOk_ok hj, q J1 H1 _ c1 s1 (itc_rel i k _)⟩
    · cases e4
  · cases e4⟩
/-- two by two -/
theorem rng_two {n : Nat} (h : n ≤ 1000000000) : fRng3 [.int 0, .int (n : Int), .int 2] = some (rngC 0 2 ((n + 1) / 2)) := by
  have e : Builtin.Range.rangeSize 0 (n : Int) 2 = (((n + 1) / 2 : Nat) : Int) := by
    unfold Builtin.Range.rangeSize
    simp only [show ((2 : Int) > 0) from by decide, if_true]
    split <;> omega
  have en : rngN 0 (n : Int) 2 = (n + 1) / 2 := by
    unfold rngN
    rw [e]
    omega
  have es : Builtin.Range.small 0 (n : Int) 2 = true := by
    unfold Builtin.Range.small
    rw [e]
    have l1 : Builtin.Range.rangeFitsLong 0 = true := by decide
    have fit : forall i : Int, -1000000000000 ≤ i → i ≤ 1000000000000 → Builtin.Range.rangeFitsLong i = true := fun i h1 h2 => by
      unfold Builtin.Range.rangeFitsLong
      rw [Bool.and_eq_true]
      exact ⟨decide_eq_true (by omega), decide_eq_true (by omega)⟩
    rw [if_pos (show (2 : Int) > 0 by decide), l1, fit n (by omega) (by omega), fit 2 (by decide) (by decide), fit _ (by omega) (by omega), fit ((n : Int) + (2 - 1)) (by omega) (by omega), Bool.or_true]
    rfl
  have ok : rngOk 0 (n : Int) 2 = true := by
    unfold rngOk
    rw [es, en, e]
    simp only [Bool.and_eq_true, decide_eq_true_eq]
    exact ⟨⟨⟨by decide, by decide⟩, trivial⟩, trivial⟩
  have e0 : fRng3 [.int 0, .int (n : Int), .int 2] = if rngOk 0 (n : Int) 2 = true then some (rngC 0 2 (rngN 0 (n : Int) 2)) else none := (rfl)
  rw [e0, if_pos ok, en]
end
end DL
namespace DL
open PySem PySem.Spec PyProof.Rows L2
/-! ### draws without the guard -/
def takeV2 (n : Int) (cs : List Int) (most : Int) : Int := if cellI n cs ≥ bigI then cellI n cs % most else mixI n (cellI n cs) / 7 % most
def takeN2 (n : Int) (cs : List Int) (most : Int) : Int := if cellI n cs ≥ bigI then n else n + 1
def takeC2 (n : Int) (cs : List Int) (most : Int) : List Int := if cellI n cs ≥ bigI then cs.set (n % (cs.length : Int)).toNat (cellI n cs / most) else cs
def takeF2 : List R → Option (R × List R)
  | [.st n cs, .sh (.int most)] => if cs ≠ [] ∧ 0 < most ∧ most < 2 ^ 64 then some (.sh (.int (takeV2 n cs most)), [.st (takeN2 n cs most) (takeC2 n cs most), .sh (.int most)]) else none
  | _ => none
theorem takeF2_eq {n : Int} {cs : List Int} {most : Int} (h : cs ≠ []) (h0 : 0 < most) (h1 : most < 2 ^ 64) : takeF2 [.st n cs, .sh (.int most)] = some (.sh (.int (takeV2 n cs most)), [.st (takeN2 n cs most) (takeC2 n cs most), .sh (.int most)]) := if_pos ⟨h, h0, h1⟩
theorem take2_eq {n : Int} {cs : List Int} {most : Int} (h : cs ≠ []) (h0 : 0 < most) (h1 : most < 2 ^ 64) : ∃ (z : Int) (n' : Int) (cs' : List Int), 0 ≤ z ∧ z < most ∧ cs' ≠ [] ∧ takeF2 [.st n cs, .sh (.int most)] = some (.sh (.int z), [.st n' cs', .sh (.int most)]) := by
  refine ⟨_, _, _, ?_, ?_, ?_, takeF2_eq (n := n) h h0 h1⟩
  · unfold takeV2
    split
    · exact Int.emod_nonneg _ (by omega)
    · exact Int.emod_nonneg _ (by omega)
  · unfold takeV2
    split
    · exact Int.emod_lt_of_pos _ h0
    · exact Int.emod_lt_of_pos _ h0
  · unfold takeC2
    split
    · intro e
      have := congrArg List.length e
      rw [List.length_set] at this
      exact h (List.length_eq_zero_iff.mp this)
    · exact h
end DL
namespace DL
open PySem PySem.Spec PyProof.Rows L2
theorem rngc_at {lo c : Int} {n j : Nat} {d : D} (h : (rngC lo c n)[j]? = some d) : j < n ∧ d = .int (lo + j * c) := by
  unfold rngC at h
  rw [List.getElem?_map] at h
  cases e : (List.range n)[j]? with
  | none => rw [e] at h; cases h
  | some i =>
    rw [e] at h
    obtain ⟨hl, hj⟩ := List.getElem?_eq_some_iff.mp e
    rw [List.getElem_range] at hj
    subst hj
    rw [List.length_range] at hl
    cases h
    exact ⟨hl, rfl⟩
theorem rngc_len {lo c : Int} {n : Nat} : (rngC lo c n).length = n := by simp [rngC]
end DL
namespace DL
open PySem PySem.Spec PyProof.Rows L2
section
variable {X : Cx} {B : List Nat}
/-- x[k], a target within a tuple of targets -/
def gIx (i : Nat) (k : Int) : D → Rho → Option Rho := fun d ρ => match ρ[i]? with
  | some (some (.ol ds)) => match ixN ds.length k with
    | some j => some (ρ.set i (some (.ol (ds.set j d))))
    | none => none
  | _ => none
theorem dg_ix (i : Nat) {x : Str} {k : Int} {px pt pk : Pos} (hN : X.N[i]? = some x := by rfl) (hv : Vis X.env.scope x := by first | exact Or.inl rfl | exact Or.inr (Or.inl rfl) | exact Or.inr (Or.inr rfl)) (hd : (x == ("__debug__" : Str)) = false := by decide) (hcd : (x == ("__classdict__" : Str)) = false := by decide)
    (ha : ∀ v, assign (.Subscript (.Name x px) (.Constant (.int k) 0 pk) pt) X.env v = (do
      let ov ← holding [v] (eval (.Name x px) X.env)
      let iv ← holding [v, ov] (eval (.Constant (.int k) 0 pk) X.env)
      standAt pt
      holding [v, ov, iv] (setItem ov iv v)
      release [v, ov, iv] []) := by intro _; rfl) : DG X B [i] (.Subscript (.Name x px) (.Constant (.int k) 0 pk) pt) (gIx i k) := ⟨pg_weak (pg_sub (pe_var hN hv hd hcd) pe_int set_list ha) fun v σ H Q ⟨σ0, F, J, ρ, d, ρ', c, w, e, q⟩ => by
  unfold gIx at e
  split at e
  · rename_i ds h2
    split at e
    · rename_i j ej
      cases e
      obtain ⟨l, vs, el, hl, r⟩ := c.olAt h2
      exact ⟨_, el, l, vs, k, j, rfl, rfl, hl, by rw [← r.len]; exact ej, q σ _ (c.olSet h2 el (r.set j w)) (fun _ _ => rfl) rfl⟩
    · cases e
  · cases e⟩
end
end DL
namespace DL
open PySem PySem.Spec PyProof.Rows L2
section
variable {X : Cx} {B : List Nat}
theorem tup2 {ms : Rho → Out (List Hd)} {ρ ρ' : Rho} {d : D} (e : mS (mTup ms) ρ = .ok (.sh d) ρ') : ∃ ds, mFz ms ρ = .ok ds ρ' ∧ d = .tup ds := by
  unfold mS mTup at e
  cases h : mFz ms ρ with
  | bad => rw [h] at e; cases e
  | ok ds ρ1 =>
    rw [h] at e
    cases e
    exact ⟨ds, rfl, rfl⟩
theorem ds_par (i j : Nat) {x y : Str} {a b : Expr} {px py pt pt2 pos : Pos} {kt k2} {ms : Rho → Out (List Hd)} (ha : DA X B [a, b] ms) (hc : X.calm = true) (hN : X.N.Nodup) (hi : X.N[i]? = some x := by rfl) (hj : X.N[j]? = some y := by rfl) (hij : i ≠ j := by decide)
    (hx : X.env.scope.names.lookup x = some .local := by rfl) (hy : X.env.scope.names.lookup y = some .local := by rfl) (hBi : B.contains i = false := by rfl) (hBj : B.contains j = false := by rfl)
    (hw : swappedStores [.Tuple [.Name x px, .Name y py] kt pt] (.Tuple [a, b] k2 pt2) X.env = pure (some [x, y]) := by rfl)
    (hs : swapsWithSole [.Tuple [.Name x px, .Name y py] kt pt] (.Tuple [a, b] k2 pt2) pos.line X.env = pure false := by rfl) :
    DS X B (.Assign [.Tuple [.Name x px, .Name y py] kt pt] (.Tuple [a, b] k2 pt2) pos) (mAsg (mS (mTup ms)) (gTup' 2 (gCons' (gNm i) (gCons' (gNm j) gNil')))) :=
  ⟨ps_weak (ps_par hc hN hi hj hij hx hy ha.pa hw hs) fun D σ H ⟨σ0, F, J, ρ, c, q⟩ => by
  unfold mAsg at q
  split at q
  · rename_i d ρ' e1
    obtain ⟨ds, e2, rfl⟩ := tup2 e1
    split at q
    · rename_i ρ2 e3
      unfold gTup' at e3
      dsimp only at e3
      split at e3
      · rename_i hl
        match ds, hl with
        | [d1, d2], _ =>
          obtain ⟨hs, ρ1, e4, e5⟩ := mFz_ok e2
          refine ⟨σ0, F, J, ρ, hs, ρ1, c, e4, fun J1 H1 vs c1 s1 r1 l => ?_⟩
          obtain ⟨J2, c2, s2, w⟩ := c1.fzL r1 e5
          cases w with
          | cons w1 w => cases w with
            | cons w2 w => 
              cases w
              unfold gCons' at e3
              dsimp only at e3
              unfold gNm at e3
              split at e3
              · rename_i ρ3 e6
                split at e6
                · rename_i hli
                  cases e6
                  split at e3
                  · rename_i ρ4 e7
                    split at e7
                    · rename_i hlj
                      cases e7
                      cases e3
                      rw [List.contains_eq_mem, decide_eq_false_iff_not] at hBi hBj
                      have c3 := (c2.push w1).store c2.lb hli hBi
                      have c4 := (c3.push w2).store c3.lb hlj hBj
                      exact ⟨_, _, rfl, q J2 _ H1 c4 (s1.trans s2)⟩
                    · cases e7
                  · cases e3
                · cases e6
              · cases e3
      · cases e3
    · exact q.elim
  · exact q.elim⟩
end
end DL

set_option Elab.async false
set_option linter.all false
set_option maxRecDepth 100000
set_option maxHeartbeats 4000000
/-! DLr: repr of data. -/
namespace DL
open PySem PySem.Spec PyProof.Rows L2
/-! ### what a thing is to the shower -/
def keyPy : Key → PyData
  | .inl i => .int i
  | .inr x => .str x
mutual
def pyOf : D → Option PyData
  | .non => some .none
  | .bl b => some (.bool b)
  | .int i => some (.int i)
  | .str x => some (.str x)
  | .tup ds => (pyOfL ds).map .tuple
  | .lst ds => (pyOfL ds).map .list
  | .dK kvs => (pyOfK kvs).map .dict
  | .fn _ => none
  | .ty _ => none
  | .dT _ => none
def pyOfL : List D → Option (List PyData)
  | [] => some []
  | d :: ds => match pyOf d, pyOfL ds with
    | some p, some ps => some (p :: ps)
    | _, _ => none
def pyOfK : List (Key × D) → Option (List (PyData × PyData))
  | [] => some []
  | kd :: ds => match pyOf kd.2, pyOfK ds with
    | some p, some ps => some ((keyPy kd.1, p) :: ps)
    | _, _ => none
end
mutual
/-- no list within (where a dict is shown) -/
def noL : D → Bool
  | .lst _ => false
  | .tup ds => noLL ds
  | .dK kvs => noLK kvs
  | _ => true
def noLL : List D → Bool
  | [] => true
  | d :: ds => noL d && noLL ds
def noLK : List (Key × D) → Bool
  | [] => true
  | kd :: ds => noL kd.2 && noLK ds
end
def reprOk (d : D) (p : PyData) : Bool := p.showable && p.leavesShort 13 && decide (p.weight ≤ 2 ^ 20) && decide (p.depth ≤ 100) && (!p.hasDict || noL d)
def fRepr : List D → Option D
  | [d] => match pyOf d with
    | some p => if reprOk d p = true then some (.str p.shown) else none
    | none => none
  | _ => none
section
variable {X : Cx} {pins : List (Addr × Obj)} {σ : L2.St} {H : Hp} {s : Shared}
def Far (as : List Addr) : Prop := ∀ a ∈ as, (a == sysModules) = false
theorem Far.nil : Far [] := fun a h => absurd h (by simp)
theorem Far.app {as bs : List Addr} (h : Far as) (g : Far bs) : Far (as ++ bs) := fun a m => (List.mem_append.mp m).elim (h a) (g a)
theorem key_read {h : Heap} {k : Key} {v : Value} (e : keyIs k v = true) : Reads h v (keyPy k) [] := by
  rcases keyIs_shape e with ⟨i, t, rfl, rfl⟩ | ⟨x, t, rfl, rfl⟩
  · exact .int i t
  · exact .str x t
mutual
theorem rp_reads (I : Inv X pins σ H s) : ∀ {d : D} {v : V} {u : Value} {p : PyData}, Rp X.K H d v → RelV v u → pyOf d = some p → ∃ as, Reads s.heap u p as ∧ (noL d = true → Far as)
  | _, _, _, _, .non, r, e => by cases e; cases r; exact ⟨_, .none, fun _ => .nil⟩
  | _, _, _, _, .bl b, r, e => by cases e; cases r; exact ⟨_, .bool b, fun _ => .nil⟩
  | _, _, _, _, .int i, r, e => by cases e; obtain ⟨t, rfl⟩ := r; exact ⟨_, .int i t, fun _ => .nil⟩
  | _, _, _, _, .str x, r, e => by cases e; obtain ⟨t, rfl⟩ := r; exact ⟨_, .str x t, fun _ => .nil⟩
  | _, _, _, _, .fn _, r, e => by cases e
  | _, _, _, _, .ty _, r, e => by cases e
  | .tup ds, _, _, p, .tup h q, r, e => by
    obtain rfl := r
    unfold pyOf at e
    obtain ⟨ps, e1, rfl⟩ := Option.map_eq_some_iff.mp e
    obtain ⟨its, rel, ⟨o, g, c, n, dd⟩, _⟩ := I.tuple h.sq
    obtain ⟨as, R, f⟩ := rpL_reads I q rel e1
    exact ⟨as, .tuple g c dd (by simpa using R), fun hn => f (by unfold noL at hn; exact hn)⟩
  | .lst ds, _, _, p, .lst h q, r, e => by
    obtain rfl := r
    unfold pyOf at e
    obtain ⟨ps, e1, rfl⟩ := Option.map_eq_some_iff.mp e
    obtain ⟨its, rel, ⟨o, n, g, c, _, dd⟩, _⟩ := I.list (SqL.of h)
    obtain ⟨as, R, f⟩ := rpL_reads I q rel e1
    exact ⟨_, .list g c dd (by simpa using R), fun hn => by unfold noL at hn; cases hn⟩
  | .dK kvs, _, _, p, .dK (a := a) (ws := ws) h q, r, e => by
    obtain rfl := r
    unfold pyOf at e
    obtain ⟨ps, e1, rfl⟩ := Option.map_eq_some_iff.mp e
    obtain ⟨_, hs, vs, rel, o, es, ep, g, ex, dd, _, pr, _⟩ : ws.length ≤ sizeLine ∧ (a == sysModules) = false ∧ ∃ vs, KV ws vs ∧ s.heap.DictOf (mixKind X.prog X.w) a vs := I.hok a _ h
    obtain ⟨as, R1, R2, f⟩ := rpK_reads I q rel pr e1
    refine ⟨_, .dict g ex.1 dd R1 R2, fun hn b hb => ?_⟩
    unfold noL at hn
    rcases List.mem_cons.mp (by simpa using hb) with rfl | hb
    · exact hs
    · exact f hn b (by simpa using hb)
  | .dT _, _, _, _, .dT _ _, _, e => by cases e
theorem rpL_reads (I : Inv X pins σ H s) : ∀ {ds : List D} {vs : List V} {us : List Value} {ps : List PyData}, RpL X.K H ds vs → Vals vs us → pyOfL ds = some ps → ∃ as, ReadsAll s.heap us ps as ∧ (noLL ds = true → Far as)
  | _, _, _, _, .nil, .nil, e => by cases e; exact ⟨_, .nil, fun _ => .nil⟩
  | d :: ds, _, _, _, .cons q r, .cons z zs, e => by
    unfold pyOfL at e
    split at e
    · rename_i p ps e1 e2
      cases e
      obtain ⟨as, R, f⟩ := rp_reads I q z e1
      obtain ⟨bs, R2, f2⟩ := rpL_reads I r zs e2
      refine ⟨_, .cons R R2, fun hn => ?_⟩
      unfold noLL at hn
      have hn := (Bool.and_eq_true _ _).mp hn
      exact (f hn.1).app (f2 hn.2)
    · cases e
theorem rpK_reads (I : Inv X pins σ H s) : ∀ {ds : List (Key × D)} {ws : List (Key × V)} {vs : List (Key × Value)} {es : List DictEntry} {ps : List (PyData × PyData)}, RpK X.K H ds ws → KV ws vs → Pairs (mixKind X.prog X.w) es vs → pyOfK ds = some ps →
    ∃ as, ReadsAll s.heap (es.map (·.key)) (ps.map (·.1)) [] ∧ ReadsAll s.heap (es.map (·.val)) (ps.map (·.2)) as ∧ (noLK ds = true → Far as)
  | _, _, _, _, _, .nil, .nil, .nil, e => by cases e; exact ⟨_, .nil, .nil, fun _ => .nil⟩
  | (k, d) :: ds, _, (k', u) :: vs, en :: es, _, .cons q r, .cons z zs, .cons h1 h2 h3, e => by
    unfold pyOfK at e
    split at e
    · rename_i p ps e1 e2
      cases e
      obtain ⟨rfl, z⟩ := z
      obtain ⟨as, R, f⟩ := rp_reads I q z e1
      obtain ⟨bs, R1, R2, f2⟩ := rpK_reads I r zs h3 e2
      refine ⟨as ++ bs, ReadsAll.cons (as := []) (key_read h1) R1, ?_, fun hn => ?_⟩
      · have : en.val = u := h2
        rw [List.map_cons, List.map_cons, this]
        exact .cons R R2
      · unfold noLK at hn
        have hn := (Bool.and_eq_true _ _).mp hn
        exact (f hn.1).app (f2 hn.2)
    · cases e
end
/-- repr(x) -/
theorem or_repr {k : Nat} (hr : RoomG k X.A) : CallR X (.builtin "repr") (fun xs H Q => ∃ d v p, xs = [v] ∧ Rp X.K H d v ∧ pyOf d = some p ∧ reprOk d p = true ∧ Q (.str p.shown) H) := by
  intro pins s σ H xs us Q I r ⟨d, v, p, hx, hd, hp, ok, q⟩
  subst hx
  obtain ⟨u, rfl, rel⟩ := vals1 r
  obtain ⟨as, R, far⟩ := rp_reads I hd rel hp
  unfold reprOk at ok
  simp only [Bool.and_eq_true, decide_eq_true_eq] at ok
  obtain ⟨⟨⟨⟨sh, lv⟩, wt⟩, dp⟩, nd⟩ := ok
  have fits : p.shown.length ≤ sizeLine := PyData.shown_fits (B := 13) (by decide) (by decide) lv wt
  have un := hr.un
  have hsm : p.hasDict = true → sysModules ∉ as := fun h m => by
    have := far (by simpa [h] using nd) _ m
    simp at this
  cases R with
  | none => exact PySem.P.repr_of_none ⟨.str _, H, I.tok _, ⟨_, rfl⟩, q⟩
  | bool b => exact PySem.P.repr_of_bool ⟨.str _, H, I.tok _, ⟨_, rfl⟩, q⟩
  | int i t => exact PySem.P.repr_of_int (by simpa [PyData.showable] using sh) ⟨.str _, H, I.tok _, ⟨_, rfl⟩, q⟩
  | str x t => exact PySem.P.repr_of_str ⟨.str _, H, I.tok _, ⟨_, rfl⟩, q⟩ fits
  | list h1 h2 h3 h4 => exact repr_of_reads' (.list h1 h2 h3 h4) sh hsm hr.gd (by omega) (fun _ _ e => e) (fun h' u tk hk => ⟨.str _, H, I.kept hk, ⟨_, rfl⟩, q⟩) fits
  | tuple h1 h2 h3 h4 => exact repr_of_reads' (.tuple h1 h2 h3 h4) sh hsm hr.gd (by omega) (fun _ _ e => e) (fun h' u tk hk => ⟨.str _, H, I.kept hk, ⟨_, rfl⟩, q⟩) fits
  | dict h1 h2 h3 h4 h5 => exact repr_of_reads' (.dict h1 h2 h3 h4 h5) sh hsm hr.gd (by omega) (fun _ _ e => e) (fun h' u tk hk => ⟨.str _, H, I.kept hk, ⟨_, rfl⟩, q⟩) fits
theorem cd_repr {K : PySem.W.Frag} : CallD K (fun xs H Q => ∃ d v p, xs = [v] ∧ Rp K H d v ∧ pyOf d = some p ∧ reprOk d p = true ∧ Q (.str p.shown) H) fRepr := fun J H ds d vs Q m p e q => by
  unfold fRepr at e
  split at e
  · rename_i d0
    split at e
    · rename_i py hpy
      split at e
      · rename_i ok
        cases e
        obtain ⟨v, rfl, p1⟩ := pkl1 p
        exact ⟨d0, v, py, rfl, p1.rp m, hpy, ok, q J H _ (Ext.refl m) (.str _)⟩
      · cases e
    · cases e
  · cases e
end
end DL

set_option Elab.async false
set_option linter.all false
set_option maxRecDepth 100000
set_option maxHeartbeats 4000000
/-! DLv: pairs and threes of names whose values may be one's own; zip; `is` of truth values. -/
namespace DL
open PySem PySem.Spec PyProof.Rows L2
section
variable {K : PySem.W.Frag} {B : List Nat} {σ0 : L2.St} {F : Fm} {J J' : Hp} {ρ ρ' : Rho} {σ σ' : L2.St} {H H' : Hp} {r : R} {v : V} {S : List Addr}
/-- the frame and a thing that lies aside -/
def asideF (F : Fm) (H : Hp) (S : List Addr) (hS : ∀ a ∈ S, ∃ o, H a = some o) : Fm := ⟨fun a => if a ∈ S then H a else F.h a, fun a => a ∈ S ∨ F.av a, fun a h => by
  by_cases e : a ∈ S
  · rw [if_pos e]; exact hS a e
  · rw [if_neg e]; exact h.elim (fun z => absurd z e) (F.sub a)⟩
/-- the thing at hand is laid aside -/
theorem CI.aside (c : CI K B σ0 F J (ρ ++ [some r]) (σ ++ [some v]) H) (hb : σ0.length ≤ σ.length) : ∃ S F1, OwnAt K J H r v S ∧ CI K B σ0 F1 J ρ σ H ∧
    ∀ J' ρ' σ' H', CI K B σ0 F1 J' ρ' σ' H' → Same J J' → CI K B σ0 F J' (ρ' ++ [some r]) (σ' ++ [some v]) H' := by
  obtain ⟨fp, o1, o2, o3⟩ := id c.own
  have hl : ρ.length = σ.length := by have := c.len; simpa using this
  obtain ⟨v', e, w⟩ := o1 ρ.length r get_app_r
  rw [hl, get_app_r] at e
  cases e
  have there := w.there
  have none_F : ∀ a ∈ fp ρ.length, F.h a = none := fun a ha => (o2 _ _ a get_app_r ha).2
  have none_J : ∀ a ∈ fp ρ.length, J a = none := fun a ha => (o2 _ _ a get_app_r ha).1
  have c0 := c.pop hb
  refine ⟨_, asideF F H (fp ρ.length) there, w, ⟨?_, c0.jm, ?_, c0.len, c0.lb, c0.pin, fp, fun i q h => o1 i q (get_app_l h) |>.elim fun u hu => ?_, fun i q a h ha => ⟨(o2 i q a (get_app_l h) ha).1, ?_⟩, fun i j q q' a h h' => o3 i j q q' a (get_app_l h) (get_app_l h')⟩, ?_⟩
  · intro a o h
    show H a = some o
    have h : (if a ∈ fp ρ.length then H a else F.h a) = some o := h
    by_cases e : a ∈ fp ρ.length
    · rwa [if_pos e] at h
    · rw [if_neg e] at h; exact c.fr _ _ h
  · intro a h
    rcases (show a ∈ fp ρ.length ∨ F.av a from h) with h | h
    · exact none_J a h
    · exact c.av a h
  · refine ⟨u, ?_, hu.2⟩
    have := hu.1
    rwa [List.getElem?_append_left (by rw [← hl]; exact (List.getElem?_eq_some_iff.mp h).1)] at this
  · show (if a ∈ fp ρ.length then H a else F.h a) = none
    rw [if_neg (fun z => Nat.ne_of_lt (List.getElem?_eq_some_iff.mp h).1 (o3 _ _ _ _ a (get_app_l h) get_app_r ha z))]
    exact (o2 i q a (get_app_l h) ha).2
  · intro J' ρ' σ' H' c' s
    obtain ⟨fq, p1, p2, p3⟩ := id c'.own
    have fr' : ∀ a ∈ fp ρ.length, ∀ o, H a = some o → H' a = some o := fun a ha o h => c'.fr a o (by show (if a ∈ fp ρ.length then H a else F.h a) = _; rw [if_pos ha]; exact h)
    have away : ∀ {i : Nat} {q : R} {a : Addr}, ρ'[i]? = some (some q) → a ∈ fq i → a ∉ fp ρ.length := fun {i q a} h ha z => by
      have := (p2 i q a h ha).2
      have this : (if a ∈ fp ρ.length then H a else F.h a) = none := this
      rw [if_pos z] at this
      obtain ⟨o, e⟩ := there a z
      rw [e] at this; cases this
    have Fn : ∀ {i : Nat} {q : R} {a : Addr}, ρ'[i]? = some (some q) → a ∈ fq i → F.h a = none := fun {i q a} h ha => by
      have := (p2 i q a h ha).2
      have this : (if a ∈ fp ρ.length then H a else F.h a) = none := this
      rwa [if_neg (away h ha)] at this
    have key : ∀ {j : Nat} {q : R}, (ρ' ++ [some r])[j]? = some (some q) → (j = ρ'.length ∧ q = r) ∨ (j ≠ ρ'.length ∧ ρ'[j]? = some (some q)) := fun {j q} h => by
      rcases get_app h with h | ⟨e, h⟩
      · exact .inr ⟨Nat.ne_of_lt (List.getElem?_eq_some_iff.mp h).1, h⟩
      · exact .inl ⟨e, (Option.some.inj h).symm⟩
    refine ⟨fun a o h => ?_, c'.jm, fun a h => c'.av a (.inr h), by simp [c'.len], by have := c'.lb; simp; omega, fun i hi => ⟨(c'.pin i hi).1, by rw [List.getElem?_append_left (c'.lt hi)]; exact (c'.pin i hi).2⟩, ovr fq ρ'.length (fp ρ.length), fun i q h => ?_, fun i q a h ha => ?_, fun i j q q' a h h' ha hb => ?_⟩
    · by_cases e : a ∈ fp ρ.length
      · rw [none_F a e] at h; cases h
      · exact c'.fr a o (by show (if a ∈ fp ρ.length then H a else F.h a) = _; rw [if_neg e]; exact h)
    · rcases key h with ⟨rfl, rfl⟩ | ⟨ne, h⟩
      · exact ⟨v, by rw [c'.len]; exact get_app_r, by rw [ovr_eq]; exact w.mono s fr'⟩
      · obtain ⟨u, e1, w1⟩ := p1 i q h
        exact ⟨u, get_app_l e1, by rw [ovr_ne ne]; exact w1⟩
    · rcases key h with ⟨rfl, rfl⟩ | ⟨ne, h⟩
      · rw [ovr_eq] at ha
        exact ⟨c'.av a (.inl ha), none_F a ha⟩
      · rw [ovr_ne ne] at ha
        exact ⟨(p2 i q a h ha).1, Fn h ha⟩
    · rcases key h with ⟨rfl, rfl⟩ | ⟨ne, h3⟩
      · rcases key h' with ⟨rfl, rfl⟩ | ⟨ne', h4⟩
        · rfl
        · rw [ovr_eq] at ha; rw [ovr_ne ne'] at hb
          exact absurd ha (away h4 hb)
      · rcases key h' with ⟨rfl, rfl⟩ | ⟨ne', h4⟩
        · rw [ovr_eq] at hb; rw [ovr_ne ne] at ha
          exact absurd hb (away h3 ha)
        · rw [ovr_ne ne] at ha; rw [ovr_ne ne'] at hb; exact p3 i j q q' a h3 h4 ha hb
end
/-! ### values that may be one's own, in a row -/
def lAO (K : PySem.W.Frag) (B : List Nat) (n : Nat) (m : Rho → Out (List R)) : TA := fun σ H Q => ∃ σ0 F J ρ rs ρ', CI K B σ0 F J ρ σ H ∧ m ρ = .ok rs ρ' ∧
  ∀ J' H' vs, CI K B σ0 F J' (ρ' ++ rs.reverse.map some) (σ ++ vs.reverse.map some) H' → Same J J' → rs.length = n → vs.length = n → Q vs H'
structure DAO (X : Cx) (B : List Nat) (es : List Expr) (m : Rho → Out (List R)) : Prop where
  pa : PA X es (lAO X.K B es.length m)
def mONil : Rho → Out (List R) := fun ρ => .ok [] ρ
def mOCons (me : Rho → Out R) (ms : Rho → Out (List R)) : Rho → Out (List R) := fun ρ => (me ρ).bind fun r ρ1 => (ms ρ1).bind fun rs ρ2 => .ok (r :: rs) ρ2
section
variable {X : Cx} {B : List Nat} {e a b c : Expr} {es : List Expr} {me : Rho → Out R} {ms : Rho → Out (List R)}
theorem dao_nil : DAO X B [] mONil := ⟨pa_weak pa_nil fun σ H Q ⟨σ0, F, J, ρ, rs, ρ', c, e, q⟩ => by
  cases e
  exact q J H [] (by simpa using c) (Same.refl _) rfl rfl⟩
theorem dao_cons (he : DO X B e me) (hs : DAO X B es ms) (hst : starEach (e :: es) X.env = (false, eval e X.env) :: starEach es X.env := by rfl) : DAO X B (e :: es) (mOCons me ms) := ⟨pa_weak (pa_cons he.pe hs.pa hst) fun σ H Q ⟨σ0, F, J, ρ, rs, ρ', c, e1, q⟩ => by
  obtain ⟨r, ρ1, e2, e3⟩ := bind_ok e1
  obtain ⟨rs', ρ2, e4, e5⟩ := bind_ok e3
  cases e5
  refine ⟨σ0, F, J, ρ, r, ρ1, c, e2, fun J1 H1 v c1 s1 => ?_⟩
  obtain ⟨S, F1, w, c2, back⟩ := c1.aside c.lb
  refine ⟨σ0, F1, J1, ρ1, rs', _, c2, e4, fun J2 H2 vs c3 s2 l1 l2 => ?_⟩
  have c4 := back _ _ _ _ c3 s2
  refine q J2 H2 (v :: vs) ?_ (s1.trans s2) (by simp [l1]) (by simp [l2])
  simpa [List.append_assoc] using c4⟩
theorem set_app1 {α : Type} {l : List α} {x v : α} {i : Nat} (h : i < l.length) : (l ++ [x]).set i v = l.set i v ++ [x] := List.set_append_left _ _ h
theorem set_app2 {α : Type} {l : List α} {x y v : α} {i : Nat} (h : i < l.length) : ((l ++ [x]) ++ [y]).set i v = (l.set i v ++ [x]) ++ [y] := by
  rw [set_app1 (by rw [List.length_append]; omega), set_app1 h]
def mPar2 (i j : Nat) (ms : Rho → Out (List R)) : Rho → SOut := fun ρ => match ms ρ with
  | .ok [r1, r2] ρ' => if i < ρ'.length ∧ j < ρ'.length then .nx ((ρ'.set i (some r1)).set j (some r2)) else .bad
  | _ => .bad
def mPar3 (i j l : Nat) (ms : Rho → Out (List R)) : Rho → SOut := fun ρ => match ms ρ with
  | .ok [r1, r2, r3] ρ' => if i < ρ'.length ∧ j < ρ'.length ∧ l < ρ'.length then .nx (((ρ'.set i (some r1)).set j (some r2)).set l (some r3)) else .bad
  | _ => .bad
theorem ds_par2 (i j : Nat) {x y : Str} {px py pt pt2 pos : Pos} {kt k2} (ha : DAO X B [a, b] ms) (hc : X.calm = true) (hN : X.N.Nodup) (hi : X.N[i]? = some x := by rfl) (hj : X.N[j]? = some y := by rfl) (hij : i ≠ j := by decide)
    (hx : X.env.scope.names.lookup x = some .local := by rfl) (hy : X.env.scope.names.lookup y = some .local := by rfl) (hBi : B.contains i = false := by rfl) (hBj : B.contains j = false := by rfl)
    (hw : swappedStores [.Tuple [.Name x px, .Name y py] kt pt] (.Tuple [a, b] k2 pt2) X.env = pure (some [x, y]) := by rfl)
    (hs : swapsWithSole [.Tuple [.Name x px, .Name y py] kt pt] (.Tuple [a, b] k2 pt2) pos.line X.env = pure false := by rfl) :
    DS X B (.Assign [.Tuple [.Name x px, .Name y py] kt pt] (.Tuple [a, b] k2 pt2) pos) (mPar2 i j ms) :=
  ⟨ps_weak (ps_par hc hN hi hj hij hx hy ha.pa hw hs) fun D σ H ⟨σ0, F, J, ρ, c, q⟩ => by
  rw [List.contains_eq_mem, decide_eq_false_iff_not] at hBi hBj
  unfold mPar2 at q
  split at q
  · rename_i r1 r2 ρ' e1
    split at q
    · rename_i hlt
      refine ⟨σ0, F, J, ρ, _, ρ', c, e1, fun J' H' vs c' s l1 l2 => ?_⟩
      match vs, l2 with
      | [v1, v2], _ =>
        have c1 : CI X.K B σ0 F J' ((ρ' ++ [some r2]) ++ [some r1]) ((σ ++ [some v2]) ++ [some v1]) H' := by simpa using c'
        have ll : ρ'.length = σ.length := by have := c'.len; simp at this; omega
        have lb := c.lb
        have c2 := c1.store (i := i) (by simp; omega) (by simp; omega) hBi
        rw [set_app1 hlt.1, set_app1 (by omega)] at c2
        have c3 := c2.store (i := j) (by simp; omega) (by simp; omega) hBj
        exact ⟨v1, v2, rfl, q J' _ H' c3 s⟩
    · exact q.elim
  · exact q.elim⟩
theorem ds_par3 (i j l : Nat) {x y z : Str} {px py pz pt pt2 pos : Pos} {kt k2} (ha : DAO X B [a, b, c] ms) (hc : X.calm = true) (hN : X.N.Nodup) (hi : X.N[i]? = some x := by rfl) (hj : X.N[j]? = some y := by rfl) (hl : X.N[l]? = some z := by rfl) (hij : i ≠ j := by decide) (hil : i ≠ l := by decide) (hjl : j ≠ l := by decide)
    (hx : X.env.scope.names.lookup x = some .local := by rfl) (hy : X.env.scope.names.lookup y = some .local := by rfl) (hz : X.env.scope.names.lookup z = some .local := by rfl) (hBi : B.contains i = false := by rfl) (hBj : B.contains j = false := by rfl) (hBl : B.contains l = false := by rfl)
    (hw : swappedStores [.Tuple [.Name x px, .Name y py, .Name z pz] kt pt] (.Tuple [a, b, c] k2 pt2) X.env = pure (some [x, y, z]) := by rfl)
    (hs : swapsWithSole [.Tuple [.Name x px, .Name y py, .Name z pz] kt pt] (.Tuple [a, b, c] k2 pt2) pos.line X.env = pure false := by rfl) :
    DS X B (.Assign [.Tuple [.Name x px, .Name y py, .Name z pz] kt pt] (.Tuple [a, b, c] k2 pt2) pos) (mPar3 i j l ms) :=
  ⟨ps_weak (ps_par3 hc hN hi hj hl hij hil hjl hx hy hz ha.pa hw hs) fun D σ H ⟨σ0, F, J, ρ, c, q⟩ => by
  rw [List.contains_eq_mem, decide_eq_false_iff_not] at hBi hBj hBl
  unfold mPar3 at q
  split at q
  · rename_i r1 r2 r3 ρ' e1
    split at q
    · rename_i hlt
      refine ⟨σ0, F, J, ρ, _, ρ', c, e1, fun J' H' vs c' s l1 l2 => ?_⟩
      match vs, l2 with
      | [v1, v2, v3], _ =>
        have c1 : CI X.K B σ0 F J' (((ρ' ++ [some r3]) ++ [some r2]) ++ [some r1]) (((σ ++ [some v3]) ++ [some v2]) ++ [some v1]) H' := by simpa using c'
        have ll : ρ'.length = σ.length := by have := c'.len; simp at this; omega
        have lb := c.lb
        have c2 := c1.store (i := i) (by simp; omega) (by simp; omega) hBi
        rw [set_app2 hlt.1, set_app2 (by omega)] at c2
        have c3 := c2.store (i := j) (by simp; omega) (by simp; omega) hBj
        rw [set_app1 (by simp; omega), set_app1 (by simp; omega)] at c3
        have c4 := c3.store (i := l) (by simp; omega) (by simp; omega) hBl
        exact ⟨v1, v2, v3, rfl, q J' _ H' c4 s⟩
    · exact q.elim
  · exact q.elim⟩
end
/-! ### zip -/
def zipD : List D → List D → List D
  | x :: xs, y :: ys => .tup [x, y] :: zipD xs ys
  | _, _ => []
theorem zipD_get : ∀ {xs ys : List D} {i : Nat} {d : D}, (zipD xs ys)[i]? = some d → ∃ x y, xs[i]? = some x ∧ ys[i]? = some y ∧ d = .tup [x, y]
  | x :: xs, y :: ys, 0, d, h => by cases h; exact ⟨x, y, rfl, rfl, rfl⟩
  | x :: xs, y :: ys, i + 1, d, h => by
    obtain ⟨u, v, h1, h2, h3⟩ := zipD_get (xs := xs) (ys := ys) (i := i) (by simpa [zipD] using h)
    exact ⟨u, v, by simpa using h1, by simpa using h2, h3⟩
  | [], _, _, _, h => by simp [zipD] at h
  | _ :: _, [], _, _, h => by simp [zipD] at h
theorem zipD_len : ∀ {xs ys : List D}, (zipD xs ys).length = min xs.length ys.length
  | x :: xs, y :: ys => by simp [zipD, zipD_len (xs := xs) (ys := ys)]
  | [], _ => by simp [zipD]
  | _ :: _, [] => by simp [zipD]
def fZip : List D → Option (List D)
  | [.tup xs, .tup ys] => some (zipD xs ys)
  | [.lst xs, .lst ys] => some (zipD xs ys)
  | _ => none
section
variable {X : Cx} {B : List Nat} {a b : Expr} {ms : Rho → Out (List Hd)} {p pos : Pos}
/-- frozen arguments -/
def mItF (f : List D → Option (List D)) (ms : Rho → Out (List Hd)) : Rho → Out (List D) := fun ρ => (mFz ms ρ).bind fun ds ρ1 => (Out.opt (f ds) ρ1).bind fun es ρ2 => .ok es ρ2
theorem di_zip {elts : List Expr} {kk : Nat} {tpos : Pos} (hc : X.calm = true) (hg : Gl X "zip") (hm : X.mg "zip" = none) (ha : DA X B [a, b] ms) (hs : starEach [a, b] X.env = (false, eval a X.env) :: starEach [b] X.env := by rfl) (hpl : (backTo pos (starEach [b] X.env)).any (·.1) = false := by rfl) :
    DI X B (.Tuple elts kk tpos) (.Call (.Name "zip" p) [a, b] [] pos) (mItF fZip ms) := ⟨pi_weak (RZ.pi_zipA hg hm ha.pa hs hpl) fun σ H Q ⟨σ0, F, J, ρ, ds, ρ', c, e, q⟩ => by
  obtain ⟨ds', ρ1, e1, ea⟩ := bind_ok e
  obtain ⟨es', e4, eb⟩ := bo_ok ea
  cases eb
  obtain ⟨hs, ρ2, e2, e3⟩ := mFz_ok e1
  refine ⟨σ0, F, J, ρ, hs, ρ2, c, e2, fun J1 H1 vs c1 s1 r1 l => ?_⟩
  obtain ⟨J2, c2, s2, w⟩ := c1.fzL r1 e3
  unfold fZip at e4
  split at e4
  · rename_i xs ys
    cases e4
    cases w with
    | cons w1 w => cases w with
      | cons w2 w =>
        cases w
        cases w1 with
        | @tup a1 vs1 _ t1 q1 => cases w2 with
          | @tup a2 vs2 _ t2 q2 =>
            refine ⟨a1, a2, vs1, vs2, rfl, .inr ⟨(t1.mono c2.jm).sq, (t2.mono c2.jm).sq, q J2 H1 _ c2 (s1.trans s2) fun J3 H3 i s3 m3 => ⟨fun d hd => ?_, fun hi => ?_⟩⟩⟩
            · obtain ⟨x, y, hx, hy, rfl⟩ := zipD_get hd
              obtain ⟨u, eu, wu⟩ := q1.get hx
              obtain ⟨z, ez, wz⟩ := q2.get hy
              have h1 := ((t1.mono s3).mono m3).sq
              have h2 := ((t2.mono s3).mono m3).sq
              refine ⟨⟨vs1, vs2, u, z, h1, h2, eu, ez⟩, fun T H4 hT => ?_⟩
              obtain ⟨T, x', y', rfl, hn, rfl, hx', hy'⟩ := hT
              cases (hx' _ h1).symm.trans eu
              cases (hy' _ h2).symm.trans ez
              have ex := Ext.new (o := .tup [u, z]) m3 hn
              exact ⟨_, ex, Rp.tup (.inl upd_same) (.cons (wu.mono (s3.trans ex.j)) (.cons (wz.mono (s3.trans ex.j)) .nil))⟩
            · refine ⟨vs1, vs2, ((t1.mono s3).mono m3).sq, ((t2.mono s3).mono m3).sq, ?_⟩
              rw [hi, zipD_len, q1.len, q2.len]
              omega
  · rename_i xs ys
    cases e4
    cases w with
    | cons w1 w => cases w with
      | cons w2 w =>
        cases w
        cases w1 with
        | @lst a1 vs1 _ t1 q1 => cases w2 with
          | @lst a2 vs2 _ t2 q2 =>
            refine ⟨a1, a2, vs1, vs2, rfl, .inl ⟨SqL.of (c2.jm _ _ t1), SqL.of (c2.jm _ _ t2), q J2 H1 _ c2 (s1.trans s2) fun J3 H3 i s3 m3 => ⟨fun d hd => ?_, fun hi => ?_⟩⟩⟩
            · obtain ⟨x, y, hx, hy, rfl⟩ := zipD_get hd
              obtain ⟨u, eu, wu⟩ := q1.get hx
              obtain ⟨z, ez, wz⟩ := q2.get hy
              have h1 : SqL X.K H3 a1 vs1 := SqL.of (m3 _ _ (s3 _ _ t1))
              have h2 : SqL X.K H3 a2 vs2 := SqL.of (m3 _ _ (s3 _ _ t2))
              refine ⟨⟨vs1, vs2, u, z, h1, h2, eu, ez⟩, fun T H4 hT => ?_⟩
              obtain ⟨T, x', y', rfl, hn, rfl, hx', hy'⟩ := hT
              cases (hx' _ h1).symm.trans eu
              cases (hy' _ h2).symm.trans ez
              have ex := Ext.new (o := .tup [u, z]) m3 hn
              exact ⟨_, ex, Rp.tup (.inl upd_same) (.cons (wu.mono (s3.trans ex.j)) (.cons (wz.mono (s3.trans ex.j)) .nil))⟩
            · refine ⟨vs1, vs2, SqL.of (m3 _ _ (s3 _ _ t1)), SqL.of (m3 _ _ (s3 _ _ t2)), ?_⟩
              rw [hi, zipD_len, q1.len, q2.len]
              omega
  · cases e4⟩
end
/-! ### is, is not: of None and of truth values -/
def fIs2 (d e : D) : Option D := if isNon e = true then some (.bl (isNon d)) else match d, e with
  | .bl a, .bl b => some (.bl (decide (a = b)))
  | _, _ => none
def fIsNot2 (d e : D) : Option D := if isNon e = true then some (.bl (!isNon d)) else match d, e with
  | .bl a, .bl b => some (.bl (!decide (a = b)))
  | _, _ => none
section
variable {X : Cx} {K : PySem.W.Frag}
theorem or_is2 : OpR X (compareOp .Is) (fun x y H Q => (y = .non ∧ Q (.bl (decide (x = .non))) H) ∨ rIsB x y H Q) := op_isN.or op_isBl
theorem or_isnot2 : OpR X (compareOp .IsNot) (fun x y H Q => (y = .non ∧ Q (.bl (!decide (x = .non))) H) ∨ rNotB x y H Q) := op_notN.or op_notBl
theorem bd_is2 : BinD K (fun x y H Q => (y = .non ∧ Q (.bl (decide (x = .non))) H) ∨ rIsB x y H Q) fIs2 := fun J H d1 d2 d v1 v2 Q m p1 p2 e q => by
  unfold fIs2 at e
  split at e
  · rename_i h
    exact .inl (bd_is J H d1 d2 d v1 v2 Q m p1 p2 (by unfold fIs; rw [if_pos h]; exact e) q)
  · split at e
    · cases e
      exact .inr ⟨_, _, p1.bl, p2.bl, q J H _ (Ext.refl m) (.bl _)⟩
    · cases e
theorem bd_isnot2 : BinD K (fun x y H Q => (y = .non ∧ Q (.bl (!decide (x = .non))) H) ∨ rNotB x y H Q) fIsNot2 := fun J H d1 d2 d v1 v2 Q m p1 p2 e q => by
  unfold fIsNot2 at e
  split at e
  · rename_i h
    exact .inl (bd_isnot J H d1 d2 d v1 v2 Q m p1 p2 (by unfold fIsNot; rw [if_pos h]; exact e) q)
  · split at e
    · cases e
      exact .inr ⟨_, _, p1.bl, p2.bl, q J H _ (Ext.refl m) (.bl _)⟩
    · cases e
end
end DL
namespace DL
open PySem PySem.Spec PyProof.Rows L2
/-! ### written constants -/
theorem rp_tupK {K : PySem.W.Frag} {J : Hp} {a : Addr} {od : Option Addr} {its : Array Value} {n : Nat} {sl : Array (Option Value)} {vs : List V} {ds : List D} (l : K.lookup a = some ⟨.type "tuple", od, .seq its n, sl⟩) (hz : its.size ≤ sizeLine) (v : Vals vs its.toList) (r : RpL K J ds vs) : Rp K J (.tup ds) (.ref a) :=
  .tup (.inr ⟨_, its, n, l, rfl, rfl, hz, v⟩) r
def ConstAt (K : PySem.W.Frag) (mg : Str → Option Value) (x : Str) (d : D) : Prop := ∃ v u, mg x = some u ∧ RelV v u ∧ ∀ J, Rp K J d v
def DictAt (K : PySem.W.Frag) (w : World) (mg : Str → Option Value) (x : Str) (f : Str → Option D) : Prop := ∃ p u, mg x = some u ∧ RelV (.ref p) u ∧ ∀ z d, f z = some d → ∃ v, KDct K w p z v ∧ ∀ J, Rp K J d v
section
variable {X : Cx} {B : List Nat} {b : Expr} {m : Rho → Out Hd} {x : Str} {d : D} {pos p' : Pos} {f : Str → Option D}
theorem dp_globE (hg : Gl X x) (h : ConstAt X.K X.mg x d) (hd : (x == ("__debug__" : Str)) = false := by decide) : DP X B (.Name x pos) (mC d) := by
  obtain ⟨v, u, hm, r, rp⟩ := h
  exact dp_glob hg hm r rp hd
def mKD (f : Str → Option D) (m : Rho → Out Hd) : Rho → Out Hd := fun ρ => (m ρ).bind fun h ρ1 => match res ρ1 h with
  | some (.str z) => (Out.opt (f z) ρ1).bind fun d ρ2 => .ok (.dat d) ρ2
  | _ => .bad
theorem dp_kd (hg : Gl X x) (h : DictAt X.K X.w X.mg x f) (hb : DP X B b m) (hd : (x == ("__debug__" : Str)) = false := by decide) (hs : PlainIx b := by intro _ _; rfl) : DP X B (.Subscript (.Name x p') b pos) (mKD f m) := by
  obtain ⟨p, u, hm, r, kd⟩ := h
  refine ⟨pe_weak (pe_ix ix_kdict (pe_glob hg hm r hd) hb.pe hs) fun σ H Q ⟨σ0, F, J, ρ, h, ρ', c, e, k⟩ => ?_⟩
  obtain ⟨hk, ρ1, e1, e2⟩ := bind_ok e
  split at e2
  · rename_i z hz
    obtain ⟨d, e3, e4⟩ := bo_ok e2
    cases e4
    refine ⟨σ0, F, J, ρ, hk, _, c, e1, fun J1 H1 v c1 s1 r1 => ?_⟩
    obtain ⟨v', hv, rp⟩ := kd z d e3
    exact ⟨p, z, v', rfl, (c1.res r1 hz).str, hv, k J1 H1 v' c1 s1 (rp J1)⟩
  · cases e2
end
end DL

set_option Elab.async false
set_option linter.all false
set_option maxRecDepth 100000
set_option maxHeartbeats 4000000
/-! DLz: the end of a law whose defs want that nothing is being shown. -/
namespace DL
open PySem PySem.Spec PyProof.Rows L2
section
variable {P : Program} {w : World} {K : PySem.W.Frag} {mg mb : Str → Option Value} {k : Nat} {fa a : Addr} {fd : FuncData} {x : Str} {sp : Sp} {s₁ : Shared} {vs : List Value} {ns : List Int}
/-- the list that holds the script -/
def scrObj (vs : List Value) : Obj := { cls := .type "list", data := .seq vs.toArray }
open Classical in
/-- what is told of the heap at the entry: the script, if no object of the module is it -/
noncomputable def scrH (K : PySem.W.Frag) (a : Addr) (vs : List Value) (ns : List Int) : Hp := fun b => if b = a ∧ K.lookup a = none then some (.frz (scrObj vs) (.lst (ns.map V.int))) else none
theorem scrH_some {b : Addr} {o : HO} (h : scrH K a vs ns b = some o) : b = a ∧ K.lookup a = none ∧ o = .frz (scrObj vs) (.lst (ns.map V.int)) := by
  unfold scrH at h
  split at h
  · rename_i q; exact ⟨q.1, q.2, (Option.some.inj h).symm⟩
  · cases h
theorem scrH_none {b : Addr} (h : b ≠ a ∨ K.lookup a ≠ none) : scrH K a vs ns b = none := by
  unfold scrH
  rw [if_neg]
  rintro ⟨h1, h2⟩
  exact h.elim (fun z => z h1) fun z => z h2
theorem law_runG (inK : K.In s₁.heap) (glob : s₁.heap.Ns mainGlobals mg) (bl : s₁.heap.Ns builtinsNs mb) (boot : ∀ x : Str, x ≠ "__name__" → mb x = bootBuiltins x) (noLim : s₁.heap.NoLimit) (noGens : s₁.gens = #[])
    (at_a : s₁.heap.get? a = some (scrObj vs)) (isInts : IntsAre vs ns) (small : ns.length ≤ sizeLine) (room : Room k callerA)
    (F : ∀ base : Heap, K.In base → base.Ns mainGlobals mg → FnG P w K mg base CX0 k fa fd [x] sp) (bind : ∀ (s : Shared) (u : Value), BindsTo s fd ⟨[u], []⟩ [(x, u)])
    (hsp : ∀ H : Hp, SqL K H a (ns.map V.int) → sp [.ref a] H (fun v _ => v = .bl true) fun _ _ _ => False) :
    codeAny (model P w) callerA (.call (.ref fa) ⟨[.ref a], []⟩) (fun r s' => r = .ok (.ret (.bool true)) ∧ OldK s₁.heap s'.heap ∧ s'.os = s₁.os ∧ AllBare s'.gens) s₁ := by
  have vals : Vals (ns.map V.int) vs := vals_ints isInts
  -- shorthand
  obtain ⟨H, eH⟩ : ∃ H, H = scrH K a vs ns := ⟨_, rfl⟩
  have some_a : ∀ {b o}, H b = some o → b = a ∧ K.lookup a = none ∧ o = .frz (scrObj vs) (.lst (ns.map V.int)) := fun q => scrH_some (eH ▸ q)
  -- what is not the script stays in the base
  have stays : ∀ {b : Addr} {o : Obj}, s₁.heap.get? b = some o → H b = none → (hidT s₁.heap H).get? b = some o := fun g n => hidT_get g n
  have dict_out : ∀ {b : Addr} {o : Obj} {es : Array DictEntry} {ep : Nat}, s₁.heap.get? b = some o → o.data = .dict es ep → H b = none := by
    intro b o es ep g dd
    cases q : H b with
    | none => rfl
    | some u =>
      obtain ⟨rfl, _, _⟩ := some_a q
      cases g.symm.trans at_a
      cases dd
  have ns_base : ∀ {b : Addr} {m : Str → Option Value}, s₁.heap.Ns b m → (hidT s₁.heap H).Ns b m := by
    rintro b m ⟨o, es, ep, g, dd, rest⟩
    exact ⟨o, es, ep, stays g (dict_out g dd), dd, rest⟩
  have K_base : K.In (hidT s₁.heap H) := by
    intro b o lk
    refine stays (inK b o lk) ?_
    cases q : H b with
    | none => rfl
    | some u =>
      obtain ⟨rfl, none_a, _⟩ := some_a q
      rw [none_a] at lk
      cases lk
  have seen : SqL K H a (ns.map V.int) := by
    cases lk : K.lookup a with
    | none => exact .inl (.inr ⟨scrObj vs, by rw [eH]; unfold scrH; rw [if_pos ⟨rfl, lk⟩]⟩)
    | some o =>
      have e := (inK a o lk).symm.trans at_a
      cases e
      refine .inr ⟨scrObj vs, vs.toArray, _, lk, rfl, rfl, rfl, ?_, by simpa using vals⟩
      have := isInts.length
      rw [List.size_toArray]
      omega
  have ok : HOk P w H s₁.heap := by
    intro b u q
    obtain ⟨rfl, _, rfl⟩ := some_a q
    exact ⟨at_a, by rw [List.length_map]; exact small, vs, _, vals, at_a⟩
  have mod : Mod K mg (hidT s₁.heap H) := ⟨K_base, ns_base glob, ⟨mb, ns_base bl, boot⟩, by obtain ⟨mc, h1, h2⟩ := noLim; exact ⟨mc, ns_base h1, h2⟩⟩
  have env0 : Env0 P w K mg (hidT s₁.heap H) callerA [] s₁ H :=
    ⟨rfl, mod, fun b o g => of_hidT g, Nat.le_of_eq (hidT_size _ _), trivial, fun b hb => absurd hb List.not_mem_nil, ok, .of_eq noGens⟩
  refine codeAny_mono ((F _ K_base (ns_base glob)).go (us := [.ref a]) (vs := [.ref a]) ⟨room, rfl⟩ env0 (bind s₁ (.ref a)) (.cons rfl .nil) (hsp H seen)) ?_
  rintro (e | fl) s' out
  · exact out.elim
  · cases fl with
    | next => exact out.elim
    | brk => exact out.elim
    | cont => exact out.elim
    | ret u =>
      obtain ⟨v, H', os, bare, un, ok', rel, rfl⟩ := out
      obtain rfl : u = Value.bool true := rel
      refine ⟨rfl, OldK.of_keep fun b o g => ?_, os, bare⟩
      cases q : H b with
      | none => exact un.keep b o g q (fun z => absurd z List.not_mem_nil) (fun z => absurd z List.not_mem_nil)
      | some u =>
        obtain ⟨rfl, _, rfl⟩ := some_a q
        have old := (ok b _ q).1
        have new := (ok' b _ (un.frzs b _ _ q)).1
        rw [g] at old
        cases old
        exact new
end
theorem walkG {l : PySem.W.OpenLaw} {n k : Nat} {q : Program} {loose : List Str} {XP : (Str → Option Value) → Heap → Prop} {YP : World → Heap → Prop} {d : DefRec} {K : Params → PySem.W.Frag} {x : Str} {sp : World → Sp}
    (most : l.most = some n) (small : n ≤ sizeLine) (noDef : d.params.defaults = []) (room : Room k callerA) (hY : ∀ (w : World) (h : Heap), YP w h → (K w.params).In h)
    (F : ∀ (w : World) (mg : Str → Option Value) (fa : Addr) (h : Heap), (K w.params).In h → h.Ns mainGlobals mg → mg d.name = some (.ref fa) →
      ∃ fd : FuncData, (∀ (s : Shared) (u : Value), BindsTo s fd ⟨[u], []⟩ [(x, u)]) ∧ ∀ base : Heap, (K w.params).In base → base.Ns mainGlobals mg → FnG l.prog w (K w.params) mg base CX0 k fa fd [x] (sp w))
    (hsp : ∀ (w : World) (H : Hp) (a : Addr) (ns : List Int), ns.length ≤ n → SqL (K w.params) H a (ns.map V.int) → sp w [.ref a] H (fun v _ => v = .bl true) fun _ _ _ => False) :
    PySem.W.WalkO q loose XP YP l.row.toRowW d [] (fun f vs => PySem.call f vs) := by
  refine Att.attach_call most noDef ?_
  intro w s₀ s₁ mg mb fa o pm cd doc a vs ns G Y ho hd hcd hmg hobj hints hlen hg
  obtain ⟨fd, bind, hF⟩ := F w mg fa _ (hY w _ Y) G.T.g hmg
  exact law_runG (hY w _ Y) G.T.g G.T.b G.T.builtins G.T.nolimit hg hobj hints (Nat.le_trans hlen small) room hF bind fun H hS => hsp w H a ns hlen hS
end DL

set_option Elab.async false
set_option linter.all false
set_option maxRecDepth 100000
set_option maxHeartbeats 4000000
/-! DLw: evaluation of the further rules; loops and comprehensions over lists of a kind. -/
namespace DL
open PySem PySem.Spec PyProof.Rows L2
def kOC2 (r : R) (rs : List R) (ρ : Rho) : Out (List R) := .ok (r :: rs) ρ
def kOC (ms : Rho → Out (List R)) (r : R) (ρ : Rho) : Out (List R) := (ms ρ).bind (kOC2 r)
theorem ev_ONil (ρ : Rho) : mONil ρ = .ok [] ρ := (rfl)
theorem ev_OCons (me : Rho → Out R) (ms : Rho → Out (List R)) (ρ : Rho) : mOCons me ms ρ = (me ρ).bind (kOC ms) := (rfl)
theorem kOC_ (ms : Rho → Out (List R)) (r : R) (ρ : Rho) : kOC ms r ρ = (ms ρ).bind (kOC2 r) := (rfl)
theorem kOC2_ (r : R) (rs : List R) (ρ : Rho) : kOC2 r rs ρ = .ok (r :: rs) ρ := (rfl)
def kPar2 (i j : Nat) (o : Out (List R)) : SOut := match o with
  | .ok [r1, r2] ρ' => if i < ρ'.length ∧ j < ρ'.length then .nx ((ρ'.set i (some r1)).set j (some r2)) else .bad
  | _ => .bad
def kPar3 (i j l : Nat) (o : Out (List R)) : SOut := match o with
  | .ok [r1, r2, r3] ρ' => if i < ρ'.length ∧ j < ρ'.length ∧ l < ρ'.length then .nx (((ρ'.set i (some r1)).set j (some r2)).set l (some r3)) else .bad
  | _ => .bad
theorem ev_Par2 (i j : Nat) (ms : Rho → Out (List R)) (ρ : Rho) : mPar2 i j ms ρ = kPar2 i j (ms ρ) := (rfl)
theorem ev_Par3 (i j l : Nat) (ms : Rho → Out (List R)) (ρ : Rho) : mPar3 i j l ms ρ = kPar3 i j l (ms ρ) := (rfl)
theorem kPar2_ (i j : Nat) (r1 r2 : R) (ρ : Rho) : kPar2 i j (.ok [r1, r2] ρ) = if i < ρ.length ∧ j < ρ.length then .nx ((ρ.set i (some r1)).set j (some r2)) else .bad := (rfl)
theorem kPar3_ (i j l : Nat) (r1 r2 r3 : R) (ρ : Rho) : kPar3 i j l (.ok [r1, r2, r3] ρ) = if i < ρ.length ∧ j < ρ.length ∧ l < ρ.length then .nx (((ρ.set i (some r1)).set j (some r2)).set l (some r3)) else .bad := (rfl)
def kItF (f : List D → Option (List D)) (ds : List D) (ρ : Rho) : Out (List D) := oDs (f ds) ρ
theorem ev_ItF (f : List D → Option (List D)) (ms : Rho → Out (List Hd)) (ρ : Rho) : mItF f ms ρ = (mFz ms ρ).bind (kItF f) := by
  unfold mItF; cases mFz ms ρ with
  | bad => rfl
  | ok ds ρ1 => show (Out.opt (f ds) ρ1).bind _ = oDs (f ds) ρ1; cases f ds <;> rfl
theorem kItF_ (f : List D → Option (List D)) (ds : List D) (ρ : Rho) : kItF f ds ρ = oDs (f ds) ρ := (rfl)

def kKD2 (f : Str → Option D) (ρ : Rho) (o : Option D) : Out Hd := match o with
  | some (.str z) => oD (f z) ρ
  | _ => .bad
def kKD (f : Str → Option D) (h : Hd) (ρ : Rho) : Out Hd := kKD2 f ρ (res ρ h)
theorem ev_KD (f : Str → Option D) (m : Rho → Out Hd) (ρ : Rho) : mKD f m ρ = (m ρ).bind (kKD f) := by
  unfold mKD; cases m ρ with
  | bad => rfl
  | ok h ρ1 =>
    show (match res ρ1 h with
      | some (.str z) => (Out.opt (f z) ρ1).bind fun d ρ2 => .ok (.dat d) ρ2
      | _ => .bad) = kKD2 f ρ1 (res ρ1 h)
    generalize res ρ1 h = o
    match o with
    | none => rfl
    | some .non => rfl
    | some (.bl _) => rfl
    | some (.int _) => rfl
    | some (.fn _) => rfl
    | some (.ty _) => rfl
    | some (.tup _) => rfl
    | some (.lst _) => rfl
    | some (.dK _) => rfl
    | some (.dT _) => rfl
    | some (.str z) => show (Out.opt (f z) ρ1).bind _ = oD (f z) ρ1; cases f z <;> rfl
theorem kKD_ (f : Str → Option D) (h : Hd) (ρ : Rho) : kKD f h ρ = kKD2 f ρ (res ρ h) := (rfl)
theorem kKD2_ (f : Str → Option D) (ρ : Rho) (z : Str) : kKD2 f ρ (some (.str z)) = oD (f z) ρ := (rfl)
/-! ### comprehensions over a list of a kind -/
/-- one turn of a comprehension -/
def kL2' (vs : List Nat) (o : Out R) : Out D := match o with
  | .ok (.sh d) ρ => .ok d (wipeR ρ vs)
  | _ => .bad
def kL1' (vs : List Nat) (me : Rho → Out R) (o : Option Rho) : Out D := match o with
  | some ρ => kL2' vs (me ρ)
  | none => .bad
def lT' (vs : List Nat) (g : D → Rho → Option Rho) (me : Rho → Out R) (d : D) (ρ : Rho) : Out D := kL1' vs me (g d ρ)
theorem lT_ (vs : List Nat) (g : D → Rho → Option Rho) (me : Rho → Out R) (d : D) (ρ : Rho) : lT' vs g me d ρ = kL1' vs me (g d ρ) := (rfl)
theorem kL1'_ (vs : List Nat) (me : Rho → Out R) (ρ : Rho) : kL1' vs me (some ρ) = kL2' vs (me ρ) := (rfl)
theorem kL2'_ (vs : List Nat) (d : D) (ρ : Rho) : kL2' vs (.ok (.sh d) ρ) = .ok d (wipeR ρ vs) := (rfl)
/-- .. with a test -/
def kF3 (vs : List Nat) (o : Out R) : Out (Option D) := match o with
  | .ok (.sh d) ρ => .ok (some d) (wipeR ρ vs)
  | _ => .bad
def kF2 (vs : List Nat) (me : Rho → Out R) (o : Out Bool) : Out (Option D) := match o with
  | .ok true ρ => kF3 vs (me ρ)
  | .ok false ρ => .ok none (wipeR ρ vs)
  | .bad => .bad
def kF1 (vs : List Nat) (mt : Rho → Out Bool) (me : Rho → Out R) (o : Option Rho) : Out (Option D) := match o with
  | some ρ => kF2 vs me (mt ρ)
  | none => .bad
def lF' (vs : List Nat) (g : D → Rho → Option Rho) (mt : Rho → Out Bool) (me : Rho → Out R) (d : D) (ρ : Rho) : Out (Option D) := kF1 vs mt me (g d ρ)
theorem lF_ (vs : List Nat) (g : D → Rho → Option Rho) (mt : Rho → Out Bool) (me : Rho → Out R) (d : D) (ρ : Rho) : lF' vs g mt me d ρ = kF1 vs mt me (g d ρ) := (rfl)
theorem kF1_ (vs : List Nat) (mt : Rho → Out Bool) (me : Rho → Out R) (ρ : Rho) : kF1 vs mt me (some ρ) = kF2 vs me (mt ρ) := (rfl)
theorem kF2t (vs : List Nat) (me : Rho → Out R) (ρ : Rho) : kF2 vs me (.ok true ρ) = kF3 vs (me ρ) := (rfl)
theorem kF2f (vs : List Nat) (me : Rho → Out R) (ρ : Rho) : kF2 vs me (.ok false ρ) = .ok none (wipeR ρ vs) := (rfl)
theorem kF3_ (vs : List Nat) (d : D) (ρ : Rho) : kF3 vs (.ok (.sh d) ρ) = .ok (some d) (wipeR ρ vs) := (rfl)
/-- one turn of a loop -/
def kT' (mb : Rho → SOut) (o : Option Rho) : SOut := match o with
  | some ρ => mb ρ
  | none => .bad
def fT' (g : D → Rho → Option Rho) (mb : Rho → SOut) (d : D) (ρ : Rho) : SOut := kT' mb (g d ρ)
theorem fT_ (g : D → Rho → Option Rho) (mb : Rho → SOut) (d : D) (ρ : Rho) : fT' g mb d ρ = kT' mb (g d ρ) := (rfl)
theorem kT_ (mb : Rho → SOut) (ρ : Rho) : kT' mb (some ρ) = mb ρ := (rfl)
section
variable {α : Type} {vs : List Nat} {mi : Rho → Out (List D)} {g : D → Rho → Option Rho} {mt : Rho → Out Bool} {me : Rho → Out R} {mb : Rho → SOut} {ρ ρ1 ρ2 : Rho} {d : D}
theorem lT_ok {x : D} (h : lT' vs g me d ρ = .ok x ρ2) : ∃ ρ3 ρ4, g d ρ = some ρ3 ∧ me ρ3 = .ok (.sh x) ρ4 ∧ wipeR ρ4 vs = ρ2 := by
  unfold lT' kL1' at h
  split at h
  · rename_i ρ3 e3
    unfold kL2' at h
    split at h
    · rename_i d' ρ4 e4
      cases h
      exact ⟨ρ3, ρ4, e3, e4, rfl⟩
    · cases h
  · cases h
theorem fT_ne {o : SOut} (h : fT' g mb d ρ = o) (hb : o ≠ .bad) : ∃ ρ1, g d ρ = some ρ1 ∧ mb ρ1 = o := by
  unfold fT' kT' at h
  split at h
  · rename_i ρ1 e; exact ⟨ρ1, e, h⟩
  · exact absurd h.symm hb
theorem comp_map (enc h : α → D) : ∀ {xs : List α}, (∀ x ∈ xs, lT' vs g me (enc x) ρ = .ok (h x) ρ) → compL vs g mTrue me (xs.map enc) ρ = .ok (xs.map h) ρ
  | [], _ => rfl
  | x :: xs, hh => by
    obtain ⟨ρ3, ρ4, e1, e2, e3⟩ := lT_ok (hh x (by simp))
    have ih := comp_map enc h (xs := xs) fun y hy => hh y (by simp [hy])
    rw [List.map_cons]
    unfold compL
    rw [e1]
    show (mTrue ρ3).bind _ = _
    simp only [mTrue, bind_ok', if_true, e2, e3, ih, List.map_cons]
theorem comp_filter (enc h : α → D) (p : α → Bool) : ∀ {xs : List α}, (∀ x ∈ xs, lF' vs g mt me (enc x) ρ = .ok (if p x = true then some (h x) else none) ρ) →
    compL vs g mt me (xs.map enc) ρ = .ok ((xs.filter p).map h) ρ
  | [], _ => rfl
  | x :: xs, hh => by
    have ih := comp_filter enc h p (xs := xs) fun y hy => hh y (by simp [hy])
    have hx := hh x (by simp)
    rw [List.map_cons]
    unfold lF' kF1 at hx
    unfold compL
    split at hx
    · rename_i ρ3 e3
      try rw [e3]
      show (mt ρ3).bind _ = _
      unfold kF2 at hx
      split at hx
      · rename_i ρ4 e4
        rw [e4, bind_ok']
        unfold kF3 at hx
        split at hx
        · rename_i d ρ5 e5
          injection hx with h1 h2
          cases hp : p x with
          | false => rw [hp] at h1; simp at h1
          | true =>
            rw [hp, if_pos rfl] at h1
            cases h1
            simp only [if_true, e5, h2, ih, bind_ok', List.filter_cons, hp, List.map_cons]
        · cases hx
      · rename_i ρ4 e4
        rw [e4, bind_ok']
        injection hx with h1 h2
        cases hp : p x with
        | true => rw [hp] at h1; simp at h1
        | false => simp only [Bool.false_eq_true, if_false, h2, ih, List.filter_cons, hp]
      · cases hx
    · cases hx
theorem lc_map (enc h : α → D) (xs : List α) (hi : mi ρ = .ok (xs.map enc) ρ1) (hw : wipeR ρ1 vs = ρ2) (hl : xs.length ≤ 1000000) (hh : ∀ x ∈ xs, lT' vs g me (enc x) ρ2 = .ok (h x) ρ2) :
    mLc vs mi g mTrue me ρ = .ok (.ol (xs.map h)) ρ2 := by
  unfold mLc
  rw [hi, bind_ok', if_pos (by rw [List.length_map]; exact hl), hw, comp_map enc h hh]
  rfl
theorem lc_filter (enc h : α → D) (p : α → Bool) (xs : List α) (hi : mi ρ = .ok (xs.map enc) ρ1) (hw : wipeR ρ1 vs = ρ2) (hl : xs.length ≤ 1000000)
    (hh : ∀ x ∈ xs, lF' vs g mt me (enc x) ρ2 = .ok (if p x = true then some (h x) else none) ρ2) : mLc vs mi g mt me ρ = .ok (.ol ((xs.filter p).map h)) ρ2 := by
  unfold mLc
  rw [hi, bind_ok', if_pos (by rw [List.length_map]; exact hl), hw, comp_filter enc h p hh]
  rfl
/-- a comprehension that draws: what holds of each item -/
theorem lc_draw (Q : D → Prop) (P : Rho → Prop) (enc : α → D) (xs : List α) (hi : mi ρ = .ok (xs.map enc) ρ1) (hw : P (wipeR ρ1 vs)) (hl : xs.length ≤ 1000000)
    (hh : ∀ x ∈ xs, ∀ ρ, P ρ → ∃ d ρ', lT' vs g me (enc x) ρ = .ok d ρ' ∧ Q d ∧ P ρ') : ∃ ds ρ', mLc vs mi g mTrue me ρ = .ok (.ol ds) ρ' ∧ P ρ' ∧ ds.length = xs.length ∧ ∀ d ∈ ds, Q d := by
  have key : ∀ (xs : List α) (ρ : Rho), P ρ → (∀ x ∈ xs, ∀ ρ, P ρ → ∃ d ρ', lT' vs g me (enc x) ρ = .ok d ρ' ∧ Q d ∧ P ρ') → ∃ ds ρ', compL vs g mTrue me (xs.map enc) ρ = .ok ds ρ' ∧ P ρ' ∧ ds.length = xs.length ∧ ∀ d ∈ ds, Q d := by
    intro xs
    induction xs with
    | nil => intro ρ h0 _; exact ⟨[], ρ, rfl, h0, rfl, fun d h => absurd h (by simp)⟩
    | cons x xs ih =>
      intro ρ h0 hh
      obtain ⟨d, ρ', e0, hq, hp⟩ := hh x (by simp) ρ h0
      obtain ⟨ρ3, ρ4, e1, e2, rfl⟩ := lT_ok e0
      obtain ⟨ds, ρ', e3, h1, h2, h3⟩ := ih _ hp fun y hy => hh y (by simp [hy])
      refine ⟨d :: ds, ρ', ?_, h1, by simp [h2], fun y hy => ?_⟩
      · rw [List.map_cons]
        unfold compL
        rw [e1]
        show (mTrue ρ3).bind _ = _
        simp only [mTrue, bind_ok', if_true, e2, e3]
      · rcases List.mem_cons.mp hy with rfl | hy
        · exact hq
        · exact h3 y hy
  obtain ⟨ds, ρ', e, h1, h2, h3⟩ := key xs _ hw hh
  refine ⟨ds, ρ', ?_, h1, h2, h3⟩
  unfold mLc
  rw [hi, bind_ok', if_pos (by rw [List.length_map]; exact hl), e]
  rfl
end
/-! ### loops over a list of a kind -/
inductive Stp (σ : Type) where
  | go (s : σ) | ret (r : R) | brk (s : σ)
def runL {σ α : Type} (step : σ → α → Stp σ) : σ → List α → Stp σ
  | s, [] => .go s
  | s, x :: xs => match step s x with
    | .go s' => runL step s' xs
    | .ret r => .ret r
    | .brk s' => .brk s'
/-- how a loop ends: ordinarily in a state, or by a return -/
def Ended {σ : Type} (P : σ → Rho → Prop) (T : Rho → Prop) (o : SOut) : Stp σ → Prop
  | .go s => ∃ ρ, o = .nx ρ ∧ P s ρ
  | .ret r => ∃ ρ, o = .rt r ρ ∧ T ρ
  | .brk s => ∃ ρ, o = .nx ρ ∧ P s ρ
/-- how a turn ends -/
def Turned0 {σ : Type} (P : σ → Rho → Prop) (T : Rho → Prop) (o : SOut) (st : Stp σ) : Prop := match o, st with
  | .nx ρ, .go s => P s ρ
  | .ct ρ, .go s => P s ρ
  | .rt r ρ, .ret r' => r = r' ∧ T ρ
  | .bk ρ, .brk s => P s ρ
  | _, _ => False
section
variable {σ : Type} {P : σ → Rho → Prop} {T : Rho → Prop} {ρ : Rho} {s : σ} {r r' : R}
theorem tu_nx0 : Turned0 P T (.nx ρ) (.go s) = P s ρ := (rfl)
theorem tu_ct0 : Turned0 P T (.ct ρ) (.go s) = P s ρ := (rfl)
theorem tu_rt0 : Turned0 P T (.rt r ρ) (.ret r') = (r = r' ∧ T ρ) := (rfl)
theorem tu_bk0 : Turned0 P T (.bk ρ) (.brk s) = P s ρ := (rfl)
end
theorem forL_run0 {σ α : Type} {g : D → Rho → Option Rho} {mb : Rho → SOut} (enc : α → D) (P : σ → Rho → Prop) (T : Rho → Prop) (step : σ → α → Stp σ) : ∀ {xs : List α} {s : σ} {ρ : Rho}, P s ρ →
    (∀ x ∈ xs, ∀ s ρ, P s ρ → Turned0 P T (fT' g mb (enc x) ρ) (step s x)) → Ended P T (forL g mb (xs.map enc) ρ) (runL step s xs)
  | [], s, ρ, h0, _ => ⟨ρ, rfl, h0⟩
  | x :: xs, s, ρ, h0, h => by
    have t := h x (by simp) s ρ h0
    have ih := fun s' ρ' h' => forL_run0 enc P T step (xs := xs) (s := s') (ρ := ρ') h' fun y hy => h y (by simp [hy])
    rw [List.map_cons]
    unfold forL runL
    have nb : fT' g mb (enc x) ρ ≠ .bad := fun e => by rw [e] at t; exact t
    obtain ⟨ρ1, e1, e2⟩ := fT_ne (o := fT' g mb (enc x) ρ) rfl nb
    rw [← e2] at t
    rw [e1]
    cases hs : step s x with
    | go s' =>
      rw [hs] at t
      cases hm : mb ρ1 with
      | nx ρ2 => rw [hm] at t; simp only [hm]; exact ih s' ρ2 t
      | ct ρ2 => rw [hm] at t; simp only [hm]; exact ih s' ρ2 t
      | rt r ρ2 => rw [hm] at t; exact t.elim
      | bk ρ2 => rw [hm] at t; exact t.elim
      | bad => rw [hm] at t; exact t.elim
    | ret r =>
      rw [hs] at t
      cases hm : mb ρ1 with
      | rt r' ρ2 => rw [hm] at t; obtain ⟨rfl, t⟩ := t; exact ⟨ρ2, by simp only [hm], t⟩
      | nx ρ2 => rw [hm] at t; exact t.elim
      | ct ρ2 => rw [hm] at t; exact t.elim
      | bk ρ2 => rw [hm] at t; exact t.elim
      | bad => rw [hm] at t; exact t.elim
    | brk s' =>
      rw [hs] at t
      cases hm : mb ρ1 with
      | bk ρ2 => rw [hm] at t; exact ⟨ρ2, by simp only [hm], t⟩
      | nx ρ2 => rw [hm] at t; exact t.elim
      | ct ρ2 => rw [hm] at t; exact t.elim
      | rt r ρ2 => rw [hm] at t; exact t.elim
      | bad => rw [hm] at t; exact t.elim
/-- what a turn that draws does: it goes on, or leaves -/
def Went0 {α : Type} (P : List α → Rho → Prop) (C : SOut → Prop) (xs : List α) (o : SOut) : Prop := match o with
  | .nx ρ => P xs ρ
  | .ct ρ => P xs ρ
  | .bk ρ => C (.nx ρ)
  | .rt r ρ => C (.rt r ρ)
  | .bad => False
section
variable {α : Type} {P : List α → Rho → Prop} {C : SOut → Prop} {xs : List α} {ρ : Rho} {r : R}
theorem we_nx0 : Went0 P C xs (.nx ρ) = P xs ρ := (rfl)
theorem we_ct0 : Went0 P C xs (.ct ρ) = P xs ρ := (rfl)
theorem we_bk0 : Went0 P C xs (.bk ρ) = C (.nx ρ) := (rfl)
theorem we_rt0 : Went0 P C xs (.rt r ρ) = C (.rt r ρ) := (rfl)
end
/-- a loop that keeps what it keeps, whatever is drawn; it goes through, or returns -/
theorem forL_keep0 {α : Type} {g : D → Rho → Option Rho} {mb : Rho → SOut} (enc : α → D) (P : List α → Rho → Prop) (C : SOut → Prop) : ∀ {xs : List α} {ρ : Rho}, P xs ρ →
    (∀ x xs ρ, P (x :: xs) ρ → Went0 P C xs (fT' g mb (enc x) ρ)) → (∀ ρ, P [] ρ → C (.nx ρ)) → C (forL g mb (xs.map enc) ρ)
  | [], ρ, h0, _, he => he ρ h0
  | x :: xs, ρ, h0, h, he => by
    have t := h x xs ρ h0
    have nb : fT' g mb (enc x) ρ ≠ .bad := fun e => by rw [e] at t; exact t
    obtain ⟨ρ1, e1, e2⟩ := fT_ne (o := fT' g mb (enc x) ρ) rfl nb
    rw [← e2] at t
    rw [List.map_cons]
    unfold forL
    rw [e1]
    cases hm : mb ρ1 with
    | nx ρ2 => rw [hm] at t; simp only [hm]; exact forL_keep0 enc P C t h he
    | ct ρ2 => rw [hm] at t; simp only [hm]; exact forL_keep0 enc P C t h he
    | bk ρ2 => rw [hm] at t; simp only [hm]; exact t
    | rt r ρ2 => rw [hm] at t; simp only [hm]; exact t
    | bad => rw [hm] at t; exact t.elim
/-- the same, closed -/
@[irreducible] def Turned {σ : Type} (P : σ → Rho → Prop) (T : Rho → Prop) (o : SOut) (st : Stp σ) : Prop := Turned0 P T o st
@[irreducible] def Went {α : Type} (P : List α → Rho → Prop) (C : SOut → Prop) (xs : List α) (o : SOut) : Prop := Went0 P C xs o
section
variable {σ α : Type} {P : σ → Rho → Prop} {T : Rho → Prop} {ρ : Rho} {s : σ} {r r' : R} {P' : List α → Rho → Prop} {C : SOut → Prop} {xs : List α}
theorem turned_def {o : SOut} {st : Stp σ} : Turned P T o st = Turned0 P T o st := by unfold Turned; rfl
theorem went_def {o : SOut} : Went P' C xs o = Went0 P' C xs o := by unfold Went; rfl
theorem tu_nx : Turned P T (.nx ρ) (.go s) = P s ρ := turned_def
theorem tu_ct : Turned P T (.ct ρ) (.go s) = P s ρ := turned_def
theorem tu_rt : Turned P T (.rt r ρ) (.ret r') = (r = r' ∧ T ρ) := turned_def
theorem tu_bk : Turned P T (.bk ρ) (.brk s) = P s ρ := turned_def
theorem we_nx : Went P' C xs (.nx ρ) = P' xs ρ := went_def
theorem we_ct : Went P' C xs (.ct ρ) = P' xs ρ := went_def
theorem we_bk : Went P' C xs (.bk ρ) = C (.nx ρ) := went_def
theorem we_rt : Went P' C xs (.rt r ρ) = C (.rt r ρ) := went_def
theorem forL_run {g : D → Rho → Option Rho} {mb : Rho → SOut} (enc : α → D) (P : σ → Rho → Prop) (T : Rho → Prop) (step : σ → α → Stp σ) {xs : List α} {s : σ} {ρ : Rho} (h0 : P s ρ)
    (h : ∀ x ∈ xs, ∀ s ρ, P s ρ → Turned P T (fT' g mb (enc x) ρ) (step s x)) : Ended P T (forL g mb (xs.map enc) ρ) (runL step s xs) := forL_run0 enc P T step h0 fun x hx s ρ hp => turned_def ▸ h x hx s ρ hp
theorem forL_keep {g : D → Rho → Option Rho} {mb : Rho → SOut} (enc : α → D) (P : List α → Rho → Prop) (C : SOut → Prop) {xs : List α} {ρ : Rho} (h0 : P xs ρ)
    (h : ∀ x xs ρ, P (x :: xs) ρ → Went P C xs (fT' g mb (enc x) ρ)) (he : ∀ ρ, P [] ρ → C (.nx ρ)) : C (forL g mb (xs.map enc) ρ) := forL_keep0 enc P C h0 (fun x xs ρ hp => went_def ▸ h x xs ρ hp) he
end
theorem fSl_t (ds : List D) (lo hi : Option Int) : fSl (.tup ds) lo hi = some (.tup (cutD ds lo hi)) := (rfl)
theorem fSl_l (ds : List D) (lo hi : Option Int) : fSl (.lst ds) lo hi = some (.lst (cutD ds lo hi)) := (rfl)
theorem bls_map {α : Type} (p : α → Bool) : ∀ xs : List α, blsD (xs.map fun x => .bl (p x)) = some (xs.map p)
  | [] => rfl
  | x :: xs => by rw [List.map_cons, blsD, bls_map p xs]; rfl
theorem bls_n : blsD [] = some [] := (rfl)
theorem bls_c (b : Bool) (ds : List D) : blsD (.bl b :: ds) = (blsD ds).map (b :: ·) := by rw [blsD]
theorem any_map {α : Type} (p : α → Bool) (xs : List α) : fAny [.lst (xs.map fun x => .bl (p x))] = some (.bl (xs.any p)) := by
  unfold fAny
  simp [bls_map, List.any_map]
  try rfl
theorem all_map {α : Type} (p : α → Bool) (xs : List α) : fAll [.lst (xs.map fun x => .bl (p x))] = some (.bl (xs.all p)) := by
  unfold fAll
  simp [bls_map, List.all_map]
  try rfl
theorem rng_map {lo : Int} {n : Nat} : rngD lo n = (List.range n).map fun i => .int (lo + (i : Nat)) := rfl
theorem zip_map {α β : Type} (f : α → D) (h : β → D) : ∀ (xs : List α) (ys : List β), zipD (xs.map f) (ys.map h) = (xs.zip ys).map fun p => .tup [f p.1, h p.2]
  | [], _ => by simp [zipD]
  | _ :: _, [] => by simp [zipD]
  | x :: xs, y :: ys => by simp [zipD, zip_map f h xs ys]
theorem deq_ii (i j : Int) : deq (.int i) (.int j) = some (decide (i = j)) := (rfl)
theorem deq_ss (i j : Str) : deq (.str i) (.str j) = some (decide (i = j)) := (rfl)
theorem deq_bb (i j : Bool) : deq (.bl i) (.bl j) = some (decide (i = j)) := (rfl)
theorem deq_nn : deq .non .non = some true := (rfl)
theorem deq_ni (i : Int) : deq .non (.int i) = some false := (rfl)
theorem deq_in (i : Int) : deq (.int i) .non = some false := (rfl)
theorem deq_ns (i : Str) : deq .non (.str i) = some false := (rfl)
theorem deq_sn (i : Str) : deq (.str i) .non = some false := (rfl)
theorem deq_nb (i : Bool) : deq .non (.bl i) = some false := (rfl)
theorem deq_bn (i : Bool) : deq (.bl i) .non = some false := (rfl)
theorem deq_is (i : Int) (j : Str) : deq (.int i) (.str j) = some false := (rfl)
theorem deq_si (i : Str) (j : Int) : deq (.str i) (.int j) = some false := (rfl)
theorem deq_bs (i : Bool) (j : Str) : deq (.bl i) (.str j) = some false := (rfl)
theorem deq_sb (i : Str) (j : Bool) : deq (.str i) (.bl j) = some false := (rfl)
section
variable {α : Type} (a b c d e f g h : α) (r : List α)
theorem atI_7 : atI (a :: b :: c :: d :: e :: f :: g :: h :: r) 7 = some h := by
  have h2 : (7 : Int) < (r.length : Int) + 1 + 1 + 1 + 1 + 1 + 1 + 1 + 1 := by omega
  simp [atI, ixN, h2]
end
section
variable {α : Type} (a b c d e f g : α) (r : List α)
theorem atI_0 : atI (a :: r) 0 = some a := by simp [atI, ixN]
theorem atI_1 : atI (a :: b :: r) 1 = some b := by
  have h : ¬ ((r.length : Int) + 1 + 1 ≤ 1) := by omega
  have h2 : (1 : Int) < (r.length : Int) + 1 + 1 := by omega
  simp [atI, ixN, h, h2]
theorem atI_2 : atI (a :: b :: c :: r) 2 = some c := by
  have h2 : (2 : Int) < (r.length : Int) + 1 + 1 + 1 := by omega
  simp [atI, ixN, h2]
theorem atI_3 : atI (a :: b :: c :: d :: r) 3 = some d := by
  have h2 : (3 : Int) < (r.length : Int) + 1 + 1 + 1 + 1 := by omega
  simp [atI, ixN, h2]
theorem atI_4 : atI (a :: b :: c :: d :: e :: r) 4 = some e := by
  have h2 : (4 : Int) < (r.length : Int) + 1 + 1 + 1 + 1 + 1 := by omega
  simp [atI, ixN, h2]
theorem atI_5 : atI (a :: b :: c :: d :: e :: f :: r) 5 = some f := by
  have h2 : (5 : Int) < (r.length : Int) + 1 + 1 + 1 + 1 + 1 + 1 := by omega
  simp [atI, ixN, h2]
theorem atI_6 : atI (a :: b :: c :: d :: e :: f :: g :: r) 6 = some g := by
  have h2 : (6 : Int) < (r.length : Int) + 1 + 1 + 1 + 1 + 1 + 1 + 1 := by omega
  simp [atI, ixN, h2]
end
theorem atI_get {α β : Type} (f : α → β) {xs : List α} {i : Nat} (h : i < xs.length) : atI (xs.map f) (i : Int) = some (f xs[i]) := by
  have h2 : (i : Int) < xs.length := by omega
  simp [atI, ixN, h2, h]
/-! ### what can be shown -/
structure FineP (k w : Nat) (p : PyData) : Prop where
  sh : p.showable = true
  lv : p.leavesShort 13 = true
  wt : p.weight ≤ w
  dp : p.depth ≤ k
  nd : p.hasDict = false
def Fine (k w : Nat) (d : D) : Prop := ∃ p, pyOf d = some p ∧ FineP k w p
theorem Fine.mono {k k' w w' : Nat} {d : D} (h : Fine k w d) (hk : k ≤ k') (hw : w ≤ w') : Fine k' w' d := by
  obtain ⟨p, e, f⟩ := h
  exact ⟨p, e, f.sh, f.lv, Nat.le_trans f.wt hw, Nat.le_trans f.dp hk, f.nd⟩
theorem fine_non : Fine 0 0 .non := ⟨_, rfl, by decide, by decide, by decide, by decide, by decide⟩
theorem fine_bl (b : Bool) : Fine 0 0 (.bl b) := ⟨_, rfl, by cases b <;> decide, by cases b <;> decide, by cases b <;> decide, by cases b <;> decide, by cases b <;> decide⟩
theorem fine_int {i : Int} (h0 : -(10 ^ 12) < i) (h1 : i < 10 ^ 12) : Fine 0 40 (.int i) := by
  have hn : i.natAbs < 10 ^ 12 := by omega
  have hlog : i.natAbs.log2 < 40 := by
    by_cases hz : i.natAbs = 0
    · rw [hz]; decide
    · exact (Nat.log2_lt hz).mpr (by omega)
  refine ⟨.int i, rfl, ?_, ?_, ?_, ?_, rfl⟩
  · simp only [PyData.showable, decide_eq_true_eq]; omega
  · have e := int_text_length_le10 (k := 12) (by decide) hn
    simp only [PyData.leavesShort, PyData.shown]
    exact decide_eq_true (by rw [PySem.ofString_length]; exact e)
  · simp only [PyData.weight]; split <;> omega
  · simp only [PyData.depth]; omega
theorem fine_str {x : Str} {w : Nat} (h : (x.cps.toList.all fun c => decide (c < 16 ^ 8)) = true) (hw : x.cps.size ≤ w) : Fine 0 w (.str x) := ⟨.str x, rfl, rfl, by simpa only [PyData.leavesShort] using h, by simpa only [PyData.weight] using hw, by simp only [PyData.depth]; omega, rfl⟩
theorem fine_all {k w : Nat} : ∀ {ds : List D}, (∀ d ∈ ds, Fine k w d) → ∃ ps, pyOfL ds = some ps ∧ PyData.showableAll ps = true ∧ PyData.leavesShortAll 13 ps = true ∧ PyData.weightAll ps ≤ ds.length * (w + 1) ∧ PyData.depthAll ps ≤ k ∧ PyData.hasDictAll ps = false
  | [], _ => ⟨[], rfl, rfl, rfl, by simp [PyData.weightAll], by simp [PyData.depthAll], rfl⟩
  | d :: ds, h => by
    obtain ⟨p, e, f⟩ := h d (by simp)
    obtain ⟨ps, e2, a1, a2, a3, a4, a5⟩ := fine_all (ds := ds) fun x hx => h x (by simp [hx])
    refine ⟨p :: ps, ?_, ?_, ?_, ?_, ?_, ?_⟩
    · unfold pyOfL; rw [e, e2]
    · simp only [PyData.showableAll, f.sh, a1, Bool.and_true]
    · simp only [PyData.leavesShortAll, f.lv, a2, Bool.and_true]
    · simp only [PyData.weightAll, List.length_cons]
      have := f.wt
      rw [Nat.add_mul]
      omega
    · simp only [PyData.depthAll]
      exact Nat.max_le.mpr ⟨f.dp, a4⟩
    · simp only [PyData.hasDictAll, f.nd, a5, Bool.or_false]
theorem fine_tup {k w n : Nat} {ds : List D} (h : ∀ d ∈ ds, Fine k w d) (hn : ds.length ≤ n) : Fine (k + 1) (n * (w + 1)) (.tup ds) := by
  obtain ⟨ps, e, a1, a2, a3, a4, a5⟩ := fine_all h
  refine ⟨.tuple ps, by unfold pyOf; rw [e]; rfl, ?_, ?_, ?_, ?_, ?_⟩
  · simpa only [PyData.showable] using a1
  · simpa only [PyData.leavesShort] using a2
  · simp only [PyData.weight]; exact Nat.le_trans a3 (Nat.mul_le_mul_right _ hn)
  · simp only [PyData.depth]; omega
  · simpa only [PyData.hasDict] using a5
theorem fine_lst {k w n : Nat} {ds : List D} (h : ∀ d ∈ ds, Fine k w d) (hn : ds.length ≤ n) : Fine (k + 1) (n * (w + 1)) (.lst ds) := by
  obtain ⟨ps, e, a1, a2, a3, a4, a5⟩ := fine_all h
  refine ⟨.list ps, by unfold pyOf; rw [e]; rfl, ?_, ?_, ?_, ?_, ?_⟩
  · simpa only [PyData.showable] using a1
  · simpa only [PyData.leavesShort] using a2
  · simp only [PyData.weight]; exact Nat.le_trans a3 (Nat.mul_le_mul_right _ hn)
  · simp only [PyData.depth]; omega
  · simpa only [PyData.hasDict] using a5
theorem repr_fine {k w : Nat} {d : D} (h : Fine k w d) (hk : k ≤ 100) (hw : w ≤ 2 ^ 20) : ∃ s, fRepr [d] = some (.str s) := by
  obtain ⟨p, e, f⟩ := h
  refine ⟨p.shown, ?_⟩
  unfold fRepr
  simp only [e]
  rw [if_pos]
  unfold reprOk
  rw [f.sh, f.lv, f.nd, decide_eq_true (Nat.le_trans f.wt hw), decide_eq_true (Nat.le_trans f.dp hk)]
  rfl
theorem repr_bl (b : Bool) : ∃ s, fRepr [.bl b] = some (.str s) := repr_fine (fine_bl b) (by decide) (by decide)
theorem repr_bb (a b : Bool) : ∃ s, fRepr [.tup [.bl a, .bl b]] = some (.str s) := repr_fine (fine_tup (k := 0) (w := 0) (n := 2) (fun d hd => by
  simp only [List.mem_cons, List.not_mem_nil, or_false] at hd
  rcases hd with rfl | rfl
  · exact fine_bl _
  · exact fine_bl _) (by simp)) (by decide) (by decide)
/-! ### data that are the same -/
def Shp (k : Nat) (d : D) : Prop := ∃ a, toPy d = some a ∧ a.canLay0 = true ∧ a.depth ≤ k
theorem Shp.mono {k k' : Nat} {d : D} (h : Shp k d) (hk : k ≤ k') : Shp k' d := by
  obtain ⟨a, e, c, p⟩ := h
  exact ⟨a, e, c, Nat.le_trans p hk⟩
theorem shp_non : Shp 0 .non := ⟨_, rfl, rfl, by simp [PyData.depth]⟩
theorem shp_bl (b : Bool) : Shp 0 (.bl b) := ⟨_, rfl, rfl, by simp [PyData.depth]⟩
theorem shp_int (i : Int) : Shp 0 (.int i) := ⟨_, rfl, rfl, by simp [PyData.depth]⟩
theorem shp_str {x : Str} (h : (PyData.str x).canLay0 = true) : Shp 0 (.str x) := ⟨_, rfl, h, by simp [PyData.depth]⟩
theorem shp_all {k : Nat} : ∀ {ds : List D}, (∀ d ∈ ds, Shp k d) → ∃ as, toPyL ds = some as ∧ PyData.canLayAll0 as = true ∧ PyData.depthAll as ≤ k
  | [], _ => ⟨[], by unfold toPyL; rfl, rfl, by simp [PyData.depthAll]⟩
  | d :: ds, h => by
    obtain ⟨a, e, c, p⟩ := h d (by simp)
    obtain ⟨as, e2, c2, p2⟩ := shp_all (ds := ds) fun x hx => h x (by simp [hx])
    refine ⟨a :: as, by unfold toPyL; simp only [e, e2], ?_, ?_⟩
    · simp only [PyData.canLayAll0, c, c2, Bool.and_true]
    · simp only [PyData.depthAll]; exact Nat.max_le.mpr ⟨p, p2⟩
theorem shp_tup {k : Nat} {ds : List D} (h : ∀ d ∈ ds, Shp k d) : Shp (k + 1) (.tup ds) := by
  obtain ⟨as, e, c, p⟩ := shp_all h
  exact ⟨.tuple as, by unfold toPy; rw [e]; rfl, by simpa only [PyData.canLay0] using c, by simp only [PyData.depth]; omega⟩
theorem shp_lst {k : Nat} {ds : List D} (h : ∀ d ∈ ds, Shp k d) : Shp (k + 1) (.lst ds) := by
  obtain ⟨as, e, c, p⟩ := shp_all h
  exact ⟨.list as, by unfold toPy; rw [e]; rfl, by simpa only [PyData.canLay0] using c, by simp only [PyData.depth]; omega⟩
def deq2 (a b : Option PyData) : Option Bool := match a, b with
  | some a, some b => if SeqAt.shaped a = true ∧ SeqAt.shaped b = true then some (PyData.eqv a b) else none
  | _, _ => none
theorem deq_ll (a b : List D) : deq (.lst a) (.lst b) = deq2 (toPy (.lst a)) (toPy (.lst b)) := (rfl)
theorem deq_tt (a b : List D) : deq (.tup a) (.tup b) = deq2 (toPy (.tup a)) (toPy (.tup b)) := (rfl)
theorem deq_shp {k : Nat} {d : D} (h : Shp k d) (hk : k ≤ 64) : deq d d = some true := by
  obtain ⟨a, e, c, p⟩ := h
  have sh : SeqAt.shaped a = true := by
    unfold SeqAt.shaped
    rw [c, decide_eq_true (Nat.le_trans p hk)]
    rfl
  have rf : PyData.eqv a a = true := SeqAt.eqv_refl a c
  cases d with
  | non => rfl
  | bl b => simp [deq]
  | int i => simp [deq]
  | str x => simp [deq]
  | lst ds => rw [deq_ll, e]; simp [deq2, sh, rf]
  | tup ds => rw [deq_tt, e]; simp [deq2, sh, rf]
  | fn a => cases e
  | ty n => cases e
  | dK l => cases e
  | dT l => cases e
end DL

set_option Elab.async false
set_option linter.all false
set_option maxRecDepth 100000
set_option maxHeartbeats 4000000
/-! DLx: dicts that are written, filled and asked; x.pop(i); texts' methods; parallel stores. -/
namespace DL
open PySem PySem.Spec PyProof.Rows L2

section
variable {K : PySem.W.Frag} {X : Cx} {B : List Nat} {J H : Hp} {a b c e k v : Expr} {es : List Expr} {pos : Pos} {m m1 m2 m3 mk mv : Rho → Out Hd}
/-! ### what is at hand, shared at once -/
def lD (K : PySem.W.Frag) (B : List Nat) (m : Rho → Out D) : TE := fun σ H Q => ∃ σ0 F J ρ d ρ', CI K B σ0 F J ρ σ H ∧ m ρ = .ok d ρ' ∧ ∀ J' H' v, CI K B σ0 F J' ρ' σ H' → Same J J' → Rp K J' d v → Q v H'
def oZ (o : Option (D × Rho)) : Out D := match o with
  | some (d, ρ) => .ok d ρ
  | none => .bad
def kD (h : Hd) (ρ : Rho) : Out D := oZ (fzAt ρ h)
def mD (m : Rho → Out Hd) : Rho → Out D := fun ρ => (m ρ).bind kD
theorem pe_mD (h : DP X B e m) : PE X e (lD X.K B (mD m)) := pe_weak h.pe fun σ H Q ⟨σ0, F, J, ρ, d, ρ', c, e1, q⟩ => by
  obtain ⟨hd, ρ1, e2, e3⟩ := bind_ok e1
  refine ⟨σ0, F, J, ρ, hd, ρ1, c, e2, fun J1 H1 v c1 s1 r1 => ?_⟩
  unfold kD oZ at e3
  split at e3
  · rename_i d' ρ2 e4
    cases e3
    obtain ⟨J2, c2, s2, w⟩ := c1.fz r1 e4
    exact q J2 H1 v c2 (s1.trans s2) w
  · cases e3
def kKey (h : Hd) (ρ : Rho) : Out Key := Out.opt ((res ρ h).bind keyD) ρ
def mKey (m : Rho → Out Hd) : Rho → Out Key := fun ρ => (m ρ).bind kKey
def lKey (K : PySem.W.Frag) (B : List Nat) (m : Rho → Out Key) : TE := fun σ H Q => ∃ σ0 F J ρ k ρ', CI K B σ0 F J ρ σ H ∧ m ρ = .ok k ρ' ∧ ∀ J' H', CI K B σ0 F J' ρ' σ H' → Same J J' → Q (L2.kV k) H'
theorem pe_mKey (h : DP X B e m) : PE X e (lKey X.K B (mKey m)) := pe_weak h.pe fun σ H Q ⟨σ0, F, J, ρ, d, ρ', c, e1, q⟩ => by
  obtain ⟨hd, ρ1, e2, e3⟩ := bind_ok e1
  refine ⟨σ0, F, J, ρ, hd, ρ1, c, e2, fun J1 H1 v c1 s1 r1 => ?_⟩
  obtain ⟨e4, rfl⟩ := opt_ok e3
  cases e5 : res ρ' hd with
  | none => rw [e5] at e4; cases e4
  | some d1 =>
    rw [e5] at e4
    rw [keyD_of (c1.res r1 e5) e4]
    exact q J1 H1 c1 s1

/-! ### {} and {k: v, ..} -/
def mNewK : Rho → Out R := fun ρ => .ok (.oK []) ρ
theorem do_newK : DO X B (.Dict [] [] pos) mNewK := ⟨pe_weak pe_dnewK fun σ H Q ⟨σ0, F, J, ρ, r, ρ', c, e1, q⟩ => by
  cases e1
  intro p hp
  exact q J _ _ (c.fresh hp ⟨p, [], rfl, rfl, upd_same, .nil⟩) (Same.refl _)⟩
def mNewT : Rho → Out R := fun ρ => .ok (.oT []) ρ
theorem do_newT : DO X B (.Dict [] [] pos) mNewT := ⟨pe_weak pe_dnewT fun σ H Q ⟨σ0, F, J, ρ, r, ρ', c, e1, q⟩ => by
  cases e1
  intro p hp
  exact q J _ _ (c.fresh hp ⟨p, [], rfl, rfl, upd_same, .nil⟩) (Same.refl _)⟩
def mergeD (kvs more : List (Key × D)) : List (Key × D) := more.foldl (fun acc kv => putD acc kv.1 kv.2) kvs
theorem RpK.anyK {kvs : List (Key × D)} {ws : List (Key × V)} {k : Key} (r : RpK K J kvs ws) : (kvs.any fun kv => decide (kv.1 = k)) = (ws.any fun kv => decide (kv.1 = k)) := by
  induction kvs generalizing ws with
  | nil => cases r; rfl
  | cons kv kvs ih => cases r with | cons w r => rw [List.any_cons, List.any_cons, ih r]
theorem RpK.mapK (k : Key) {d : D} {v : V} (w : Rp K J d v) : ∀ {kvs : List (Key × D)} {ws : List (Key × V)}, RpK K J kvs ws → RpK K J (kvs.map fun kv => if kv.1 = k then (k, d) else kv) (ws.map fun kv => if kv.1 = k then (kv.1, v) else kv)
  | _, _, .nil => .nil
  | _, _, .cons (k := k') (d := d') (v := v') w' r => by
    have ih := RpK.mapK k w r
    rw [List.map_cons, List.map_cons]
    by_cases h : k' = k
    · subst h
      simp only [if_true]
      exact .cons w ih
    · simp only [if_neg h]
      exact .cons w' ih
theorem RpK.app : ∀ {kvs kvs' : List (Key × D)} {ws ws' : List (Key × V)}, RpK K J kvs ws → RpK K J kvs' ws' → RpK K J (kvs ++ kvs') (ws ++ ws')
  | _, _, _, _, .nil, q => q
  | _, _, _, _, .cons w r, q => .cons w (RpK.app r q)
theorem RpK.put {k : Key} {d : D} {v : V} {kvs : List (Key × D)} {ws : List (Key × V)} (r : RpK K J kvs ws) (w : Rp K J d v) : RpK K J (putD kvs k d) (putK ws k v) := by
  unfold putD putK
  rw [r.anyK]
  by_cases h : (ws.any fun kv => decide (kv.1 = k)) = true
  · rw [if_pos h, if_pos h]; exact RpK.mapK k w r
  · rw [if_neg h, if_neg h]; exact r.app (.cons w .nil)
theorem RpK.merge {more : List (Key × D)} {ms : List (Key × V)} {kvs : List (Key × D)} {ws : List (Key × V)} (r : RpK K J kvs ws) (q : RpK K J more ms) : RpK K J (mergeD kvs more) (mergeK ws ms) := by
  induction more generalizing ms kvs ws with
  | nil => cases q; exact r
  | cons p more ih =>
    cases q with
    | @cons k d v _ vs w q =>
      show RpK K J (mergeD (putD kvs k d) more) (mergeK (putK ws k v) vs)
      exact ih (r.put w) q
def kP3 (k : Key) (d : D) (kds : List (Key × D)) (ρ : Rho) : Out (List (Key × D)) := .ok ((k, d) :: kds) ρ
def kP2 (mr : Rho → Out (List (Key × D))) (k : Key) (d : D) (ρ : Rho) : Out (List (Key × D)) := (mr ρ).bind (kP3 k d)
def kP1 (mv : Rho → Out Hd) (mr : Rho → Out (List (Key × D))) (k : Key) (ρ : Rho) : Out (List (Key × D)) := (mD mv ρ).bind (kP2 mr k)
def mPairs : List ((Rho → Out Hd) × (Rho → Out Hd)) → Rho → Out (List (Key × D))
  | [] => fun ρ => .ok [] ρ
  | p :: r => fun ρ => (mKey p.1 ρ).bind (kP1 p.2 (mPairs r))
theorem mPairs_len : ∀ {ms : List ((Rho → Out Hd) × (Rho → Out Hd))} {ρ ρ' : Rho} {kds : List (Key × D)}, mPairs ms ρ = .ok kds ρ' → kds.length = ms.length
  | [], _, _, _, e => by cases e; rfl
  | p :: r, ρ, ρ', kds, e => by
    obtain ⟨k, ρ1, e1, e2⟩ := bind_ok e
    obtain ⟨d, ρ2, e3, e4⟩ := bind_ok e2
    obtain ⟨kds', ρ3, e5, e6⟩ := bind_ok e4
    cases e6
    have ih := mPairs_len e5
    simp [ih]
structure DPs (X : Cx) (B : List Nat) (pos : Pos) (keys : List (Option Expr)) (values : List Expr) (ms : List ((Rho → Out Hd) × (Rho → Out Hd))) : Prop where
  pps : PPs X pos keys values (ms.map fun p => (lKey X.K B (mKey p.1), lD X.K B (mD p.2)))
theorem dps_nil : DPs X B pos [] [] [] := ⟨pps_nil⟩
theorem dps_cons {ks : List (Option Expr)} {vs : List Expr} {ms : List ((Rho → Out Hd) × (Rho → Out Hd))} (hk : DP X B k mk) (hv : DP X B v mv) (hr : DPs X B pos ks vs ms) : DPs X B pos (some k :: ks) (v :: vs) ((mk, mv) :: ms) := ⟨pps_cons (pe_mKey hk) (pe_mD hv) hr.pps⟩
theorem tPairs_of {σ0 : L2.St} {F : Fm} {σ : L2.St} : ∀ {ms : List ((Rho → Out Hd) × (Rho → Out Hd))} {J H : Hp} {ρ ρ' : Rho} {kds : List (Key × D)} {Q : List (V × V) → Hp → Prop}, CI K B σ0 F J ρ σ H → mPairs ms ρ = .ok kds ρ' →
    (∀ J' H' kvs, CI K B σ0 F J' ρ' σ H' → Same J J' → RpK K J' kds kvs → Q (kvs.map fun kv => (L2.kV kv.1, kv.2)) H') → tPairs (ms.map fun p => (lKey K B (mKey p.1), lD K B (mD p.2))) σ H Q
  | [], J, H, ρ, ρ', kds, Q, c, e, q => by
    cases e
    exact q J H [] c (Same.refl _) .nil
  | p :: r, J, H, ρ, ρ', kds, Q, c, e, q => by
    obtain ⟨k, ρ1, e1, e2⟩ := bind_ok e
    obtain ⟨d, ρ2, e3, e4⟩ := bind_ok e2
    obtain ⟨kds', ρ3, e5, e6⟩ := bind_ok e4
    cases e6
    refine ⟨σ0, F, J, ρ, k, ρ1, c, e1, fun J1 H1 c1 s1 => ⟨σ0, F, J1, ρ1, d, ρ2, c1, e3, fun J2 H2 v c2 s2 w => ?_⟩⟩
    exact tPairs_of c2 e5 fun J3 H3 kvs c3 s3 w3 => q J3 H3 ((k, v) :: kvs) c3 ((s1.trans s2).trans s3) (.cons (w.mono s3) w3)
def kDisp (kds : List (Key × D)) (ρ : Rho) : Out R := .ok (.oK (mergeD [] kds)) ρ
def mDisp (ms : List ((Rho → Out Hd) × (Rho → Out Hd))) : Rho → Out R := fun ρ => (mPairs ms ρ).bind kDisp
theorem own_oK {kvs : List (Key × D)} {a : Addr} {S : List Addr} (w : OwnAt K J H (.oK kvs) (.ref a) S) : S = [a] := by
  obtain ⟨b, vs, e, rfl, _⟩ := w
  cases e; rfl
theorem own_oT {kvs : List (List Key × D)} {a : Addr} {S : List Addr} (w : OwnAt K J H (.oT kvs) (.ref a) S) : S = [a] := by
  obtain ⟨b, vs, e, rfl, _⟩ := w
  cases e; rfl
theorem CI.oKAt {σ0 : L2.St} {F : Fm} {ρ : Rho} {σ : L2.St} {i : Nat} {kvs : List (Key × D)} (c : CI K B σ0 F J ρ σ H) (hi : ρ[i]? = some (some (.oK kvs))) : ∃ a ws, σ[i]? = some (some (.ref a)) ∧ H a = some (.dK ws) ∧ RpK K J kvs ws := by
  obtain ⟨fp, o1, _⟩ := c.own
  obtain ⟨v, e, a, vs, rfl, _, h, r⟩ := o1 i _ hi
  exact ⟨a, vs, e, h, r⟩
theorem CI.oKSet {σ0 : L2.St} {F : Fm} {ρ : Rho} {σ : L2.St} {i : Nat} {kvs kvs' : List (Key × D)} {a : Addr} {ws : List (Key × V)} (c : CI K B σ0 F J ρ σ H) (hi : ρ[i]? = some (some (.oK kvs))) (hv : σ[i]? = some (some (.ref a))) (w : RpK K J kvs' ws) : CI K B σ0 F J (ρ.set i (some (.oK kvs'))) σ (upd H a (.dK ws)) :=
  c.change hi (fun S w => own_oK w) hv ⟨a, ws, rfl, rfl, upd_same, w⟩
theorem do_disp {keys : List (Option Expr)} {values : List Expr} {ms : List ((Rho → Out Hd) × (Rho → Out Hd))} (h : DPs X B pos keys values ms) (hall : keys.all (·.isSome) = true := by rfl) (hl : keys.length = values.length := by rfl) (h0 : keys ≠ [] := by intro z; cases z)
    (h15 : keys.length ≤ 15 := by decide) (hm : ms.length ≤ 15 := by decide) : DO X B (.Dict keys values pos) (mDisp ms) := ⟨pe_weak (pe_disp h.pps hall hl h0 h15) fun σ H Q ⟨σ0, F, J, ρ, r, ρ', c, e1, q⟩ => by
  obtain ⟨kds, ρ1, e2, e3⟩ := bind_ok e1
  cases e3
  intro p hp
  have c1 := c.fresh hp (r := .oK []) ⟨p, [], rfl, rfl, upd_same, .nil⟩
  obtain ⟨S, F1, w, c2, back⟩ := c1.aside c.lb
  refine tPairs_of c2 e2 fun J' H' kvs c3 s w3 => ?_
  have c4 := back _ _ _ _ c3 s
  obtain ⟨a, ws, ea, ha, ra⟩ := c4.oKAt get_app_r
  have hl' : ρ'.length = σ.length := c3.len
  rw [hl', get_app_r] at ea
  cases ea
  cases ra
  refine ⟨ha, kvs, rfl, ?_, ?_⟩
  · have h1 := mPairs_len e2
    have h2 : kds.length = kvs.length := w3.len
    omega
  · have c5 := c4.oKSet (i := ρ'.length) get_app_r (by rw [hl']; exact get_app_r) (RpK.merge .nil w3)
    rw [List.set_append_right _ _ (Nat.le_refl _)] at c5
    simp only [Nat.sub_self, List.set_cons_zero] at c5
    exact q J' _ _ c5 s⟩

/-! ### x[k] = e -/
def kDP3 (i : Nat) (d : D) (k : Key) (ρ : Rho) (o : Option (Option R)) : SOut := match o with
  | some (some (.oK kvs)) => if kvs.length < 1000000 then .nx (ρ.set i (some (.oK (putD kvs k d)))) else .bad
  | _ => .bad
def kDP2 (i : Nat) (d : D) (o : Out Key) : SOut := match o with
  | .ok k ρ => kDP3 i d k ρ ρ[i]?
  | .bad => .bad
def kDP1 (i : Nat) (mk : Rho → Out Hd) (d : D) (ρ : Rho) (o : Option (Option R)) : SOut := match o with
  | some (some (.oK _)) => kDP2 i d (mKey mk ρ)
  | _ => .bad
def kDP0 (i : Nat) (mk : Rho → Out Hd) (o : Out D) : SOut := match o with
  | .ok d ρ => kDP1 i mk d ρ ρ[i]?
  | .bad => .bad
def mDPut (i : Nat) (mk m : Rho → Out Hd) : Rho → SOut := fun ρ => kDP0 i mk (mD m ρ)
theorem ds_dput (i : Nat) {x : Str} {ix : Expr} {px pt : Pos} (hu : X.A.units + 1 < cLine) (he : DP X B e m) (hix : DP X B ix mk) (hN : X.N[i]? = some x := by rfl) (hv : Vis X.env.scope x := by first | exact Or.inl rfl | exact Or.inr (Or.inl rfl) | exact Or.inr (Or.inr rfl)) (hd : (x == ("__debug__" : Str)) = false := by decide) (hcd : (x == ("__classdict__" : Str)) = false := by decide)
    (hs : swapsWith e (some (.Subscript (.Name x px) ix pt)) pos.line X.env = pure false := by rfl) :
    DS X B (.Assign [.Subscript (.Name x px) ix pt] e pos) (mDPut i mk m) :=
  ⟨ps_weak (ps_dput hu (pe_var hN hv hd hcd) (pe_mKey hix) (pe_mD he) hs) fun D σ H ⟨σ0, F, J, ρ, c, q⟩ => by
  unfold mDPut kDP0 at q
  split at q
  · rename_i d ρ1 e1
    unfold kDP1 at q
    split at q
    · rename_i kvs0 h0
      unfold kDP2 at q
      split at q
      · rename_i k ρ2 e2
        unfold kDP3 at q
        split at q
        · rename_i kvs h2
          split at q
          · rename_i hz
            refine ⟨σ0, F, J, ρ, d, ρ1, c, e1, fun J1 H1 v1 c1 s1 w => ?_⟩
            obtain ⟨l, ws0, el, hl, _⟩ := c1.oKAt h0
            refine ⟨_, el, σ0, F, J1, ρ1, k, ρ2, c1, e2, fun J2 H2 c2 s2 => ?_⟩
            obtain ⟨l', ws, el', hl', r⟩ := c2.oKAt h2
            rw [el] at el'
            cases el'
            refine ⟨l, _, rfl, DPut.k hl' (by rw [← r.len, sizeLine_eq]; omega), ?_⟩
            exact q J2 σ _ (c2.oKSet h2 el (r.put (w.mono s2))) (s1.trans s2)
          · exact q.elim
        · exact q.elim
      · exact q.elim
    · exact q.elim
  · exact q.elim⟩
/-! ### d.get(k), d.get(k, x) -/
def kGe2 (h : Hd) (k : Key) (z : D) (ρ : Rho) (o : Option D) : Out Hd := match o with
  | some (.dK kvs) => .ok (.dat ((valD kvs k).getD z)) ρ
  | _ => .bad
def kGe1 (h : Hd) (k : Key) (ρ : Rho) : Out Hd := kGe2 h k .non ρ (res ρ h)
def kGe0 (mk : Rho → Out Hd) (h : Hd) (ρ : Rho) (o : Option D) : Out Hd := match o with
  | some (.dK _) => (mKey mk ρ).bind (kGe1 h)
  | _ => .bad
def kGe (mk : Rho → Out Hd) (h : Hd) (ρ : Rho) : Out Hd := kGe0 mk h ρ (res ρ h)
def mGet1 (m mk : Rho → Out Hd) : Rho → Out Hd := fun ρ => (m ρ).bind (kGe mk)
theorem getD_rp {kvs : List (Key × D)} {ws : List (Key × V)} {k : Key} {z : D} {y : V} (r : RpK K J kvs ws) (w : Rp K J z y) : Rp K J ((valD kvs k).getD z) ((valV ws k).getD y) := by
  obtain ⟨h1, h2⟩ := r.val (k := k)
  cases e : valD kvs k with
  | none =>
    rw [e] at h2
    cases e2 : valV ws k with
    | none => exact w
    | some v => rw [e2] at h2; cases h2
  | some d =>
    obtain ⟨v, e2, w2⟩ := h1 d e
    rw [e2]; exact w2
theorem isD_of {kvs : List (Key × D)} {v : V} (p : Pk K J H (.dK kvs) v) (s : Same J H) : ∃ a, v = .ref a ∧ IsD H a := by
  obtain ⟨a, ws, rfl, h, _⟩ := p.dK s
  exact ⟨a, rfl, .inl ⟨ws, .inl h⟩⟩
theorem dp_get1 {o : Expr} {apos cpos : Pos} (hu : X.A.units + 1 < cLine) (ho : DP X B o m) (he : DP X B e mk) (hm : M1 X o "get" apos e cpos := by exact ⟨rfl, rfl, rfl, rfl⟩) : DP X B (.Call (.Attribute o "get" apos) [e] [] cpos) (mGet1 m mk) := ⟨pe_weak (pe_dget1 hu ho.pe (pe_mKey he) hm) fun σ H Q ⟨σ0, F, J, ρ, h, ρ', c, e1, q⟩ => by
  obtain ⟨h1, ρ1, e2, e3⟩ := bind_ok e1
  unfold kGe kGe0 at e3
  split at e3
  · rename_i kvs0 h0
    obtain ⟨k, ρ2, e4, e5⟩ := bind_ok e3
    unfold kGe1 kGe2 at e5
    split at e5
    · rename_i kvs h2
      cases e5
      refine ⟨σ0, F, J, ρ, h1, ρ1, c, e2, fun J1 H1 v c1 s1 r1 => ?_⟩
      obtain ⟨a, rfl, hd⟩ := isD_of (c1.res r1 h0) c1.jm
      refine ⟨a, rfl, hd, σ0, F, J1, ρ1, k, _, c1, e4, fun J2 H2 c2 s2 => ?_⟩
      obtain ⟨b, ws, eb, hb, r⟩ := (c2.res (r1.mono s2) h2).dK c2.jm
      cases eb
      exact ⟨_, DGet.k hb, q J2 H2 _ c2 (s1.trans s2) (getD_rp r .non)⟩
    · cases e5
  · cases e3⟩
def kGf2 (h : Hd) (k : Key) (z : D) (ρ : Rho) : Out Hd := kGe2 h k z ρ (res ρ h)
def kGf1 (mz : Rho → Out Hd) (h : Hd) (k : Key) (ρ : Rho) : Out Hd := (mD mz ρ).bind (kGf2 h k)
def kGf0 (mk mz : Rho → Out Hd) (h : Hd) (ρ : Rho) (o : Option D) : Out Hd := match o with
  | some (.dK _) => (mKey mk ρ).bind (kGf1 mz h)
  | _ => .bad
def kGf (mk mz : Rho → Out Hd) (h : Hd) (ρ : Rho) : Out Hd := kGf0 mk mz h ρ (res ρ h)
def mGet2 (m mk mz : Rho → Out Hd) : Rho → Out Hd := fun ρ => (m ρ).bind (kGf mk mz)
theorem dp_get2 {o f : Expr} {apos cpos : Pos} (hu : X.A.units + 1 < cLine) (ho : DP X B o m) (he : DP X B e mk) (hf : DP X B f m2) (hm : M2 X o "get" apos e f cpos := by exact ⟨rfl, rfl, rfl, rfl⟩) : DP X B (.Call (.Attribute o "get" apos) [e, f] [] cpos) (mGet2 m mk m2) := ⟨pe_weak (pe_dget2 hu ho.pe (pe_mKey he) (pe_mD hf) hm) fun σ H Q ⟨σ0, F, J, ρ, h, ρ', c, e1, q⟩ => by
  obtain ⟨h1, ρ1, e2, e3⟩ := bind_ok e1
  unfold kGf kGf0 at e3
  split at e3
  · rename_i kvs0 h0
    obtain ⟨k, ρ2, e4, e5⟩ := bind_ok e3
    obtain ⟨z, ρ3, e6, e7⟩ := bind_ok e5
    unfold kGf2 kGe2 at e7
    split at e7
    · rename_i kvs h2
      cases e7
      refine ⟨σ0, F, J, ρ, h1, ρ1, c, e2, fun J1 H1 v c1 s1 r1 => ?_⟩
      obtain ⟨a, rfl, hd⟩ := isD_of (c1.res r1 h0) c1.jm
      refine ⟨a, rfl, hd, σ0, F, J1, ρ1, k, _, c1, e4, fun J2 H2 c2 s2 => ⟨σ0, F, J2, ρ2, z, _, c2, e6, fun J3 H3 y c3 s3 w => ?_⟩⟩
      obtain ⟨b, ws, eb, hb, r⟩ := (c3.res (r1.mono (s2.trans s3)) h2).dK c3.jm
      cases eb
      exact ⟨_, DGet.k hb, q J3 H3 _ c3 ((s1.trans s2).trans s3) (getD_rp r w)⟩
    · cases e7
  · cases e3⟩
/-! ### dict(pairs), dict(d) -/
def CallK (K : PySem.W.Frag) (r : List V → Hp → VK → Prop) (f : List D → Option (List (Key × D))) : Prop := ∀ (J H : Hp) (ds : List D) (es : List (Key × D)) (vs : List V) (Q : VK), Same J H → PkL K J H ds vs → f ds = some es →
  (∀ p ws H0, Ext J H J H0 → H0 p = none → RpK K J es ws → Q (.ref p) (upd H0 p (.dK ws))) → r vs H Q
def oK' (o : Option (List (Key × D))) (ρ : Rho) : Out R := match o with
  | some d => .ok (.oK d) ρ
  | none => .bad
def kCallK (f : List D → Option (List (Key × D))) (ds : List D) (ρ : Rho) : Out R := oK' (f ds) ρ
def mCallK (f : List D → Option (List (Key × D))) (ms : Rho → Out (List Hd)) : Rho → Out R := fun ρ => (mRes ms ρ).bind (kCallK f)
theorem tCB_callK {r : List V → Hp → VK → Prop} {f : List D → Option (List (Key × D))} {ms : Rho → Out (List Hd)} {n : Nat} (hd : CallK X.K r f) (σ : L2.St) (H : Hp) (Q : VK) (h : lO X.K B (mCallK f ms) σ H Q) : tCB r (lA X.K B n ms) σ H Q := by
  obtain ⟨σ0, F, J, ρ, h, ρ', c, e, k⟩ := h
  obtain ⟨ds, ρ1, e1, e2⟩ := bind_ok e
  obtain ⟨hs, e3, e4⟩ := mRes_ok e1
  unfold kCallK oK' at e2
  split at e2
  · rename_i d ed
    cases e2
    refine ⟨σ0, F, J, ρ, hs, _, c, e3, fun J1 H1 vs c1 s1 r1 l => hd J1 H1 ds d vs Q c1.jm (c1.resL r1 e4) ed fun p ws H0 x hp w => ?_⟩
    exact k J1 _ _ ((c1.ext x).fresh hp ⟨p, ws, rfl, rfl, upd_same, w⟩) s1
  · cases e2
theorem do_callTyK {x : Str} {p : Pos} {T : String} {r : List V → Hp → VK → Prop} {g : List D → Option (List (Key × D))} {ms : Rho → Out (List Hd)} (hc : CallR X (.type T) r) (hd : CallK X.K r g) (hg : Gl X x) (hm : X.mg x = none) (hv : bootBuiltins x = some (.type T)) (ha : DA X B (e :: es) ms) (hn : x ≠ "__name__" := by decide) (hdb : (x == ("__debug__" : Str)) = false := by decide)
    (he : starEach (e :: es) X.env = (false, eval e X.env) :: starEach es X.env := by rfl) (hpl : (backTo pos (starEach es X.env)).any (·.1) = false := by rfl) : DO X B (.Call (.Name x p) (e :: es) [] pos) (mCallK g ms) :=
  ⟨pe_weak (pe_callTy hc hg hm hv ha.pa hn hdb he hpl) (tCB_callK hd)⟩
def pairD : D → Option (Key × D)
  | .tup [k, d] => (keyD k).map fun k => (k, d)
  | _ => none
def pairsD : List D → Option (List (Key × D))
  | [] => some []
  | d :: ds => match pairD d, pairsD ds with
    | some p, some ps => some (p :: ps)
    | _, _ => none
def fDict : List D → Option (List (Key × D))
  | [.lst ds] => (pairsD ds).map (mergeD [])
  | [.dK kvs] => some kvs
  | _ => none
theorem pairsD_of : ∀ {ds : List D} {vs : List V} {kvs : List (Key × D)}, RpL K J ds vs → pairsD ds = some kvs → ∃ ps ws, vs = ps.map V.ref ∧ RpK K J kvs ws ∧ Paired (fun p kv => SqT K J p [L2.kV kv.1, kv.2]) ps ws
  | _, _, _, .nil, e => by cases e; exact ⟨[], [], rfl, .nil, .nil⟩
  | _, _, kvs, .cons (d := d) (v := v) (ds := ds) w r, e => by
    unfold pairsD at e
    split at e
    · rename_i p ps e1 e2
      cases e
      obtain ⟨qs, ws, rfl, rk, pr⟩ := pairsD_of r e2
      unfold pairD at e1
      split at e1
      · rename_i k d'
        cases hk : keyD k with
        | none => rw [hk] at e1; cases e1
        | some k' =>
          rw [hk] at e1
          cases e1
          cases w with
          | @tup a us _ t rl =>
            cases rl with
            | @cons _ x _ _ wx rl =>
              cases rl with
              | @cons _ y _ _ wy rl =>
                cases rl
                have := keyD_of (H := J) (.sh wx) hk
                subst this
                exact ⟨a :: qs, (k', y) :: ws, rfl, .cons wy rk, .cons t.sq pr⟩
      · cases e1
    · cases e
theorem sqT_mono {p : Addr} {xs : List V} (s : Same J H) (h : SqT K J p xs) : SqT K H p xs := same_sqt s h
abbrev rDict (K : PySem.W.Frag) : List V → Hp → VK → Prop := fun xs H Q => (∃ (a : Addr) (ps : List Addr) (kvs : List (Key × V)), xs = [.ref a] ∧ SqL K H a (ps.map V.ref) ∧ Paired (fun p kv => SqT K H p [L2.kV kv.1, kv.2]) ps kvs ∧
    ∀ p, H p = none → Q (.ref p) (upd H p (.dK (mergeK [] kvs)))) ∨ (∃ (a : Addr) (kvs : List (Key × V)), xs = [.ref a] ∧ Rd H a (.dK kvs) ∧ ∀ p, H p = none → Q (.ref p) (upd H p (.dK kvs)))
theorem or_dict (hc : X.calm = true) : CallR X (.type "dict") (rDict X.K) := (call_dictP hc).or call_dictD
theorem ck_dict : CallK K (rDict K) fDict := fun J H ds es vs Q s p e q => by
  unfold fDict at e
  split at e
  · rename_i ds'
    cases h : pairsD ds' with
    | none => rw [h] at e; cases e
    | some kvs =>
      rw [h] at e
      cases e
      obtain ⟨v, rfl, p1⟩ := pkl1 p
      obtain ⟨a, us, rfl, ha, r⟩ := p1.lst s
      obtain ⟨ps, ws, rfl, rk, pr⟩ := pairsD_of r h
      exact .inl ⟨a, ps, ws, rfl, SqL.of ha, Paired.mapP pr fun _ _ z => sqT_mono s z, fun p hp => q p _ H (Ext.refl s) hp (RpK.merge .nil rk)⟩
  · cases e
    obtain ⟨v, rfl, p1⟩ := pkl1 p
    obtain ⟨a, ws, rfl, ha, r⟩ := p1.dK s
    exact .inr ⟨a, ws, rfl, .inl ha, fun p hp => q p _ H (Ext.refl s) hp r⟩
  · cases e
/-! ### x.pop(i), x.pop() -/
def popD (ds : List D) (k : Int) : Option (D × List D) := if -(2 ^ 63) ≤ k ∧ k < 2 ^ 63 then match seqIndex? k ds.length with
  | some j => ds[j]?.map fun d => (d, ds.eraseIdx j)
  | none => none
  else none
def kPop4 (i : Nat) (ρ : Rho) (o : Option (D × List D)) : Out Hd := match o with
  | some (d, ds) => .ok (.dat d) (ρ.set i (some (.ol ds)))
  | none => .bad
def kPop3 (i : Nat) (k : Int) (ρ : Rho) (o : Option (Option R)) : Out Hd := match o with
  | some (some (.ol ds)) => kPop4 i ρ (popD ds k)
  | _ => .bad
def kPop2 (i : Nat) (ρ : Rho) (o : Option D) : Out Hd := match o with
  | some (.int k) => kPop3 i k ρ ρ[i]?
  | _ => .bad
def kPop1 (i : Nat) (h : Hd) (ρ : Rho) : Out Hd := kPop2 i ρ (res ρ h)
def kPop0 (i : Nat) (m : Rho → Out Hd) (ρ : Rho) (o : Option (Option R)) : Out Hd := match o with
  | some (some (.ol _)) => (m ρ).bind (kPop1 i)
  | _ => .bad
def mPop (i : Nat) (m : Rho → Out Hd) : Rho → Out Hd := fun ρ => kPop0 i m ρ ρ[i]?
theorem RpL.erase : ∀ {ds : List D} {vs : List V} (n : Nat), RpL K J ds vs → RpL K J (ds.eraseIdx n) (vs.eraseIdx n)
  | _, _, _, .nil => .nil
  | _, _, 0, .cons _ r => r
  | _, _, n + 1, .cons w r => .cons w (RpL.erase n r)
theorem dp_pop (i : Nat) {x : Str} {px apos cpos : Pos} (he : DP X B e m) (hN : X.N[i]? = some x := by rfl) (hv : Vis X.env.scope x := by first | exact Or.inl rfl | exact Or.inr (Or.inl rfl) | exact Or.inr (Or.inr rfl)) (hd : (x == ("__debug__" : Str)) = false := by decide) (hcd : (x == ("__classdict__" : Str)) = false := by decide)
    (hbase : attributeBase (.Name x px) "pop" X.env (eval (.Name x px) X.env) = eval (.Name x px) X.env := by rfl)
    (hfew : ((backTo cpos (starEach [e] X.env)).all (fun x => !x.1) && (backToKw cpos (keywordEach [] X.env)).all (fun x => x.1.isSome)
      && decide ([e].length + ([] : List Keyword).length + (if ([] : List Keyword).isEmpty then 0 else 1) < 30)) = true := by rfl)
    (hline : (apos.endLine == cpos.line) = true := by rfl) (hst : starEach [e] X.env = (false, eval e X.env) :: starEach [] X.env := by rfl) (hplain : (backTo cpos (starEach [] X.env)).any (·.1) = false := by rfl) :
    DP X B (.Call (.Attribute (.Name x px) "pop" apos) [e] [] cpos) (mPop i m) :=
  ⟨pe_weak (pe_bm PySem.F.plainAttrs_list PySem.F.slot_list_pop PySem.F.type_list_pop mt_popAt (pe_var hN hv hd hcd) (pa_cons he.pe pa_nil hst) hbase hfew hline hst hplain) fun σ H Q ⟨σ0, F, J, ρ, h, ρ', c, e1, q⟩ => by
  unfold mPop kPop0 at e1
  split at e1
  · rename_i ds0 h0
    obtain ⟨l, vs0, el, hl, _⟩ := c.olAt h0
    obtain ⟨h1, ρ1, e2, e3⟩ := bind_ok e1
    unfold kPop1 kPop2 at e3
    split at e3
    · rename_i k ek
      unfold kPop3 at e3
      split at e3
      · rename_i ds h2
        unfold kPop4 at e3
        split at e3
        · rename_i d ds' ep
          cases e3
          unfold popD at ep
          split at ep
          · rename_i hk
            split at ep
            · rename_i j ej
              cases ed : ds[j]? with
              | none => rw [ed] at ep; cases ep
              | some d' =>
                rw [ed] at ep
                cases ep
                refine ⟨_, el, .inl ⟨rfl, vs0, SqL.of hl⟩, σ0, F, J, ρ, h1, ρ1, c, e2, fun J1 H1 v1 c1 s1 r1 => ?_⟩
                obtain ⟨l', vs, el', hl', r⟩ := c1.olAt h2
                rw [el] at el'
                cases el'
                obtain ⟨y, ey, wy⟩ := r.get ed
                refine ⟨l, vs, k, j, y, rfl, by rw [(c1.res r1 ek).int], hl', hk.1, hk.2, by rw [← r.len]; exact ej, ey, ?_⟩
                exact q J1 _ y (c1.olSet h2 el (r.erase j)) s1 wy
            · cases ep
          · cases ep
        · cases e3
      · cases e3
    · cases e3
  · cases e1⟩
def kPopL (i : Nat) (ρ : Rho) (ds : List D) (o : Option D) : Out Hd := match o with
  | some d => .ok (.dat d) (ρ.set i (some (.ol ds.dropLast)))
  | none => .bad
def kPopN (i : Nat) (ρ : Rho) (o : Option (Option R)) : Out Hd := match o with
  | some (some (.ol ds)) => kPopL i ρ ds ds[ds.length - 1]?
  | _ => .bad
def mPopN (i : Nat) : Rho → Out Hd := fun ρ => kPopN i ρ ρ[i]?
theorem RpL.last : ∀ {ds : List D} {vs : List V}, RpL K J ds vs → RpL K J ds.dropLast vs.dropLast
  | _, _, .nil => .nil
  | _, _, .cons _ .nil => .nil
  | _, _, .cons w (.cons w2 r) => .cons w (RpL.last (.cons w2 r))
theorem dp_popN (i : Nat) {x : Str} {px apos cpos : Pos} (hN : X.N[i]? = some x := by rfl) (hv : Vis X.env.scope x := by first | exact Or.inl rfl | exact Or.inr (Or.inl rfl) | exact Or.inr (Or.inr rfl)) (hd : (x == ("__debug__" : Str)) = false := by decide) (hcd : (x == ("__classdict__" : Str)) = false := by decide)
    (hbase : attributeBase (.Name x px) "pop" X.env (eval (.Name x px) X.env) = eval (.Name x px) X.env := by rfl) (hline : (apos.endLine == cpos.line) = true := by rfl) :
    DP X B (.Call (.Attribute (.Name x px) "pop" apos) [] [] cpos) (mPopN i) :=
  ⟨pe_weak (pe_bm0 PySem.F.plainAttrs_list PySem.F.slot_list_pop PySem.F.type_list_pop mt_pop (pe_var hN hv hd hcd) hbase hline) fun σ H Q ⟨σ0, F, J, ρ, h, ρ', c, e1, q⟩ => by
  unfold mPopN kPopN at e1
  split at e1
  · rename_i ds h0
    obtain ⟨l, vs, el, hl, r⟩ := c.olAt h0
    unfold kPopL at e1
    split at e1
    · rename_i d ed
      cases e1
      obtain ⟨y, ey, wy⟩ := r.get ed
      refine ⟨_, el, .inl ⟨rfl, vs, SqL.of hl⟩, l, vs, y, rfl, rfl, hl, by rw [← r.len]; exact ey, ?_⟩
      exact q J _ y (c.olSet h0 el r.last) (Same.refl _) wy
    · cases e1
  · cases e1⟩
/-! ### methods of texts -/
def fStarts (d : D) (ds : List D) : Option D := match d, ds with
  | .str a, [.str b] => some (.bl (Txt.startswith a b))
  | _, _ => none
theorem md_starts : MtD K "str" (fun x xs H Q => ∃ a b, x = .str a ∧ xs = [.str b] ∧ Q (.bl (Txt.startswith a b)) H) fStarts := by
  refine ⟨fun J H d0 v0 ds d s p e => ?_, fun J H d0 v0 ds d vs Q s p ps e q => ?_⟩
  · unfold fStarts at e
    split at e
    · cases p.str; exact (rfl : "str" = "str")
    · cases e
  · unfold fStarts at e
    split at e
    · cases e
      obtain ⟨v, rfl, p1⟩ := pkl1 ps
      cases p.str; cases p1.str
      exact ⟨_, _, rfl, rfl, q J H _ (Ext.refl s) (.bl _)⟩
    · cases e
def strsD : List D → Option (List Str)
  | [] => some []
  | .str x :: ds => (strsD ds).map (x :: ·)
  | _ => none
theorem strsD_of : ∀ {ds : List D} {vs : List V} {ys : List Str}, RpL K J ds vs → strsD ds = some ys → vs = ys.map V.str
  | _, _, _, .nil, e => by cases e; rfl
  | _, _, ys, .cons (d := d) (ds := ds) w r, e => by
    cases d with
    | str x =>
      unfold strsD at e
      cases h : strsD ds with
      | none => rw [h] at e; cases e
      | some zs =>
        rw [h] at e
        cases e
        cases w
        rw [strsD_of r h]; rfl
    | _ => cases e
def fJoin (d : D) (ds : List D) : Option D := match d, ds with
  | .str a, [.lst xs] => match strsD xs with
    | some ys => if (ys.map (·.length)).sum + ys.length * a.length ≤ 16777216 then some (.str (Txt.join a ys)) else none
    | none => none
  | _, _ => none
theorem md_join : MtD K "str" (fun x xs H Q => ∃ a p, ∃ ys : List Str, x = .str a ∧ xs = [.ref p] ∧ (SqL K H p (ys.map V.str) ∨ SqT K H p (ys.map V.str)) ∧
    (ys.map (·.length)).sum + ys.length * a.length ≤ 16777216 ∧ Q (.str (Txt.join a ys)) H) fJoin := by
  refine ⟨fun J H d0 v0 ds d s p e => ?_, fun J H d0 v0 ds d vs Q s p ps e q => ?_⟩
  · unfold fJoin at e
    split at e
    · cases p.str; exact (rfl : "str" = "str")
    · cases e
  · unfold fJoin at e
    split at e
    · split at e
      · rename_i ys h
        split at e
        · rename_i hz
          cases e
          obtain ⟨v, rfl, p1⟩ := pkl1 ps
          cases p.str
          obtain ⟨a, us, rfl, ha, r⟩ := p1.lst s
          have := strsD_of r h
          subst this
          exact ⟨_, a, ys, rfl, rfl, .inl (SqL.of ha), hz, q J H _ (Ext.refl s) (.str _)⟩
        · cases e
      · cases e
    · cases e
end
/-! ### evaluation -/
theorem ev_D (m : Rho → Out Hd) (ρ : Rho) : mD m ρ = (m ρ).bind kD := (rfl)
theorem kD_ (h : Hd) (ρ : Rho) : kD h ρ = oZ (fzAt ρ h) := (rfl)
theorem oZ_ (d : D) (ρ : Rho) : oZ (some (d, ρ)) = .ok d ρ := (rfl)
theorem ev_Key (m : Rho → Out Hd) (ρ : Rho) : mKey m ρ = (m ρ).bind kKey := (rfl)
theorem kKey_ (h : Hd) (ρ : Rho) : kKey h ρ = Out.opt ((res ρ h).bind keyD) ρ := (rfl)
theorem keyD_i (i : Int) : keyD (.int i) = some (.inl i) := (rfl)
theorem keyD_s (x : Str) : keyD (.str x) = some (.inr x) := (rfl)
theorem oB_k (o : Option D) (d : D) : (some d).bind keyD = keyD d := (rfl)
theorem ev_NewK (ρ : Rho) : mNewK ρ = .ok (.oK []) ρ := (rfl)
theorem ev_Disp (ms : List ((Rho → Out Hd) × (Rho → Out Hd))) (ρ : Rho) : mDisp ms ρ = (mPairs ms ρ).bind kDisp := (rfl)
theorem kDisp_ (kds : List (Key × D)) (ρ : Rho) : kDisp kds ρ = .ok (.oK (mergeD [] kds)) ρ := (rfl)
theorem ev_PairsN (ρ : Rho) : mPairs [] ρ = .ok [] ρ := (rfl)
theorem ev_PairsC (p : (Rho → Out Hd) × (Rho → Out Hd)) (r : List ((Rho → Out Hd) × (Rho → Out Hd))) (ρ : Rho) : mPairs (p :: r) ρ = (mKey p.1 ρ).bind (kP1 p.2 (mPairs r)) := (rfl)
theorem kP1_ (mv : Rho → Out Hd) (mr : Rho → Out (List (Key × D))) (k : Key) (ρ : Rho) : kP1 mv mr k ρ = (mD mv ρ).bind (kP2 mr k) := (rfl)
theorem kP2_ (mr : Rho → Out (List (Key × D))) (k : Key) (d : D) (ρ : Rho) : kP2 mr k d ρ = (mr ρ).bind (kP3 k d) := (rfl)
theorem kP3_ (k : Key) (d : D) (kds : List (Key × D)) (ρ : Rho) : kP3 k d kds ρ = .ok ((k, d) :: kds) ρ := (rfl)
theorem ev_DPut (i : Nat) (mk m : Rho → Out Hd) (ρ : Rho) : mDPut i mk m ρ = kDP0 i mk (mD m ρ) := (rfl)
theorem kDP0_ (i : Nat) (mk : Rho → Out Hd) (d : D) (ρ : Rho) : kDP0 i mk (.ok d ρ) = kDP1 i mk d ρ ρ[i]? := (rfl)
theorem kDP1_ (i : Nat) (mk : Rho → Out Hd) (d : D) (ρ : Rho) (kvs : List (Key × D)) : kDP1 i mk d ρ (some (some (.oK kvs))) = kDP2 i d (mKey mk ρ) := (rfl)
theorem kDP2_ (i : Nat) (d : D) (k : Key) (ρ : Rho) : kDP2 i d (.ok k ρ) = kDP3 i d k ρ ρ[i]? := (rfl)
theorem kDP3_ (i : Nat) (d : D) (k : Key) (ρ : Rho) (kvs : List (Key × D)) : kDP3 i d k ρ (some (some (.oK kvs))) = if kvs.length < 1000000 then .nx (ρ.set i (some (.oK (putD kvs k d)))) else .bad := (rfl)
theorem ev_Get1 (m mk : Rho → Out Hd) (ρ : Rho) : mGet1 m mk ρ = (m ρ).bind (kGe mk) := (rfl)
theorem kGe_ (mk : Rho → Out Hd) (h : Hd) (ρ : Rho) : kGe mk h ρ = kGe0 mk h ρ (res ρ h) := (rfl)
theorem kGe0_ (mk : Rho → Out Hd) (h : Hd) (ρ : Rho) (kvs : List (Key × D)) : kGe0 mk h ρ (some (.dK kvs)) = (mKey mk ρ).bind (kGe1 h) := (rfl)
theorem kGe1_ (h : Hd) (k : Key) (ρ : Rho) : kGe1 h k ρ = kGe2 h k .non ρ (res ρ h) := (rfl)
theorem kGe2_ (h : Hd) (k : Key) (z : D) (ρ : Rho) (kvs : List (Key × D)) : kGe2 h k z ρ (some (.dK kvs)) = .ok (.dat ((valD kvs k).getD z)) ρ := (rfl)
theorem ev_Get2 (m mk mz : Rho → Out Hd) (ρ : Rho) : mGet2 m mk mz ρ = (m ρ).bind (kGf mk mz) := (rfl)
theorem kGf_ (mk mz : Rho → Out Hd) (h : Hd) (ρ : Rho) : kGf mk mz h ρ = kGf0 mk mz h ρ (res ρ h) := (rfl)
theorem kGf0_ (mk mz : Rho → Out Hd) (h : Hd) (ρ : Rho) (kvs : List (Key × D)) : kGf0 mk mz h ρ (some (.dK kvs)) = (mKey mk ρ).bind (kGf1 mz h) := (rfl)
theorem kGf1_ (mz : Rho → Out Hd) (h : Hd) (k : Key) (ρ : Rho) : kGf1 mz h k ρ = (mD mz ρ).bind (kGf2 h k) := (rfl)
theorem kGf2_ (h : Hd) (k : Key) (z : D) (ρ : Rho) : kGf2 h k z ρ = kGe2 h k z ρ (res ρ h) := (rfl)
theorem ev_CallK (f : List D → Option (List (Key × D))) (ms : Rho → Out (List Hd)) (ρ : Rho) : mCallK f ms ρ = (mRes ms ρ).bind (kCallK f) := (rfl)
theorem kCallK_ (f : List D → Option (List (Key × D))) (ds : List D) (ρ : Rho) : kCallK f ds ρ = oK' (f ds) ρ := (rfl)
theorem oK_s (kvs : List (Key × D)) (ρ : Rho) : oK' (some kvs) ρ = .ok (.oK kvs) ρ := (rfl)
theorem ev_Pop (i : Nat) (m : Rho → Out Hd) (ρ : Rho) : mPop i m ρ = kPop0 i m ρ ρ[i]? := (rfl)
theorem kPop0_ (i : Nat) (m : Rho → Out Hd) (ρ : Rho) (ds : List D) : kPop0 i m ρ (some (some (.ol ds))) = (m ρ).bind (kPop1 i) := (rfl)
theorem kPop1_ (i : Nat) (h : Hd) (ρ : Rho) : kPop1 i h ρ = kPop2 i ρ (res ρ h) := (rfl)
theorem kPop2_ (i : Nat) (ρ : Rho) (k : Int) : kPop2 i ρ (some (.int k)) = kPop3 i k ρ ρ[i]? := (rfl)
theorem kPop3_ (i : Nat) (k : Int) (ρ : Rho) (ds : List D) : kPop3 i k ρ (some (some (.ol ds))) = kPop4 i ρ (popD ds k) := (rfl)
theorem kPop4_ (i : Nat) (ρ : Rho) (d : D) (ds : List D) : kPop4 i ρ (some (d, ds)) = .ok (.dat d) (ρ.set i (some (.ol ds))) := (rfl)
theorem ev_PopN (i : Nat) (ρ : Rho) : mPopN i ρ = kPopN i ρ ρ[i]? := (rfl)
theorem kPopN_ (i : Nat) (ρ : Rho) (ds : List D) : kPopN i ρ (some (some (.ol ds))) = kPopL i ρ ds ds[ds.length - 1]? := (rfl)
theorem kPopL_ (i : Nat) (ρ : Rho) (ds : List D) (d : D) : kPopL i ρ ds (some d) = .ok (.dat d) (ρ.set i (some (.ol ds.dropLast))) := (rfl)
theorem popD_lt {ds : List D} {k : Int} {d : D} (h0 : 0 ≤ k) (h1 : k < ds.length) (h2 : k < 2 ^ 62) (hd : ds[k.toNat]? = some d) : popD ds k = some (d, ds.eraseIdx k.toNat) := by
  unfold popD
  rw [if_pos ⟨by omega, by omega⟩]
  have : seqIndex? k ds.length = some k.toNat := by
    unfold seqIndex?
    simp only [h0, h1]
    simp
    try omega
  rw [this]
  show ds[k.toNat]?.map _ = _
  rw [hd]; rfl
end DL

set_option Elab.async false
set_option linter.all false
set_option maxRecDepth 100000
set_option maxHeartbeats 4000000
/-! DLy: dicts compared, a text taken many times, a text that is walked. -/
namespace DL
open PySem PySem.Spec PyProof.Rows L2

section
variable {K : PySem.W.Frag} {X : Cx} {B : List Nat} {J H : Hp}
/-! ### dicts with values that are plain or empty dicts -/
def plainEq (d e : D) : Option Bool := match toPy d, toPy e with
  | some a, some b => if SeqAt.shaped a = true ∧ SeqAt.shaped b = true then some (PyData.eqv a b) else none
  | _, _ => none
def veq (d e : D) : Option Bool := match d, e with
  | .dK [], .dK [] => some true
  | d, e => plainEq d e
def eqEntry (ls : List (Key × D)) (p : Key × D) : Option Bool := match valD ls p.1 with
  | some d => veq p.2 d
  | none => some false
def eqAllD (ls : List (Key × D)) : List (Key × D) → Option Bool
  | [] => some true
  | p :: r => match eqEntry ls p, eqAllD ls r with
    | some b, some c => some (b && c)
    | _, _ => none
def deqDK (ks ls : List (Key × D)) : Option Bool := (eqAllD ls ks).map fun b => ks.length == ls.length && b
section
variable {pins : List (Addr × Obj)} {σ : L2.St} {s : Shared} {A : Around}
theorem veq_in {d e : D} {v w : V} {u u' : Value} {b : Bool} (I : Inv X pins σ H s) (h : veq d e = some b) (p1 : Rp X.K H d v) (p2 : Rp X.K H e w) (r1 : RelV v u) (r2 : RelV w u') (hu : A.in1.units + 64 < cLine) :
    SeqAt.EqIn X.prog X.w A.in1 s u u' b := by
  unfold veq at h
  split at h
  · cases h
    cases p1 with
    | @dK a ws _ e1 k1 =>
      cases p2 with
      | @dK a' ws' _ e2 k2 =>
        cases k1; cases k2
        obtain rfl : u = Value.ref a := r1
        obtain rfl : u' = Value.ref a' := r2
        by_cases hne : a = a'
        · subst hne
          exact (SeqAt.EqAt.same _).inModel _ _
        · obtain ⟨_, ya, va, ra, da⟩ := dk_of I.hok e1
          obtain ⟨_, yb, vb, rb, db⟩ := dk_of I.hok e2
          cases ra; cases rb
          refine SeqAt.EqIn.of_refs hne fun E Q hq => PySem.W.keq_eqIn (knd := mixKind X.prog X.w) (r := true) ya yb da db (by omega) (fun _ => .nil) ?_
          exact hq
  · unfold plainEq at h
    split at h
    · rename_i a c ea ec
      split at h
      · rename_i hs
        cases h
        obtain ⟨as, q1⟩ := Dp.reads I a v u (toPy_dp p1 ea) r1
        obtain ⟨bs, q2⟩ := Dp.reads I c w u' (toPy_dp p2 ec) r2
        exact (PySem.W.keq_at q1 q2 hs.1 hs.2 hu).inModel _ _
      · cases h
    · cases h
theorem hits_in (I : Inv X pins σ H s) (hu : A.in1.units + 64 < cLine) {kls : List (Key × D)} {ls : List (Key × V)} {vb : List (Key × Value)} (q : RpK X.K H kls ls) (r : KV ls vb) :
    ∀ {kks : List (Key × D)} {ks : List (Key × V)} {va : List (Key × Value)} {b : Bool}, RpK X.K H kks ks → KV ks va → eqAllD kls kks = some b → PySem.W.KeqHitsIn X.prog X.w A.in1 s vb va b
  | [], _, _, _, .nil, rv, e => by cases rv; cases e; exact .nil
  | (k, d) :: kks, _, va, b, .cons (v := v) (vs := ks) w rk, rv, e => by
    cases rv with
    | @cons _ y _ ys hy rv =>
      obtain ⟨k', u⟩ := y
      obtain ⟨hk, ru⟩ := hy
      obtain rfl : k = k' := hk
      unfold eqAllD at e
      split at e
      · rename_i b1 b2 e1 e2
        cases e
        have ih := hits_in I hu q r rk rv e2
        unfold eqEntry at e1
        have rel := r.val k
        obtain ⟨z1, z2⟩ := q.val (k := k)
        cases ev : valD kls k with
        | none =>
          rw [ev] at z2
          simp only [ev] at e1
          cases e1
          cases ew : valV ls k with
          | none =>
            rw [ew] at rel
            cases ex : valueAt vb k with
            | none => rw [Bool.false_and]; exact .miss ex
            | some _ => rw [ex] at rel; exact rel.elim
          | some _ => rw [ew] at z2; cases z2
        | some d' =>
          simp only [ev] at e1
          obtain ⟨v', ew, w'⟩ := z1 d' ev
          rw [ew] at rel
          cases ex : valueAt vb k with
          | none => rw [ex] at rel; exact rel.elim
          | some u' =>
            rw [ex] at rel
            exact .hit ex (veq_in I e1 w w' ru rel hu) ih
      · cases e
end
def rEqN (K : PySem.W.Frag) (g : Bool → Bool) : R2 := fun x y H Q => ∃ ks ls b, Rp K H (.dK ks) x ∧ Rp K H (.dK ls) y ∧ deqDK ks ls = some b ∧ Q (.bl (g b)) H
theorem same_len {ks : List (Key × D)} {ws : List (Key × V)} {vs : List (Key × Value)} (q : RpK K H ks ws) (r : KV ws vs) : ks.length = vs.length := q.len.trans r.length
theorem op_eqN (hu : X.A.units + 1 + 64 < cLine) : OpR X (compareOp .Eq) (rEqN X.K id) := by
  intro pins s σ H x y v u Q I rx ry h
  obtain ⟨ks, ls, b, p1, p2, e, q⟩ := h
  cases p1 with
  | @dK a ws _ e1 k1 =>
    cases p2 with
    | @dK a' ws' _ e2 k2 =>
      obtain rfl : v = Value.ref a := rx
      obtain rfl : u = Value.ref a' := ry
      obtain ⟨_, ya, va, ra, da⟩ := dk_of I.hok e1
      obtain ⟨_, yb, vb, rb, db⟩ := dk_of I.hok e2
      unfold deqDK at e
      cases ee : eqAllD ls ks with
      | none => rw [ee] at e; cases e
      | some c =>
        rw [ee] at e
        cases e
        refine PySem.W.keq_eqIn (knd := mixKind X.prog X.w) (r := c) ya yb da db (by omega) (fun _ => hits_in I hu k2 rb k1 ra ee) (fin_bl I q ?_)
        rw [same_len k1 ra, same_len k2 rb]; rfl
theorem op_neN (hu : X.A.units + 1 + 64 < cLine) : OpR X (compareOp .NotEq) (rEqN X.K not) := by
  intro pins s σ H x y v u Q I rx ry h
  obtain ⟨ks, ls, b, p1, p2, e, q⟩ := h
  cases p1 with
  | @dK a ws _ e1 k1 =>
    cases p2 with
    | @dK a' ws' _ e2 k2 =>
      obtain rfl : v = Value.ref a := rx
      obtain rfl : u = Value.ref a' := ry
      obtain ⟨_, ya, va, ra, da⟩ := dk_of I.hok e1
      obtain ⟨_, yb, vb, rb, db⟩ := dk_of I.hok e2
      unfold deqDK at e
      cases ee : eqAllD ls ks with
      | none => rw [ee] at e; cases e
      | some c =>
        rw [ee] at e
        cases e
        have hts := hits_in (A := X.A) I hu k2 rb k1 ra ee
        have fin : EP X pins σ Q (Value.bool (!(va.length == vb.length && c))) s := fin_bl I q (by rw [same_len k1 ra, same_len k2 rb])
        have isd := PySem.F.sub_dict_dict
        refine wpAny_richCompare_same_room (op := .NotEq) da.typeIs db.typeIs PySem.F.slot_dict_ne (wpAny_call_entry PySem.F.slot_dict_ne da.typeIs PySem.F.entry_dict_ne (wpAny_bind (m := Builtin.Dict.dictSlotArgs "__ne__" ⟨[.ref a, .ref a'], []⟩) ?_) (PySem.F.args_dict_ne_2 _ _)) (by omega)
        unfold Builtin.Dict.dictSlotArgs; refine wpAny_bind (wpAny_notOrdered_dict da.typeIs (wpAny_pure (wpAny_bind (wpAny_isInstance (T := "dict") db.typeIs isd ?_))))
        simp only [Bool.not_true, Bool.false_eq_true, if_false]
        exact wpAny_bind (wpAny_pure (wpAny_bind (wpAny_pure (wpAny_bind (PySem.W.keq_samePairsIn ya yb da db (fun _ => hts) (wpAny_pure ⟨_, rfl, (fun x => nomatch x), by simpa using fin⟩))))))
def fEqN (d e : D) : Option D := match d, e with
  | .dK ks, .dK ls => (deqDK ks ls).map .bl
  | d, e => fEq d e
def fNeN (d e : D) : Option D := match d, e with
  | .dK ks, .dK ls => (deqDK ks ls).map fun b => .bl (!b)
  | d, e => fNe d e
theorem or_eqN (hu : X.A.units + 1 + 64 < cLine) : OpR X (compareOp .Eq) (fun x y H Q => (rEq x y H Q ∨ rEqD X.K x y H Q) ∨ rEqN X.K id x y H Q) := (or_eq (by omega)).or (op_eqN hu)
theorem or_neN (hu : X.A.units + 1 + 64 < cLine) : OpR X (compareOp .NotEq) (fun x y H Q => (rNe x y H Q ∨ rNeD X.K x y H Q) ∨ rEqN X.K not x y H Q) := (or_ne (by omega)).or (op_neN hu)
theorem bd_eqN : BinD K (fun x y H Q => (rEq x y H Q ∨ rEqD K x y H Q) ∨ rEqN K id x y H Q) fEqN := fun J H d1 d2 d v1 v2 Q m p1 p2 e q => by
  unfold fEqN at e
  split at e
  · rename_i ks ls
    cases h : deqDK ks ls with
    | none => rw [h] at e; cases e
    | some b =>
      rw [h] at e
      cases e
      exact .inr ⟨ks, ls, b, p1.rp m, p2.rp m, h, q J H _ (Ext.refl m) (.bl _)⟩
  · exact .inl (bd_eq J H d1 d2 d v1 v2 Q m p1 p2 e q)
theorem bd_neN : BinD K (fun x y H Q => (rNe x y H Q ∨ rNeD K x y H Q) ∨ rEqN K not x y H Q) fNeN := fun J H d1 d2 d v1 v2 Q m p1 p2 e q => by
  unfold fNeN at e
  split at e
  · rename_i ks ls
    cases h : deqDK ks ls with
    | none => rw [h] at e; cases e
    | some b =>
      rw [h] at e
      cases e
      exact .inr ⟨ks, ls, b, p1.rp m, p2.rp m, h, q J H _ (Ext.refl m) (.bl _)⟩
  · exact .inl (bd_ne J H d1 d2 d v1 v2 Q m p1 p2 e q)
/-! ### text * int -/
def repS (a : Str) (n : Int) : Str := if n < 1 then Str.empty else if (n == 1 || a.length == 0) = true then a else ⟨(List.replicate n.toNat a.cps).foldl (· ++ ·) #[]⟩
theorem op_repS : OpR X (binaryOp .Mult) (fun x y H Q => ∃ (a : Str) (n : Int), x = .str a ∧ y = .int n ∧ -1000000 ≤ n ∧ n ≤ 1000000 ∧ a.length * n.toNat ≤ 1000000 ∧ Q (.str (repS a n)) H) := by
  intro pins s σ H x y v u Q I rx ry h
  obtain ⟨a, n, rfl, rfl, h1, h2, hz, q⟩ := h
  obtain ⟨t, rfl⟩ := rx
  obtain ⟨t', rfl⟩ := ry
  refine P.mul_str (by rw [decide_eq_false (by omega), decide_eq_false (by omega)]; rfl) (fun c1 c2 => ?_) (fun c1 c2 => ?_) ?_
  · have hn : 1 ≤ n := by omega
    have e : (a.length : Int) * n ≤ 1000000 := by
      have : ((a.length * n.toNat : Nat) : Int) ≤ 1000000 := by omega
      rw [Int.natCast_mul, Int.toNat_of_nonneg (by omega)] at this
      exact this
    have g : (1000000 : Int) ≤ (2 ^ 63 - 1) / n := by
      rw [Int.le_ediv_iff_mul_le (by omega)]
      have : 1000000 * n ≤ 1000000 * 1000000 := by omega
      omega
    have l : (a.length : Int) ≤ (a.length : Int) * n := by
      have := Int.mul_le_mul_of_nonneg_left hn (Int.natCast_nonneg a.length)
      simpa using this
    omega
  · show decide (a.length * n.toNat > sizeLine) = false
    rw [sizeLine_eq]
    exact decide_eq_false (by omega)
  · unfold repS at q
    by_cases c1 : n < 1
    · rw [if_pos c1] at q ⊢
      exact ⟨by decide, ⟨.str _, H, I.tok _, ⟨_, rfl⟩, q⟩⟩
    · rw [if_neg c1] at q ⊢
      by_cases c2 : (n == 1 || a.length == 0) = true
      · rw [if_pos c2] at q ⊢
        exact ⟨.str _, H, I, ⟨_, rfl⟩, q⟩
      · rw [if_neg c2] at q ⊢
        refine ⟨?_, ⟨.str _, H, I.tok _, ⟨_, rfl⟩, q⟩⟩
        exact PySem.fits_reps (by show decide (a.length * n.toNat > sizeLine) = false; rw [sizeLine_eq]; exact decide_eq_false (by omega))
def fMulS (d e : D) : Option D := match d, e with
  | .str a, .int n => if -1000000 ≤ n ∧ n ≤ 1000000 ∧ a.length * n.toNat ≤ 1000000 then some (.str (repS a n)) else none
  | d, e => fMul d e
theorem or_mulS : OpR X (binaryOp .Mult) (fun x y H Q => (rI CMul (fun i j => .int (i * j)) x y H Q ∨ rRep x y H Q ∨ rRepA X.K x y H Q) ∨ ∃ (a : Str) (n : Int), x = .str a ∧ y = .int n ∧ -1000000 ≤ n ∧ n ≤ 1000000 ∧ a.length * n.toNat ≤ 1000000 ∧ Q (.str (repS a n)) H) := or_mul.or op_repS
theorem bd_mulS : BinD K (fun x y H Q => (rI CMul (fun i j => .int (i * j)) x y H Q ∨ rRep x y H Q ∨ rRepA K x y H Q) ∨ ∃ (a : Str) (n : Int), x = .str a ∧ y = .int n ∧ -1000000 ≤ n ∧ n ≤ 1000000 ∧ a.length * n.toNat ≤ 1000000 ∧ Q (.str (repS a n)) H) fMulS := fun J H d1 d2 d v1 v2 Q m p1 p2 e q => by
  unfold fMulS at e
  split at e
  · split at e
    · rename_i h
      cases e
      cases p1.str; cases p2.int
      exact .inr ⟨_, _, rfl, rfl, h.1, h.2.1, h.2.2, q J H _ (Ext.refl m) (.str _)⟩
    · cases e
  · exact .inl (bd_mul J H d1 d2 d v1 v2 Q m p1 p2 e q)
/-! ### a text, too, is walked -/
def signs (x : Str) : List D := x.cps.toList.map fun c => .str ⟨#[c]⟩
def kItS2 (o : Option (D × Rho)) : Out (List D) := match o with
  | some (.lst ds, ρ) => .ok ds ρ
  | some (.tup ds, ρ) => .ok ds ρ
  | some (.str x, ρ) => .ok (signs x) ρ
  | _ => .bad
def kItS (h : Hd) (ρ : Rho) : Out (List D) := kItS2 (fzAt ρ h)
def mItT (m : Rho → Out Hd) : Rho → Out (List D) := fun ρ => (m ρ).bind kItS
theorem ev_ItT (m : Rho → Out Hd) (ρ : Rho) : mItT m ρ = (m ρ).bind kItS := (rfl)
theorem kItS_ (h : Hd) (ρ : Rho) : kItS h ρ = kItS2 (fzAt ρ h) := (rfl)
theorem kItS2l (ds : List D) (ρ : Rho) : kItS2 (some (.lst ds, ρ)) = .ok ds ρ := (rfl)
theorem kItS2t (ds : List D) (ρ : Rho) : kItS2 (some (.tup ds, ρ)) = .ok ds ρ := (rfl)
theorem kItS2s (x : Str) (ρ : Rho) : kItS2 (some (.str x, ρ)) = .ok (signs x) ρ := (rfl)
def iSeqT (K : PySem.W.Frag) (tl : TE) : TI := fun σ H R => tl σ H fun x H1 => (∃ a, x = .ref a ∧ (∃ xs, SqL K H1 a xs) ∧ R (Itl K a) H1) ∨ (∃ a, x = .ref a ∧ (∃ xs, SqT K H1 a xs) ∧ R (Itt K a) H1) ∨ (∃ z, x = .str z ∧ R (Its z) H1)
theorem pi_seqT {tg l : Expr} {tl : TE} (hl : PE X l tl) : PI X tg l (iSeqT X.K tl) := by
  refine ⟨fun pins s σ H R I h => ?_⟩
  refine thn (hl.run pins s σ H _ I h) fun v s1 ⟨x, H1, I1, r1, q1⟩ => ?_
  rcases q1 with ⟨a, e, ⟨xs, hq⟩, q⟩ | ⟨a, e, ⟨xs, hq⟩, q⟩ | ⟨z, e, q⟩
  · subst e
    cases r1
    obtain ⟨its, rv, p, hz⟩ := I1.list hq
    refine wpAny_pyIter_list p.isList (pi_one (tk := s1.toks) I1 _ (turn_list a _) ⟨_, Heap.get?_push_size _ rfl, rfl, rfl⟩ q)
  · subst e
    cases r1
    obtain ⟨its, rv, p, hz⟩ := I1.tuple hq
    refine wpAny_pyIter_tuple (show s1.heap.IsTuple a its.toArray from p) (pi_one (tk := s1.toks) I1 _ (turn_tuple a _) ⟨_, Heap.get?_push_size _ rfl, rfl, rfl⟩ q)
  · subst e
    obtain ⟨t, rfl⟩ := r1
    cases ha : z.cps.all (· < 128)
    · exact wpAny_pyIter_wide ha (pi_one (tk := s1.toks) I1 _ (turn_str _ z t "str_iterator" (.inr rfl)) ⟨_, Heap.get?_push_size _ rfl, rfl, rfl⟩ q)
    · exact wpAny_pyIter_ascii ha (pi_one (tk := s1.toks) I1 _ (turn_str _ z t "str_ascii_iterator" (.inl rfl)) ⟨_, Heap.get?_push_size _ rfl, rfl, rfl⟩ q)
theorem signs_len (x : Str) : (signs x).length = x.cps.size := by simp [signs]
theorem signs_get {x : Str} {i : Nat} {d : D} (h : (signs x)[i]? = some d) : ∃ c, x.cps[i]? = some c ∧ d = .str ⟨#[c]⟩ := by
  unfold signs at h
  rw [List.getElem?_map, Array.getElem?_toList] at h
  cases e : x.cps[i]? with
  | none => rw [e] at h; cases h
  | some c => rw [e] at h; cases h; exact ⟨c, rfl, rfl⟩
theorem di_seqT {tg l : Expr} {m : Rho → Out Hd} (hl : DP X B l m) : DI X B tg l (mItT m) := ⟨pi_weak (pi_seqT hl.pe) fun σ H Q ⟨σ0, F, J, ρ, ds, ρ', c, e, q⟩ => by
  obtain ⟨h, ρ1, e1, e2⟩ := bind_ok e
  refine ⟨σ0, F, J, ρ, h, ρ1, c, e1, fun J1 H1 v c1 s1 r1 => ?_⟩
  unfold kItS kItS2 at e2
  split at e2
  · rename_i ds' ρ2 e3
    cases e2
    obtain ⟨J2, c2, s2, w⟩ := c1.fz r1 e3
    cases w with
    | @lst a vs _ s r =>
      have at' : ∀ {J3 H3 : Hp}, Same J2 J3 → Same J3 H3 → SqL X.K H3 a vs := fun s3 m3 => SqL.of (m3 _ _ (s3 _ _ s))
      refine .inl ⟨a, rfl, ⟨vs, at' (Same.refl _) c2.jm⟩, q J2 H1 _ c2 (s1.trans s2) fun J3 H3 i s3 m3 => ⟨fun d hd => ?_, fun hi => ⟨vs, at' s3 m3, by rw [hi, r.len]; exact Nat.le_refl _⟩⟩⟩
      obtain ⟨x, ex, wx⟩ := r.get hd
      refine ⟨⟨vs, x, at' s3 m3, ex⟩, fun y H4 ⟨z1, z2⟩ => ?_⟩
      subst z1
      have := (z2 vs (at' s3 m3)).symm.trans ex
      cases this
      exact ⟨J3, Ext.refl m3, wx.mono s3⟩
  · rename_i ds' ρ2 e3
    cases e2
    obtain ⟨J2, c2, s2, w⟩ := c1.fz r1 e3
    cases w with
    | @tup a vs _ s r =>
      have at' : ∀ {J3 H3 : Hp}, Same J2 J3 → Same J3 H3 → SqT X.K H3 a vs := fun s3 m3 => ((s.mono s3).mono m3).sq
      refine .inr (.inl ⟨a, rfl, ⟨vs, at' (Same.refl _) c2.jm⟩, q J2 H1 _ c2 (s1.trans s2) fun J3 H3 i s3 m3 => ⟨fun d hd => ?_, fun hi => ⟨vs, at' s3 m3, by rw [hi, r.len]; exact Nat.le_refl _⟩⟩⟩)
      obtain ⟨x, ex, wx⟩ := r.get hd
      refine ⟨⟨vs, x, at' s3 m3, ex⟩, fun y H4 ⟨z1, z2⟩ => ?_⟩
      subst z1
      have := (z2 vs (at' s3 m3)).symm.trans ex
      cases this
      exact ⟨J3, Ext.refl m3, wx.mono s3⟩
  · rename_i x ρ2 e3
    cases e2
    obtain ⟨J2, c2, s2, w⟩ := c1.fz r1 e3
    cases w
    refine .inr (.inr ⟨x, rfl, q J2 H1 _ c2 (s1.trans s2) fun J3 H3 i s3 m3 => ⟨fun d hd => ?_, fun hi => by rw [hi, signs_len]; exact Nat.le_refl _⟩⟩)
    obtain ⟨c, ec, rfl⟩ := signs_get hd
    refine ⟨(Array.getElem?_eq_some_iff.mp ec).1, fun y H4 ⟨z1, c', ec', z2⟩ => ?_⟩
    rw [ec] at ec'
    cases ec'
    subst z1 z2
    exact ⟨J3, Ext.refl m3, .str _⟩
  · cases e2⟩
end
theorem RoomG.units1 {k : Nat} {A : Around} (r : RoomG k A) : A.units + 1 + 64 < cLine := by have := r.un; omega
/-! ### len of a dict, too -/
def fLenD (ds : List D) : Option D := match ds with
  | [.dK kvs] => some (.int kvs.length)
  | ds => fLen ds
theorem fLenD_k (kvs : List (Key × D)) : fLenD [.dK kvs] = some (.int kvs.length) := (rfl)
theorem fLenD_l (ds : List D) : fLenD [.lst ds] = some (.int ds.length) := (rfl)
theorem fLenD_t (ds : List D) : fLenD [.tup ds] = some (.int ds.length) := (rfl)
theorem fLenD_s (x : Str) : fLenD [.str x] = if x.length ≤ sizeLine then some (.int x.length) else none := (rfl)
section
variable {K : PySem.W.Frag} {X : Cx}
abbrev rLenX (K : PySem.W.Frag) : List V → Hp → VK → Prop := fun xs H Q => (∃ x n, xs = [x] ∧ LenV K x H n ∧ Q (.int n) H) ∨ ∃ a kvs, xs = [V.ref a] ∧ H a = some (.dK kvs) ∧ Q (.int kvs.length) H
theorem or_lenD : CallR X (.builtin "len") (rLenX X.K) := call_len.or call_lenD
theorem cd_lenD : CallD K (rLenX K) fLenD := fun J H ds d vs Q m p e q => by
  unfold fLenD at e
  split at e
  · cases e
    obtain ⟨v, rfl, p1⟩ := pkl1 p
    obtain ⟨a, ws, rfl, h, r⟩ := p1.dK m
    refine .inr ⟨a, ws, rfl, h, ?_⟩
    rw [← r.len]
    exact q J H _ (Ext.refl m) (.int _)
  · exact .inl (cd_len J H ds d vs Q m p e q)
end
/-! ### shifts -/
def fShr : D → D → Option D
  | .int i, .int j => if 0 ≤ j then some (.int (i / 2 ^ j.toNat)) else none
  | _, _ => none
def fShl : D → D → Option D
  | .int i, .int j => if 0 ≤ j ∧ j ≤ 1000000 ∧ i.natAbs < 2 ^ 64 then some (.int (i * 2 ^ j.toNat)) else none
  | _, _ => none
section
variable {K : PySem.W.Frag}
theorem bd_shr : BinD K (rI (fun _ j => 0 ≤ j) fun i j => .int (i / 2 ^ j.toNat)) fShr := fun J H d1 d2 d v1 v2 Q m p1 p2 e q => by
  unfold fShr at e
  split at e
  · split at e
    · rename_i h
      cases e; cases p1.int; cases p2.int; exact ⟨_, _, rfl, rfl, h, q J H _ (Ext.refl m) (.int _)⟩
    · cases e
  · cases e
theorem bd_shl : BinD K (rI CPow fun i j => .int (i * 2 ^ j.toNat)) fShl := fun J H d1 d2 d v1 v2 Q m p1 p2 e q => by
  unfold fShl at e
  split at e
  · split at e
    · rename_i h
      cases e; cases p1.int; cases p2.int; exact ⟨_, _, rfl, rfl, h, q J H _ (Ext.refl m) (.int _)⟩
    · cases e
  · cases e
end
/-! ### str(n) -/
def fStr : List D → Option D
  | [.int i] => if i.natAbs < 2 ^ 1000 then some (.str (toString i : String)) else none
  | [.str x] => some (.str x)
  | _ => none
section
variable {K : PySem.W.Frag} {X : Cx}
theorem or_str : CallR X (.type "str") (fun xs H Q => (∃ i, xs = [V.int i] ∧ i.natAbs.log2 < 1920 ∧ Q (.str (toString i)) H) ∨ ∃ a, xs = [V.str a] ∧ Q (.str a) H) := call_str_int.or SkE.call_str_str
theorem cd_str : CallD K (fun xs H Q => (∃ i, xs = [V.int i] ∧ i.natAbs.log2 < 1920 ∧ Q (.str (toString i)) H) ∨ ∃ a, xs = [V.str a] ∧ Q (.str a) H) fStr := fun J H ds d vs Q m p e q => by
  unfold fStr at e
  split at e
  · split at e
    · rename_i i h
      cases e
      obtain ⟨v, rfl, p1⟩ := pkl1 p
      cases p1.int
      refine .inl ⟨i, rfl, ?_, q J H _ (Ext.refl m) (.str _)⟩
      by_cases h0 : i.natAbs = 0
      · rw [h0]; decide
      · have := (Nat.log2_lt h0).mpr h
        omega
    · cases e
  · cases e
    obtain ⟨v, rfl, p1⟩ := pkl1 p
    cases p1.str
    exact .inr ⟨_, rfl, q J H _ (Ext.refl m) (.str _)⟩
  · cases e
end
/-! ### int of a text, too -/
def fIntT (ds : List D) : Option D := match ds with
  | [.str a] => match PySem.intText? a with
    | some n => if a.length ≤ 640 then some (.int n) else none
    | none => none
  | ds => fInt ds
theorem fIntT_i (i : Int) : fIntT [.int i] = some (.int i) := (rfl)
theorem fIntT_b (b : Bool) : fIntT [.bl b] = fInt [.bl b] := (rfl)
theorem fIntT_s {a : Str} {n : Int} (h : PySem.intText? a = some n) (hl : a.length ≤ 640) : fIntT [.str a] = some (.int n) := by
  show (match PySem.intText? a with
    | some n => if a.length ≤ 640 then some (D.int n) else none
    | none => none) = _
  rw [h]
  exact if_pos hl
section
variable {K : PySem.W.Frag} {X : Cx}
theorem or_intT : CallR X (.type "int") (fun xs H Q => ((∃ i, xs = [V.int i] ∧ Q (.int i) H) ∨ ∃ k, xs = [V.bl k] ∧ Q (.int (if k = true then 1 else 0)) H) ∨ ∃ a n, xs = [V.str a] ∧ PySem.intText? a = some n ∧ a.length ≤ 640 ∧ Q (.int n) H) := call_int1.or call_int_str
theorem cd_intT : CallD K (fun xs H Q => ((∃ i, xs = [V.int i] ∧ Q (.int i) H) ∨ ∃ k, xs = [V.bl k] ∧ Q (.int (if k = true then 1 else 0)) H) ∨ ∃ a n, xs = [V.str a] ∧ PySem.intText? a = some n ∧ a.length ≤ 640 ∧ Q (.int n) H) fIntT := fun J H ds d vs Q m p e q => by
  unfold fIntT at e
  split at e
  · split at e
    · rename_i n hn
      split at e
      · rename_i hl
        cases e
        obtain ⟨v, rfl, p1⟩ := pkl1 p
        cases p1.str
        exact .inr ⟨_, n, rfl, hn, hl, q J H _ (Ext.refl m) (.int _)⟩
      · cases e
    · cases e
  · exact .inl (cd_int J H ds d vs Q m p e q)
end
end DL

set_option Elab.async false
set_option linter.all false
set_option maxRecDepth 100000
set_option maxHeartbeats 4000000
/-! DLo: plain facts that several laws want: names seen, keys that stand twice, picks out of short lists, letters. -/
namespace DL
open PySem PySem.Spec PyProof.Rows L2
/-- scalars; texts among them are short -/
inductive Sc : D → Prop
  | non : Sc .non
  | int (i : Int) : Sc (.int i)
  | bl (b : Bool) : Sc (.bl b)
  | str (x : Str) (h : x.length ≤ 1000) : Sc (.str x)
def isOne (l : List Str) (d : D) : Bool := match d with
  | .str x => l.any fun y => decide (y = x)
  | _ => false
theorem eqV_str (a x : Str) : eqV (.str a) (.str x) = decide (a = x) := by unfold eqV; rfl
theorem one_in (a b c : Str) {d : D} (h : Sc d) : fIn d (.tup [.str a, .str b, .str c]) = some (.bl (isOne [a, b, c] d)) := by
  cases h with
  | str x hx => show some (D.bl (eqV (.str a) (.str x) || (eqV (.str b) (.str x) || (eqV (.str c) (.str x) || false)))) = _; simp only [eqV_str]; rfl
  | _ => rfl
theorem one_notin (a b c : Str) {d : D} (h : Sc d) : fNotIn d (.tup [.str a, .str b, .str c]) = some (.bl (!isOne [a, b, c] d)) := by
  cases h with
  | str x hx => show some (D.bl (!(eqV (.str a) (.str x) || (eqV (.str b) (.str x) || (eqV (.str c) (.str x) || false))))) = _; simp only [eqV_str]; rfl
  | _ => rfl
def letter (k : Nat) : Str := ⟨#[97 + k]⟩
theorem letter_inj {j k : Nat} (h : letter j = letter k) : j = k := by
  have := congrArg (fun s : Str => s.cps.toList) h
  simp [letter] at this
  exact this
theorem ix_str {z : Str} {i : Int} {y : Str} (hz : z.length ≤ sizeLine) (h : (atI z.cps.toList i).map (fun c => (⟨#[c]⟩ : Str)) = some y) : fIxD (.str z) (.int i) = some (.str y) := by
  show (if z.length ≤ sizeLine then (atI z.cps.toList i).map fun c => D.str ⟨#[c]⟩ else none) = _
  rw [if_pos hz]
  cases e : atI z.cps.toList i with
  | none => rw [e] at h; cases h
  | some c => rw [e] at h; cases h; rfl
theorem pick5 (a b c d e : D) {k : Int} (h0 : 0 ≤ k) (h1 : k < 5) : ∃ x, (x = a ∨ x = b ∨ x = c ∨ x = d ∨ x = e) ∧ atI [a, b, c, d, e] k = some x := by
  obtain rfl | rfl | rfl | rfl | rfl : k = 0 ∨ k = 1 ∨ k = 2 ∨ k = 3 ∨ k = 4 := by omega
  · exact ⟨a, by simp, (atI_0 _ _)⟩
  · exact ⟨b, by simp, (atI_1 _ _ _)⟩
  · exact ⟨c, by simp, (atI_2 _ _ _ _)⟩
  · exact ⟨d, by simp, (atI_3 _ _ _ _ _)⟩
  · exact ⟨e, by simp, (atI_4 _ _ _ _ _ _)⟩
theorem pick4 (a b c d : D) {k : Int} (h0 : 0 ≤ k) (h1 : k < 4) : ∃ x, (x = a ∨ x = b ∨ x = c ∨ x = d) ∧ atI [a, b, c, d] k = some x := by
  obtain rfl | rfl | rfl | rfl : k = 0 ∨ k = 1 ∨ k = 2 ∨ k = 3 := by omega
  · exact ⟨a, by simp, (atI_0 _ _)⟩
  · exact ⟨b, by simp, (atI_1 _ _ _)⟩
  · exact ⟨c, by simp, (atI_2 _ _ _ _)⟩
  · exact ⟨d, by simp, (atI_3 _ _ _ _ _)⟩
theorem pick3 (a b c : D) {k : Int} (h0 : 0 ≤ k) (h1 : k < 3) : ∃ x, (x = a ∨ x = b ∨ x = c) ∧ atI [a, b, c] k = some x := by
  obtain rfl | rfl | rfl : k = 0 ∨ k = 1 ∨ k = 2 := by omega
  · exact ⟨a, by simp, (atI_0 _ _)⟩
  · exact ⟨b, by simp, (atI_1 _ _ _)⟩
  · exact ⟨c, by simp, (atI_2 _ _ _ _)⟩
theorem pick2 (a b : D) {k : Int} (h0 : 0 ≤ k) (h1 : k < 2) : ∃ x, (x = a ∨ x = b) ∧ atI [a, b] k = some x := by
  obtain rfl | rfl : k = 0 ∨ k = 1 := by omega
  · exact ⟨a, by simp, (atI_0 _ _)⟩
  · exact ⟨b, by simp, (atI_1 _ _ _)⟩
abbrev kvS (seen : List Str) : List (Key × D) := seen.map fun x => (Sum.inr x, D.bl true)
def seenB (seen : List Str) (d : D) : Bool := match d with
  | .str x => seen.any fun y => decide (y = x)
  | _ => false
theorem valD_seen (x : Str) : ∀ seen : List Str, (valD (kvS seen) (Sum.inr x)).isSome = seen.any fun y => decide (y = x)
  | [] => rfl
  | y :: r => by
    have ih := valD_seen x r
    unfold valD at ih ⊢
    rw [show kvS (y :: r) = (Sum.inr y, D.bl true) :: kvS r from rfl, List.find?_cons, List.any_cons]
    by_cases h : y = x
    · subst h; simp
    · have : decide ((Sum.inr y : Key) = Sum.inr x) = false := decide_eq_false fun z => h (Sum.inr.inj z)
      simp only [this]
      rw [ih, decide_eq_false h, Bool.false_or]
theorem in_seen (seen : List Str) (x : Str) : fIn (.str x) (.dK (kvS seen)) = some (.bl (seenB seen (.str x))) := by
  show (some ((valD (kvS seen) (Sum.inr x)).isSome)).map D.bl = _
  rw [valD_seen]; rfl
theorem put_seen {seen : List Str} {x : Str} (h : seenB seen (.str x) = false) : putD (kvS seen) (Sum.inr x) (.bl true) = kvS (seen ++ [x]) := by
  have e : (kvS seen).any (fun kv => decide (kv.1 = Sum.inr x)) = seen.any fun y => decide (y = x) := by
    rw [List.any_map]
    congr 1
    funext y
    simp
  unfold putD
  rw [e, show (seen.any fun y => decide (y = x)) = false from h]
  simp
/-! ### keys that stand twice -/
def hasK (kvs : List (Key × D)) (k : Key) : Bool := kvs.any fun kv => decide (kv.1 = k)
theorem hasK_put {kvs : List (Key × D)} {k : Key} {d : D} (j : Key) : hasK (putD kvs k d) j = (hasK kvs j || decide (k = j)) := by
  unfold putD
  by_cases h : hasK kvs k = true
  · have h' : (kvs.any fun kv => decide (kv.1 = k)) = true := h
    rw [if_pos h']
    have e : hasK (kvs.map fun kv => if kv.1 = k then (k, d) else kv) j = hasK kvs j := by
      unfold hasK
      rw [List.any_map]
      congr 1
      funext kv
      show decide ((if kv.1 = k then (k, d) else kv).1 = j) = decide (kv.1 = j)
      by_cases c : kv.1 = k
      · rw [if_pos c, c]
      · rw [if_neg c]
    rw [e]
    by_cases c : k = j
    · subst c; rw [h]; simp
    · rw [decide_eq_false c, Bool.or_false]
  · have h' : ¬ (kvs.any fun kv => decide (kv.1 = k)) = true := h
    rw [if_neg h']
    unfold hasK
    rw [List.any_append]
    simp
theorem len_put {kvs : List (Key × D)} {k : Key} {d : D} : (putD kvs k d).length = if hasK kvs k = true then kvs.length else kvs.length + 1 := by
  unfold putD
  by_cases h : hasK kvs k = true
  · have h' : (kvs.any fun kv => decide (kv.1 = k)) = true := h
    rw [if_pos h', if_pos h, List.length_map]
  · have h' : ¬ (kvs.any fun kv => decide (kv.1 = k)) = true := h
    rw [if_neg h', if_neg h, List.length_append]; rfl
theorem hasK_merge : ∀ (more kvs : List (Key × D)) (j : Key), hasK (mergeD kvs more) j = (hasK kvs j || hasK more j)
  | [], kvs, j => by show hasK kvs j = (hasK kvs j || false); rw [Bool.or_false]
  | p :: more, kvs, j => by
    show hasK (mergeD (putD kvs p.1 p.2) more) j = (hasK kvs j || (decide (p.1 = j) || hasK more j))
    rw [hasK_merge more, hasK_put, Bool.or_assoc]
theorem len_merge_le : ∀ (more kvs : List (Key × D)), (mergeD kvs more).length ≤ kvs.length + more.length
  | [], kvs => Nat.le_refl _
  | p :: more, kvs => by
    show (mergeD (putD kvs p.1 p.2) more).length ≤ _
    have h1 := len_merge_le more (putD kvs p.1 p.2)
    have h2 : (putD kvs p.1 p.2).length ≤ kvs.length + 1 := by
      rw [len_put]; split <;> omega
    simp only [List.length_cons]
    omega
theorem len_merge_nd : ∀ (more kvs : List (Key × D)), (more.map (·.1)).Nodup → (∀ p ∈ more, hasK kvs p.1 = false) → (mergeD kvs more).length = kvs.length + more.length
  | [], kvs, _, _ => rfl
  | p :: more, kvs, h, h2 => by
    show (mergeD (putD kvs p.1 p.2) more).length = _
    rw [List.map_cons, List.nodup_cons] at h
    rw [len_merge_nd more _ h.2 fun q hq => ?_, len_put, if_neg (by rw [h2 p (by simp)]; exact Bool.noConfusion), List.length_cons]
    · omega
    · rw [hasK_put, h2 q (by simp [hq]), Bool.false_or]
      exact decide_eq_false fun e => h.1 (e ▸ List.mem_map.mpr ⟨q, hq, rfl⟩)
theorem mergeD_app (a b kvs : List (Key × D)) : mergeD kvs (a ++ b) = mergeD (mergeD kvs a) b := by
  unfold mergeD; rw [List.foldl_append]
theorem erase_map (l : List Str) : ∀ j, (l.map D.str).eraseIdx j = (l.eraseIdx j).map D.str := by
  induction l with
  | nil => intro j; rfl
  | cons a l ih =>
    intro j
    cases j with
    | zero => rfl
    | succ j => rw [List.map_cons, List.eraseIdx_cons_succ, List.eraseIdx_cons_succ, List.map_cons, ih]
theorem erase_perm {α : Type} : ∀ (l : List α) (j : Nat) (h : j < l.length), (l[j] :: l.eraseIdx j).Perm l
  | a :: l, 0, h => List.Perm.refl _
  | a :: l, j + 1, h => by
    have hj : j < l.length := by simpa using h
    have ih := erase_perm l j hj
    show (l[j] :: a :: l.eraseIdx j).Perm (a :: l)
    exact (List.Perm.swap a _ _).trans (ih.cons a)
end DL

set_option Elab.async false
set_option linter.all false
set_option maxRecDepth 100000
set_option maxHeartbeats 4000000
/-! DLl: a list put together of two, as one's own. -/
namespace DL
open PySem PySem.Spec PyProof.Rows L2
def mBinL (f : D → D → Option (List D)) (m1 m2 : Rho → Out Hd) : Rho → Out R := fun ρ => (m1 ρ).bind fun h1 ρ1 => (m2 ρ1).bind fun h2 ρ2 => (Out.opt (res ρ2 h1) ρ2).bind fun d1 _ => (Out.opt (res ρ2 h2) ρ2).bind fun d2 _ => (Out.opt (f d1 d2) ρ2).bind fun ds ρ3 => .ok (.ol ds) ρ3
def BinL (K : PySem.W.Frag) (r : R2) (f : D → D → Option (List D)) : Prop := ∀ (J H : Hp) (d1 d2 : D) (es : List D) (v1 v2 : V) (Q : VK), Same J H → Pk K J H d1 v1 → Pk K J H d2 v2 → f d1 d2 = some es →
  (∀ p ws H0, Ext J H J H0 → H0 p = none → RpL K J es ws → Q (.ref p) (upd H0 p (.lst ws))) → r v1 v2 H Q
section
variable {X : Cx} {B : List Nat} {m1 m2 : Rho → Out Hd} {a b : Expr} {pos : Pos} {K : PySem.W.Frag}
theorem mBinL_ok {f : D → D → Option (List D)} {ρ ρ' : Rho} {h : R} (e : mBinL f m1 m2 ρ = .ok h ρ') : ∃ h1 ρ1 h2 d1 d2 es, m1 ρ = .ok h1 ρ1 ∧ m2 ρ1 = .ok h2 ρ' ∧ res ρ' h1 = some d1 ∧ res ρ' h2 = some d2 ∧ f d1 d2 = some es ∧ h = .ol es := by
  obtain ⟨h1, ρ1, e1, e_2⟩ := bind_ok e
  obtain ⟨h2, ρ2, e2, e_3⟩ := bind_ok e_2
  obtain ⟨d1, e3, e_4⟩ := bo_ok e_3
  obtain ⟨d2, e4, e_5⟩ := bo_ok e_4
  obtain ⟨d, e5, e_6⟩ := bo_ok e_5
  cases e_6
  exact ⟨h1, ρ1, h2, d1, d2, d, e1, e2, e3, e4, e5, rfl⟩
theorem tOp_binL {r : R2} {f : D → D → Option (List D)} (hd : BinL X.K r f) (σ : L2.St) (H : Hp) (Q : VK) (h : lO X.K B (mBinL f m1 m2) σ H Q) : tOp r (lP X.K B m1) (lP X.K B m2) σ H Q := by
  obtain ⟨σ0, F, J, ρ, h, ρ', c, e0, k⟩ := h
  obtain ⟨h1, ρ1, h2, d1, d2, d, e1, e2, e3, e4, e5, rfl⟩ := mBinL_ok e0
  refine ⟨σ0, F, J, ρ, h1, ρ1, c, e1, fun J1 H1 v1 c1 s1 r1 => ⟨σ0, F, J1, ρ1, h2, _, c1, e2, fun J2 H2 v2 c2 s2 r2 => ?_⟩⟩
  exact hd J2 H2 d1 d2 d v1 v2 Q c2.jm (c2.res (r1.mono s2) e3) (c2.res r2 e4) e5 fun p ws H0 x hp w => k J2 _ _ ((c2.ext x).fresh hp ⟨p, ws, rfl, rfl, upd_same, w⟩) (s1.trans s2)
theorem do_binL {op : Operator} {r : R2} {f : D → D → Option (List D)} (ho : OpR X (binaryOp op) r) (hd : BinL X.K r f) (ha : DP X B a m1) (hb : DP X B b m2) : DO X B (.BinOp a op b pos) (mBinL f m1 m2) := ⟨pe_weak (pe_op ho ha.pe hb.pe) (tOp_binL hd)⟩
def fCat : D → D → Option (List D)
  | .lst xs, .lst ys => if xs.length + ys.length ≤ sizeLine then some (xs ++ ys) else none
  | _, _ => none
theorem bl_cat : BinL K (rAddD K) fCat := fun J H d1 d2 d v1 v2 Q m p1 p2 e q => by
  unfold fCat at e
  split at e
  · split at e
    · rename_i hz
      cases e
      obtain ⟨a, vs, rfl, h1, r1⟩ := p1.lst m
      obtain ⟨b, ws, rfl, h2, r2⟩ := p2.lst m
      refine .inr (.inr (.inl ⟨a, b, vs, ws, rfl, rfl, h1, h2, by rw [← r1.len, ← r2.len]; exact hz, fun p hp => ?_⟩))
      exact q p (vs ++ ws) H (Ext.refl m) hp (r1.app r2)
    · cases e
  · cases e
end
def kBL3 (f : D → D → Option (List D)) (ρ : Rho) (o1 o2 : Option D) : Out R := match o1, o2 with
  | some d1, some d2 => oL (f d1 d2) ρ
  | _, _ => .bad
def kBL2 (f : D → D → Option (List D)) (h1 h2 : Hd) (ρ : Rho) : Out R := kBL3 f ρ (res ρ h1) (res ρ h2)
def kBL1 (f : D → D → Option (List D)) (m2 : Rho → Out Hd) (h1 : Hd) (ρ : Rho) : Out R := (m2 ρ).bind (kBL2 f h1)
theorem ev_BinL (f : D → D → Option (List D)) (m1 m2 : Rho → Out Hd) (ρ : Rho) : mBinL f m1 m2 ρ = (m1 ρ).bind (kBL1 f m2) := by
  unfold mBinL
  cases m1 ρ with
  | bad => rfl
  | ok h1 ρ1 =>
    show (m2 ρ1).bind _ = (m2 ρ1).bind _
    cases m2 ρ1 with
    | bad => rfl
    | ok h2 ρ2 =>
      show (Out.opt (res ρ2 h1) ρ2).bind _ = kBL3 f ρ2 (res ρ2 h1) (res ρ2 h2)
      cases res ρ2 h1 with
      | none => rfl
      | some d1 =>
        cases res ρ2 h2 with
        | none => rfl
        | some d2 =>
          show (Out.opt (f d1 d2) ρ2).bind _ = oL (f d1 d2) ρ2
          cases f d1 d2 <;> rfl
theorem kBL1_ (f : D → D → Option (List D)) (m2 : Rho → Out Hd) (h1 : Hd) (ρ : Rho) : kBL1 f m2 h1 ρ = (m2 ρ).bind (kBL2 f h1) := (rfl)
theorem kBL2_ (f : D → D → Option (List D)) (h1 h2 : Hd) (ρ : Rho) : kBL2 f h1 h2 ρ = kBL3 f ρ (res ρ h1) (res ρ h2) := (rfl)
theorem kBL3_ (f : D → D → Option (List D)) (ρ : Rho) (d1 d2 : D) : kBL3 f ρ (some d1) (some d2) = oL (f d1 d2) ρ := (rfl)
theorem cat_ll {xs ys : List D} (h : xs.length + ys.length ≤ 100000) : fCat (.lst xs) (.lst ys) = some (xs ++ ys) := if_pos (le_line h)
end DL

set_option Elab.async false
set_option linter.all false
set_option maxRecDepth 100000
set_option maxHeartbeats 4000000
/-! DLaa: a tape [rest, cells, place], as one's own. -/
namespace DL
open PySem PySem.Spec PyProof.Rows L2
section
variable {K : PySem.W.Frag} {B : List Nat} {σ0 : L2.St} {F : Fm} {J J' : Hp} {ρ ρ' : Rho} {σ : L2.St} {H H' : Hp} {r r0 r1 : R} {v v0 : V} {d : D} {i : Nat} {S S0 : List Addr}
/-- one's own thing at slot i is changed at one of its places -/
theorem CI.changeS {a : Addr} {o : HO} (c : CI K B σ0 F J ρ σ H) (hi : ρ[i]? = some (some r0)) (hv : σ[i]? = some (some v)) (h1 : ∀ S, OwnAt K J H r0 v S → a ∈ S ∧ OwnAt K J (upd H a o) r1 v S) : CI K B σ0 F J (ρ.set i (some r1)) σ (upd H a o) := by
  obtain ⟨fp, o1, o2, o3⟩ := id c.own
  have hlt : i < ρ.length := (List.getElem?_eq_some_iff.mp hi).1
  obtain ⟨v', ev, w⟩ := o1 i r0 hi
  rw [hv] at ev
  cases ev
  obtain ⟨hS, w1⟩ := h1 _ w
  obtain ⟨hj, hf⟩ := o2 i r0 a hi hS
  have key : ∀ {j : Nat} {q : R}, (ρ.set i (some r1))[j]? = some (some q) → (j = i ∧ q = r1) ∨ (j ≠ i ∧ ρ[j]? = some (some q)) := fun {j q} h => by
    by_cases e : j = i
    · subst e; rw [List.getElem?_set_self hlt] at h; exact .inl ⟨rfl, by injection h with h; injection h with h; exact h.symm⟩
    · rw [List.getElem?_set_ne (Ne.symm e)] at h; exact .inr ⟨e, h⟩
  have fpe : ∀ {j : Nat} {q : R}, (ρ.set i (some r1))[j]? = some (some q) → ∃ q', ρ[j]? = some (some q') := fun {j q} h => by
    rcases key h with ⟨rfl, _⟩ | ⟨_, h⟩
    · exact ⟨r0, hi⟩
    · exact ⟨q, h⟩
  have ups : ∀ {G : Hp}, G a = none → Same G H → Same G (upd H a o) := fun {G} g s b x e => by
    rw [upd_ne (ne_of_none e g)]; exact s _ _ e
  refine ⟨ups hf c.fr, ups hj c.jm, c.av, by simp [c.len], c.lb, c.pin, fp, fun j q h => ?_, fun j q b h hb => ?_, fun j k q q' b h h' hb hb' => ?_⟩
  · rcases key h with ⟨rfl, rfl⟩ | ⟨ne, h⟩
    · exact ⟨v, hv, w1⟩
    · obtain ⟨u, e1, w1⟩ := o1 j q h
      refine ⟨u, e1, w1.mono (Same.refl _) fun b hb x e => ?_⟩
      have : b ≠ a := fun z => ne (o3 j i q r0 b h hi hb (by rw [z]; exact hS))
      rw [upd_ne this]; exact e
  · obtain ⟨q', h'⟩ := fpe h
    exact o2 j q' b h' hb
  · obtain ⟨q1, h1⟩ := fpe h
    obtain ⟨q2, h2⟩ := fpe h'
    exact o3 j k q1 q2 b h1 h2 hb hb'
theorem CI.tpAt {rest n : Int} {cs : List Int} (c : CI K B σ0 F J ρ σ H) (hi : ρ[i]? = some (some (.tp rest cs n))) : ∃ a l, σ[i]? = some (some (.ref a)) ∧ a ≠ l ∧ H a = some (.lst [.int rest, .ref l, .int n]) ∧ H l = some (.lst (cs.map V.int)) := by
  obtain ⟨fp, o1, _⟩ := c.own
  obtain ⟨v, e, a, l, rfl, _, ne, h1, h2⟩ := o1 i _ hi
  exact ⟨a, l, e, ne, h1, h2⟩
theorem CI.tpSet {rest n rest' n' : Int} {cs : List Int} {a l : Addr} (c : CI K B σ0 F J ρ σ H) (hi : ρ[i]? = some (some (.tp rest cs n))) (hv : σ[i]? = some (some (.ref a))) (h1 : H a = some (.lst [.int rest, .ref l, .int n])) :
    CI K B σ0 F J (ρ.set i (some (.tp rest' cs n'))) σ (upd H a (.lst [.int rest', .ref l, .int n'])) := by
  refine c.changeS hi hv fun S w => ?_
  obtain ⟨b, l', eb, rfl, ne, e1, e2⟩ := w
  cases eb
  rw [h1] at e1
  cases e1
  exact ⟨by simp, a, l, rfl, rfl, ne, upd_same, by rw [upd_ne ne.symm]; exact e2⟩
/-- a list of numbers in one's own hand goes into a tape -/
theorem CI.wrapTp {rest n : Int} {cs : List Int} {l p : Addr} (c1 : CI K B σ0 F J (ρ ++ [some (.ol (cs.map D.int))]) (σ ++ [some (.ref l)]) H) (hb : σ0.length ≤ σ.length) (hp : H p = none) :
    CI K B σ0 F J (ρ ++ [some (.tp rest cs n)]) (σ ++ [some (.ref p)]) (upd H p (.lst [.int rest, .ref l, .int n])) := by
  obtain ⟨fp, o1, o2, o3⟩ := id c1.own
  have s0 : Same H (upd H p (.lst [.int rest, .ref l, .int n])) := same_upd hp
  have hlr : ρ.length = σ.length := by have := c1.len; simpa using this
  obtain ⟨v', ev, w⟩ := o1 ρ.length _ get_app_r
  rw [hlr, get_app_r] at ev
  cases ev
  have hfp : fp ρ.length = [l] := own_ol w
  obtain ⟨b, vs, eb, _, hl, r⟩ := w
  cases eb
  have hvs : vs = cs.map V.int := (intsD_of r (by
    have : ∀ l : List Int, intsD (l.map D.int) = some l := fun l => by
      induction l with
      | nil => rfl
      | cons a l ih => rw [List.map_cons, intsD, ih]; rfl
    exact this cs))
  subst hvs
  have npl : p ≠ l := fun z => by rw [z, hl] at hp; cases hp
  have np : ∀ {j : Nat} {q : R}, ρ[j]? = some (some q) → p ∉ fp j := fun {j q} h hm => by
    obtain ⟨v, _, w⟩ := o1 j q (get_app_l h)
    obtain ⟨o, e⟩ := w.there p hm
    rw [hp] at e; cases e
  have key : ∀ {j : Nat} {q : R}, (ρ ++ [some (.tp rest cs n)])[j]? = some (some q) → (j = ρ.length ∧ q = .tp rest cs n) ∨ (j ≠ ρ.length ∧ ρ[j]? = some (some q)) := fun {j q} h => by
    rcases get_app h with h | ⟨e, h⟩
    · exact .inr ⟨Nat.ne_of_lt (List.getElem?_eq_some_iff.mp h).1, h⟩
    · exact .inl ⟨e, (Option.some.inj h).symm⟩
  have hpin : ∀ i ∈ B, i < σ0.length ∧ (σ ++ [some (.ref p)])[i]? = σ0[i]? := fun i hi => by
    obtain ⟨h1, h2⟩ := c1.pin i hi
    refine ⟨h1, ?_⟩
    rw [List.getElem?_append_left (Nat.lt_of_lt_of_le h1 hb)] at h2 ⊢
    exact h2
  refine ⟨c1.fr.trans s0, c1.jm.trans s0, c1.av, by simp [hlr], by simp; omega, hpin, ovr fp ρ.length [p, l], fun j q h => ?_, fun j q a h ha => ?_, fun j k q q' a h h' ha hb => ?_⟩
  · rcases key h with ⟨rfl, rfl⟩ | ⟨ne, h⟩
    · refine ⟨.ref p, by rw [hlr]; exact get_app_r, ?_⟩
      rw [ovr_eq]
      exact ⟨p, l, rfl, rfl, npl, upd_same, by rw [upd_ne npl.symm]; exact hl⟩
    · obtain ⟨v, e1, w⟩ := o1 j q (get_app_l h)
      rcases get_app e1 with e1 | ⟨z, _⟩
      · exact ⟨v, get_app_l e1, by rw [ovr_ne ne]; exact w.mono (Same.refl _) fun a _ o q => s0 _ _ q⟩
      · exact absurd (z.trans hlr.symm) ne
  · rcases key h with ⟨rfl, rfl⟩ | ⟨ne, h⟩
    · rw [ovr_eq] at ha
      rcases List.mem_cons.mp ha with rfl | ha
      · exact ⟨c1.jm.free hp, c1.fr.free hp⟩
      · exact o2 _ _ a get_app_r (by rw [hfp]; exact ha)
    · rw [ovr_ne ne] at ha; exact o2 j q a (get_app_l h) ha
  · rcases key h with ⟨rfl, rfl⟩ | ⟨ne, h3⟩
    · rcases key h' with ⟨rfl, rfl⟩ | ⟨ne', h4⟩
      · rfl
      · rw [ovr_eq] at ha
        rw [ovr_ne ne'] at hb
        rcases List.mem_cons.mp ha with rfl | ha
        · exact absurd hb (np h4)
        · exact o3 _ _ _ _ a get_app_r (get_app_l h4) (by rw [hfp]; exact ha) hb
    · rcases key h' with ⟨rfl, rfl⟩ | ⟨ne', h4⟩
      · rw [ovr_eq] at hb
        rw [ovr_ne ne] at ha
        rcases List.mem_cons.mp hb with rfl | hb
        · exact absurd ha (np h3)
        · exact o3 _ _ _ _ a (get_app_l h3) get_app_r ha (by rw [hfp]; exact hb)
      · rw [ovr_ne ne] at ha; rw [ovr_ne ne'] at hb
        exact o3 _ _ _ _ a (get_app_l h3) (get_app_l h4) ha hb
end
section
variable {X : Cx} {B : List Nat} {e : Expr} {pos : Pos} {m : Rho → Out Hd}
/-- tape[0] -/
def mTp0 (i : Nat) : Rho → Out Hd := fun ρ => match ρ[i]? with
  | some (some (.tp rest _ _)) => .ok (.dat (.int rest)) ρ
  | _ => .bad
/-- tape[2] -/
def mTp2 (i : Nat) : Rho → Out Hd := fun ρ => match ρ[i]? with
  | some (some (.tp _ _ n)) => .ok (.dat (.int n)) ρ
  | _ => .bad
/-- tape[1][tape[2]] -/
def mTpCell (i : Nat) : Rho → Out Hd := fun ρ => match ρ[i]? with
  | some (some (.tp _ cs n)) => match atI cs n with
    | some z => .ok (.dat (.int z)) ρ
    | none => .bad
  | _ => .bad
/-- len(tape[1]) -/
def mTpLen (i : Nat) : Rho → Out Hd := fun ρ => match ρ[i]? with
  | some (some (.tp _ cs _)) => .ok (.dat (.int cs.length)) ρ
  | _ => .bad
variable {x : Str} {px p0 p1 p2 q0 q1 : Pos} {j j2 : Nat}
theorem dp_tp0 (i : Nat) (hN : X.N[i]? = some x := by rfl) (hv : Vis X.env.scope x := by first | exact Or.inl rfl | exact Or.inr (Or.inl rfl) | exact Or.inr (Or.inr rfl)) (hd : (x == ("__debug__" : Str)) = false := by decide) (hcd : (x == ("__classdict__" : Str)) = false := by decide) :
    DP X B (.Subscript (.Name x px) (.Constant (.int 0) j p0) pos) (mTp0 i) := ⟨pe_weak (pe_ix ix_list (pe_var hN hv hd hcd) pe_int (fun _ _ => rfl)) fun σ H Q ⟨σ0, F, J, ρ, h, ρ', c, e, k⟩ => by
  unfold mTp0 at e
  split at e
  · rename_i rest cs n hr
    cases e
    obtain ⟨a, l, ev, ne, h1, h2⟩ := c.tpAt hr
    exact ⟨_, ev, a, _, _, _, rfl, rfl, SqL.of h1, rfl, k J H _ c (Same.refl _) (.int rest)⟩
  · cases e⟩
theorem dp_tp2 (i : Nat) (hN : X.N[i]? = some x := by rfl) (hv : Vis X.env.scope x := by first | exact Or.inl rfl | exact Or.inr (Or.inl rfl) | exact Or.inr (Or.inr rfl)) (hd : (x == ("__debug__" : Str)) = false := by decide) (hcd : (x == ("__classdict__" : Str)) = false := by decide) :
    DP X B (.Subscript (.Name x px) (.Constant (.int 2) j p0) pos) (mTp2 i) := ⟨pe_weak (pe_ix ix_list (pe_var hN hv hd hcd) pe_int (fun _ _ => rfl)) fun σ H Q ⟨σ0, F, J, ρ, h, ρ', c, e, k⟩ => by
  unfold mTp2 at e
  split at e
  · rename_i rest cs n hr
    cases e
    obtain ⟨a, l, ev, ne, h1, h2⟩ := c.tpAt hr
    exact ⟨_, ev, a, _, _, _, rfl, rfl, SqL.of h1, rfl, k J H _ c (Same.refl _) (.int n)⟩
  · cases e⟩
theorem dp_tpCell (i : Nat) {px' : Pos} (hN : X.N[i]? = some x := by rfl) (hv : Vis X.env.scope x := by first | exact Or.inl rfl | exact Or.inr (Or.inl rfl) | exact Or.inr (Or.inr rfl)) (hd : (x == ("__debug__" : Str)) = false := by decide) (hcd : (x == ("__classdict__" : Str)) = false := by decide) :
    DP X B (.Subscript (.Subscript (.Name x px) (.Constant (.int 1) j p0) p1) (.Subscript (.Name x px') (.Constant (.int 2) j2 q0) q1) pos) (mTpCell i) := ⟨pe_weak (pe_ix ix_list (pe_ix ix_list (pe_var hN hv hd hcd) pe_int (fun _ _ => rfl)) (pe_ix ix_list (pe_var hN hv hd hcd) pe_int (fun _ _ => rfl)) (fun _ _ => rfl)) fun σ H Q ⟨σ0, F, J, ρ, h, ρ', c, e, k⟩ => by
  unfold mTpCell at e
  split at e
  · rename_i rest cs n hr
    split at e
    · rename_i z hz
      cases e
      obtain ⟨a, l, ev, ne, h1, h2⟩ := c.tpAt hr
      have hz' : atI (cs.map V.int) n = some (.int z) := by
        unfold atI at hz ⊢
        rw [List.length_map]
        cases hn : ixN cs.length n with
        | none => rw [hn] at hz; cases hz
        | some q =>
          rw [hn] at hz
          show (cs.map V.int)[q]? = _
          rw [List.getElem?_map, show cs[q]? = some z from hz]; rfl
      exact ⟨_, ev, a, _, _, _, rfl, rfl, SqL.of h1, rfl, _, ev, a, _, _, _, rfl, rfl, SqL.of h1, rfl, l, _, _, _, rfl, rfl, SqL.of h2, hz', k J H _ c (Same.refl _) (.int z)⟩
    · cases e
  · cases e⟩
theorem dp_tpLen (i : Nat) {xl : Str} {pl : Pos} (hg : Gl X xl) (hm : X.mg xl = none) (hvl : bootBuiltins xl = some (.builtin "len")) (hN : X.N[i]? = some x := by rfl) (hv : Vis X.env.scope x := by first | exact Or.inl rfl | exact Or.inr (Or.inl rfl) | exact Or.inr (Or.inr rfl)) (hd : (x == ("__debug__" : Str)) = false := by decide) (hcd : (x == ("__classdict__" : Str)) = false := by decide)
    (hn : xl ≠ "__name__" := by decide) (hdb : (xl == ("__debug__" : Str)) = false := by decide)
    (he : starEach [.Subscript (.Name x px) (.Constant (.int 1) j p0) p1] X.env = (false, eval (.Subscript (.Name x px) (.Constant (.int 1) j p0) p1) X.env) :: starEach [] X.env := by rfl) (hpl : (backTo pos (starEach [] X.env)).any (·.1) = false := by rfl) :
    DP X B (.Call (.Name xl pl) [.Subscript (.Name x px) (.Constant (.int 1) j p0) p1] [] pos) (mTpLen i) := ⟨pe_weak (pe_callB call_len_seq hg hm hvl (pa_cons (pe_ix ix_list (pe_var hN hv hd hcd) pe_int (fun _ _ => rfl)) pa_nil he) hn hdb he hpl) fun σ H Q ⟨σ0, F, J, ρ, h, ρ', c, e, k⟩ => by
  unfold mTpLen at e
  split at e
  · rename_i rest cs n hr
    cases e
    obtain ⟨a, l, ev, ne, h1, h2⟩ := c.tpAt hr
    refine ⟨_, ev, a, _, _, _, rfl, rfl, SqL.of h1, rfl, l, _, rfl, .inl (SqL.of h2), ?_⟩
    rw [List.length_map]
    exact k J H _ c (Same.refl _) (.int cs.length)
  · cases e⟩
/-- tape[0] = e -/
def mTpSet0 (i : Nat) (m : Rho → Out Hd) : Rho → SOut := fun ρ => match mS m ρ with
  | .ok (.sh (.int z)) ρ1 => match ρ1[i]? with
    | some (some (.tp _ cs n)) => .nx (ρ1.set i (some (.tp z cs n)))
    | _ => .bad
  | _ => .bad
/-- tape[2] = e -/
def mTpSet2 (i : Nat) (m : Rho → Out Hd) : Rho → SOut := fun ρ => match mS m ρ with
  | .ok (.sh (.int z)) ρ1 => match ρ1[i]? with
    | some (some (.tp rest cs _)) => .nx (ρ1.set i (some (.tp rest cs z)))
    | _ => .bad
  | _ => .bad
theorem ds_tpSet0 (i : Nat) {pt : Pos} (he : DP X B e m) (hN : X.N[i]? = some x := by rfl) (hv : Vis X.env.scope x := by first | exact Or.inl rfl | exact Or.inr (Or.inl rfl) | exact Or.inr (Or.inr rfl)) (hd : (x == ("__debug__" : Str)) = false := by decide) (hcd : (x == ("__classdict__" : Str)) = false := by decide)
    (ha : ∀ v, assign (.Subscript (.Name x px) (.Constant (.int 0) j p0) pt) X.env v = (do
      let ov ← holding [v] (eval (.Name x px) X.env)
      let iv ← holding [v, ov] (eval (.Constant (.int 0) j p0) X.env)
      standAt pt
      holding [v, ov, iv] (setItem ov iv v)
      release [v, ov, iv] []) := by intro _; rfl)
    (hs : swapsWithSole [.Subscript (.Name x px) (.Constant (.int 0) j p0) pt] e pos.line X.env = pure false := by rfl) (hw : swappedStores [.Subscript (.Name x px) (.Constant (.int 0) j p0) pt] e X.env = pure none := by rfl)
    (h1 : (assignEach [.Subscript (.Name x px) (.Constant (.int 0) j p0) pt] X.env).map (·.2) = [assign (.Subscript (.Name x px) (.Constant (.int 0) j p0) pt) X.env] := by rfl) :
    DS X B (.Assign [.Subscript (.Name x px) (.Constant (.int 0) j p0) pt] e pos) (mTpSet0 i m) :=
  ⟨ps_weak (ps_asg (do_of_dp he).pe (pg_sub (pe_var hN hv hd hcd) pe_int set_list ha) hs hw h1) fun D σ H ⟨σ0, F, J, ρ, c, q⟩ => by
  unfold mTpSet0 at q
  split at q
  · rename_i z ρ1 e1
    split at q
    · rename_i rest cs n h0
      refine ⟨σ0, F, J, ρ, .sh (.int z), ρ1, c, e1, fun J1 H1 v1 c1 s1 => ?_⟩
      have c1' := c1.pop c.lb
      obtain ⟨a, l, ev, ne, g1, g2⟩ := c1'.tpAt h0
      have hv1 := c1.shAt
      cases hv1
      exact ⟨_, ev, a, _, 0, 0, rfl, rfl, g1, rfl, q J1 σ _ (c1'.tpSet h0 ev g1) s1⟩
    · exact q.elim
  · exact q.elim⟩
theorem ds_tpSet2 (i : Nat) {pt : Pos} (he : DP X B e m) (hN : X.N[i]? = some x := by rfl) (hv : Vis X.env.scope x := by first | exact Or.inl rfl | exact Or.inr (Or.inl rfl) | exact Or.inr (Or.inr rfl)) (hd : (x == ("__debug__" : Str)) = false := by decide) (hcd : (x == ("__classdict__" : Str)) = false := by decide)
    (ha : ∀ v, assign (.Subscript (.Name x px) (.Constant (.int 2) j p0) pt) X.env v = (do
      let ov ← holding [v] (eval (.Name x px) X.env)
      let iv ← holding [v, ov] (eval (.Constant (.int 2) j p0) X.env)
      standAt pt
      holding [v, ov, iv] (setItem ov iv v)
      release [v, ov, iv] []) := by intro _; rfl)
    (hs : swapsWithSole [.Subscript (.Name x px) (.Constant (.int 2) j p0) pt] e pos.line X.env = pure false := by rfl) (hw : swappedStores [.Subscript (.Name x px) (.Constant (.int 2) j p0) pt] e X.env = pure none := by rfl)
    (h1 : (assignEach [.Subscript (.Name x px) (.Constant (.int 2) j p0) pt] X.env).map (·.2) = [assign (.Subscript (.Name x px) (.Constant (.int 2) j p0) pt) X.env] := by rfl) :
    DS X B (.Assign [.Subscript (.Name x px) (.Constant (.int 2) j p0) pt] e pos) (mTpSet2 i m) :=
  ⟨ps_weak (ps_asg (do_of_dp he).pe (pg_sub (pe_var hN hv hd hcd) pe_int set_list ha) hs hw h1) fun D σ H ⟨σ0, F, J, ρ, c, q⟩ => by
  unfold mTpSet2 at q
  split at q
  · rename_i z ρ1 e1
    split at q
    · rename_i rest cs n h0
      refine ⟨σ0, F, J, ρ, .sh (.int z), ρ1, c, e1, fun J1 H1 v1 c1 s1 => ?_⟩
      have c1' := c1.pop c.lb
      obtain ⟨a, l, ev, ne, g1, g2⟩ := c1'.tpAt h0
      have hv1 := c1.shAt
      cases hv1
      exact ⟨_, ev, a, _, 2, 2, rfl, rfl, g1, rfl, q J1 σ _ (c1'.tpSet h0 ev g1) s1⟩
    · exact q.elim
  · exact q.elim⟩
/-- [0, list(script), 0] -/
def mTp (i : Nat) : Rho → Out R := fun ρ => match ρ[i]? with
  | some (some (.scr ns)) => .ok (.tp 0 ns 0) ρ
  | _ => .bad
theorem do_tp (i : Nat) {xl : Str} {pl lpos : Pos} (hg : Gl X xl) (hm : X.mg xl = none) (hvl : bootBuiltins xl = some (.type "list")) (hN : X.N[i]? = some x := by rfl) (hv : Vis X.env.scope x := by first | exact Or.inl rfl | exact Or.inr (Or.inl rfl) | exact Or.inr (Or.inr rfl)) (hd : (x == ("__debug__" : Str)) = false := by decide) (hcd : (x == ("__classdict__" : Str)) = false := by decide)
    (hn : xl ≠ "__name__" := by decide) (hdb : (xl == ("__debug__" : Str)) = false := by decide)
    (he : starEach [.Name x px] X.env = (false, eval (.Name x px) X.env) :: starEach [] X.env := by rfl) (hpl : (backTo pos (starEach [] X.env)).any (·.1) = false := by rfl)
    (h1 : starEach [.Constant (.int 0) j p0, .Call (.Name xl pl) [.Name x px] [] pos, .Constant (.int 0) j2 p1] X.env = (false, eval (.Constant (.int 0) j p0) X.env) :: starEach [.Call (.Name xl pl) [.Name x px] [] pos, .Constant (.int 0) j2 p1] X.env := by rfl)
    (h2 : starEach [.Call (.Name xl pl) [.Name x px] [] pos, .Constant (.int 0) j2 p1] X.env = (false, eval (.Call (.Name xl pl) [.Name x px] [] pos) X.env) :: starEach [.Constant (.int 0) j2 p1] X.env := by rfl)
    (h3 : starEach [.Constant (.int 0) j2 p1] X.env = (false, eval (.Constant (.int 0) j2 p1) X.env) :: starEach [] X.env := by rfl) :
    DO X B (.List [.Constant (.int 0) j p0, .Call (.Name xl pl) [.Name x px] [] pos, .Constant (.int 0) j2 p1] lpos) (mTp i) := ⟨pe_weak (pe_lst (pa_cons pe_int (pa_cons (pe_callTy call_list_of hg hm hvl (pa_cons (pe_var hN hv hd hcd) pa_nil he) hn hdb he hpl) (pa_cons pe_int pa_nil h3) h2) h1)) fun σ H Q ⟨σ0, F, J, ρ, h, ρ', c, e, k⟩ => by
  unfold mTp at e
  split at e
  · rename_i ns hns
    cases e
    obtain ⟨fp, o1, _⟩ := id c.own
    obtain ⟨v, ev, _, s, rfl, hs⟩ := o1 i _ hns
    refine ⟨_, ev, s, _, rfl, .inl (same_sql c.jm hs), fun l hl => ⟨le_line (by simp), fun p hp => ?_⟩⟩
    have c1 := c.fresh (r := .ol (ns.map D.int)) hl ⟨l, _, rfl, rfl, upd_same, RpL.ints ns⟩
    exact k J _ _ (c1.wrapTp c.lb hp) (Same.refl _)
  · cases e⟩
end
/-! ### reckoning -/
theorem ev_Tp0 (i : Nat) (ρ : Rho) (rest n : Int) (cs : List Int) (h : ρ[i]? = some (some (.tp rest cs n))) : mTp0 i ρ = .ok (.dat (.int rest)) ρ := by unfold mTp0; rw [h]
theorem ev_Tp2 (i : Nat) (ρ : Rho) (rest n : Int) (cs : List Int) (h : ρ[i]? = some (some (.tp rest cs n))) : mTp2 i ρ = .ok (.dat (.int n)) ρ := by unfold mTp2; rw [h]
theorem ev_TpCell (i : Nat) (ρ : Rho) (rest n z : Int) (cs : List Int) (h : ρ[i]? = some (some (.tp rest cs n))) (hz : atI cs n = some z) : mTpCell i ρ = .ok (.dat (.int z)) ρ := by unfold mTpCell; rw [h]; dsimp only; rw [hz]
theorem ev_TpLen (i : Nat) (ρ : Rho) (rest n : Int) (cs : List Int) (h : ρ[i]? = some (some (.tp rest cs n))) : mTpLen i ρ = .ok (.dat (.int cs.length)) ρ := by unfold mTpLen; rw [h]
end DL

set_option Elab.async false
set_option linter.all false
set_option maxRecDepth 100000
set_option maxHeartbeats 4000000
/-! DLab: a chain of three comparisons. -/
namespace DL
open PySem PySem.Spec PyProof.Rows L2
section
variable {X : Cx} {B : List Nat} {a b c d : Expr} {ta tb tc td : TE} {pos : Pos} {m1 m2 m3 m4 : Rho → Out Hd}
def tChain3 (r r' r'' : R2) (ta tb tc td : TE) : TE := fun σ H Q => ta σ H fun x H1 => tb σ H1 fun y H2 => r x y H2 fun z H3 => ∃ k, z = .bl k ∧
  (if k = true then tc σ H3 fun w H4 => r' y w H4 fun z' H5 => ∃ k', z' = .bl k' ∧ (if k' = true then td σ H5 fun u H6 => r'' w u H6 Q else Q (.bl false) H5) else Q (.bl false) H3)
theorem pe_chain3 {op op' op'' : CmpOp} {r r' r'' : R2} (ho : OpR X (compareOp op) r) (ho' : OpR X (compareOp op') r') (ho'' : OpR X (compareOp op'') r'') (ha : PE X a ta) (hb : PE X b tb) (hc : PE X c tc) (hd : PE X d td)
    (hm : lastMarks [op, op', op''] [b, c, d] = false := by with_unfolding_all rfl) : PE X (.Compare a [op, op', op''] [b, c, d] pos) (tChain3 r r' r'' ta tb tc td) := by
  refine ⟨fun pins s σ H Q I h => ?_⟩
  refine Compare_chain (thn (ha.run pins s σ H _ I h) fun v s1 ⟨x, H1, I1, r1, q1⟩ => chain_link (thn (hb.run pins s1 σ H1 _ I1 q1) fun u s2 ⟨y, H2, I2, r2, q2⟩ =>
    thn (ho pins s2 σ H2 x y v u _ I2 r1 r2 q2) fun d s3 ⟨z, H3, I3, r3, k, e, q3⟩ => ?_)) hm
  subst e
  cases r3
  refine wpAny_truthy_bool ?_
  cases k with
  | false => exact ite_ff ⟨.bl false, H3, I3, rfl, q3⟩
  | true =>
    refine ite_tt (chain_link (thn (hc.run pins s3 σ H3 _ I3 q3) fun w' s4 ⟨z', H4, I4, r4, q4⟩ => thn (ho' pins s4 σ H4 y z' u w' _ I4 r2 r4 q4) fun d s5 ⟨z2, H5, I5, r5, k', e', q5⟩ => ?_))
    subst e'
    cases r5
    refine wpAny_truthy_bool ?_
    cases k' with
    | false => exact ite_ff ⟨.bl false, H5, I5, rfl, q5⟩
    | true => exact ite_tt (chain_last (thn (hd.run pins s5 σ H5 _ I5 q5) fun w2 s6 ⟨z3, H6, I6, r6, q6⟩ => ho'' pins s6 σ H6 z' z3 w' w2 Q I6 r4 r6 q6))
def mChain3 (f g g2 : D → D → Option D) (m1 m2 m3 m4 : Rho → Out Hd) : Rho → Out Hd := fun ρ => (m1 ρ).bind fun h1 ρ1 => (m2 ρ1).bind fun h2 ρ2 => (Out.opt (res ρ2 h1) ρ2).bind fun d1 _ => (Out.opt (res ρ2 h2) ρ2).bind fun d2 _ => match f d1 d2 with
  | some (.bl true) => (m3 ρ2).bind fun h3 ρ3 => (Out.opt (res ρ3 h2) ρ3).bind fun d2 _ => (Out.opt (res ρ3 h3) ρ3).bind fun d3 _ => match g d2 d3 with
    | some (.bl true) => (m4 ρ3).bind fun h4 ρ4 => (Out.opt (res ρ4 h3) ρ4).bind fun d3 _ => (Out.opt (res ρ4 h4) ρ4).bind fun d4 _ => (Out.opt (g2 d3 d4) ρ4).bind fun d ρ5 => .ok (.dat d) ρ5
    | some (.bl false) => .ok (.dat (.bl false)) ρ3
    | _ => .bad
  | some (.bl false) => .ok (.dat (.bl false)) ρ2
  | _ => .bad
theorem tChain3_ch {r r' r'' : R2} {f g g2 : D → D → Option D} (hd : BinD X.K r f) (hg : BinD X.K r' g) (hg2 : BinD X.K r'' g2) (σ : L2.St) (H : Hp) (Q : VK) (h : lP X.K B (mChain3 f g g2 m1 m2 m3 m4) σ H Q) : tChain3 r r' r'' (lP X.K B m1) (lP X.K B m2) (lP X.K B m3) (lP X.K B m4) σ H Q := by
  obtain ⟨σ0, F, J, ρ, h, ρ', c, e, k⟩ := h
  obtain ⟨h1, ρ1, e1, e_8⟩ := bind_ok e
  obtain ⟨h2, ρ2, e2, e_9⟩ := bind_ok e_8
  obtain ⟨d1, e3, e_10⟩ := bo_ok e_9
  obtain ⟨d2, e4, e_11⟩ := bo_ok e_10
  refine ⟨σ0, F, J, ρ, h1, ρ1, c, e1, fun J1 H1 v1 c1 s1 r1 => ⟨σ0, F, J1, ρ1, h2, _, c1, e2, fun J2 H2 v2 c2 s2 r2 => ?_⟩⟩
  split at e_11
  · rename_i ef
    obtain ⟨h3, ρ5, e5, e_12⟩ := bind_ok e_11
    obtain ⟨d2', e6, e_13⟩ := bo_ok e_12
    obtain ⟨d3, e7, e_14⟩ := bo_ok e_13
    refine hd J2 H2 d1 d2 _ v1 v2 _ c2.jm (c2.res (r1.mono s2) e3) (c2.res r2 e4) ef fun J3 H3 v x w => ?_
    cases w
    refine ⟨true, rfl, ?_⟩
    rw [if_pos rfl]
    refine ⟨σ0, F, J3, _, h3, _, c2.ext x, e5, fun J4 H4 v4 c4 s4 r4 => ?_⟩
    split at e_14
    · rename_i eg
      obtain ⟨h4, ρ6, e8, e_15⟩ := bind_ok e_14
      obtain ⟨d3', e9, e_16⟩ := bo_ok e_15
      obtain ⟨d4, e10, e_17⟩ := bo_ok e_16
      obtain ⟨d, e11, e_18⟩ := bo_ok e_17
      cases e_18
      refine hg J4 H4 d2' d3 _ v2 v4 _ c4.jm (c4.res (r2.mono (x.j.trans s4)) e6) (c4.res r4 e7) eg fun J5 H5 v5 x5 w5 => ?_
      cases w5
      refine ⟨true, rfl, ?_⟩
      rw [if_pos rfl]
      refine ⟨σ0, F, J5, _, h4, _, c4.ext x5, e8, fun J6 H6 v6 c6 s6 r6 => ?_⟩
      exact hg2 J6 H6 d3' d4 d v4 v6 Q c6.jm (c6.res (r4.mono (x5.j.trans s6)) e9) (c6.res r6 e10) e11 fun J7 H7 v7 x7 w7 => k J7 H7 v7 (c6.ext x7) ((((s1.trans s2).trans x.j).trans (s4.trans x5.j)).trans (s6.trans x7.j)) w7
    · rename_i eg
      cases e_14
      refine hg J4 H4 d2' d3 _ v2 v4 _ c4.jm (c4.res (r2.mono (x.j.trans s4)) e6) (c4.res r4 e7) eg fun J5 H5 v5 x5 w5 => ?_
      cases w5
      refine ⟨false, rfl, ?_⟩
      rw [if_neg Bool.false_ne_true]
      exact k J5 H5 _ (c4.ext x5) (((s1.trans s2).trans x.j).trans (s4.trans x5.j)) (.bl false)
    · cases e_14
  · rename_i ef
    cases e_11
    refine hd J2 H2 d1 d2 _ v1 v2 _ c2.jm (c2.res (r1.mono s2) e3) (c2.res r2 e4) ef fun J3 H3 v x w => ?_
    cases w
    refine ⟨false, rfl, ?_⟩
    rw [if_neg Bool.false_ne_true]
    exact k J3 H3 _ (c2.ext x) ((s1.trans s2).trans x.j) (.bl false)
  · cases e_11
theorem dp_chain3 {op op' op'' : CmpOp} {r r' r'' : R2} {f g g2 : D → D → Option D} (ho : OpR X (compareOp op) r) (hd : BinD X.K r f) (ho' : OpR X (compareOp op') r') (hg : BinD X.K r' g) (ho'' : OpR X (compareOp op'') r'') (hg2 : BinD X.K r'' g2) (ha : DP X B a m1) (hb : DP X B b m2) (hc : DP X B c m3) (hd4 : DP X B d m4)
    (hm : lastMarks [op, op', op''] [b, c, d] = false := by with_unfolding_all rfl) : DP X B (.Compare a [op, op', op''] [b, c, d] pos) (mChain3 f g g2 m1 m2 m3 m4) := ⟨pe_weak (pe_chain3 ho ho' ho'' ha.pe hb.pe hc.pe hd4.pe hm) (tChain3_ch hd hg hg2)⟩
end
def k3g (g2 : D → D → Option D) (h3 h4 : Hd) (ρ : Rho) : Out Hd := kBin3 g2 ρ (res ρ h3) (res ρ h4)
def k3f (g2 : D → D → Option D) (m4 : Rho → Out Hd) (h3 : Hd) (ρ : Rho) (o : Option D) : Out Hd := match o with
  | some (.bl true) => (m4 ρ).bind (k3g g2 h3)
  | some (.bl false) => .ok (.dat (.bl false)) ρ
  | _ => .bad
def k3e (g g2 : D → D → Option D) (m4 : Rho → Out Hd) (h3 : Hd) (ρ : Rho) (o1 o2 : Option D) : Out Hd := match o1, o2 with
  | some d1, some d2 => k3f g2 m4 h3 ρ (g d1 d2)
  | _, _ => .bad
def k3d (g g2 : D → D → Option D) (m4 : Rho → Out Hd) (h2 h3 : Hd) (ρ : Rho) : Out Hd := k3e g g2 m4 h3 ρ (res ρ h2) (res ρ h3)
def k3c (g g2 : D → D → Option D) (m3 m4 : Rho → Out Hd) (h2 : Hd) (ρ : Rho) (o : Option D) : Out Hd := match o with
  | some (.bl true) => (m3 ρ).bind (k3d g g2 m4 h2)
  | some (.bl false) => .ok (.dat (.bl false)) ρ
  | _ => .bad
def k3b' (f g g2 : D → D → Option D) (m3 m4 : Rho → Out Hd) (h2 : Hd) (ρ : Rho) (o1 o2 : Option D) : Out Hd := match o1, o2 with
  | some d1, some d2 => k3c g g2 m3 m4 h2 ρ (f d1 d2)
  | _, _ => .bad
def k3b (f g g2 : D → D → Option D) (m3 m4 : Rho → Out Hd) (h1 h2 : Hd) (ρ : Rho) : Out Hd := k3b' f g g2 m3 m4 h2 ρ (res ρ h1) (res ρ h2)
def k3a (f g g2 : D → D → Option D) (m2 m3 m4 : Rho → Out Hd) (h1 : Hd) (ρ : Rho) : Out Hd := (m2 ρ).bind (k3b f g g2 m3 m4 h1)
theorem k3g_ (g2 : D → D → Option D) (h3 h4 : Hd) (ρ : Rho) : k3g g2 h3 h4 ρ = kBin3 g2 ρ (res ρ h3) (res ρ h4) := (rfl)
theorem k3ft (g2 : D → D → Option D) (m4 : Rho → Out Hd) (h3 : Hd) (ρ : Rho) : k3f g2 m4 h3 ρ (some (.bl true)) = (m4 ρ).bind (k3g g2 h3) := (rfl)
theorem k3ff (g2 : D → D → Option D) (m4 : Rho → Out Hd) (h3 : Hd) (ρ : Rho) : k3f g2 m4 h3 ρ (some (.bl false)) = .ok (.dat (.bl false)) ρ := (rfl)
theorem k3e_ (g g2 : D → D → Option D) (m4 : Rho → Out Hd) (h3 : Hd) (ρ : Rho) (d1 d2 : D) : k3e g g2 m4 h3 ρ (some d1) (some d2) = k3f g2 m4 h3 ρ (g d1 d2) := (rfl)
theorem k3d_ (g g2 : D → D → Option D) (m4 : Rho → Out Hd) (h2 h3 : Hd) (ρ : Rho) : k3d g g2 m4 h2 h3 ρ = k3e g g2 m4 h3 ρ (res ρ h2) (res ρ h3) := (rfl)
theorem k3ct (g g2 : D → D → Option D) (m3 m4 : Rho → Out Hd) (h2 : Hd) (ρ : Rho) : k3c g g2 m3 m4 h2 ρ (some (.bl true)) = (m3 ρ).bind (k3d g g2 m4 h2) := (rfl)
theorem k3cf (g g2 : D → D → Option D) (m3 m4 : Rho → Out Hd) (h2 : Hd) (ρ : Rho) : k3c g g2 m3 m4 h2 ρ (some (.bl false)) = .ok (.dat (.bl false)) ρ := (rfl)
theorem k3b'_ (f g g2 : D → D → Option D) (m3 m4 : Rho → Out Hd) (h2 : Hd) (ρ : Rho) (d1 d2 : D) : k3b' f g g2 m3 m4 h2 ρ (some d1) (some d2) = k3c g g2 m3 m4 h2 ρ (f d1 d2) := (rfl)
theorem k3b_ (f g g2 : D → D → Option D) (m3 m4 : Rho → Out Hd) (h1 h2 : Hd) (ρ : Rho) : k3b f g g2 m3 m4 h1 h2 ρ = k3b' f g g2 m3 m4 h2 ρ (res ρ h1) (res ρ h2) := (rfl)
theorem k3a_ (f g g2 : D → D → Option D) (m2 m3 m4 : Rho → Out Hd) (h1 : Hd) (ρ : Rho) : k3a f g g2 m2 m3 m4 h1 ρ = (m2 ρ).bind (k3b f g g2 m3 m4 h1) := (rfl)
theorem ev_Chain3 (f g g2 : D → D → Option D) (m1 m2 m3 m4 : Rho → Out Hd) (ρ : Rho) : mChain3 f g g2 m1 m2 m3 m4 ρ = (m1 ρ).bind (k3a f g g2 m2 m3 m4) := by
  unfold mChain3
  cases m1 ρ with
  | bad => rfl
  | ok h1 ρ1 =>
    show (m2 ρ1).bind _ = (m2 ρ1).bind _
    cases m2 ρ1 with
    | bad => rfl
    | ok h2 ρ2 =>
      show ((Out.opt (res ρ2 h1) ρ2).bind _) = k3b' f g g2 m3 m4 h2 ρ2 (res ρ2 h1) (res ρ2 h2)
      cases e1 : res ρ2 h1 with
      | none => cases res ρ2 h2 <;> rfl
      | some d1 => cases e2 : res ρ2 h2 with
        | none => rfl
        | some d2 =>
          rw [k3b'_]
          show (match f d1 d2 with
            | some (.bl true) => _
            | some (.bl false) => _
            | _ => _) = _
          generalize f d1 d2 = o
          cases o with
          | none => rfl
          | some d => cases d with
            | bl b => cases b with
              | false => rfl
              | true =>
                show (m3 ρ2).bind _ = (m3 ρ2).bind _
                cases m3 ρ2 with
                | bad => rfl
                | ok h3 ρ3 =>
                  show ((Out.opt (res ρ3 h2) ρ3).bind _) = k3e g g2 m4 h3 ρ3 (res ρ3 h2) (res ρ3 h3)
                  cases e3 : res ρ3 h2 with
                  | none => cases res ρ3 h3 <;> rfl
                  | some d2' => cases e4 : res ρ3 h3 with
                    | none => rfl
                    | some d3 =>
                      rw [k3e_]
                      show (match g d2' d3 with
                        | some (.bl true) => _
                        | some (.bl false) => _
                        | _ => _) = _
                      generalize g d2' d3 = o2
                      cases o2 with
                      | none => rfl
                      | some d => cases d with
                        | bl b => cases b with
                          | false => rfl
                          | true =>
                            show (m4 ρ3).bind _ = (m4 ρ3).bind _
                            cases m4 ρ3 with
                            | bad => rfl
                            | ok h4 ρ4 =>
                              show ((Out.opt (res ρ4 h3) ρ4).bind _) = kBin3 g2 ρ4 (res ρ4 h3) (res ρ4 h4)
                              cases e5 : res ρ4 h3 with
                              | none => cases res ρ4 h4 <;> rfl
                              | some d3' => cases e6 : res ρ4 h4 with
                                | none => rfl
                                | some d4 =>
                                  show ((Out.opt (g2 d3' d4) ρ4).bind _) = oD (g2 d3' d4) ρ4
                                  cases g2 d3' d4 <;> rfl
                        | _ => rfl
            | _ => rfl
/-! tapes: what is read and written -/
def kTp0 (ρ : Rho) (o : Option (Option R)) : Out Hd := match o with
  | some (some (.tp rest _ _)) => .ok (.dat (.int rest)) ρ
  | _ => .bad
def kTp2 (ρ : Rho) (o : Option (Option R)) : Out Hd := match o with
  | some (some (.tp _ _ n)) => .ok (.dat (.int n)) ρ
  | _ => .bad
def kTpL (ρ : Rho) (o : Option (Option R)) : Out Hd := match o with
  | some (some (.tp _ cs _)) => .ok (.dat (.int cs.length)) ρ
  | _ => .bad
def kTpI (ρ : Rho) (o : Option Int) : Out Hd := match o with
  | some z => .ok (.dat (.int z)) ρ
  | none => .bad
def kTpC (ρ : Rho) (o : Option (Option R)) : Out Hd := match o with
  | some (some (.tp _ cs n)) => kTpI ρ (atI cs n)
  | _ => .bad
def kTs0' (i : Nat) (z : Int) (ρ : Rho) (o : Option (Option R)) : SOut := match o with
  | some (some (.tp _ cs n)) => .nx (ρ.set i (some (.tp z cs n)))
  | _ => .bad
def kTs2' (i : Nat) (z : Int) (ρ : Rho) (o : Option (Option R)) : SOut := match o with
  | some (some (.tp r cs _)) => .nx (ρ.set i (some (.tp r cs z)))
  | _ => .bad
def kTs0 (i : Nat) (o : Out R) : SOut := match o with
  | .ok (.sh (.int z)) ρ => kTs0' i z ρ ρ[i]?
  | _ => .bad
def kTs2 (i : Nat) (o : Out R) : SOut := match o with
  | .ok (.sh (.int z)) ρ => kTs2' i z ρ ρ[i]?
  | _ => .bad
def kTpN (ρ : Rho) (o : Option (Option R)) : Out R := match o with
  | some (some (.scr ns)) => .ok (.tp 0 ns 0) ρ
  | _ => .bad
theorem kTp0_ (ρ : Rho) (r n : Int) (cs : List Int) : kTp0 ρ (some (some (.tp r cs n))) = .ok (.dat (.int r)) ρ := (rfl)
theorem kTp2_ (ρ : Rho) (r n : Int) (cs : List Int) : kTp2 ρ (some (some (.tp r cs n))) = .ok (.dat (.int n)) ρ := (rfl)
theorem kTpL_ (ρ : Rho) (r n : Int) (cs : List Int) : kTpL ρ (some (some (.tp r cs n))) = .ok (.dat (.int cs.length)) ρ := (rfl)
theorem kTpI_ (ρ : Rho) (z : Int) : kTpI ρ (some z) = .ok (.dat (.int z)) ρ := (rfl)
theorem kTpC_ (ρ : Rho) (r n : Int) (cs : List Int) : kTpC ρ (some (some (.tp r cs n))) = kTpI ρ (atI cs n) := (rfl)
theorem kTs0'_ (i : Nat) (z : Int) (ρ : Rho) (r n : Int) (cs : List Int) : kTs0' i z ρ (some (some (.tp r cs n))) = .nx (ρ.set i (some (.tp z cs n))) := (rfl)
theorem kTs2'_ (i : Nat) (z : Int) (ρ : Rho) (r n : Int) (cs : List Int) : kTs2' i z ρ (some (some (.tp r cs n))) = .nx (ρ.set i (some (.tp r cs z))) := (rfl)
theorem kTs0_ (i : Nat) (z : Int) (ρ : Rho) : kTs0 i (.ok (.sh (.int z)) ρ) = kTs0' i z ρ ρ[i]? := (rfl)
theorem kTs2_ (i : Nat) (z : Int) (ρ : Rho) : kTs2 i (.ok (.sh (.int z)) ρ) = kTs2' i z ρ ρ[i]? := (rfl)
theorem kTpN_ (ρ : Rho) (ns : List Int) : kTpN ρ (some (some (.scr ns))) = .ok (.tp 0 ns 0) ρ := (rfl)
theorem ev_Tp0' (i : Nat) (ρ : Rho) : mTp0 i ρ = kTp0 ρ ρ[i]? := (rfl)
theorem ev_Tp2' (i : Nat) (ρ : Rho) : mTp2 i ρ = kTp2 ρ ρ[i]? := (rfl)
theorem ev_TpL' (i : Nat) (ρ : Rho) : mTpLen i ρ = kTpL ρ ρ[i]? := (rfl)
theorem ev_TpC' (i : Nat) (ρ : Rho) : mTpCell i ρ = kTpC ρ ρ[i]? := by
  unfold mTpCell kTpC
  generalize ρ[i]? = o
  cases o with
  | none => rfl
  | some o => cases o with
    | none => rfl
    | some r => cases r with
      | tp rest cs n =>
        show (match atI cs n with
          | some z => Out.ok (Hd.dat (D.int z)) ρ
          | none => Out.bad) = kTpI ρ (atI cs n)
        cases h : atI cs n with
        | none => rfl
        | some z => rfl
      | _ => rfl
theorem ev_Ts0 (i : Nat) (m : Rho → Out Hd) (ρ : Rho) : mTpSet0 i m ρ = kTs0 i (mS m ρ) := by
  unfold mTpSet0 kTs0
  cases mS m ρ with
  | bad => rfl
  | ok r ρ1 => cases r with
    | sh d => cases d <;> rfl
    | _ => rfl
theorem ev_Ts2 (i : Nat) (m : Rho → Out Hd) (ρ : Rho) : mTpSet2 i m ρ = kTs2 i (mS m ρ) := by
  unfold mTpSet2 kTs2
  cases mS m ρ with
  | bad => rfl
  | ok r ρ1 => cases r with
    | sh d => cases d <;> rfl
    | _ => rfl
theorem ev_TpN (i : Nat) (ρ : Rho) : mTp i ρ = kTpN ρ ρ[i]? := (rfl)
end DL

set_option Elab.async false
set_option linter.all false
set_option maxRecDepth 100000
set_option maxHeartbeats 4000000
/-! DLac: comprehensions that walk a list of one's own, which stays one's own. -/
namespace DL
open PySem PySem.Spec PyProof.Rows L2
def compO (sl : Nat) (vs : List Nat) (g : D → Rho → Option Rho) (mt : Rho → Out Bool) (me : Rho → Out R) : Nat → Nat → Rho → Out (List D)
  | 0, _, _ => .bad
  | f + 1, k, ρ => match ρ[sl]? with
    | some (some (.ol all)) => match all[k]? with
      | none => .ok [] ρ
      | some d => match g d ρ with
        | some ρ1 => (mt ρ1).bind fun b ρ2 => if b = true then match me ρ2 with
            | .ok (.sh x) ρ3 => (compO sl vs g mt me f (k + 1) (wipeR ρ3 vs)).bind fun xs ρ4 => .ok (x :: xs) ρ4
            | _ => .bad
          else compO sl vs g mt me f (k + 1) (wipeR ρ2 vs)
        | none => .bad
    | _ => .bad
def mLcO (sl : Nat) (vs : List Nat) (g : D → Rho → Option Rho) (mt : Rho → Out Bool) (me : Rho → Out R) : Rho → Out R := fun ρ =>
  (compO sl vs g mt me 1000001 0 (wipeR ρ vs)).bind fun xs ρ2 => .ok (.ol xs) ρ2
theorem CI.olAtO {K : PySem.W.Frag} {B : List Nat} {σ0 : L2.St} {F : Fm} {J : Hp} {ρ : Rho} {σ : L2.St} {H : Hp} {i : Nat} {ds : List D} (c : CI K B σ0 F J ρ σ H) (hi : ρ[i]? = some (some (.ol ds))) : ∃ a vs, σ[i]? = some (some (.ref a)) ∧ H a = some (.lst vs) ∧ RpL K J ds vs := by
  obtain ⟨fp, o1, _⟩ := c.own
  obtain ⟨v, e, a, vs, rfl, _, h1, h2⟩ := o1 i _ hi
  exact ⟨a, vs, e, h1, h2⟩
section
variable {X : Cx} {B : List Nat} {elt tg : Expr} {ifs : List Expr} {scope : Scope} {own : List (Str × Nat)} {pos : Pos} {ts : List Nat}
theorem tLc_lcO {sl : Nat} {tl : TE} {g : D → Rho → Option Rho} {mt : Rho → Out Bool} {me : Rho → Out R} {vs : List Nat} (htl : ∀ (σ : L2.St) (H : Hp) (Q : VK) (v : V), σ[sl]? = some (some v) → Q v H → tl σ H Q) (hts : ∀ j ∈ ts, j ∈ vs) (hB : ∀ i ∈ B, i ∉ vs) (hsl : sl ∉ vs) (σ : L2.St) (H : Hp) (Q : VK) (h : lO X.K B (mLcO sl vs g mt me) σ H Q) :
    tLc (iSeq X.K tl) (lG X.K B ts g) (lT X.K B mt) (lO X.K B me) vs σ H Q := by
  obtain ⟨σ0, F, J, ρ, r, ρ', c, e, q⟩ := h
  obtain ⟨xs, ρ2, e3, e4⟩ := bind_ok e
  cases e4
  have hw0 := c.wipe hB
  have hstart : ∃ all, (wipeR ρ vs)[sl]? = some (some (.ol all)) := by
    unfold compO at e3
    split at e3
    · rename_i all h; exact ⟨all, h⟩
    · cases e3
  obtain ⟨all, hall⟩ := hstart
  obtain ⟨a, vs0, ea, ha, hr⟩ := hw0.olAtO hall
  have ea' : σ[sl]? = some (some (.ref a)) := by rw [← wipe_get σ sl hsl]; exact ea
  refine htl σ H _ _ ea' (.inl ⟨a, rfl, ⟨vs0, SqL.of ha⟩, fun Da hD => ?_⟩)
  have c2 : CI X.K B σ0 (F.grd Da (.lst [])) J (wipeR ρ vs) (wipe σ vs) (upd H Da (.lst [])) := hw0.guard hD
  have hF : F.h Da = none := c.fr.free hD
  refine ⟨fun k m H => m + k = 1000001 ∧ ∃ J2 ρ2 acc vsA ys, CI X.K B σ0 (F.grd Da (.lst vsA)) J2 (wipeR ρ2 vs) (wipe σ vs) H ∧ Same J J2 ∧ RpL X.K J2 acc vsA ∧ acc.length ≤ k ∧ compO sl vs g mt me m k (wipeR ρ2 vs) = .ok ys ρ' ∧ xs = acc ++ ys,
    ⟨1000001, rfl, J, ρ, [], [], xs, c2, Same.refl _, .nil, Nat.le_refl _, e3, rfl⟩, ?_⟩
  rintro k m H2 ⟨hm, J2, ρ2, acc, vsA, ys, c2, s2, w, hacc, e5, rfl⟩
  cases m with
  | zero => unfold compO at e5; cases e5
  | succ f =>
  unfold compO at e5
  split at e5
  case h_2 => cases e5
  rename_i all2 hall2
  obtain ⟨a2, vs2, ea2, ha2, hr2⟩ := c2.olAtO hall2
  rw [ea] at ea2
  cases ea2
  have hs : SqL X.K H2 a vs2 := SqL.of ha2
  split at e5
  · rename_i hk
    cases e5
    refine .inl ⟨⟨vs2, hs, by rw [← hr2.len]; exact List.getElem?_eq_none_iff.mp hk⟩, ?_⟩
    rw [List.append_nil] at q
    have c3 := (c2.unwipe hB).release (r := .ol acc) hF ⟨Da, vsA, rfl, rfl, c2.guarded, w⟩
    exact q J2 H2 (.ref Da) c3 s2
  · rename_i d hk
    obtain ⟨x0, ex, wx0⟩ := hr2.get hk
    refine .inr ⟨⟨vs2, x0, hs, ex⟩, fun H' => ∃ J3 ρ3 acc3 vs3 ys3, CI X.K B σ0 (F.grd Da (.lst vs3)) J3 (wipeR ρ3 vs) (wipe σ vs) H' ∧ Same J J3 ∧ RpL X.K J3 acc3 vs3 ∧ acc3.length ≤ k + 1 ∧ compO sl vs g mt me f (k + 1) (wipeR ρ3 vs) = .ok ys3 ρ' ∧ acc ++ ys = acc3 ++ ys3, fun H' n => ⟨f, by omega, by omega, n⟩, fun x H3 hy => ?_⟩
    obtain ⟨rfl, hy⟩ := hy
    have hxx := (hy vs2 hs).symm.trans ex
    cases hxx
    cases eg : g d (wipeR ρ2 vs) with
    | none => rw [eg] at e5; cases e5
    | some ρ4 =>
      rw [eg] at e5
      dsimp only at e5
      obtain ⟨b, ρ5, e6, e7⟩ := bind_ok e5
      refine ⟨σ0, F.grd Da (.lst vsA), J2, _, d, ρ4, c2, wx0, eg, fun σ4 H4 c4 ho hl => ⟨?_, ?_⟩⟩
      · exact wipe_same (fun j hj => ho j fun z => hj (hts j z)) hl
      · have hws : wipe σ4 vs = wipe σ vs := wipe_same (fun j hj => ho j fun z => hj (hts j z)) hl
        refine ⟨σ0, _, J2, ρ4, b, ρ5, c4, e6, fun J5 H5 c5 s5 => ?_⟩
        by_cases hb : b = true
        · rw [if_pos hb] at e7 ⊢
          split at e7
          · rename_i x ρ6 e8
            obtain ⟨zs, ρ7, e9, e10⟩ := bind_ok e7
            cases e10
            refine ⟨σ0, _, J5, ρ5, .sh x, ρ6, c5, e8, fun J6 H6 v6 c6 s6 => ?_⟩
            obtain ⟨fp, o1, _⟩ := c6.own
            obtain ⟨v', ev, _, wx⟩ := o1 ρ6.length _ get_app_r
            have hl6 : ρ6.length = σ4.length := by have := c6.len; simpa using this
            rw [hl6, get_app_r] at ev
            cases ev
            have c7 := c6.pop c5.lb
            have sj : Same J2 J6 := s5.trans s6
            have w7 : RpL X.K J6 (acc ++ [x]) (vsA ++ [v6]) := (w.mono sj).app (.cons wx .nil)
            have c8 := (c7.wipe hB).reguard (o' := .lst (vsA ++ [v6]))
            rw [hws] at c8
            exact ⟨vsA, c7.guarded, by rw [← w.len]; exact small_line (by omega), J6, ρ6, acc ++ [x], vsA ++ [v6], zs, c8, s2.trans sj, w7, by rw [List.length_append]; simp; omega, e9, by simp⟩
          · cases e7
        · rw [if_neg hb] at e7 ⊢
          have c8 := c5.wipe hB
          rw [hws] at c8
          exact ⟨J5, ρ5, acc, vsA, ys, c8, s2.trans s5, w.mono s5, by omega, e7, rfl⟩
theorem do_lcO (sl : Nat) {y : Str} {py : Pos} {g : D → Rho → Option Rho} {mt : Rho → Out Bool} {me : Rho → Out R} (hc : X.calm = true) (hN : X.N.Nodup) (ok : BlkOk X.N X.env.scope scope own)
    (hg : ∀ (s : Shared) (H : Hp) (C : Addr) (cl : List (Str × Addr)) (fp : List Addr), DG (X.blk s H scope (compEnvC scope cl C X.env) fp) B ts tg g) (ht : ∀ (s : Shared) (H : Hp) (C : Addr) (cl : List (Str × Addr)) (fp : List Addr), DTs (X.blk s H scope (compEnvC scope cl C X.env) fp) B ifs mt)
    (he : ∀ (s : Shared) (H : Hp) (C : Addr) (cl : List (Str × Addr)) (fp : List Addr), DO (X.blk s H scope (compEnvC scope cl C X.env) fp) B elt me)
    (hNy : X.N[sl]? = some y := by rfl) (hv : Vis X.env.scope y := by first | exact Or.inl rfl | exact Or.inr (Or.inl rfl) | exact Or.inr (Or.inr rfl)) (hd : (y == ("__debug__" : Str)) = false := by decide) (hcd : (y == ("__classdict__" : Str)) = false := by decide)
    (hts : (ts.all fun j => (own.map (·.2)).contains j) = true := by decide) (hB : (B.all fun i => !(own.map (·.2)).contains i) = true := by decide) (hsl : (own.map (·.2)).contains sl = false := by decide)
    (hs : ∀ x, foldedSetIterable (.Name y py) X.env x = pure x := by intro _; rfl) : DO X B (.ListComp elt [⟨tg, .Name y py, ifs, 0⟩] scope pos) (mLcO sl (own.map (·.2)) g mt me) :=
  ⟨pe_weak (pe_lc hc hN (pi_seq (pe_var hNy hv hd hcd)) ok (fun s H C cl fp => (hg s H C cl fp).pg) (fun s H C cl fp => (ht s H C cl fp).pts) (fun s H C cl fp => (he s H C cl fp).pe) hs) (tLc_lcO (fun σ H Q v h q => ⟨v, h, q⟩) (fun j hj => by
    have := List.all_eq_true.mp hts j hj
    rwa [List.contains_eq_mem, decide_eq_true_iff] at this) (fun i hi => by
    have := List.all_eq_true.mp hB i hi
    rw [Bool.not_eq_true', List.contains_eq_mem, decide_eq_false_iff_not] at this
    exact this) (by rwa [List.contains_eq_mem, decide_eq_false_iff_not] at hsl))⟩
end
/-! ### reckoning -/
theorem compO_run {α : Type} {sl : Nat} {vs : List Nat} {g : D → Rho → Option Rho} {mt : Rho → Out Bool} {me : Rho → Out R} {ρ : Rho} (enc h : α → D) (p : α → Bool) (xs : List α) (hsl : ρ[sl]? = some (some (.ol (xs.map enc))))
    (hh : ∀ x ∈ xs, lF' vs g mt me (enc x) ρ = .ok (if p x = true then some (h x) else none) ρ) : ∀ (f k : Nat), xs.length < f + k → k ≤ xs.length → compO sl vs g mt me f k ρ = .ok (((xs.drop k).filter p).map h) ρ := by
  intro f
  induction f with
  | zero => intro k h1 h2; omega
  | succ f ih =>
    intro k h1 h2
    unfold compO
    rw [hsl]
    dsimp only
    by_cases c : k < xs.length
    · have ek : (xs.map enc)[k]? = some (enc xs[k]) := by rw [List.getElem?_map, List.getElem?_eq_getElem c]; rfl
      have e1 := hh xs[k] (List.getElem_mem c)
      rw [ek]
      dsimp only
      rw [List.drop_eq_getElem_cons c]
      unfold lF' at e1
      cases e2 : g (enc xs[k]) ρ with
      | none => rw [e2] at e1; cases e1
      | some ρ1 =>
        rw [e2, kF1_] at e1
        dsimp only
        cases e3 : mt ρ1 with
        | bad => rw [e3] at e1; cases e1
        | ok b ρ3 =>
          rw [e3] at e1
          rw [bind_ok']
          cases b with
          | true =>
            rw [kF2t] at e1
            rw [if_pos rfl]
            cases e4 : me ρ3 with
            | bad => rw [e4] at e1; cases e1
            | ok r ρ4 =>
              rw [e4] at e1
              cases r with
              | sh d' =>
                rw [kF3_] at e1
                injection e1 with e5 e6
                dsimp only
                rw [e6, ih (k + 1) (by omega) (by omega)]
                by_cases cp : p xs[k] = true
                · rw [if_pos cp] at e5
                  cases e5
                  rw [List.filter_cons_of_pos cp]
                  rfl
                · rw [if_neg cp] at e5; cases e5
              | _ => cases e1
          | false =>
            rw [kF2f] at e1
            rw [if_neg (by decide)]
            injection e1 with e5 e6
            rw [e6, ih (k + 1) (by omega) (by omega)]
            by_cases cp : p xs[k] = true
            · rw [if_pos cp] at e5; cases e5
            · rw [List.filter_cons_of_neg cp]
    · have ek : (xs.map enc)[k]? = none := List.getElem?_eq_none (by rw [List.length_map]; omega)
      rw [ek, List.drop_eq_nil_of_le (by omega)]
      rfl
theorem lcO_filter {α : Type} {sl : Nat} {vs : List Nat} {g : D → Rho → Option Rho} {mt : Rho → Out Bool} {me : Rho → Out R} {ρ ρ2 : Rho} (enc h : α → D) (p : α → Bool) (xs : List α) (hw : wipeR ρ vs = ρ2) (hsl : ρ2[sl]? = some (some (.ol (xs.map enc)))) (hl : xs.length ≤ 1000000)
    (hh : ∀ x ∈ xs, lF' vs g mt me (enc x) ρ2 = .ok (if p x = true then some (h x) else none) ρ2) : mLcO sl vs g mt me ρ = .ok (.ol ((xs.filter p).map h)) ρ2 := by
  unfold mLcO
  rw [hw, compO_run enc h p xs hsl hh 1000001 0 (by omega) (Nat.zero_le _)]
  rfl
end DL

set_option Elab.async false
set_option linter.all false
set_option maxRecDepth 100000
set_option maxHeartbeats 4000000
/-! DLad: rows of one's own whose items are one's own too. -/
namespace DL
open PySem PySem.Spec PyProof.Rows L2
def R.oc : R → Option OC
  | .sh d => some (.d d)
  | .ol ds => some (.l ds)
  | .oK kvs => some (.k kvs)
  | .oT kvs => some (.t kvs)
  | _ => none
theorem OwnAt.oc {K : PySem.W.Frag} {J H : Hp} {r : R} {v : V} {S : List Addr} {c : OC} (h : OwnAt K J H r v S) (e : r.oc = some c) : OwnC K J H c v S ∧ S.Nodup := by
  cases r with
  | sh d => cases e; obtain ⟨rfl, w⟩ := h; exact ⟨⟨rfl, w⟩, List.nodup_nil⟩
  | ol ds => cases e; obtain ⟨a, vs, ev, rfl, w⟩ := h; exact ⟨⟨a, vs, ev, rfl, w⟩, by simp⟩
  | oK ds => cases e; obtain ⟨a, vs, ev, rfl, w⟩ := h; exact ⟨⟨a, vs, ev, rfl, w⟩, by simp⟩
  | oT ds => cases e; obtain ⟨a, vs, ev, rfl, w⟩ := h; exact ⟨⟨a, vs, ev, rfl, w⟩, by simp⟩
  | _ => cases e
theorem OwnCs.app {K : PySem.W.Frag} {J H : Hp} {c : OC} {v : V} {S1 : List Addr} (w : OwnC K J H c v S1) : ∀ {cs : List OC} {vs : List V} {S : List Addr}, OwnCs K J H cs vs S → OwnCs K J H (cs ++ [c]) (vs ++ [v]) (S ++ S1) := by
  intro cs vs S h
  induction h with
  | nil => have := OwnCs.cons w .nil; simpa using this
  | cons h1 _ ih => have := OwnCs.cons h1 ih; simpa [List.append_assoc] using this
section
variable {K : PySem.W.Frag} {B : List Nat} {σ0 : L2.St} {F : Fm} {J J' : Hp} {ρ ρ' : Rho} {σ : L2.St} {H H' : Hp} {r r0 r1 : R} {v v0 : V} {d : D} {i : Nat}
/-- an item goes into a row that stands next to it -/
theorem CI.adopt {cs : List OC} {c1 : OC} {l : Addr} (c : CI K B σ0 F J ((ρ ++ [some r]) ++ [some (.oL cs)]) ((σ ++ [some v]) ++ [some (.ref l)]) H) (hb : σ0.length ≤ σ.length) (hc : r.oc = some c1) :
    ∃ vs, H l = some (.lst vs) ∧ CI K B σ0 F J (ρ ++ [some (.oL (cs ++ [c1]))]) (σ ++ [some (.ref l)]) (upd H l (.lst (vs ++ [v]))) := by
  obtain ⟨fp, o1, o2, o3⟩ := id c.own
  have hlr : ρ.length = σ.length := by have := c.len; simpa using this
  have gA : ((ρ ++ [some r]) ++ [some (.oL cs)])[ρ.length]? = some (some r) := get_app_l get_app_r
  have gB : ((ρ ++ [some r]) ++ [some (.oL cs)])[(ρ ++ [some r]).length]? = some (some (.oL cs)) := get_app_r
  have hn : (ρ ++ [some r]).length = ρ.length + 1 := by simp
  have hnσ : (σ ++ [some v]).length = ρ.length + 1 := by simp [hlr]
  obtain ⟨v1, e1, w1⟩ := o1 _ _ gA
  have e1' : ((σ ++ [some v]) ++ [some (.ref l)])[σ.length]? = some (some v) := get_app_l get_app_r
  rw [hlr, e1'] at e1
  cases e1
  obtain ⟨v2, e2, w2⟩ := o1 _ _ gB
  have e2' : ((σ ++ [some v]) ++ [some (V.ref l)])[(σ ++ [some v]).length]? = some (some (.ref l)) := get_app_r
  rw [show (ρ ++ [some r]).length = (σ ++ [some v]).length by rw [hn, hnσ], e2'] at e2
  cases e2
  obtain ⟨l', vs, T, ev, hS, nd, hl, hcs⟩ := w2
  cases ev
  obtain ⟨wc, nd1⟩ := w1.oc hc
  have lin : l ∈ fp (ρ ++ [some r]).length := by rw [hS]; exact List.mem_cons_self ..
  have dj : ∀ a, a ∈ fp (ρ ++ [some r]).length → a ∉ fp ρ.length := fun a h1 h2 => by
    have := o3 _ _ _ _ a gB gA h1 h2
    omega
  obtain ⟨hjl, hfl⟩ := o2 _ _ l gB lin
  have ups : ∀ {G : Hp}, G l = none → Same G H → Same G (upd H l (.lst (vs ++ [v]))) := fun {G} g s b x e => by
    rw [upd_ne (ne_of_none e g)]; exact s _ _ e
  have key : ∀ {j : Nat} {q : R}, (ρ ++ [some (.oL (cs ++ [c1]))])[j]? = some (some q) → (j = ρ.length ∧ q = .oL (cs ++ [c1])) ∨ (j ≠ ρ.length ∧ ρ[j]? = some (some q)) := fun {j q} h => by
    rcases get_app h with h | ⟨e, h⟩
    · exact .inr ⟨Nat.ne_of_lt (List.getElem?_eq_some_iff.mp h).1, h⟩
    · exact .inl ⟨e, (Option.some.inj h).symm⟩
  have lt1 : ∀ {j : Nat} {q : R}, ρ[j]? = some (some q) → j < ρ.length := fun {j q} h => (List.getElem?_eq_some_iff.mp h).1
  have up2 : ∀ {j : Nat} {q : R}, ρ[j]? = some (some q) → ((ρ ++ [some r]) ++ [some (.oL cs)])[j]? = some (some q) := fun {j q} h => get_app_l (get_app_l h)
  refine ⟨vs, hl, ups hfl c.fr, ups hjl c.jm, c.av, by simp [hlr], by simp; omega, fun i hi => ?_, ovr fp ρ.length (fp (ρ ++ [some r]).length ++ fp ρ.length), fun j q h => ?_, fun j q a h ha => ?_, fun j k q q' a h h' ha hb => ?_⟩
  · obtain ⟨h1, h2⟩ := c.pin i hi
    refine ⟨h1, ?_⟩
    rw [List.getElem?_append_left (by simp; omega), List.getElem?_append_left (by omega)] at h2
    rw [List.getElem?_append_left (by omega)]
    exact h2
  · rcases key h with ⟨rfl, rfl⟩ | ⟨ne, h⟩
    · refine ⟨.ref l, by rw [hlr]; exact get_app_r, ?_⟩
      rw [ovr_eq]
      refine ⟨l, vs ++ [v], T ++ fp ρ.length, rfl, by rw [hS]; rfl, ?_, upd_same, ?_⟩
      · rw [List.nodup_append]
        exact ⟨by rw [hS]; rw [hS] at nd; exact nd, nd1, fun a ha b hb e => dj a ha (by rw [e]; exact hb)⟩
      · refine OwnCs.app (wc.mono (Same.refl _) fun a ha o e => ?_) (hcs.mono (Same.refl _) fun a ha o e => ?_)
        · rw [upd_ne (fun z => dj l lin (by rw [← z]; exact ha))]; exact e
        · rw [upd_ne (fun z => by rw [hS] at nd; exact (List.nodup_cons.mp nd).1 (by rw [← z]; exact ha))]; exact e
    · obtain ⟨u, eu, wu⟩ := o1 j q (up2 h)
      rw [List.getElem?_append_left (by have := lt1 h; simp; omega), List.getElem?_append_left (by have := lt1 h; omega)] at eu
      refine ⟨u, by rw [List.getElem?_append_left (by have := lt1 h; omega)]; exact eu, ?_⟩
      rw [ovr_ne ne]
      refine wu.mono (Same.refl _) fun a ha o e => ?_
      have : a ≠ l := fun z => by
        have := o3 _ _ _ _ l (up2 h) gB (by rw [← z]; exact ha) lin
        have := lt1 h
        omega
      rw [upd_ne this]; exact e
  · rcases key h with ⟨rfl, rfl⟩ | ⟨ne, h⟩
    · rw [ovr_eq] at ha
      rcases List.mem_append.mp ha with ha | ha
      · exact o2 _ _ a gB ha
      · exact o2 _ _ a gA ha
    · rw [ovr_ne ne] at ha; exact o2 _ _ a (up2 h) ha
  · have clash : ∀ {j : Nat} {q : R} {a : Addr}, ρ[j]? = some (some q) → a ∈ fp j → a ∈ fp (ρ ++ [some r]).length ++ fp ρ.length → False := fun {j q a} h ha hb => by
      have := lt1 h
      rcases List.mem_append.mp hb with hb | hb
      · have := o3 _ _ _ _ a (up2 h) gB ha hb; omega
      · have := o3 _ _ _ _ a (up2 h) gA ha hb; omega
    rcases key h with ⟨rfl, rfl⟩ | ⟨ne, h3⟩
    · rcases key h' with ⟨rfl, rfl⟩ | ⟨ne', h4⟩
      · rfl
      · rw [ovr_eq] at ha; rw [ovr_ne ne'] at hb
        exact (clash h4 hb ha).elim
    · rcases key h' with ⟨rfl, rfl⟩ | ⟨ne', h4⟩
      · rw [ovr_eq] at hb; rw [ovr_ne ne] at ha
        exact (clash h3 ha hb).elim
      · rw [ovr_ne ne] at ha; rw [ovr_ne ne'] at hb
        exact o3 _ _ _ _ a (up2 h3) (up2 h4) ha hb
end
end DL

set_option Elab.async false
set_option linter.all false
set_option maxRecDepth 100000
set_option maxHeartbeats 4000000
/-! DLae: displays of things of one's own; indices that only read; items of items read and stored. -/
namespace DL
open PySem PySem.Spec PyProof.Rows L2
section
variable {K : PySem.W.Frag} {B : List Nat} {σ0 : L2.St} {F : Fm} {J J' : Hp} {ρ ρ' : Rho} {σ : L2.St} {H H' : Hp} {r r0 r1 : R} {v v0 : V} {d : D} {i : Nat}
def ocs : List R → Option (List OC)
  | [] => some []
  | r :: rs => match r.oc, ocs rs with
    | some c, some cs => some (c :: cs)
    | _, _ => none
theorem CI.adopts {l : Addr} : ∀ (rs : List R) (vs : List V) (cs cs' : List OC) (H : Hp), CI K B σ0 F J ((ρ ++ rs.reverse.map some) ++ [some (.oL cs)]) ((σ ++ vs.reverse.map some) ++ [some (.ref l)]) H → σ0.length ≤ σ.length → rs.length = vs.length → ocs rs = some cs' →
    ∃ vs1, H l = some (.lst vs1) ∧ CI K B σ0 F J (ρ ++ [some (.oL (cs ++ cs'))]) (σ ++ [some (.ref l)]) (upd H l (.lst (vs1 ++ vs))) := by
  intro rs
  induction rs with
  | nil =>
    intro vs cs cs' H c hb hl e
    cases e
    cases vs with
    | cons v vs => cases hl
    | nil =>
      rw [List.reverse_nil, List.map_nil, List.append_nil] at c
      obtain ⟨fp, o1, _⟩ := id c.own
      obtain ⟨v, ev, w⟩ := o1 _ _ get_app_r
      have hlr : ρ.length = σ.length := by have := c.len; simpa using this
      have c' := c
      rw [List.reverse_nil, List.map_nil, List.append_nil] at ev c'
      rw [hlr, get_app_r] at ev
      cases ev
      obtain ⟨l', vs, T, el, hS, nd, hl, hcs⟩ := w
      cases el
      refine ⟨vs, hl, ?_⟩
      rw [List.append_nil, List.append_nil, show upd H l (.lst vs) = H from by
        funext b
        by_cases z : b = l
        · subst z; rw [upd_same, hl]
        · rw [upd_ne z]]
      exact c'
  | cons r rs ih =>
    intro vs cs cs' H c hb hl e
    cases vs with
    | nil => cases hl
    | cons v vs =>
      unfold ocs at e
      cases er : r.oc with
      | none => rw [er] at e; cases e
      | some c1 =>
        cases es : ocs rs with
        | none => rw [er, es] at e; cases e
        | some cs2 =>
          rw [er, es] at e
          cases e
          rw [List.reverse_cons, List.map_append, List.reverse_cons, List.map_append, ← List.append_assoc, ← List.append_assoc] at c
          obtain ⟨vs1, h1, c2⟩ := c.adopt (by simp; omega) er
          obtain ⟨vs2, h2, c3⟩ := ih vs (cs ++ [c1]) cs2 _ c2 hb (by simpa using hl) es
          rw [upd_same] at h2
          cases h2
          refine ⟨vs1, h1, ?_⟩
          rw [upd_upd, List.append_assoc, List.append_assoc] at c3
          exact c3
end
section
variable {X : Cx} {B : List Nat} {es : List Expr} {pos : Pos}
/-- [a, b, ..], each perhaps one's own -/
def mLstO (ms : Rho → Out (List R)) : Rho → Out R := fun ρ => (ms ρ).bind fun rs ρ1 => match ocs rs with
  | some cs => .ok (.oL cs) ρ1
  | none => .bad
theorem do_lstO {ms : Rho → Out (List R)} (h : DAO X B es ms) (hl : es.length ≤ 100000 := by decide) : DO X B (.List es pos) (mLstO ms) := ⟨pe_weak (pe_lst h.pa) fun σ H Q ⟨σ0, F, J, ρ, h, ρ', c, e, q⟩ => by
  obtain ⟨rs, ρ1, e1, e2⟩ := bind_ok e
  split at e2
  · rename_i cs hcs
    cases e2
    refine ⟨σ0, F, J, ρ, rs, _, c, e1, fun J1 H1 vs c1 s1 l1 l2 => ⟨by rw [l2]; exact le_line hl, fun p hp => ?_⟩⟩
    have c2 := c1.fresh (r := .oL []) hp ⟨p, [], [], rfl, rfl, by simp, upd_same, .nil⟩
    obtain ⟨vs1, h1, c3⟩ := c2.adopts rs vs [] cs _ c.lb (l1.trans l2.symm) hcs
    rw [upd_same] at h1
    cases h1
    rw [upd_upd] at c3
    exact q J1 _ _ c3 s1
  · cases e2⟩
/-! ### indices that only read -/
def lX (K : PySem.W.Frag) (B : List Nat) (m : Rho → Option V) : TE := fun σ H Q => ∃ σ0 F J ρ v, CI K B σ0 F J ρ σ H ∧ m ρ = some v ∧ Q v H
structure DX (X : Cx) (B : List Nat) (e : Expr) (m : Rho → Option V) : Prop where
  pe : PE X e (lX X.K B m)
def xInt (n : Int) : Rho → Option V := fun _ => some (.int n)
def xStr (s : Str) : Rho → Option V := fun _ => some (.str s)
def xVar (i : Nat) : Rho → Option V := fun ρ => match ρ[i]? with
  | some (some (.sh (.int n))) => some (.int n)
  | some (some (.sh (.str s))) => some (.str s)
  | _ => none
theorem dx_var (i : Nat) {x : Str} {px : Pos} (hN : X.N[i]? = some x := by rfl) (hv : Vis X.env.scope x := by first | exact Or.inl rfl | exact Or.inr (Or.inl rfl) | exact Or.inr (Or.inr rfl)) (hd : (x == ("__debug__" : Str)) = false := by decide) (hcd : (x == ("__classdict__" : Str)) = false := by decide) :
    DX X B (.Name x px) (xVar i) := ⟨pe_weak (pe_var hN hv hd hcd) fun σ H Q ⟨σ0, F, J, ρ, v, c, e, q⟩ => by
  unfold xVar at e
  obtain ⟨fp, o1, _⟩ := id c.own
  split at e
  · rename_i n h
    cases e
    obtain ⟨u, eu, _, w⟩ := o1 i _ h
    cases w
    exact ⟨_, eu, q⟩
  · rename_i n h
    cases e
    obtain ⟨u, eu, _, w⟩ := o1 i _ h
    cases w
    exact ⟨_, eu, q⟩
  · cases e⟩
end
end DL

set_option Elab.async false
set_option linter.all false
set_option maxRecDepth 100000
set_option maxHeartbeats 4000000
/-! DLaf: items of items, read and stored; indices that only read. -/
namespace DL
open PySem PySem.Spec PyProof.Rows L2
section
variable {K : PySem.W.Frag} {J H : Hp}
theorem OwnCs.getL : ∀ {cs : List OC} {vs : List V} {T : List Addr} {k : Nat} {ds : List D}, OwnCs K J H cs vs T → cs[k]? = some (.l ds) → ∃ b ws, vs[k]? = some (.ref b) ∧ b ∈ T ∧ H b = some (.lst ws) ∧ RpL K J ds ws
  | _, _, _, _, _, .nil, e => by simp at e
  | _, _, _, 0, ds, .cons (c := c) (S1 := S1) (S2 := S2) h1 h2, e => by
    have e : c = .l ds := by simpa using e
    subst e
    obtain ⟨a, ws, rfl, rfl, hb, r⟩ := h1
    exact ⟨a, ws, rfl, by simp, hb, r⟩
  | _, _, _, k + 1, ds, .cons h1 h2, e => by
    obtain ⟨b, ws, e1, e2, e3, e4⟩ := OwnCs.getL (k := k) h2 (by simpa using e)
    exact ⟨b, ws, by simpa using e1, List.mem_append_right _ e2, e3, e4⟩
theorem OwnCs.setL : ∀ {cs : List OC} {vs : List V} {T : List Addr} {k : Nat} {ds ds' : List D} {b : Addr} {ws' : List V}, OwnCs K J H cs vs T → T.Nodup → cs[k]? = some (.l ds) → vs[k]? = some (.ref b) → RpL K J ds' ws' → OwnCs K J (upd H b (.lst ws')) (cs.set k (.l ds')) vs T
  | _, _, _, _, _, _, _, _, .nil, _, e, _, _ => by simp at e
  | _, _, _, 0, ds, ds', b, ws', .cons (c := c) (S1 := S1) (S2 := S2) h1 h2, nd, e, ev, r' => by
    have e : c = .l ds := by simpa using e
    subst e
    obtain ⟨a, ws, rfl, rfl, hb, r⟩ := h1
    have : a = b := by simpa using ev
    subst this
    refine .cons ⟨a, ws', rfl, rfl, upd_same, r'⟩ (h2.mono (Same.refl _) fun x hx o ho => ?_)
    rw [upd_ne (fun z => (List.nodup_cons.mp nd).1 (by rw [← z]; exact hx))]
    exact ho
  | _, _, _, k + 1, ds, ds', b, ws', .cons (c := c) (S1 := S1) (cs := cs) (vs := vs) (S2 := S2) h1 h2, nd, e, ev, r' => by
    have e : cs[k]? = some (OC.l ds) := by simpa using e
    have ev : vs[k]? = some (V.ref b) := by simpa using ev
    obtain ⟨b', _, e1, e2, _, _⟩ := OwnCs.getL h2 e
    rw [ev] at e1
    cases e1
    have nd' := List.nodup_append.mp nd
    refine .cons (h1.mono (Same.refl _) fun x hx o ho => ?_) (OwnCs.setL h2 nd'.2.1 e ev r')
    rw [upd_ne (fun z => nd'.2.2 x hx b e2 z)]
    exact ho
theorem OwnCs.len {cs : List OC} {vs : List V} {T : List Addr} (h : OwnCs K J H cs vs T) : cs.length = vs.length := by
  induction h with
  | nil => rfl
  | cons _ _ ih => simp [ih]
end
section
variable {K : PySem.W.Frag} {B : List Nat} {σ0 : L2.St} {F : Fm} {J J' : Hp} {ρ ρ' : Rho} {σ : L2.St} {H H' : Hp} {i : Nat}
/-- the row and one of its lists -/
theorem CI.oLAt {cs : List OC} {k : Nat} {ds : List D} (c : CI K B σ0 F J ρ σ H) (hi : ρ[i]? = some (some (.oL cs))) (hk : cs[k]? = some (.l ds)) :
    ∃ a vs b ws, σ[i]? = some (some (.ref a)) ∧ H a = some (.lst vs) ∧ vs.length = cs.length ∧ vs[k]? = some (.ref b) ∧ H b = some (.lst ws) ∧ RpL K J ds ws ∧
      ∀ ds' ws', RpL K J ds' ws' → CI K B σ0 F J (ρ.set i (some (.oL (cs.set k (.l ds'))))) σ (upd H b (.lst ws')) := by
  obtain ⟨fp, o1, _⟩ := id c.own
  obtain ⟨v, ev, a, vs, T, rfl, hS, nd, ha, hcs⟩ := o1 i _ hi
  obtain ⟨b, ws, e1, e2, e3, e4⟩ := hcs.getL hk
  refine ⟨a, vs, b, ws, ev, ha, hcs.len.symm, e1, e3, e4, fun ds' ws' r' => c.changeS hi ev fun S w => ?_⟩
  obtain ⟨a', vs', T', ev', rfl, nd', ha', hcs'⟩ := w
  cases ev'
  rw [ha] at ha'
  cases ha'
  obtain ⟨b', ws2, f1, f2, _, _⟩ := hcs'.getL hk
  rw [e1] at f1
  cases f1
  have ne : a ≠ b := fun z => (List.nodup_cons.mp nd').1 (by rw [z]; exact f2)
  exact ⟨List.mem_cons_of_mem _ f2, a, vs, T', rfl, rfl, nd', by rw [upd_ne ne]; exact ha, hcs'.setL (List.nodup_cons.mp nd').2 hk e1 r'⟩
end
section
variable {X : Cx} {B : List Nat} {e1 e2 : Expr} {m1 m2 : Rho → Option V} {x : Str} {px pos pk pt : Pos}
theorem dx_int {n : Int} {j : Nat} {p : Pos} : DX X B (.Constant (.int n) j p) (xInt n) := ⟨pe_weak pe_int fun σ H Q ⟨σ0, F, J, ρ, v, c, e, q⟩ => by cases e; exact q⟩
/-- the place of an item of an item -/
def atC (i : Nat) (m1 : Rho → Option V) (ρ : Rho) : Option (List OC × Nat × List D) := match ρ[i]?, m1 ρ with
  | some (some (.oL cs)), some (.int k) => match ixN cs.length k with
    | some n => match cs[n]? with
      | some (.l ds) => some (cs, n, ds)
      | _ => none
    | none => none
  | _, _ => none
theorem atC_ok {i : Nat} {ρ : Rho} {cs : List OC} {n : Nat} {ds : List D} (h : atC i m1 ρ = some (cs, n, ds)) : ∃ k, ρ[i]? = some (some (.oL cs)) ∧ m1 ρ = some (.int k) ∧ ixN cs.length k = some n ∧ cs[n]? = some (.l ds) := by
  unfold atC at h
  split at h
  · rename_i cs' k h1 h2
    split at h
    · rename_i n' h3
      split at h
      · rename_i ds' h4
        cases h
        exact ⟨k, h1, h2, h3, h4⟩
      · cases h
    · cases h
  · cases h
/-- x[e1][e2], a target -/
def gC (i : Nat) (m1 m2 : Rho → Option V) : D → Rho → Option Rho := fun d ρ => match atC i m1 ρ, m2 ρ with
  | some (cs, n, ds), some (.int k2) => match ixN ds.length k2 with
    | some j => some (ρ.set i (some (.oL (cs.set n (.l (ds.set j d))))))
    | none => none
  | _, _ => none
/-- tuple(x[e1]) -/
def mTupC (i : Nat) (m1 : Rho → Option V) : Rho → Out Hd := fun ρ => match atC i m1 ρ with
  | some (_, _, ds) => .ok (.dat (.tup ds)) ρ
  | none => .bad
theorem dg_c (i : Nat) (h1 : DX X B e1 m1) (h2 : DX X B e2 m2) {pb : Pos} (hsub : ∀ u w, subscripted e1 false u w = operate [u, w] (getItem u w) := by intro _ _; rfl) (hN : X.N[i]? = some x := by rfl) (hv : Vis X.env.scope x := by first | exact Or.inl rfl | exact Or.inr (Or.inl rfl) | exact Or.inr (Or.inr rfl)) (hd : (x == ("__debug__" : Str)) = false := by decide) (hcd : (x == ("__classdict__" : Str)) = false := by decide)
    (ha : ∀ v, assign (.Subscript (.Subscript (.Name x px) e1 pb) e2 pt) X.env v = (do
      let ov ← holding [v] (eval (.Subscript (.Name x px) e1 pb) X.env)
      let iv ← holding [v, ov] (eval e2 X.env)
      standAt pt
      holding [v, ov, iv] (setItem ov iv v)
      release [v, ov, iv] []) := by intro _; rfl) : DG X B [i] (.Subscript (.Subscript (.Name x px) e1 pb) e2 pt) (gC i m1 m2) := ⟨pg_weak (pg_sub (pe_ix ix_list (pe_var hN hv hd hcd) h1.pe hsub) h2.pe set_list ha) fun v σ H Q ⟨σ0, F, J, ρ, d, ρ', c, w, e, q⟩ => by
  unfold gC at e
  split at e
  · rename_i cs n ds k2 eA eB
    split at e
    · rename_i j ej
      cases e
      obtain ⟨k, hi, hm, hx, hc⟩ := atC_ok eA
      obtain ⟨a, vs, b, ws, ev, hA, hlen, hb, hB, hr, back⟩ := c.oLAt hi hc
      refine ⟨_, ev, σ0, F, J, ρ, _, c, hm, a, vs, k, .ref b, rfl, rfl, SqL.of hA, ?_, σ0, F, J, ρ, _, c, eB, b, ws, k2, j, rfl, rfl, hB, by rw [← hr.len]; exact ej, q σ _ (back _ _ (hr.set j w)) (fun _ _ => rfl) rfl⟩
      unfold atI
      rw [hlen, hx]
      exact hb
    · cases e
  · cases e⟩
theorem dp_tupC (i : Nat) (h1 : DX X B e1 m1) {xl : Str} {pl pb : Pos} (hg : Gl X xl) (hm : X.mg xl = none) (hvl : bootBuiltins xl = some (.type "tuple")) (hsub : ∀ u w, subscripted e1 false u w = operate [u, w] (getItem u w) := by intro _ _; rfl) (hN : X.N[i]? = some x := by rfl) (hv : Vis X.env.scope x := by first | exact Or.inl rfl | exact Or.inr (Or.inl rfl) | exact Or.inr (Or.inr rfl)) (hd : (x == ("__debug__" : Str)) = false := by decide) (hcd : (x == ("__classdict__" : Str)) = false := by decide)
    (hn : xl ≠ "__name__" := by decide) (hdb : (xl == ("__debug__" : Str)) = false := by decide)
    (he : starEach [.Subscript (.Name x px) e1 pb] X.env = (false, eval (.Subscript (.Name x px) e1 pb) X.env) :: starEach [] X.env := by rfl) (hpl : (backTo pos (starEach [] X.env)).any (·.1) = false := by rfl) :
    DP X B (.Call (.Name xl pl) [.Subscript (.Name x px) e1 pb] [] pos) (mTupC i m1) := ⟨pe_weak (pe_callTy call_tuple_of hg hm hvl (pa_cons (pe_ix ix_list (pe_var hN hv hd hcd) h1.pe hsub) pa_nil he) hn hdb he hpl) fun σ H Q ⟨σ0, F, J, ρ, h, ρ', c, e, q⟩ => by
  unfold mTupC at e
  split at e
  · rename_i cs n ds eA
    cases e
    obtain ⟨k, hi, hm, hx, hc⟩ := atC_ok eA
    obtain ⟨a, vs, b, ws, ev, hA, hlen, hb, hB, hr, back⟩ := c.oLAt hi hc
    refine ⟨_, ev, σ0, F, J, ρ, _, c, hm, a, vs, k, .ref b, rfl, rfl, SqL.of hA, ?_, b, ws, rfl, .inl ⟨SqL.of hB, fun l hl => ?_⟩⟩
    · unfold atI
      rw [hlen, hx]
      exact hb
    · have x := Ext.new (o := .tup ws) c.jm hl
      exact q _ _ _ (c.ext x) x.j (.tup (.inl upd_same) (hr.mono x.j))
  · cases e⟩
end
/-! ### reckoning -/
def kLsO2 (o : Option (List OC)) (ρ : Rho) : Out R := match o with
  | some cs => .ok (.oL cs) ρ
  | none => .bad
def kLsO (rs : List R) (ρ : Rho) : Out R := kLsO2 (ocs rs) ρ
theorem ev_LstO (ms : Rho → Out (List R)) (ρ : Rho) : mLstO ms ρ = (ms ρ).bind kLsO := by
  unfold mLstO
  cases ms ρ with
  | bad => rfl
  | ok rs ρ1 =>
    show (match ocs rs with
      | some cs => _
      | none => _) = kLsO2 (ocs rs) ρ1
    cases ocs rs <;> rfl
theorem kLsO_ (rs : List R) (ρ : Rho) : kLsO rs ρ = kLsO2 (ocs rs) ρ := (rfl)
theorem kLsO2_ (cs : List OC) (ρ : Rho) : kLsO2 (some cs) ρ = .ok (.oL cs) ρ := (rfl)
theorem ocs2 (a b : List D) : ocs [.ol a, .ol b] = some [.l a, .l b] := (rfl)
theorem ixN_at {n i : Nat} (h : i < n) : ixN n (i : Int) = some i := by
  have h2 : (i : Int) < n := by omega
  simp [ixN, h2]
theorem gC_run {i : Nat} {m1 m2 : Rho → Option V} {ρ : Rho} {cs : List OC} {k j : Nat} {ds : List D} (d : D) (h : ρ[i]? = some (some (.oL cs))) (h1 : m1 ρ = some (.int (k : Int))) (h2 : m2 ρ = some (.int (j : Int))) (hk : cs[k]? = some (.l ds)) (hj : j < ds.length) :
    gC i m1 m2 d ρ = some (ρ.set i (some (.oL (cs.set k (.l (ds.set j d)))))) := by
  have hlt : k < cs.length := (List.getElem?_eq_some_iff.mp hk).1
  have e : atC i m1 ρ = some (cs, k, ds) := by
    unfold atC
    rw [h, h1]
    dsimp only
    rw [ixN_at hlt]
    dsimp only
    rw [hk]
  unfold gC
  rw [e, h2]
  dsimp only
  rw [ixN_at hj]
theorem tupC_run {i : Nat} {m1 : Rho → Option V} {ρ : Rho} {cs : List OC} {k : Nat} {ds : List D} (h : ρ[i]? = some (some (.oL cs))) (h1 : m1 ρ = some (.int (k : Int))) (hk : cs[k]? = some (.l ds)) :
    mTupC i m1 ρ = .ok (.dat (.tup ds)) ρ := by
  have hlt : k < cs.length := (List.getElem?_eq_some_iff.mp hk).1
  have e : atC i m1 ρ = some (cs, k, ds) := by
    unfold atC
    rw [h, h1]
    dsimp only
    rw [ixN_at hlt]
    dsimp only
    rw [hk]
  unfold mTupC
  rw [e]
end DL

set_option Elab.async false
set_option linter.all false
set_option maxRecDepth 100000
set_option maxHeartbeats 4000000
/-! DLag: more indices that only read; a flat target with such an index; defs that are never run. -/
namespace DL
open PySem PySem.Spec PyProof.Rows L2
section
variable {X : Cx} {B : List Nat} {e1 e2 : Expr} {m1 m2 : Rho → Option V} {x : Str} {px pos pk pt : Pos}
def xSub (m1 m2 : Rho → Option V) : Rho → Option V := fun ρ => match m1 ρ, m2 ρ with
  | some (.int a), some (.int b) => some (.int (a - b))
  | _, _ => none
theorem dx_sub (h1 : DX X B e1 m1) (h2 : DX X B e2 m2) : DX X B (.BinOp e1 .Sub e2 pos) (xSub m1 m2) := ⟨pe_weak (pe_op op_sub h1.pe h2.pe) fun σ H Q ⟨σ0, F, J, ρ, v, c, e, q⟩ => by
  unfold xSub at e
  split at e
  · rename_i a b ea eb
    cases e
    exact ⟨σ0, F, J, ρ, _, c, ea, σ0, F, J, ρ, _, c, eb, a, b, rfl, rfl, q⟩
  · cases e⟩
/-- x[k] of a shared tuple: a number or a text -/
def xIx (i : Nat) (k : Int) : Rho → Option V := fun ρ => match ρ[i]? with
  | some (some (.sh (.tup ds))) => match atI ds k with
    | some (.int n) => some (.int n)
    | some (.str s) => some (.str s)
    | _ => none
  | _ => none
theorem dx_ix (i : Nat) {k : Int} {j : Nat} (hN : X.N[i]? = some x := by rfl) (hv : Vis X.env.scope x := by first | exact Or.inl rfl | exact Or.inr (Or.inl rfl) | exact Or.inr (Or.inr rfl)) (hd : (x == ("__debug__" : Str)) = false := by decide) (hcd : (x == ("__classdict__" : Str)) = false := by decide) :
    DX X B (.Subscript (.Name x px) (.Constant (.int k) j pk) pos) (xIx i k) := ⟨pe_weak (pe_ix ix_tup (pe_var hN hv hd hcd) pe_int (fun _ _ => rfl)) fun σ H Q ⟨σ0, F, J, ρ, v, c, e, q⟩ => by
  unfold xIx at e
  split at e
  · rename_i ds hr
    obtain ⟨fp, o1, _⟩ := id c.own
    obtain ⟨u, eu, _, w⟩ := o1 i _ hr
    cases w with
    | @tup a vs _ s r =>
      have sq : SqT X.K H a vs := (s.mono c.jm).sq
      split at e
      · rename_i n hn
        cases e
        obtain ⟨v, hv, wv⟩ := r.atI hn
        cases wv
        exact ⟨_, eu, a, _, _, _, rfl, rfl, sq, hv, q⟩
      · rename_i n hn
        cases e
        obtain ⟨v, hv, wv⟩ := r.atI hn
        cases wv
        exact ⟨_, eu, a, _, _, _, rfl, rfl, sq, hv, q⟩
      · cases e
  · cases e⟩
/-- x[e], a target; x is a list of one's own -/
def gF (i : Nat) (m : Rho → Option V) : D → Rho → Option Rho := fun d ρ => match ρ[i]?, m ρ with
  | some (some (.ol ds)), some (.int k) => match ixN ds.length k with
    | some j => some (ρ.set i (some (.ol (ds.set j d))))
    | none => none
  | _, _ => none
theorem dg_f (i : Nat) (h1 : DX X B e1 m1) (hN : X.N[i]? = some x := by rfl) (hv : Vis X.env.scope x := by first | exact Or.inl rfl | exact Or.inr (Or.inl rfl) | exact Or.inr (Or.inr rfl)) (hd : (x == ("__debug__" : Str)) = false := by decide) (hcd : (x == ("__classdict__" : Str)) = false := by decide)
    (ha : ∀ v, assign (.Subscript (.Name x px) e1 pt) X.env v = (do
      let ov ← holding [v] (eval (.Name x px) X.env)
      let iv ← holding [v, ov] (eval e1 X.env)
      standAt pt
      holding [v, ov, iv] (setItem ov iv v)
      release [v, ov, iv] []) := by intro _; rfl) : DG X B [i] (.Subscript (.Name x px) e1 pt) (gF i m1) := ⟨pg_weak (pg_sub (pe_var hN hv hd hcd) h1.pe set_list ha) fun v σ H Q ⟨σ0, F, J, ρ, d, ρ', c, w, e, q⟩ => by
  unfold gF at e
  split at e
  · rename_i ds k h2 hm
    split at e
    · rename_i j ej
      cases e
      obtain ⟨l, vs, el, hl, r⟩ := c.olAt h2
      exact ⟨_, el, σ0, F, J, ρ, _, c, hm, l, vs, k, j, rfl, rfl, hl, by rw [← r.len]; exact ej, q σ _ (c.olSet h2 el (r.set j w)) (fun _ _ => rfl) rfl⟩
    · cases e
  · cases e⟩
theorem gF_run {i : Nat} {m : Rho → Option V} {ρ : Rho} {j : Nat} {ds : List D} (d : D) (h : ρ[i]? = some (some (.ol ds))) (h1 : m ρ = some (.int (j : Int))) (hj : j < ds.length) : gF i m d ρ = some (ρ.set i (some (.ol (ds.set j d)))) := by
  unfold gF
  rw [h, h1]
  dsimp only
  rw [ixN_at hj]
end
/-- a def that a law names and never runs -/
def f_stub : List R → Option (R × List R) := fun _ => none
end DL

set_option Elab.async false
set_option linter.all false
set_option maxRecDepth 100000
set_option maxHeartbeats 4000000
/-! DLah: more methods of texts. -/
namespace DL
open PySem PySem.Spec PyProof.Rows L2
section
variable {K : PySem.W.Frag} {J : Hp}
theorem rpl_strs : ∀ ys : List Str, RpL K J (ys.map D.str) (ys.map V.str)
  | [] => .nil
  | _ :: ys => .cons (.str _) (rpl_strs ys)
/-- a.split(b) -/
def fSplit (d : D) (ds : List D) : Option D := match d, ds with
  | .str a, [.str b] => if (b.length == 0) = false ∧ a.length ≤ 1000000 then some (.lst ((Txt.split a b).map D.str)) else none
  | _, _ => none
theorem md_split : MtD K "str" (fun x xs H Q => ∃ a b, x = .str a ∧ xs = [.str b] ∧ (b.length == 0) = false ∧ a.length + 2 ≤ sizeLine ∧ rNewStrs (Txt.split a b) H Q) fSplit := by
  refine ⟨fun J H d0 v0 ds d s p e => ?_, fun J H d0 v0 ds d vs Q s p ps e q => ?_⟩
  · unfold fSplit at e
    split at e
    · cases p.str; exact (rfl : "str" = "str")
    · cases e
  · unfold fSplit at e
    split at e
    · split at e
      · rename_i a b hz
        cases e
        obtain ⟨v, rfl, p1⟩ := pkl1 ps
        cases p.str; cases p1.str
        refine ⟨_, _, rfl, rfl, hz.1, Nat.le_trans (Nat.add_le_add_right hz.2 2) (by rw [sizeLine_eq]; decide), fun p hp => ?_⟩
        have x := Ext.new (o := .lst ((Txt.split a b).map V.str)) s hp
        exact q _ _ _ x (.lst upd_same (rpl_strs _))
      · cases e
    · cases e
/-- a.lower() -/
def fLower (d : D) (ds : List D) : Option D := match d, ds with
  | .str a, [] => if a.length ≤ 1000000 then some (.str (Txt.lower a)) else none
  | _, _ => none
theorem md_lower : MtD K "str" (fun x xs H Q => ∃ a, x = .str a ∧ xs = [] ∧ a.length ≤ 5592405 ∧ Q (.str (Txt.lower a)) H) fLower := by
  refine ⟨fun J H d0 v0 ds d s p e => ?_, fun J H d0 v0 ds d vs Q s p ps e q => ?_⟩
  · unfold fLower at e
    split at e
    · cases p.str; exact (rfl : "str" = "str")
    · cases e
  · unfold fLower at e
    split at e
    · split at e
      · rename_i a hz
        cases e
        cases ps
        cases p.str
        exact ⟨_, rfl, rfl, Nat.le_trans hz (by decide), q J H _ (Ext.refl s) (.str _)⟩
      · cases e
    · cases e
/-- a.strip(b) -/
def fStripC (d : D) (ds : List D) : Option D := match d, ds with
  | .str a, [.str b] => if a.length ≤ 1000000 then some (.str (Txt.stripChars a b)) else none
  | _, _ => none
theorem md_stripC : MtD K "str" (fun x xs H Q => ∃ a b, x = .str a ∧ xs = [.str b] ∧ a.length ≤ sizeLine ∧ Q (.str (Txt.stripChars a b)) H) fStripC := by
  refine ⟨fun J H d0 v0 ds d s p e => ?_, fun J H d0 v0 ds d vs Q s p ps e q => ?_⟩
  · unfold fStripC at e
    split at e
    · cases p.str; exact (rfl : "str" = "str")
    · cases e
  · unfold fStripC at e
    split at e
    · split at e
      · rename_i a b hz
        cases e
        obtain ⟨v, rfl, p1⟩ := pkl1 ps
        cases p.str; cases p1.str
        exact ⟨_, _, rfl, rfl, Nat.le_trans hz (by rw [sizeLine_eq]; decide), q J H _ (Ext.refl s) (.str _)⟩
      · cases e
    · cases e
end
end DL

set_option Elab.async false
set_option linter.all false
set_option maxRecDepth 100000
set_option maxHeartbeats 4000000
/-! DLai: x.insert(i, e). -/
namespace DL
open PySem PySem.Spec PyProof.Rows L2
section
variable {X : Cx} {B : List Nat} {e1 e2 : Expr} {pos : Pos} {m1 m2 : Rho → Out Hd}
def insD (ds : List D) (k : Int) (d : D) : List D := ds.take k.toNat ++ [d] ++ ds.drop k.toNat
/-- x.insert(i, e) -/
def mIns (i : Nat) (m1 m2 : Rho → Out Hd) : Rho → SOut := fun ρ => match ρ[i]? with
  | some (some (.ol _)) => match mS m1 ρ with
    | .ok (.sh (.int k)) ρ1 => match mS m2 ρ1 with
      | .ok (.sh d) ρ2 => match ρ2[i]? with
        | some (some (.ol ds)) => if ds.length < 1000000 ∧ 0 ≤ k ∧ k < 1000000000 then .nx (ρ2.set i (some (.ol (insD ds k d)))) else .bad
        | _ => .bad
      | _ => .bad
    | _ => .bad
  | _ => .bad
theorem ds_insert (i : Nat) {x : Str} {px apos cpos : Pos} (he1 : DP X B e1 m1) (he2 : DP X B e2 m2) (hN : X.N[i]? = some x := by rfl) (hv : Vis X.env.scope x := by first | exact Or.inl rfl | exact Or.inr (Or.inl rfl) | exact Or.inr (Or.inr rfl)) (hd : (x == ("__debug__" : Str)) = false := by decide) (hcd : (x == ("__classdict__" : Str)) = false := by decide)
    (hbase : attributeBase (.Name x px) "insert" X.env (eval (.Name x px) X.env) = eval (.Name x px) X.env := by rfl)
    (hfew : ((backTo cpos (starEach [e1, e2] X.env)).all (fun x => !x.1) && (backToKw cpos (keywordEach [] X.env)).all (fun x => x.1.isSome)
      && decide ([e1, e2].length + ([] : List Keyword).length + (if ([] : List Keyword).isEmpty then 0 else 1) < 30)) = true := by rfl)
    (hline : (apos.endLine == cpos.line) = true := by rfl) (hst : starEach [e1, e2] X.env = (false, eval e1 X.env) :: starEach [e2] X.env := by rfl) (hst2 : starEach [e2] X.env = (false, eval e2 X.env) :: starEach [] X.env := by rfl) (hplain : (backTo cpos (starEach [e2] X.env)).any (·.1) = false := by rfl)
    (hs : swapsWith (.Call (.Attribute (.Name x px) "insert" apos) [e1, e2] [] cpos) none pos.line X.env = pure false := by rfl) :
    DS X B (.Expr (.Call (.Attribute (.Name x px) "insert" apos) [e1, e2] [] cpos) pos) (mIns i m1 m2) :=
  ⟨ps_weak (ps_expr (pe_bm PySem.F.plainAttrs_list PySem.F.slot_list_insert PySem.F.type_list_insert mt_insert (pe_var hN hv hd hcd) (pa_cons (do_of_dp he1).pe (pa_cons (do_of_dp he2).pe pa_nil hst2) hst) hbase hfew hline hst hplain) hs) fun D σ H ⟨σ0, F, J, ρ, c, q⟩ => by
  unfold mIns at q
  split at q
  · rename_i ds0 h0
    obtain ⟨l, vs0, el, hl, _⟩ := c.olAt h0
    split at q
    · rename_i k ρ1 q1
      split at q
      · rename_i d ρ2 q2
        split at q
        · rename_i ds h1
          split at q
          · rename_i hz
            refine ⟨_, el, .inl ⟨rfl, vs0, SqL.of hl⟩, σ0, F, J, ρ, .sh (.int k), ρ1, c, q1, fun J1 H1 v1 c1 s1 => ?_⟩
            have hv1 := c1.shAt
            cases hv1
            refine ⟨σ0, F, J1, ρ1, .sh d, ρ2, c1.pop c.lb, q2, fun J2 H2 v2 c2 s2 => ?_⟩
            have c3 := c2.pop c.lb
            obtain ⟨l', vs, el', hl', r⟩ := c3.olAt h1
            rw [el] at el'
            cases el'
            refine ⟨l, vs, k, v2, rfl, rfl, hl', by rw [← r.len]; exact small_line (by omega), hz.2.1, by omega, ?_⟩
            exact q J2 σ _ (c3.olSet h1 el (((r.take k.toNat).app (.cons c2.shAt .nil)).app (r.drop k.toNat))) (s1.trans s2)
          · exact q.elim
        · exact q.elim
      · exact q.elim
    · exact q.elim
  · exact q.elim⟩
end
/-! ### reckoning -/
def kIns4 (i : Nat) (k : Int) (d : D) (ρ : Rho) (o : Option (Option R)) : SOut := match o with
  | some (some (.ol ds)) => if ds.length < 1000000 ∧ 0 ≤ k ∧ k < 1000000000 then .nx (ρ.set i (some (.ol (insD ds k d)))) else .bad
  | _ => .bad
def kIns3 (i : Nat) (k : Int) (o : Out R) : SOut := match o with
  | .ok (.sh d) ρ => kIns4 i k d ρ ρ[i]?
  | _ => .bad
def kIns2 (i : Nat) (m2 : Rho → Out Hd) (o : Out R) : SOut := match o with
  | .ok (.sh (.int k)) ρ => kIns3 i k (mS m2 ρ)
  | _ => .bad
def kIns1 (i : Nat) (m1 m2 : Rho → Out Hd) (ρ : Rho) (o : Option (Option R)) : SOut := match o with
  | some (some (.ol _)) => kIns2 i m2 (mS m1 ρ)
  | _ => .bad
theorem ev_Ins (i : Nat) (m1 m2 : Rho → Out Hd) (ρ : Rho) : mIns i m1 m2 ρ = kIns1 i m1 m2 ρ ρ[i]? := (rfl)
theorem kIns1_ (i : Nat) (m1 m2 : Rho → Out Hd) (ρ : Rho) (ds : List D) : kIns1 i m1 m2 ρ (some (some (.ol ds))) = kIns2 i m2 (mS m1 ρ) := (rfl)
theorem kIns2_ (i : Nat) (m2 : Rho → Out Hd) (k : Int) (ρ : Rho) : kIns2 i m2 (.ok (.sh (.int k)) ρ) = kIns3 i k (mS m2 ρ) := (rfl)
theorem kIns3_ (i : Nat) (k : Int) (d : D) (ρ : Rho) : kIns3 i k (.ok (.sh d) ρ) = kIns4 i k d ρ ρ[i]? := (rfl)
theorem kIns4_ (i : Nat) (k : Int) (d : D) (ρ : Rho) (ds : List D) : kIns4 i k d ρ (some (some (.ol ds))) = if ds.length < 1000000 ∧ 0 ≤ k ∧ k < 1000000000 then .nx (ρ.set i (some (.ol (insD ds k d)))) else .bad := (rfl)
end DL

set_option Elab.async false
set_option linter.all false
set_option maxRecDepth 100000
set_option maxHeartbeats 4000000
/-! DLaj: sorted(set(list of ints)). -/
namespace DL
open PySem PySem.Spec PyProof.Rows L2
/-! ### set(list of ints), with the law of its table -/
abbrev freshSet (w : World) : Obj := ⟨.type "set", none, .set #[] 0 (.fresh 0 0 (!w.params.followText "set-order")), #[]⟩
section
variable {P : Program} {w : World} {A : Around} {E : Value → Shared → Prop} {s : Shared}
set_option maxHeartbeats 8000000 in
theorem set_of_list {l : Addr} {items : Array Value} (ns : List Int) {Q : Value → Shared → Prop} (hh : A.handled = none) (hl : s.heap.IsList l items) (hit : IntsAre items.toList ns) (hb : ns.length + 1 < scanBound)
    (fin : ∀ (h' : Heap) (tk c : Nat), SetR w h' s.heap.objs.size (fun j => decide (j ∈ ns)) c → c ≤ ns.length → (∀ b o, s.heap.get? b = some o → h'.get? b = some o) →
      Q (.ref s.heap.objs.size) { s with heap := h', toks := tk }) : wpAny (model P w) A (call (.type "set") [.ref l]) Q E s := by
  have hisz : items.size = ns.length := by have q := IntsAre.length hit; rw [Array.length_toList] at q; exact q
  obtain ⟨c, tl, hmro⟩ := F.called_set.mro; have hmade := F.called_set.made; have hsub := F.called_set.sub
  refine wpAny_call (codeAny_of_tree ?_); show wpAny _ _ (callAny (.type "set") _) _ _ _
  refine wpAny_pure ⟨Code.quiet_builtin _ (by decide +kernel), codeAny_builtin F.entry_type_call ?_⟩; rw [Around.under_plain (weight_type_call_type "set" [.ref l] []) rfl]
  have h1 := F.called_set.notType; have h2 := F.called_set.canCreate; have hct := F.typeCall_set_1 (.ref l)
  (repeat (any_goals (first | assumption | wp_step)))
  refine codeAny_mono (code_set_led1 (.ref l) (E := E) (Q₁ := fun obj s₁ => obj = .ref s.heap.objs.size ∧ s₁ = { s with heap := s.heap.push (freshSet w) }) ⟨rfl, rfl⟩) fun r s₁ hr => ?_
  rcases r with e | fl
  · exact hr
  rcases fl with _ | _ | _ | obj <;> first | exact hr.elim | skip
  all_goals obtain ⟨rfl, rfl⟩ := hr
  have hS : (s.heap.push (freshSet w)).get? s.heap.objs.size = some (freshSet w) := Heap.get?_push_size _ rfl
  have hT : Shared.TypeIs { s with heap := s.heap.push (freshSet w) } (.ref s.heap.objs.size) "set" := ⟨_, hS, rfl⟩
  have hli := F.called_set.init.lookup; have hbi := F.called_set.init.bind (.ref s.heap.objs.size)
  (repeat (any_goals (first | assumption | wp_step)))
  refine codeAny_mono (codeAny_call_builtin (R := wants (fun r s₂ => r = .none ∧ ∃ h' tk c, s₂ = { s with heap := h', toks := tk } ∧ SetR w h' s.heap.objs.size (fun j => decide (j ∈ ns)) c ∧ c ≤ ns.length ∧
    (∀ b o, s.heap.get? b = some o → h'.get? b = some o)) E) F.called_set.init.plain F.entry_set_init (check_set_init_1 hT ?_)) fun r₂ s₂ hr₂ => ?_
  · obtain ⟨⟨ocls, odict, odata, oslots⟩, hol, hcl, nl, hdl⟩ := hl
    simp only at hcl hdl; subst hcl; subst hdl
    have hol' : (s.heap.push (freshSet w)).get? l = some ⟨.type "list", odict, .seq items nl, oslots⟩ := Heap.get?_push_of_some _ hol
    have hsls := F.sub_list_set; have hslf := F.sub_list_frozenset; have hne : (Value.type "list" == Value.type "dict") = false := by decide
    have hl1 : (s.heap.push (freshSet w)).IsList l items := ⟨_, hol', rfl, nl, rfl⟩
    unfold Builtin.«set.__init__» noKeywords Builtin.Frozenset.updateFrom; generalize hPI : pyIter = PI
    wp_walk
    subst hPI
    refine wpAny_pyIter_list hl1 (wpAny_bind (wpAny_runValue ?_))
    have hlS : l < s.heap.objs.size := Heap.lt_size hol
    have hh3 : A.in1.in1.in1.handled = none := by simp [hh]
    have hsz : (s.heap.push (freshSet w)).objs.size = s.heap.objs.size + 1 := Heap.size_push ..
    have hneI : l ≠ (s.heap.push (freshSet w)).objs.size := Nat.ne_of_lt (hsz ▸ Nat.lt_succ_of_lt hlS)
    have hSf : s.heap.objs.size ∉ [(s.heap.push (freshSet w)).objs.size, l] := by simp only [List.mem_cons, List.not_mem_nil, or_false, not_or]; exact ⟨Nat.ne_of_lt (hsz ▸ Nat.lt_succ_self _), Nat.ne_of_gt hlS⟩
    have hval : ∀ (i : Nat) (v : Value), items[i]? = some v → ∃ k t, ns[i]? = some k ∧ v = .int k t := fun i v hv => by
      have hi : i < ns.length := hisz ▸ (Array.getElem?_eq_some_iff.mp hv).1
      obtain ⟨t, e⟩ := IntsAre.int_at hit i v ((Array.getElem?_toList ..).trans hv)
      exact ⟨ns[i], t, List.getElem?_eq_getElem hi, by rw [e, List.getD_eq_getElem?_getD, List.getElem?_eq_getElem hi] <;> rfl⟩
    refine set_update_ints ((Walks.list hh3 _ l hneI items).toS) s.heap.objs.size hSf ns hisz hb hval (items.size - 0) 0 _ (by omega) (Nat.zero_le _) ⟨⟨_, Heap.get?_push_size _ rfl, rfl, rfl⟩, (hl1.push _)⟩ ?_ ?_
    · have hget : ((s.heap.push (freshSet w)).push { cls := .type "list_iterator", data := .fields #[.ref l, .int 0 0] }).get? s.heap.objs.size = some (freshSet w) := Heap.get?_push_of_some _ hS
      exact ⟨0, Nat.le_refl 0, setR_new_at hget⟩
    · rintro ⟨h', g2, d', tk', os'⟩ c' hm hc' hS'
      have eg : g2 = s.gens := hm.gens; have ed : d' = s.drawn := hm.drawn; have eo : os' = s.os := hm.os
      subst eg; subst ed; subst eo
      show wpAny _ _ _ _ _ _
      refine wpAny_pure ?_; show wpAny _ _ (ret Value.none) _ _ _
      refine wpAny_pure ⟨rfl, h', tk', c', rfl, hS', by omega, fun b o e => ?_⟩
      have hb0 : b < s.heap.objs.size := Heap.lt_size e
      exact hm.heap b o (by simp only [List.mem_cons, List.not_mem_nil, or_false, not_or]; exact ⟨Nat.ne_of_lt hb0, Nat.ne_of_lt (hsz ▸ Nat.lt_succ_of_lt hb0)⟩) (Heap.get?_push_of_some _ (Heap.get?_push_of_some _ e))
  · rcases r₂ with e | fl₂
    · exact hr₂
    rcases fl₂ with _ | _ | _ | r <;> first | exact hr₂.elim | skip
    obtain ⟨rfl, h', tk, c2, rfl, hS', hc2, hk'⟩ := hr₂
    (repeat (any_goals (first | assumption | wp_step)))
    exact fin _ _ _ hS' hc2 hk'
end
/-! ### the rule: a list in order, each once -/
def insI (x : Int) : List Int → List Int
  | [] => [x]
  | y :: r => if x < y then x :: y :: r else if x = y then y :: r else y :: insI x r
def srtI (ns : List Int) : List Int := ns.foldr insI []
theorem insI_mem (x : Int) : ∀ (l : List Int) (z : Int), z ∈ insI x l ↔ z = x ∨ z ∈ l
  | [], z => by simp [insI]
  | y :: r, z => by
    unfold insI
    split
    · simp
    · split
      · rename_i h; subst h; simp
      · rw [List.mem_cons, List.mem_cons, insI_mem x r z]
        constructor
        · rintro (h | h | h)
          · exact .inr (.inl h)
          · exact .inl h
          · exact .inr (.inr h)
        · rintro (h | h | h)
          · exact .inr (.inl h)
          · exact .inl h
          · exact .inr (.inr h)
theorem insI_up (x : Int) : ∀ (l : List Int), l.Pairwise (· < ·) → (insI x l).Pairwise (· < ·)
  | [], _ => by simp [insI]
  | y :: r, h => by
    obtain ⟨a, b⟩ := List.pairwise_cons.mp h
    unfold insI
    split
    · rename_i q
      refine List.pairwise_cons.mpr ⟨fun z hz => ?_, h⟩
      rcases List.mem_cons.mp hz with rfl | hz
      · exact q
      · have := a z hz; omega
    · split
      · exact h
      · refine List.pairwise_cons.mpr ⟨fun z hz => ?_, insI_up x r b⟩
        rcases (insI_mem x r z).mp hz with rfl | hz
        · omega
        · exact a z hz
theorem srtI_mem : ∀ (ns : List Int) (z : Int), z ∈ srtI ns ↔ z ∈ ns
  | [], z => Iff.rfl
  | x :: r, z => by
    show z ∈ insI x (srtI r) ↔ _
    rw [insI_mem, srtI_mem r z, List.mem_cons]
theorem srtI_up : ∀ ns : List Int, (srtI ns).Pairwise (· < ·)
  | [] => .nil
  | x :: r => insI_up x _ (srtI_up r)
theorem up_uniq : ∀ (a b : List Int), a.Pairwise (· < ·) → b.Pairwise (· < ·) → (∀ z, z ∈ a ↔ z ∈ b) → a = b
  | [], [], _, _, _ => rfl
  | [], y :: r, _, _, h => absurd ((h y).mpr List.mem_cons_self) (by simp)
  | x :: r, [], _, _, h => absurd ((h x).mp List.mem_cons_self) (by simp)
  | x :: r, y :: q, ha, hb, h => by
    obtain ⟨a1, a2⟩ := List.pairwise_cons.mp ha
    obtain ⟨b1, b2⟩ := List.pairwise_cons.mp hb
    have e : x = y := by
      rcases List.mem_cons.mp ((h x).mp List.mem_cons_self) with e | e
      · exact e
      rcases List.mem_cons.mp ((h y).mpr List.mem_cons_self) with e2 | e2
      · exact e2.symm
      have := b1 x e; have := a1 y e2; omega
    subst e
    rw [up_uniq r q a2 b2 fun z => ⟨fun hz => ?_, fun hz => ?_⟩]
    · rcases List.mem_cons.mp ((h z).mp (List.mem_cons_of_mem _ hz)) with e | e
      · subst e; exact absurd (a1 z hz) (by omega)
      · exact e
    · rcases List.mem_cons.mp ((h z).mpr (List.mem_cons_of_mem _ hz)) with e | e
      · subst e; exact absurd (b1 z hz) (by omega)
      · exact e
theorem insI_len (x : Int) : ∀ l : List Int, (insI x l).length ≤ l.length + 1
  | [] => by simp [insI]
  | y :: r => by
    have := insI_len x r
    unfold insI
    split
    · simp
    · split
      · simp
      · simp only [List.length_cons]; omega
theorem srtI_len : ∀ ns : List Int, (srtI ns).length ≤ ns.length
  | [] => Nat.le_refl 0
  | x :: r => Nat.le_trans (insI_len x (srtI r)) (Nat.succ_le_succ (srtI_len r))
section
variable {X : Cx} {B : List Nat}
def rSetL (K : PySem.W.Frag) (w : World) : List V → Hp → VK → Prop := fun vs H Q => ∃ (q : Addr) (ns : List Int), vs = [.ref q] ∧ H q = some (.lst (ns.map V.int)) ∧ ns.length < 64 ∧ ∀ p c, H p = none → c ≤ ns.length → Q (.ref p) (upd H p (SetO w p (fun j => decide (j ∈ ns)) c))
theorem cr_setL (hc : X.calm = true) : CallR X (.type "set") (rSetL X.K X.w) := by
  intro pins s σ H vs us Q I r h
  obtain ⟨q, ns, rfl, hq, h64, k⟩ := h
  rw [Vals.ref1 r]
  obtain ⟨its, rv, pl, hz⟩ := I.list (SqL.of hq)
  refine set_of_list ns (I.ok.hd hc) pl.isList (by simpa using rv.ints) (by unfold scanBound; omega) fun h' tk c new le hk => ?_
  have hn : H s.heap.objs.size = none := I.hok.fresh (Nat.le_refl _)
  exact ⟨.ref _, _, I.laid (t' := tk) (fun b u e => hk b u e) (Nat.le_refl _) (setO_new new), rfl, k _ _ hn le⟩
theorem rpl_ints {K : PySem.W.Frag} {J : Hp} : ∀ ns : List Int, RpL K J (ns.map D.int) (ns.map V.int)
  | [] => .nil
  | i :: r => .cons (.int i) (rpl_ints r)
/-- sorted(set(list)), fewer than 64 -/
def fSS (ds : List D) : Option (List D) := match ds with
  | [.lst l] => match intsD l with
    | some ns => if ns.length < 64 then some ((srtI ns).map D.int) else none
    | none => none
  | _ => none
theorem fSS_run {ns : List Int} (h : ns.length < 64) : fSS [.lst (ns.map D.int)] = some ((srtI ns).map D.int) := by
  unfold fSS
  simp only [intsD_map]
  exact if_pos h
def rSS (K : PySem.W.Frag) (w : World) : List V → Hp → VK → Prop := fun vs H Q => rSetL K w vs H fun v H1 => rSortedSet w [v] H1 Q
theorem cl_SS {K : PySem.W.Frag} {w : World} : CallL K (rSS K w) fSS := by
  intro J H ds es vs Q m p e q
  unfold fSS at e
  split at e
  · rename_i l
    split at e
    · rename_i ns hi
      split at e
      · rename_i h64
        cases e
        cases p with
        | cons p0 pt =>
          cases pt
          obtain ⟨a, ws, rfl, ha, r⟩ := p0.lst m
          rw [intsD_of r hi] at ha
          refine ⟨a, ns, rfl, ha, h64, fun p c hp le => ⟨p, _, c, rfl, upd_same, by omega, fun ns2 p2 hs hm hl hp2 => ?_⟩⟩
          have e2 : ns2 = srtI ns := up_uniq _ _ hs (srtI_up ns) fun z => by rw [hm z, srtI_mem]; exact decide_eq_true_iff
          rw [e2]
          exact q p2 _ _ (Ext.garb m hp) hp2 (rpl_ints _)
      · cases e
    · cases e
  · cases e
theorem do_sortedset {x y : Str} {p1 p2 pos pos2 : Pos} {e : Expr} {ms : Rho → Out (List Hd)} (hc : X.calm = true) (hg1 : Gl X x) (hm1 : X.mg x = none) (hv1 : bootBuiltins x = some (.builtin "sorted")) (hg2 : Gl X y) (hm2 : X.mg y = none) (hv2 : bootBuiltins y = some (.type "set")) (ha : DA X B [e] ms)
    (hn1 : x ≠ "__name__" := by decide) (hd1 : (x == ("__debug__" : Str)) = false := by decide) (hn2 : y ≠ "__name__" := by decide) (hd2 : (y == ("__debug__" : Str)) = false := by decide)
    (he2 : starEach [e] X.env = (false, eval e X.env) :: starEach [] X.env := by rfl) (hpl2 : (backTo pos2 (starEach [] X.env)).any (·.1) = false := by rfl)
    (he1 : starEach [.Call (.Name y p2) [e] [] pos2] X.env = (false, eval (.Call (.Name y p2) [e] [] pos2) X.env) :: starEach [] X.env := by rfl) (hpl1 : (backTo pos (starEach [] X.env)).any (·.1) = false := by rfl) :
    DO X B (.Call (.Name x p1) [.Call (.Name y p2) [e] [] pos2] [] pos) (mCallL fSS ms) :=
  ⟨pe_weak (pe_callB (cr_sortedSet hc) hg1 hm1 hv1 (pa_cons (pe_callTy (cr_setL hc) hg2 hm2 hv2 ha.pa hn2 hd2 he2 hpl2) pa_nil he1) hn1 hd1 he1 hpl1) fun σ H Q h => tCB_callL (n := 1) (cl_SS (w := X.w)) σ H Q h⟩
end
end DL

set_option Elab.async false
set_option linter.all false
set_option maxRecDepth 4000
set_option maxHeartbeats 4000000
/-! DLak: chains of three as tests; sorted(set(..)) of any number; sorted of pairs. -/
namespace DL
open PySem PySem.Spec PyProof.Rows L2
section
variable {X : Cx} {B : List Nat} {a b c d : Expr} {ta tb tc td : TE} {pos : Pos} {m1 m2 m3 m4 : Rho → Out Hd}
theorem pt_chain3 {op op' op'' : CmpOp} {r r' r'' : R2} (ho : OpR X (compareOp op) r) (ho' : OpR X (compareOp op') r') (ho'' : OpR X (compareOp op'') r'') (ha : PE X a ta) (hb : PE X b tb) (hc : PE X c tc) (hd : PE X d td)
    (hm : lastMarks [op, op', op''] [b, c, d] = false := by with_unfolding_all rfl) : PT X (.Compare a [op, op', op''] [b, c, d] pos) (tTest (tChain3 r r' r'' ta tb tc td)) := by
  refine ⟨fun pins s σ H Q I h => isTrue_chain (thn (ha.run pins s σ H _ I h) fun v s1 ⟨x, H1, I1, r1, q1⟩ => test_link (thn (hb.run pins s1 σ H1 _ I1 q1) fun u s2 ⟨y, H2, I2, r2, q2⟩ =>
    thn (ho pins s2 σ H2 x y v u _ I2 r1 r2 q2) fun d s3 ⟨z, H3, I3, r3, k, e, q3⟩ => ?_)) hm⟩
  subst e; cases r3
  refine wpAny_truthy_bool ?_
  cases k with
  | false =>
    obtain ⟨k', e', q'⟩ := q3; cases e'
    exact ite_ff ⟨H3, I3, q'⟩
  | true =>
    refine ite_tt (test_link (thn (hc.run pins s3 σ H3 _ I3 q3) fun w' s4 ⟨z', H4, I4, r4, q4⟩ => thn (ho' pins s4 σ H4 y z' u w' _ I4 r2 r4 q4) fun d s5 ⟨z2, H5, I5, r5, k', e', q5⟩ => ?_))
    subst e'; cases r5
    refine wpAny_truthy_bool ?_
    cases k' with
    | false =>
      obtain ⟨k2, e2, q2⟩ := q5; cases e2
      exact ite_ff ⟨H5, I5, q2⟩
    | true =>
      refine ite_tt (test_last (thn (hd.run pins s5 σ H5 _ I5 q5) fun w2 s6 ⟨z3, H6, I6, r6, q6⟩ => thn (ho'' pins s6 σ H6 z' z3 w' w2 _ I6 r4 r6 q6) fun d s7 ⟨z4, H7, I7, r7, k3, e3, q7⟩ => ?_))
      subst e3; cases r7
      exact wpAny_truthy_bool ⟨H7, I7, q7⟩
theorem dt_chain3 {op op' op'' : CmpOp} {r r' r'' : R2} {f g g2 : D → D → Option D} (ho : OpR X (compareOp op) r) (hd : BinD X.K r f) (ho' : OpR X (compareOp op') r') (hg : BinD X.K r' g) (ho'' : OpR X (compareOp op'') r'') (hg2 : BinD X.K r'' g2) (ha : DP X B a m1) (hb : DP X B b m2) (hc : DP X B c m3) (hd4 : DP X B d m4)
    (hm : lastMarks [op, op', op''] [b, c, d] = false := by with_unfolding_all rfl) : DT X B (.Compare a [op, op', op''] [b, c, d] pos) (mTst (mChain3 f g g2 m1 m2 m3 m4)) := ⟨pt_weak (pt_chain3 ho ho' ho'' ha.pe hb.pe hc.pe hd4.pe hm) (tTest_tst (tChain3_ch hd hg hg2))⟩
end
/-! ### sorted(set(..)), any number -/
section
variable {P : Program} {w : World} {A : Around} {E : Value → Shared → Prop} {s : Shared} {a : Addr}
theorem sorted_of_set {S : Int → Bool} {n : Nat} {Q : Value → Shared → Prop} (R : SetR w s.heap a S n) (hh : A.handled = none) (hn2 : n ≤ 4000)
    (fin : ∀ s' p (out : Array Value) (c : Nat) (ns : List Int), (∀ b o, s.heap.get? b = some o → s'.heap.get? b = some o) → s'.gens = s.gens → s'.os = s.os → s.heap.objs.size ≤ p →
      s'.heap.get? p = some (seqObj "list" out c) → IntsAre out.toList ns → ns.Pairwise (· < ·) → (∀ k, k ∈ ns ↔ S k = true) → ns.length = n → Q (.ref p) s') : wpAny (model P w) A (call (.builtin "sorted") [.ref a]) Q E s := by
  obtain ⟨o, es, ep, t, ho, hex, hd, g, nd, hm, hb, hf, hn, hr, hl⟩ := R
  refine Calls.call_function_entry kind_sorted plain_sorted entry_sorted (args_sorted1 _) ?_; unfold Builtin.«sorted»
  refine wpAny_bind (m := checkCount "sorted" 1 1 _) (wpAny_pure (wpAny_bind (collect_set (A := A.in1) hh ⟨o, ho, hex.1, hd⟩ hf hb hr hl fun s1 vs k1 hz g1 o1 pm => ?_)))
  have hvl : vs.length = n := by rw [pm.length_eq, List.length_map, Array.length_toList]; exact hn
  have hI : IntsAre vs (vs.map Builtin.Re.reRawOf) := ints_of vs fun v hv => by
    obtain ⟨e, he, q⟩ := List.mem_map.mp (pm.mem_iff.mp hv); obtain ⟨k, tk, h1, _⟩ := g e he
    exact ⟨k, tk, q ▸ h1⟩
  have pk : (vs.map Builtin.Re.reRawOf).Perm (es.toList.map keyOf) := by have q := pm.map Builtin.Re.reRawOf; rw [List.map_map] at q; exact q
  have hsz : vs.length ≤ sizeLine := by rw [hvl, sizeLine_eq]; omega
  refine wpAny_bind (wpAny_newList ?_ hsz)
  have hoL : (s1.heap.push (seqObj "list" vs.toArray 0)).get? s1.heap.objs.size = some (seqObj "list" vs.toArray 0) := Heap.get?_push_size _ rfl
  refine wpAny_bind (wpAny_holding (wpAny_call_entry slot_list_sort ⟨_, hoL, rfl⟩ entry_list_sort (SrtO.list_sort_ord SrtO.swo_int hoL hsz (fun h2 => SrtO.ints_sortable hI h2) fun out h1 h2 => ⟨_, rfl, ?_⟩) (args_list_sort _)))
  obtain ⟨a1, a2, a3⟩ := SrtO.ints_out hI h1 h2
  obtain ⟨c, hc⟩ := sortedHeap_at (vs := vs) (out := out.toArray) hoL
  have pn : (out.map SrtO.iv).Perm (es.toList.map keyOf) := a2.trans pk
  refine wpAny_pure ⟨_, rfl, fin _ s1.heap.objs.size out.toArray c (out.map SrtO.iv) (fun b u e => ?_) g1 o1 hz hc (by simpa using a1) (lt_of_le_nodup _ a3 (pn.nodup_iff.mpr nd)) (fun k => by rw [pn.mem_iff, ← hm k]) (by rw [pn.length_eq, List.length_map, Array.length_toList]; exact hn)⟩
  have q := k1 b u e; have hlt := Heap.lt_size q
  show (sortedHeap (s1.heap.push (seqObj "list" vs.toArray 0)) s1.heap.objs.size vs out.toArray).get? b = some u
  rw [sortedHeap_old (Nat.ne_of_lt hlt) (by rw [size_push']; exact Nat.lt_succ_of_lt hlt)]; exact Heap.get?_push_of_some _ q
end
section
variable {X : Cx} {B : List Nat}
def rSortedSetX (w : World) : List V → Hp → VK → Prop := fun vs H Q => ∃ (a : Addr) (S : Int → Bool) (n : Nat), vs = [V.ref a] ∧ H a = some (SetO w a S n) ∧ n ≤ 4000 ∧
  ∀ (ns : List Int) (p : Addr), ns.Pairwise (· < ·) → (∀ k : Int, k ∈ ns ↔ S k = true) → H p = none → Q (.ref p) (upd H p (.lst (ns.map V.int)))
theorem cr_sortedSetX (hc : X.calm = true) : CallR X (.builtin "sorted") (rSortedSetX X.w) := by
  intro pins s σ H vs us Q I r h
  obtain ⟨a, S, n, rfl, ha, hn2, q⟩ := h
  have R := setO_get I ha; rw [Vals.ref1 r]
  refine sorted_of_set R (I.ok.hd hc) hn2 fun s' p out c ns k g o hp hg hi hs hm hl => ?_
  have hlen : (ns.map V.int).length ≤ sizeLine := by rw [List.length_map, hl, sizeLine_eq]; omega
  have hn : H p = none := I.hok.fresh hp
  have J : Inv X pins σ (upd H p (.lst (ns.map V.int))) { s with heap := s'.heap, gens := s'.gens, drawn := s'.drawn, toks := s'.toks } := I.call (ch := []) (Un.laid k hp hn) (I.hok.laid k hp ⟨hlen, out.toList, c, vals_of_ints hi, hg⟩) (by rw [g]; exact I.bare) (fun _ z => nomatch z)
  have e : s' = { s with heap := s'.heap, gens := s'.gens, drawn := s'.drawn, toks := s'.toks } := by cases s'; cases s; cases o; rfl
  rw [e]; exact ⟨.ref p, _, J, rfl, q ns p hs hm hn⟩
def rSetX (K : PySem.W.Frag) (w : World) : List V → Hp → VK → Prop := fun vs H Q => ∃ (q : Addr) (ns : List Int), vs = [.ref q] ∧ (SqL K H q (ns.map V.int) ∨ SqT K H q (ns.map V.int)) ∧ ns.length ≤ 4000 ∧ ∀ p c, H p = none → c ≤ ns.length → Q (.ref p) (upd H p (SetO w p (fun j => decide (j ∈ ns)) c))
theorem cr_setX (hc : X.calm = true) : CallR X (.type "set") (rSetX X.K X.w) := by
  intro pins s σ H vs us Q I r h
  obtain ⟨q, ns, rfl, hq, hn2, k⟩ := h
  rw [Vals.ref1 r]
  have fin : ∀ (h' : Heap) (tk c : Nat), SetR X.w h' s.heap.objs.size (fun j => decide (j ∈ ns)) c → c ≤ ns.length → (∀ b o, s.heap.get? b = some o → h'.get? b = some o) → (EP X pins σ Q) (.ref s.heap.objs.size) { s with heap := h', toks := tk } := fun h' tk c new le hk => by
    have hn : H s.heap.objs.size = none := I.hok.fresh (Nat.le_refl _)
    exact ⟨.ref _, _, I.laid (t' := tk) (fun b u e => hk b u e) (Nat.le_refl _) (setO_new new), rfl, k _ _ hn le⟩
  rcases hq with hq | hq
  · obtain ⟨its, rv, pl, hz⟩ := I.list hq
    exact set_of_list ns (I.ok.hd hc) pl.isList (by simpa using rv.ints) (by unfold scanBound; omega) fin
  · obtain ⟨its, rv, pl, hz⟩ := I.tuple hq
    exact call_set_tupI ns (I.ok.hd hc) pl (by simpa using rv.ints) (by unfold scanBound; omega) fin
/-- sorted(set(list or tuple of ints)) -/
def fSSX (ds : List D) : Option (List D) := match ds with
  | [.lst l] => match intsD l with
    | some ns => if ns.length ≤ 4000 then some ((srtI ns).map D.int) else none
    | none => none
  | [.tup l] => match intsD l with
    | some ns => if ns.length ≤ 4000 then some ((srtI ns).map D.int) else none
    | none => none
  | _ => none
theorem fSSX_run {ns : List Int} (h : ns.length ≤ 4000) : fSSX [.lst (ns.map D.int)] = some ((srtI ns).map D.int) := by
  unfold fSSX
  simp only [intsD_map]
  exact if_pos h
theorem fSSX_tup {ns : List Int} (h : ns.length ≤ 4000) : fSSX [.tup (ns.map D.int)] = some ((srtI ns).map D.int) := by
  unfold fSSX
  simp only [intsD_map]
  exact if_pos h
def rSSX (K : PySem.W.Frag) (w : World) : List V → Hp → VK → Prop := fun vs H Q => rSetX K w vs H fun v H1 => rSortedSetX w [v] H1 Q
theorem cl_SSX {K : PySem.W.Frag} {w : World} : CallL K (rSSX K w) fSSX := by
  intro J H ds es vs Q m p e q
  have fin : ∀ (a : Addr) (ns : List Int), vs = [.ref a] → (SqL K H a (ns.map V.int) ∨ SqT K H a (ns.map V.int)) → ns.length ≤ 4000 → es = (srtI ns).map D.int → rSSX K w vs H Q := by
    rintro a ns rfl ha h2 rfl
    refine ⟨a, ns, rfl, ha, h2, fun p c hp le => ⟨p, _, c, rfl, upd_same, by omega, fun ns2 p2 hs hm hp2 => ?_⟩⟩
    have e2 : ns2 = srtI ns := up_uniq _ _ hs (srtI_up ns) fun z => by rw [hm z, srtI_mem]; exact decide_eq_true_iff
    rw [e2]
    exact q p2 _ _ (Ext.garb m hp) hp2 (rpl_ints _)
  unfold fSSX at e
  split at e
  · split at e
    · rename_i ns hi
      split at e
      · rename_i h2
        cases e
        cases p with
        | cons p0 pt =>
          cases pt
          obtain ⟨a, ws, rfl, ha, r⟩ := p0.lst m
          rw [intsD_of r hi] at ha
          exact fin a ns rfl (.inl (SqL.of ha)) h2 rfl
      · cases e
    · cases e
  · split at e
    · rename_i ns hi
      split at e
      · rename_i h2
        cases e
        cases p with
        | cons p0 pt =>
          cases pt
          obtain ⟨a, ws, rfl, ha, r⟩ := p0.tup m
          rw [intsD_of r hi] at ha
          exact fin a ns rfl (.inr ha) h2 rfl
      · cases e
    · cases e
  · cases e
theorem do_sortedsetX {x y : Str} {p1 p2 pos pos2 : Pos} {e : Expr} {ms : Rho → Out (List Hd)} (hc : X.calm = true) (hg1 : Gl X x) (hm1 : X.mg x = none) (hv1 : bootBuiltins x = some (.builtin "sorted")) (hg2 : Gl X y) (hm2 : X.mg y = none) (hv2 : bootBuiltins y = some (.type "set")) (ha : DA X B [e] ms)
    (hn1 : x ≠ "__name__" := by decide) (hd1 : (x == ("__debug__" : Str)) = false := by decide) (hn2 : y ≠ "__name__" := by decide) (hd2 : (y == ("__debug__" : Str)) = false := by decide)
    (he2 : starEach [e] X.env = (false, eval e X.env) :: starEach [] X.env := by rfl) (hpl2 : (backTo pos2 (starEach [] X.env)).any (·.1) = false := by rfl)
    (he1 : starEach [.Call (.Name y p2) [e] [] pos2] X.env = (false, eval (.Call (.Name y p2) [e] [] pos2) X.env) :: starEach [] X.env := by rfl) (hpl1 : (backTo pos (starEach [] X.env)).any (·.1) = false := by rfl) :
    DO X B (.Call (.Name x p1) [.Call (.Name y p2) [e] [] pos2] [] pos) (mCallL fSSX ms) :=
  ⟨pe_weak (pe_callB (cr_sortedSetX hc) hg1 hm1 hv1 (pa_cons (pe_callTy (cr_setX hc) hg2 hm2 hv2 ha.pa hn2 hd2 he2 hpl2) pa_nil he1) hn1 hd1 he1 hpl1) fun σ H Q h => tCB_callL (n := 1) (cl_SSX (w := X.w)) σ H Q h⟩
/-! ### sorted of two pairs of ints -/
def rSortedPX (K : PySem.W.Frag) : List V → Hp → VK → Prop := fun vs H Q => ∃ (a : Addr) (xs : List V) (k : V → Int × Int), vs = [V.ref a] ∧ SqL K H a xs ∧ (∀ x ∈ xs, ∃ t, x = V.ref t ∧ TupAt K H t [.int (k x).1, .int (k x).2]) ∧
  ∀ ys p, SrtO.Srtd (ltP k) ys → SrtO.Stb (ltP k) ys xs → H p = none → Q (.ref p) (upd H p (.lst ys))
theorem cr_sortedPX : CallR X (.builtin "sorted") (rSortedPX X.K) := by
  intro pins s σ H vs us Q I r h
  obtain ⟨a, xs, k, rfl, hs, hx, q⟩ := h
  obtain ⟨its, rv, hl, hz⟩ := I.list hs
  obtain ⟨u, rfl, ru⟩ := vals1 r; obtain rfl : u = Value.ref a := ru
  obtain ⟨e1, e2⟩ := refs_back rv fun x m => by obtain ⟨t, e, _⟩ := hx x m; exact ⟨t, e⟩
  refine SrtO.sorted_pairsO (k := fun u => k (backV u)) hl.isList (by rw [← rv.length]; exact hz) (fun v hv => ?_) fun h' d out h1 h2 kp hd hn => ?_
  · obtain ⟨t, rfl⟩ := e2 v hv
    have hm : V.ref t ∈ xs := by rw [e1]; exact List.mem_map.mpr ⟨_, hv, rfl⟩
    obtain ⟨t', e, ht⟩ := hx _ hm; cases e
    rcases ht with ht | ⟨o, its3, n, hk, hc, hd, _, r3⟩
    · obtain ⟨_, its2, r2, o, ho, hc, n, hd⟩ := I.hok _ _ ht
      obtain ⟨u1, u2, rfl, ri, rj⟩ := vals2 r2; obtain ⟨t1, rfl⟩ := ri; obtain ⟨t2, rfl⟩ := rj
      exact ⟨t, o, t1, t2, n, rfl, ho, hc, hd⟩
    · obtain ⟨u1, u2, e3, ri, rj⟩ := vals2 r3; obtain ⟨t1, rfl⟩ := ri; obtain ⟨t2, rfl⟩ := rj
      have e4 : its3 = #[.int (k (V.ref t)).1 t1, .int (k (V.ref t)).2 t2] := by
        cases its3
        exact congrArg Array.mk e3
      exact ⟨t, o, t1, t2, n, rfl, I.kIn t o hk, hc, by rw [hd, e4]; rfl⟩
  · have h3 : ∀ u ∈ out, ∃ a, u = Value.ref a := fun u hu => e2 u (h2.perm.mem_iff.mp hu)
    obtain ⟨n, hn⟩ := hn
    have hb : SrtO.Stb (ltP k) (out.map backV) xs := by rw [e1]; exact SrtO.Stb.map (ltP_swo k) backV h2
    exact ⟨.ref d, upd H d (.lst (out.map backV)), I.laid (t' := s.toks) kp hd ⟨by rw [hb.len]; exact hz, out, n, vals_back h3, hn⟩, rfl, q _ d (SrtO.srtd_map h1) hb (I.hok.fresh hd)⟩
def fSortP (ds : List D) : Option (List D) := match ds with
  | [.lst [.tup [.int a, .int b], .tup [.int c, .int d]]] => some (if SrtO.lexB (c, d) (a, b) = true then [.tup [.int c, .int d], .tup [.int a, .int b]] else [.tup [.int a, .int b], .tup [.int c, .int d]])
  | _ => none
theorem two_perm {α : Type} {x y : α} {ys : List α} (h : ys.Perm [x, y]) : ys = [x, y] ∨ ys = [y, x] := by
  have hl := h.length_eq
  match ys, hl with
  | [a, b], _ =>
    have ha : a ∈ [x, y] := h.mem_iff.mp (by simp)
    simp only [List.mem_cons, List.not_mem_nil, or_false] at ha
    rcases ha with rfl | rfl
    · have := h.cons_inv
      rw [List.perm_singleton.mp this]
      exact .inl rfl
    · have h2 := h.trans (List.Perm.swap a x [])
      have := h2.cons_inv
      rw [List.perm_singleton.mp this]
      exact .inr rfl
theorem cl_sortP {K : PySem.W.Frag} : CallL K (rSortedPX K) fSortP := by
  intro J H ds es vs Q m p e q
  unfold fSortP at e
  split at e
  · rename_i a b c d
    cases e
    cases p with
    | cons p0 pt =>
      cases pt
      obtain ⟨ad, ws, rfl, ha, r⟩ := p0.lst m
      cases r with
      | cons r1 r =>
        cases r with
        | cons r2 r =>
          cases r
          cases r1 with
          | tup t1 l1 =>
            cases r2 with
            | tup t2 l2 =>
              cases l1 with
              | cons i1 l1 =>
                cases i1
                cases l1 with
                | cons i1 l1 =>
                  cases i1; cases l1
                  cases l2 with
                  | cons i2 l2 =>
                    cases i2
                    cases l2 with
                    | cons i2 l2 =>
                      cases i2; cases l2
                      rename_i ax ay
                      have rx : Rp K J (.tup [.int a, .int b]) (.ref ax) := .tup t1 (.cons (.int a) (.cons (.int b) .nil))
                      have ry : Rp K J (.tup [.int c, .int d]) (.ref ay) := .tup t2 (.cons (.int c) (.cons (.int d) .nil))
                      have up : ∀ {t : Addr} {xs : List V}, TupAt K J t xs → TupAt K H t xs := fun {t xs} h => h.elim (fun h => .inl (m _ _ h)) .inr
                      by_cases hxy : ax = ay
                      · subst hxy
                        refine ⟨ad, _, fun _ => (a, b), rfl, SqL.of ha, fun x hx => ?_, fun ys p hs hb hp => ?_⟩
                        · simp only [List.mem_cons, List.not_mem_nil, or_false, or_self] at hx
                          exact ⟨ax, hx, up t1⟩
                        · have hy : ys = [.ref ax, .ref ax] := (two_perm hb.perm).elim id id
                          rw [hy]
                          refine q p _ _ (Ext.refl m) hp ?_
                          split
                          · exact .cons ry (.cons rx .nil)
                          · exact .cons rx (.cons ry .nil)
                      · have kx : (if V.ref ax = V.ref ax then (a, b) else (c, d)) = (a, b) := if_pos rfl
                        have ky : (if V.ref ay = V.ref ax then (a, b) else (c, d)) = (c, d) := if_neg fun h => hxy (V.ref.inj h).symm
                        refine ⟨ad, _, fun v => if v = .ref ax then (a, b) else (c, d), rfl, SqL.of ha, fun x hx => ?_, fun ys p hs hb hp => ?_⟩
                        · simp only [List.mem_cons, List.not_mem_nil, or_false] at hx
                          rcases hx with rfl | rfl
                          · exact ⟨ax, rfl, by dsimp only; rw [kx]; exact up t1⟩
                          · exact ⟨ay, rfl, by dsimp only; rw [ky]; exact up t2⟩
                        · refine q p _ _ (Ext.refl m) hp ?_
                          rcases two_perm hb.perm with rfl | rfl
                          · have h1 := (List.pairwise_cons.mp hs).1 (.ref ay) (by simp)
                            unfold ltP at h1
                            dsimp only at h1
                            rw [kx, ky] at h1
                            rw [if_neg (by rw [h1]; exact Bool.false_ne_true)]
                            exact .cons rx (.cons ry .nil)
                          · have h1 := (List.pairwise_cons.mp hs).1 (.ref ax) (by simp)
                            unfold ltP at h1
                            dsimp only at h1
                            rw [kx, ky] at h1
                            split
                            · exact .cons ry (.cons rx .nil)
                            · rename_i h2
                              have h3 := SrtO.lexB_no.mp h1
                              have h4 := SrtO.lexB_no.mp (Bool.not_eq_true _ ▸ h2 : SrtO.lexB (c, d) (a, b) = false)
                              dsimp only at h3 h4
                              obtain ⟨rfl, rfl⟩ : a = c ∧ b = d := by omega
                              exact .cons ry (.cons rx .nil)
  · cases e
end
end DL

set_option Elab.async false
set_option linter.all false
set_option maxRecDepth 100000
set_option maxHeartbeats 4000000
/-! DLal: statements that are never reached. -/
namespace DL
open PySem PySem.Spec PyProof.Rows L2
def mBad : Rho → SOut := fun _ => .bad
theorem ds_bad {X : Cx} {B : List Nat} {st : Stmt} : DS X B st mBad := ⟨⟨fun pins s σ H D I q => by
  obtain ⟨_, _, _, _, _, h⟩ := q
  exact h.elim⟩⟩
def mBadE : Rho → Out Hd := fun _ => .bad
theorem dp_bad {X : Cx} {B : List Nat} {e : Expr} : DP X B e mBadE := ⟨⟨fun pins s σ H Q I q => by
  obtain ⟨_, _, _, _, _, _, _, h, _⟩ := q
  cases h⟩⟩
end DL

set_option Elab.async false
set_option linter.all false
set_option maxRecDepth 100000
set_option maxHeartbeats 4000000
/-! DLam: e.lower().replace(y, z); x.extend(list). -/
namespace DL
open PySem PySem.Spec PyProof.Rows L2
def fLowRep (y z : Str) : D → Option D
  | .str a => if a.length ≤ 1000 then some (.str (Txt.replace (Txt.lower a) y z)) else none
  | _ => none
def tLowRep (to : TE) (y z : Str) : TE := fun σ H Q => to σ H fun v H1 => ∃ x, v = .str x ∧ x.length ≤ 1000 ∧ Q (.str (Txt.replace (Txt.lower x) y z)) H1
theorem pe_lowrep {X : Cx} {o : Expr} {to : TE} {y z : Str} {j k : Nat} {c0 c1 apos pos a1 p1 : Pos} (ho : PE X o to) (hyz : (y == z) = false := by decide) (hz : z.length ≤ 1 := by decide)
    (hst : starEach [.Constant (.str y) j c0, .Constant (.str z) k c1] X.env = [(false, eval (.Constant (.str y) j c0) X.env), (false, eval (.Constant (.str z) k c1) X.env)] := by rfl)
    (hbase0 : attributeBase o "lower" X.env (eval o X.env) = eval o X.env := by rfl) (hline0 : (a1.endLine == p1.line) = true := by rfl)
    (hbase : attributeBase (.Call (.Attribute o "lower" a1) [] [] p1) "replace" X.env (eval (.Call (.Attribute o "lower" a1) [] [] p1) X.env) = eval (.Call (.Attribute o "lower" a1) [] [] p1) X.env := by rfl) (hline : (apos.endLine == pos.line) = true := by rfl) :
    PE X (.Call (.Attribute (.Call (.Attribute o "lower" a1) [] [] p1) "replace" apos) [.Constant (.str y) j c0, .Constant (.str z) k c1] [] pos) (tLowRep to y z) := by
  refine ⟨fun pins s σ H Q I h => ?_⟩
  refine PySem.Call_method2 hbase hst hline (PySem.Call_method0 hbase0 hline0 (thn (ho.run pins s σ H _ I h) fun v s1 ⟨x, H1, I1, r1, q1⟩ => ?_))
  obtain ⟨a, rfl, hl, q⟩ := q1
  obtain ⟨t, rfl⟩ := _root_.id r1
  refine ⟨"str", _, F.plainAttrs_str, F.slot_str_lower, F.type_str_lower, typeIs_str _ _ _, (fun _ e => nomatch e), Calls.callWith_builtin rfl (PySem.evalArgs_none ?_)⟩
  have h3 := PyProof.Rows.len_lower a
  refine PySem.SC.lower (PyProof.Rows.short24 (by omega)) ?_
  refine ⟨"str", _, PySem.F.plainAttrs_str, PySem.F.slot_str_replace, PySem.F.type_str_replace, typeIs_str _ _ _, (fun _ e => nomatch e), Calls.callWith_builtin rfl (Calls.evalArgs_plain (Calls.spliced_cons ?_))⟩
  refine Calls.Constant_str (Calls.spliced_cons (Calls.Constant_str (Calls.spliced_nil ?_)))
  have hb : (Txt.lower a).length + ((Txt.lower a).length + 1) * z.length ≤ 16777216 := by
    have := Nat.mul_le_mul_left ((Txt.lower a).length + 1) hz
    omega
  exact PySem.SC.replace (by show s1.toks + 1 ≠ 0; omega) (by show s1.toks + 1 + 1 ≠ 0; omega) (by show s1.toks + 1 ≠ s1.toks + 1 + 1; omega) hyz hb fun t' k => ⟨.str (Txt.replace (Txt.lower a) y z), H1, I1.tok k, ⟨t', rfl⟩, q⟩
section
variable {X : Cx} {B : List Nat} {e : Expr} {pos : Pos} {m : Rho → Out Hd}
theorem dp_lowrep {o : Expr} {y z : Str} {j k : Nat} {c0 c1 apos pos a1 p1 : Pos} (ho : DP X B o m) (hyz : (y == z) = false := by decide) (hz : z.length ≤ 1 := by decide)
    (hst : starEach [.Constant (.str y) j c0, .Constant (.str z) k c1] X.env = [(false, eval (.Constant (.str y) j c0) X.env), (false, eval (.Constant (.str z) k c1) X.env)] := by rfl)
    (hbase0 : attributeBase o "lower" X.env (eval o X.env) = eval o X.env := by rfl) (hline0 : (a1.endLine == p1.line) = true := by rfl)
    (hbase : attributeBase (.Call (.Attribute o "lower" a1) [] [] p1) "replace" X.env (eval (.Call (.Attribute o "lower" a1) [] [] p1) X.env) = eval (.Call (.Attribute o "lower" a1) [] [] p1) X.env := by rfl) (hline : (apos.endLine == pos.line) = true := by rfl) :
    DP X B (.Call (.Attribute (.Call (.Attribute o "lower" a1) [] [] p1) "replace" apos) [.Constant (.str y) j c0, .Constant (.str z) k c1] [] pos) (mUn (fLowRep y z) m) := ⟨pe_weak (pe_lowrep ho.pe hyz hz hst hbase0 hline0 hbase hline) fun σ H Q ⟨σ0, F, J, ρ, h, ρ', c, e0, q⟩ => by
  obtain ⟨h1, d1, d, e1, e3, e5, rfl⟩ := mUn_ok e0
  refine ⟨σ0, F, J, ρ, h1, _, c, e1, fun J1 H1 v1 c1 s1 r1 => ?_⟩
  have w := c1.res r1 e3
  unfold fLowRep at e5
  split at e5
  · split at e5
    · rename_i a hz
      cases e5
      cases w.str
      exact ⟨_, rfl, hz, q J1 H1 _ c1 s1 (show HRel _ _ _ (Hd.dat _) _ from Rp.str _)⟩
    · cases e5
  · cases e5⟩
/-- x.extend(e), e a list -/
def mExt (i : Nat) (m : Rho → Out Hd) : Rho → SOut := fun ρ => match ρ[i]? with
  | some (some (.ol _)) => match mS m ρ with
    | .ok (.sh (.lst es)) ρ1 => match ρ1[i]? with
      | some (some (.ol ds)) => if ds.length + es.length < 1000000 then .nx (ρ1.set i (some (.ol (ds ++ es)))) else .bad
      | _ => .bad
    | _ => .bad
  | _ => .bad
theorem ds_extend (i : Nat) {x : Str} {px apos cpos : Pos} (he : DP X B e m) (hN : X.N[i]? = some x := by rfl) (hv : Vis X.env.scope x := by first | exact Or.inl rfl | exact Or.inr (Or.inl rfl) | exact Or.inr (Or.inr rfl)) (hd : (x == ("__debug__" : Str)) = false := by decide) (hcd : (x == ("__classdict__" : Str)) = false := by decide)
    (hbase : attributeBase (.Name x px) "extend" X.env (eval (.Name x px) X.env) = eval (.Name x px) X.env := by rfl)
    (hfew : ((backTo cpos (starEach [e] X.env)).all (fun x => !x.1) && (backToKw cpos (keywordEach [] X.env)).all (fun x => x.1.isSome)
      && decide ([e].length + ([] : List Keyword).length + (if ([] : List Keyword).isEmpty then 0 else 1) < 30)) = true := by rfl)
    (hline : (apos.endLine == cpos.line) = true := by rfl) (hst : starEach [e] X.env = (false, eval e X.env) :: starEach [] X.env := by rfl) (hplain : (backTo cpos (starEach [] X.env)).any (·.1) = false := by rfl)
    (hs : swapsWith (.Call (.Attribute (.Name x px) "extend" apos) [e] [] cpos) none pos.line X.env = pure false := by rfl) :
    DS X B (.Expr (.Call (.Attribute (.Name x px) "extend" apos) [e] [] cpos) pos) (mExt i m) :=
  ⟨ps_weak (ps_expr (pe_bm PySem.F.plainAttrs_list PySem.F.slot_list_extend PySem.F.type_list_extend mt_extend (pe_var hN hv hd hcd) (pa_cons (do_of_dp he).pe pa_nil hst) hbase hfew hline hst hplain) hs) fun D σ H ⟨σ0, F, J, ρ, c, q⟩ => by
  unfold mExt at q
  split at q
  · rename_i ds0 h0
    obtain ⟨l, vs0, el, hl, _⟩ := c.olAt h0
    split at q
    · rename_i es ρ1 e1
      split at q
      · rename_i ds h1
        split at q
        · rename_i hz
          refine ⟨_, el, .inl ⟨rfl, vs0, SqL.of hl⟩, σ0, F, J, ρ, .sh (.lst es), ρ1, c, e1, fun J1 H1 v1 c1 s1 => ?_⟩
          have c2 := c1.pop c.lb
          obtain ⟨l', vs, el', hl', r⟩ := c2.olAt h1
          rw [el] at el'
          cases el'
          have w := c1.shAt
          cases w with
          | lst hb rb =>
            rename_i b vb
            have hB : H1 b = some (.lst vb) := c2.jm _ _ hb
            refine ⟨l, b, vs, vb, rfl, rfl, hl', hB, by rw [← r.len, ← rb.len]; exact Nat.le_of_lt (small_line (n := ds.length + es.length) (by omega)), ?_⟩
            exact q J1 σ _ (c2.olSet h1 el (r.app rb)) s1
        · exact q.elim
      · exact q.elim
    · exact q.elim
  · exact q.elim⟩
end
/-! ### reckoning -/
def kExt3 (i : Nat) (es : List D) (ρ : Rho) (o : Option (Option R)) : SOut := match o with
  | some (some (.ol ds)) => if ds.length + es.length < 1000000 then .nx (ρ.set i (some (.ol (ds ++ es)))) else .bad
  | _ => .bad
def kExt2 (i : Nat) (o : Out R) : SOut := match o with
  | .ok (.sh (.lst es)) ρ => kExt3 i es ρ ρ[i]?
  | _ => .bad
def kExt1 (i : Nat) (m : Rho → Out Hd) (ρ : Rho) (o : Option (Option R)) : SOut := match o with
  | some (some (.ol _)) => kExt2 i (mS m ρ)
  | _ => .bad
theorem ev_Ext (i : Nat) (m : Rho → Out Hd) (ρ : Rho) : mExt i m ρ = kExt1 i m ρ ρ[i]? := (rfl)
theorem kExt1_ (i : Nat) (m : Rho → Out Hd) (ρ : Rho) (ds : List D) : kExt1 i m ρ (some (some (.ol ds))) = kExt2 i (mS m ρ) := (rfl)
theorem kExt2_ (i : Nat) (es : List D) (ρ : Rho) : kExt2 i (.ok (.sh (.lst es)) ρ) = kExt3 i es ρ ρ[i]? := (rfl)
theorem kExt3_ (i : Nat) (es : List D) (ρ : Rho) (ds : List D) : kExt3 i es ρ (some (some (.ol ds))) = if ds.length + es.length < 1000000 then .nx (ρ.set i (some (.ol (ds ++ es)))) else .bad := (rfl)
end DL

set_option Elab.async false
set_option linter.all false
set_option maxRecDepth 100000
set_option maxHeartbeats 4000000
/-! DLn: the state of the draws as one thing; what operations tell, constructor by constructor. Printed by mkn.py. -/
namespace DL
open PySem PySem.Spec PyProof.Rows L2
/-! ### the state of the draws -/
structure Dw where
  n : Int
  cs : List Int
  ne : cs ≠ []
def stR (s : Dw) : R := .st s.n s.cs
theorem takeC2_ne {n : Int} {cs : List Int} {m : Int} (h : cs ≠ []) : takeC2 n cs m ≠ [] := by
  unfold takeC2
  split
  · intro z
    have := congrArg List.length z
    rw [List.length_set] at this
    exact h (List.length_eq_zero_iff.mp this)
  · exact h
def Dw.val (s : Dw) (m : Int) : Int := takeV2 s.n s.cs m
def Dw.adv (s : Dw) (m : Int) : Dw := ⟨takeN2 s.n s.cs m, takeC2 s.n s.cs m, takeC2_ne s.ne⟩
theorem take2_run (s : Dw) {m : Int} (h0 : 0 < m) (h1 : m < 18446744073709551616) : takeF2 [stR s, .sh (.int m)] = some (.sh (.int (s.val m)), [stR (s.adv m), .sh (.int m)]) := takeF2_eq s.ne h0 h1
theorem Dw.rng (s : Dw) {m : Int} (h0 : 0 < m) : 0 ≤ s.val m ∧ s.val m < m := by
  unfold Dw.val takeV2
  split
  · exact ⟨Int.emod_nonneg _ (by omega), Int.emod_lt_of_pos _ h0⟩
  · exact ⟨Int.emod_nonneg _ (by omega), Int.emod_lt_of_pos _ h0⟩
theorem state_run (ns : List Int) : ∃ s : Dw, f_law_state [.scr ns] = some (stR s, [.scr ns]) := by
  obtain ⟨cs, g, e⟩ := state_eq ns
  exact ⟨⟨0, cs, g⟩, e⟩
/-! ### results -/
theorem col_in0 (r r' : R) (rs : List R) : kCo2 [0] 0 r rs (some (some r')) = some (r' :: rs) := kCo2_in _ _ _ _ _ (by decide)
theorem col_out0 (k : Nat) (d : D) (rs : List R) (o : Option (Option R)) : kCo2 [0] (k + 1) (.sh d) rs o = some (.sh d :: rs) := kCo2_out _ _ _ _ _ (by simp)
theorem col_outN (k : Nat) (d : D) (rs : List R) (o : Option (Option R)) : kCo2 [] k (.sh d) rs o = some (.sh d :: rs) := kCo2_out _ _ _ _ _ (by simp)
theorem kIf_dec (a b : Rho → SOut) (p : Prop) [Decidable p] (ρ : Rho) : kIf a b (.ok (decide p) ρ) = if p then a ρ else b ρ := by
  by_cases h : p
  · rw [decide_eq_true h, if_pos h]; rfl
  · rw [decide_eq_false h, if_neg h]; rfl
theorem kIfE_dec (a b : Rho → Out Hd) (p : Prop) [Decidable p] (ρ : Rho) : kIfE a b (decide p) ρ = if p then a ρ else b ρ := by
  by_cases h : p
  · rw [decide_eq_true h, if_pos h]; rfl
  · rw [decide_eq_false h, if_neg h]; rfl
theorem Dw.lo (s : Dw) {m : Int} (h : 0 < m) : 0 ≤ s.val m := (s.rng h).1
theorem Dw.hi (s : Dw) {m : Int} (h : 0 < m) : s.val m < m := (s.rng h).2
/-! ### picks out of short lists -/
def pk (ds : List D) (v : Int) : D := ds.getD v.toNat .non
theorem pk_at (ds : List D) (s : Dw) {m : Int} (h : 0 < m) (h2 : m.toNat ≤ ds.length) : atI ds (s.val m) = some (pk ds (s.val m)) := by
  have r := s.rng h
  have hl : (s.val m).toNat < ds.length := by omega
  rw [atI_lt r.1 (by omega), List.getElem?_eq_getElem hl]
  unfold pk
  rw [List.getD_eq_getElem?_getD, List.getElem?_eq_getElem hl, Option.getD_some]
theorem pk_mem (ds : List D) (s : Dw) {m : Int} (h : 0 < m) (h2 : m.toNat ≤ ds.length) : pk ds (s.val m) ∈ ds := by
  have r := s.rng h
  have hl : (s.val m).toNat < ds.length := by omega
  unfold pk
  rw [List.getD_eq_getElem?_getD, List.getElem?_eq_getElem hl, Option.getD_some]
  exact List.getElem_mem hl
/-! ### loops whose slots are a function of a state -/
def runC {σ α : Type} (step : σ → α → Option D × σ) : σ → List α → List D × σ
  | s, [] => ([], s)
  | s, x :: xs => ((step s x).1.toList ++ (runC step (step s x).2 xs).1, (runC step (step s x).2 xs).2)
theorem lF_ok {vs : List Nat} {g : D → Rho → Option Rho} {mt : Rho → Out Bool} {me : Rho → Out R} {d : D} {ρ ρ2 : Rho} {x : Option D} (h : lF' vs g mt me d ρ = .ok x ρ2) (ds : List D) :
    compL vs g mt me (d :: ds) ρ = (compL vs g mt me ds ρ2).bind fun xs ρ4 => .ok (x.toList ++ xs) ρ4 := by
  rw [ev_compC]
  unfold lF' at h
  cases e1 : g d ρ with
  | none => rw [e1] at h; cases h
  | some ρ1 =>
    rw [e1, kF1_] at h
    rw [kC1_]
    cases e3 : mt ρ1 with
    | bad => rw [e3] at h; cases h
    | ok b ρ3 =>
      rw [e3] at h
      rw [bind_ok']
      cases b with
      | true =>
        rw [kF2t] at h
        rw [kC2t]
        cases e4 : me ρ3 with
        | bad => rw [e4] at h; cases h
        | ok r ρ4 =>
          rw [e4] at h
          cases r with
          | sh d' =>
            rw [kF3_] at h
            cases h
            rw [kC3_]
            cases compL vs g mt me ds (wipeR ρ4 vs) <;> rfl
          | _ => cases h
      | false =>
        rw [kF2f] at h
        cases h
        rw [kC2f]
        cases compL vs g mt me ds (wipeR ρ3 vs) <;> rfl
theorem lc_run {σ α : Type} {vs : List Nat} {mi : Rho → Out (List D)} {g : D → Rho → Option Rho} {mt : Rho → Out Bool} {me : Rho → Out R} {ρ ρ1 : Rho} (enc : α → D) (St : σ → Rho) (I : σ → Prop) (step : σ → α → Option D × σ) (xs : List α) {s : σ}
    (hi : mi ρ = .ok (xs.map enc) ρ1) (hw : wipeR ρ1 vs = St s) (hl : xs.length ≤ 1000000) (h0 : I s)
    (hh : ∀ x ∈ xs, ∀ s, I s → lF' vs g mt me (enc x) (St s) = .ok (step s x).1 (St (step s x).2) ∧ I (step s x).2) :
    mLc vs mi g mt me ρ = .ok (.ol (runC step s xs).1) (St (runC step s xs).2) ∧ I (runC step s xs).2 := by
  have key : ∀ (xs : List α) (s : σ), I s → (∀ x ∈ xs, ∀ s, I s → lF' vs g mt me (enc x) (St s) = .ok (step s x).1 (St (step s x).2) ∧ I (step s x).2) → compL vs g mt me (xs.map enc) (St s) = .ok (runC step s xs).1 (St (runC step s xs).2) ∧ I (runC step s xs).2 := by
    intro xs
    induction xs with
    | nil => intro s h0 _; exact ⟨rfl, h0⟩
    | cons x xs ih =>
      intro s h0 hh
      obtain ⟨e, h1⟩ := hh x (by simp) s h0
      obtain ⟨e2, h2⟩ := ih _ h1 fun y hy => hh y (by simp [hy])
      refine ⟨?_, h2⟩
      rw [List.map_cons, lF_ok e, e2]
      rfl
  obtain ⟨e, h⟩ := key xs s h0 hh
  refine ⟨?_, h⟩
  unfold mLc
  rw [hi, bind_ok', if_pos (by rw [List.length_map]; exact hl), hw, e]
  rfl
theorem runC_sub {σ α : Type} (step : σ → α → Option D × σ) (Q : D → Prop) : ∀ (xs : List α) (s : σ), (∀ x ∈ xs, ∀ s d, (step s x).1 = some d → Q d) → ∀ d ∈ (runC step s xs).1, Q d
  | [], s, _, d, h => by cases h
  | x :: xs, s, hh, d, h => by
    rcases List.mem_append.mp h with h | h
    · cases e : (step s x).1 with
      | none => rw [e] at h; cases h
      | some y =>
        rw [e] at h
        have := List.mem_singleton.mp h
        subst this
        exact hh x (by simp) s d e
    · exact runC_sub step Q xs _ (fun y hy => hh y (by simp [hy])) d h
theorem runC_len {σ α : Type} (step : σ → α → Option D × σ) : ∀ (xs : List α) (s : σ), (runC step s xs).1.length ≤ xs.length
  | [], s => Nat.le_refl _
  | x :: xs, s => by
    show ((step s x).1.toList ++ (runC step (step s x).2 xs).1).length ≤ _
    rw [List.length_append, List.length_cons]
    have := runC_len step xs (step s x).2
    have : (step s x).1.toList.length ≤ 1 := by cases (step s x).1 <;> simp
    omega
theorem ofS_eq (a b : String) : (Str.ofString a = Str.ofString b) = (a = b) := by
  refine propext ⟨fun h => ?_, fun h => by rw [h]⟩
  rw [Str.ofString_eq_toList, Str.ofString_eq_toList] at h
  have h := congrArg (fun s : Str => s.cps.toList) h
  dsimp only at h
  have h2 : ∀ l m : List Char, l.map Char.toNat = m.map Char.toNat → l = m := by
    intro l
    induction l with
    | nil => intro m h; cases m with
      | nil => rfl
      | cons c m => cases h
    | cons c l ih => intro m h; cases m with
      | nil => cases h
      | cons d m =>
        obtain ⟨h3, h4⟩ := List.cons.inj h
        rw [ih m h4, Char.ext (UInt32.toNat_inj.mp h3)]
  exact String.toList_inj.mp (h2 _ _ h)
/-! ### operations -/
theorem add_ii (i j : Int) : fAdd (.int i) (.int j) = some (.int (i + j)) := (rfl)
theorem castL (n : Nat) : ((no_index (OfNat.ofNat n) : Nat) : Int) = (OfNat.ofNat n : Int) := rfl
theorem add_tt {xs ys : List D} (h : xs.length + ys.length ≤ 100000) : fAdd (.tup xs) (.tup ys) = some (.tup (xs ++ ys)) := if_pos (le_line h)
theorem add_ll {xs ys : List D} (h : xs.length + ys.length ≤ 100000) : fAdd (.lst xs) (.lst ys) = some (.lst (xs ++ ys)) := if_pos (le_line h)
theorem shm_c (d : D) (ds : List D) : (d :: ds).map R.sh = R.sh d :: ds.map R.sh := (rfl)
theorem shm_n : ([] : List D).map R.sh = [] := (rfl)
theorem opt_some {α : Type} (a : α) (ρ : Rho) : Out.opt (some a) ρ = .ok a ρ := (rfl)
theorem sub_ii (i j : Int) : fSub (.int i) (.int j) = some (.int (i - j)) := (rfl)
theorem mod_ii {i j : Int} (h : 0 < j) : fMod (.int i) (.int j) = some (.int (i % j)) := if_pos h
theorem div_ii {i j : Int} (h : 0 < j) (h2 : j < 18446744073709551616) : fDiv (.int i) (.int j) = some (.int (i / j)) := if_pos ⟨h, h2⟩
theorem mul_li {i j : Int} (h : -18446744073709551616 < i) (h2 : i < 18446744073709551616) : fMul (.int i) (.int j) = some (.int (i * j)) := if_pos (.inl ⟨h, h2⟩)
theorem mul_lj {i j : Int} (h : -18446744073709551616 < j) (h2 : j < 18446744073709551616) : fMul (.int i) (.int j) = some (.int (i * j)) := if_pos (.inr ⟨h, h2⟩)
theorem mulS_ii (i j : Int) : fMulS (.int i) (.int j) = fMul (.int i) (.int j) := (rfl)
theorem mulS_l (ds : List D) (d : D) : fMulS (.lst ds) d = fMul (.lst ds) d := (rfl)
theorem mulS_t (ds : List D) (d : D) : fMulS (.tup ds) d = fMul (.tup ds) d := (rfl)
theorem pow_ii {i j : Int} (h : 0 ≤ j ∧ j ≤ 1000000 ∧ i.natAbs < 2 ^ 64) : fPow (.int i) (.int j) = some (.int (i ^ j.toNat)) := if_pos h
theorem neg_i (i : Int) : fNeg (.int i) = some (.int (-i)) := (rfl)
theorem lt_ii (i j : Int) : fLt (.int i) (.int j) = some (.bl (decide (i < j))) := (rfl)
theorem le_ii (i j : Int) : fLe (.int i) (.int j) = some (.bl (decide (i ≤ j))) := (rfl)
theorem gt_ii (i j : Int) : fGt (.int i) (.int j) = some (.bl (decide (j < i))) := (rfl)
theorem ge_ii (i j : Int) : fGe (.int i) (.int j) = some (.bl (decide (j ≤ i))) := (rfl)
theorem fEq_ (d e : D) : fEq d e = (deq d e).map .bl := (rfl)
theorem fNe_ (d e : D) : fNe d e = (deq d e).map fun b => .bl (!b) := (rfl)
theorem ix_t (ds : List D) (i : Int) : fIxD (.tup ds) (.int i) = atI ds i := (rfl)
theorem ix_l (ds : List D) (i : Int) : fIxD (.lst ds) (.int i) = atI ds i := (rfl)
theorem ix_ks (kvs : List (Key × D)) (x : Str) : fIxD (.dK kvs) (.str x) = valD kvs (Sum.inr x) := (rfl)
theorem ix_ki (kvs : List (Key × D)) (x : Int) : fIxD (.dK kvs) (.int x) = valD kvs (Sum.inl x) := (rfl)
theorem fInt_bt : fIntT [.bl true] = some (.int 1) := (rfl)
theorem fInt_bf : fIntT [.bl false] = some (.int 0) := (rfl)
theorem fInt_bd (p : Prop) [Decidable p] : fIntT [.bl (decide p)] = some (.int (if p then 1 else 0)) := by by_cases h : p <;> simp [h, fIntT, fInt]
theorem fI_i (i : Int) : fInt [.int i] = some (.int i) := (rfl)
theorem len_l (ds : List D) : fLen [.lst ds] = some (.int ds.length) := (rfl)
theorem len_t (ds : List D) : fLen [.tup ds] = some (.int ds.length) := (rfl)
theorem tuple_l (ds : List D) : fTuple [.lst ds] = some (.tup ds) := (rfl)
theorem tuple_t (ds : List D) : fTuple [.tup ds] = some (.tup ds) := (rfl)
theorem list_l (ds : List D) : fList [.lst ds] = some ds := (rfl)
theorem list_t (ds : List D) : fList [.tup ds] = some ds := (rfl)
theorem abs_i (i : Int) : fAbs [.int i] = some (.int (if i < 0 then -i else i)) := (rfl)
theorem min_ii (i j : Int) : fMin [.int i, .int j] = some (.int (if j < i then j else i)) := (rfl)
theorem max_ii (i j : Int) : fMax [.int i, .int j] = some (.int (if j > i then j else i)) := (rfl)
theorem zip_tt (a b : List D) : fZip [.tup a, .tup b] = some (zipD a b) := (rfl)
theorem zip_ll (a b : List D) : fZip [.lst a, .lst b] = some (zipD a b) := (rfl)
theorem is2_n (d : D) : fIs2 d .non = some (.bl (DL.isNon d)) := (rfl)
theorem isnot2_n (d : D) : fIsNot2 d .non = some (.bl (!DL.isNon d)) := (rfl)
theorem nonQ_non : DL.isNon (.non) = true := (rfl)
theorem nonQ_bl (b : Bool) : DL.isNon (.bl b) = false := (rfl)
theorem nonQ_int (i : Int) : DL.isNon (.int i) = false := (rfl)
theorem nonQ_str (x : Str) : DL.isNon (.str x) = false := (rfl)
theorem nonQ_tup (ds : List D) : DL.isNon (.tup ds) = false := (rfl)
theorem nonQ_lst (ds : List D) : DL.isNon (.lst ds) = false := (rfl)
theorem nonQ_dK (kvs : List (Key × D)) : DL.isNon (.dK kvs) = false := (rfl)
theorem isi_non_int : fIsi [(.non), .ty "int"] = some (.bl false) := (rfl)
theorem isi_non_bool : fIsi [(.non), .ty "bool"] = some (.bl false) := (rfl)
theorem isi_non_str : fIsi [(.non), .ty "str"] = some (.bl false) := (rfl)
theorem isi_non_tuple : fIsi [(.non), .ty "tuple"] = some (.bl false) := (rfl)
theorem isi_non_list : fIsi [(.non), .ty "list"] = some (.bl false) := (rfl)
theorem isi_non_dict : fIsi [(.non), .ty "dict"] = some (.bl false) := (rfl)
theorem isi_bl_int (b : Bool) : fIsi [(.bl b), .ty "int"] = some (.bl true) := (rfl)
theorem isi_bl_bool (b : Bool) : fIsi [(.bl b), .ty "bool"] = some (.bl true) := (rfl)
theorem isi_bl_str (b : Bool) : fIsi [(.bl b), .ty "str"] = some (.bl false) := (rfl)
theorem isi_bl_tuple (b : Bool) : fIsi [(.bl b), .ty "tuple"] = some (.bl false) := (rfl)
theorem isi_bl_list (b : Bool) : fIsi [(.bl b), .ty "list"] = some (.bl false) := (rfl)
theorem isi_bl_dict (b : Bool) : fIsi [(.bl b), .ty "dict"] = some (.bl false) := (rfl)
theorem isi_int_int (i : Int) : fIsi [(.int i), .ty "int"] = some (.bl true) := (rfl)
theorem isi_int_bool (i : Int) : fIsi [(.int i), .ty "bool"] = some (.bl false) := (rfl)
theorem isi_int_str (i : Int) : fIsi [(.int i), .ty "str"] = some (.bl false) := (rfl)
theorem isi_int_tuple (i : Int) : fIsi [(.int i), .ty "tuple"] = some (.bl false) := (rfl)
theorem isi_int_list (i : Int) : fIsi [(.int i), .ty "list"] = some (.bl false) := (rfl)
theorem isi_int_dict (i : Int) : fIsi [(.int i), .ty "dict"] = some (.bl false) := (rfl)
theorem isi_str_int (x : Str) : fIsi [(.str x), .ty "int"] = some (.bl false) := (rfl)
theorem isi_str_bool (x : Str) : fIsi [(.str x), .ty "bool"] = some (.bl false) := (rfl)
theorem isi_str_str (x : Str) : fIsi [(.str x), .ty "str"] = some (.bl true) := (rfl)
theorem isi_str_tuple (x : Str) : fIsi [(.str x), .ty "tuple"] = some (.bl false) := (rfl)
theorem isi_str_list (x : Str) : fIsi [(.str x), .ty "list"] = some (.bl false) := (rfl)
theorem isi_str_dict (x : Str) : fIsi [(.str x), .ty "dict"] = some (.bl false) := (rfl)
theorem isi_tup_int (ds : List D) : fIsi [(.tup ds), .ty "int"] = some (.bl false) := (rfl)
theorem isi_tup_bool (ds : List D) : fIsi [(.tup ds), .ty "bool"] = some (.bl false) := (rfl)
theorem isi_tup_str (ds : List D) : fIsi [(.tup ds), .ty "str"] = some (.bl false) := (rfl)
theorem isi_tup_tuple (ds : List D) : fIsi [(.tup ds), .ty "tuple"] = some (.bl true) := (rfl)
theorem isi_tup_list (ds : List D) : fIsi [(.tup ds), .ty "list"] = some (.bl false) := (rfl)
theorem isi_tup_dict (ds : List D) : fIsi [(.tup ds), .ty "dict"] = some (.bl false) := (rfl)
theorem isi_lst_int (ds : List D) : fIsi [(.lst ds), .ty "int"] = some (.bl false) := (rfl)
theorem isi_lst_bool (ds : List D) : fIsi [(.lst ds), .ty "bool"] = some (.bl false) := (rfl)
theorem isi_lst_str (ds : List D) : fIsi [(.lst ds), .ty "str"] = some (.bl false) := (rfl)
theorem isi_lst_tuple (ds : List D) : fIsi [(.lst ds), .ty "tuple"] = some (.bl false) := (rfl)
theorem isi_lst_list (ds : List D) : fIsi [(.lst ds), .ty "list"] = some (.bl true) := (rfl)
theorem isi_lst_dict (ds : List D) : fIsi [(.lst ds), .ty "dict"] = some (.bl false) := (rfl)
theorem isi_dK_int (kvs : List (Key × D)) : fIsi [(.dK kvs), .ty "int"] = some (.bl false) := (rfl)
theorem isi_dK_bool (kvs : List (Key × D)) : fIsi [(.dK kvs), .ty "bool"] = some (.bl false) := (rfl)
theorem isi_dK_str (kvs : List (Key × D)) : fIsi [(.dK kvs), .ty "str"] = some (.bl false) := (rfl)
theorem isi_dK_tuple (kvs : List (Key × D)) : fIsi [(.dK kvs), .ty "tuple"] = some (.bl false) := (rfl)
theorem isi_dK_list (kvs : List (Key × D)) : fIsi [(.dK kvs), .ty "list"] = some (.bl false) := (rfl)
theorem isi_dK_dict (kvs : List (Key × D)) : fIsi [(.dK kvs), .ty "dict"] = some (.bl true) := (rfl)
theorem tru_non : tru (.non) = some false := (rfl)
theorem tru_bl (b : Bool) : tru (.bl b) = some b := (rfl)
theorem tru_int (i : Int) : tru (.int i) = some (i != 0) := (rfl)
theorem tru_str (x : Str) : tru (.str x) = tru (.str x) := (rfl)
theorem tru_tup (ds : List D) : tru (.tup ds) = tru (.tup ds) := (rfl)
theorem mapSome {α β : Type} (f : α → β) (a : α) : Option.map f (some a) = some (f a) := (rfl)
theorem shr_ii {i j : Int} (h : 0 ≤ j) : fShr (.int i) (.int j) = some (.int (i / 2 ^ j.toNat)) := if_pos h
/-- all of these at once, for simp -/
def nsAll0 := And.intro @ev_F (And.intro @ev_S (And.intro @ev_V (And.intro @ev_Mv (And.intro @ev_C (And.intro @ev_Bin (And.intro @ev_Chain (And.intro @ev_Un (And.intro @ev_Tst (And.intro @ev_Tru (And.intro @ev_And (And.intro @ev_Or (And.intro @ev_Not (And.intro @ev_AndV (And.intro @ev_OrV (And.intro @ev_NotV (And.intro @ev_IfE (And.intro @ev_Nil (And.intro @ev_Cons (And.intro @ev_Fz (And.intro @ev_Tup (And.intro @ev_Lst (And.intro @ev_Res (And.intro @ev_Call (And.intro @ev_CallL (And.intro @ev_Fn (And.intro @ev_Fn1 (And.intro @ev_Q0 (And.intro @ev_Q1 (And.intro @ev_Sl (And.intro @ev_Mt (And.intro @ev_Next (And.intro @ev_Brk (And.intro @ev_Cnt (And.intro @ev_Seq (And.intro @ev_Drop (And.intro @ev_Ret (And.intro @ev_RetN (And.intro @ev_If (And.intro @ev_Set (And.intro @ev_Asg (And.intro @ev_Aug (And.intro @ev_ItS (And.intro @ev_ItR (And.intro @ev_For (And.intro @ev_forN (And.intro @ev_True (And.intro @ev_App (And.intro @ev_SetL (And.intro @ev_fnM (And.intro @ev_at (And.intro @ev_atD (And.intro @ev_rs (And.intro @ev_rsD (And.intro @oD_s (And.intro @oB_s (And.intro @oL_s (And.intro @oDs_s (And.intro @kF_ (And.intro @kS_ (And.intro @kS2_ (And.intro @kV_ (And.intro @kM_ (And.intro @kBin3_ (And.intro @kBin2_ (And.intro @kBin1_ (And.intro @kCh4_ (And.intro @kCh3t (And.intro @kCh3f (And.intro @kCh2'_ (And.intro @kCh2_ (And.intro @kCh1_ (And.intro @kUn2_ (And.intro @kUn_ (And.intro @kTst2_ (And.intro @kTst_ (And.intro @kTru2_ (And.intro @kTru_ (And.intro @kAndt (And.intro @kAndf (And.intro @kOrt (And.intro @kOrf (And.intro @kNot_ (And.intro @kAndVt (And.intro @kAndVf (And.intro @kOrVt (And.intro @kOrVf (And.intro @kNotV_ (And.intro @kIfEt (And.intro @kIfEf (And.intro @kCons2_ (And.intro @kCons_ (And.intro @kFz2_ (And.intro @kFz_ (And.intro @kTup_ (And.intro @kLst_ (And.intro @kRes_ (And.intro @kCall_ (And.intro @kCallL_ (And.intro @kFn3_ (And.intro @kFn2_ (And.intro @kFn_ (And.intro @kG4_ (And.intro @kG3_ (And.intro @kG2_ (And.intro @kG1_ (And.intro @kG0_ (And.intro @kQ_ (And.intro @kQ1_ (And.intro @kSl4_ (And.intro @kSl3_ (And.intro @kSl2_ (And.intro @kSl1_ (And.intro @kSeq_nx (And.intro @kSeq_rt (And.intro @kSeq_bk (And.intro @kSeq_ct (And.intro @kDrop_ (And.intro @kRet_ (And.intro @kIft (And.intro @kIff (And.intro @kSet_ (And.intro @kAsg2_ (And.intro @kAsg_ (And.intro @kAug4_ (And.intro @kAug3_ (And.intro @kAug2_ (And.intro @kAug1_ (And.intro @kIt2l (And.intro @kIt2t (And.intro @kIt_ (And.intro @kItR_ (And.intro @kFor_ (And.intro @kFo2n (And.intro @kFo2c (And.intro @kFo2b (And.intro @kFo2r (And.intro @kFo1_ (And.intro @kW2n (And.intro @kW2c (And.intro @kW2b (And.intro @kW2r (And.intro @kW1t (And.intro @kW1f (And.intro @kLc2_ (And.intro @kLc1_ (And.intro @kC4_ (And.intro @kC3_ (And.intro @kC2t (And.intro @kC2f (And.intro @kC1_ (And.intro @kApp3_ (And.intro @kApp2_ (And.intro @kApp1_ (And.intro @kSL5_ (And.intro @kSL4_ (And.intro @kSL3_ (And.intro @kSL2_ (And.intro @kSL1_ (And.intro @kSL0_ (And.intro @kFM_rt (And.intro @kFM_nx (And.intro @kMt3_ (And.intro @kMt2_ (And.intro @kMt1_ (And.intro @kMt_ (And.intro @kAt_sh (And.intro @kAt_ol (And.intro @kAt_oK (And.intro @kRs_sh (And.intro @kRs_ol (And.intro @kRs_oK (And.intro @frz_sh (And.intro @frz_ol (And.intro @frz_oK (And.intro @flat_ol (And.intro @flat_oK (And.intro @flat_sh (And.intro @flat_int (And.intro @flat_bl (And.intro @flat_str (And.intro @flat_non (And.intro @flat_tup (And.intro @flat_lst (And.intro @flat_dK (And.intro @gNm_ (And.intro @gNil_ (And.intro @gTup_ (And.intro @resL_n (And.intro @fzL_n (And.intro @wipeR_n (And.intro @wipeR_c (And.intro @resL_c (And.intro @kL2_ (And.intro @kL1_ (And.intro @fzL_c (And.intro @kZ2_ (And.intro @kZ1_ (And.intro @gCons_ (And.intro @kGc_ (And.intro @coll_c (And.intro @kCo_ (And.intro @collect_nil (And.intro @bind_ok' (And.intro @ev_ONil (And.intro @ev_OCons (And.intro @kOC_ (And.intro @kOC2_ (And.intro @ev_Par2 (And.intro @ev_Par3 (And.intro @kPar2_ (And.intro @kPar3_ (And.intro @ev_ItF (And.intro @kItF_ (And.intro @lT_ (And.intro @kL1'_ (And.intro @kL2'_ (And.intro @lF_ (And.intro @kF1_ (And.intro @kF2t (And.intro @kF2f (And.intro @kF3_ (And.intro @fT_ (And.intro @kT_ (And.intro @tu_nx (And.intro @tu_ct (And.intro @tu_rt (And.intro @tu_bk (And.intro @we_nx (And.intro @we_ct (And.intro @we_bk (And.intro @we_rt (And.intro @atI_0 (And.intro @atI_1 (And.intro @atI_2 (And.intro @atI_3 (And.intro @atI_4 (And.intro @atI_5 (And.intro @atI_6 (And.intro @ev_KD (And.intro @kKD_ (And.intro @kKD2_ (And.intro @atI_7 (And.intro @ev_D (And.intro @kD_ (And.intro @oZ_ (And.intro @ev_Key (And.intro @kKey_ (And.intro @keyD_i (And.intro @keyD_s (And.intro @ev_NewK (And.intro @ev_Disp (And.intro @kDisp_ (And.intro @ev_PairsN (And.intro @ev_PairsC (And.intro @kP1_ (And.intro @kP2_ (And.intro @kP3_ (And.intro @ev_DPut (And.intro @kDP0_ (And.intro @kDP1_ (And.intro @kDP2_ (And.intro @kDP3_ (And.intro @ev_Get1 (And.intro @kGe_ (And.intro @kGe0_ (And.intro @kGe1_ (And.intro @kGe2_ (And.intro @ev_Get2 (And.intro @kGf_ (And.intro @kGf0_ (And.intro @kGf1_ (And.intro @kGf2_ (And.intro @ev_CallK (And.intro @kCallK_ (And.intro @oK_s (And.intro @ev_Pop (And.intro @kPop0_ (And.intro @kPop1_ (And.intro @kPop2_ (And.intro @kPop3_ (And.intro @kPop4_ (And.intro @ev_PopN (And.intro @kPopN_ (And.intro @kPopL_ (And.intro @ev_ItT (And.intro @kItS_ (And.intro @kItS2l (And.intro @kItS2t (And.intro @kItS2s (And.intro @ofS_eq (And.intro @Dw.lo (And.intro @Dw.hi (And.intro @pk_at (And.intro @take2_run (And.intro @col_in0 (And.intro @col_out0 (And.intro @col_outN (And.intro @add_ii (And.intro @castL (And.intro @add_tt (And.intro @add_ll (And.intro @shm_c (And.intro @shm_n (And.intro @opt_some (And.intro @sub_ii (And.intro @mod_ii (And.intro @div_ii (And.intro @mul_li (And.intro @mul_lj (And.intro @mulS_ii (And.intro @mulS_l (And.intro @mulS_t (And.intro @pow_ii (And.intro @neg_i (And.intro @lt_ii (And.intro @le_ii (And.intro @gt_ii (And.intro @ge_ii (And.intro @fEq_ (And.intro @fNe_ (And.intro @ix_t (And.intro @ix_l (And.intro @ix_ks (And.intro @ix_ki (And.intro @fInt_bt (And.intro @fInt_bf (And.intro @fInt_bd (And.intro @fI_i (And.intro @len_l (And.intro @len_t (And.intro @tuple_l (And.intro @tuple_t (And.intro @list_l (And.intro @list_t (And.intro @abs_i (And.intro @min_ii (And.intro @max_ii (And.intro @zip_tt (And.intro @zip_ll (And.intro @is2_n (And.intro @isnot2_n (And.intro @nonQ_non (And.intro @nonQ_bl (And.intro @nonQ_int (And.intro @nonQ_str (And.intro @nonQ_tup (And.intro @nonQ_lst (And.intro @nonQ_dK (And.intro @isi_non_int (And.intro @isi_non_bool (And.intro @isi_non_str (And.intro @isi_non_tuple (And.intro @isi_non_list (And.intro @isi_non_dict (And.intro @isi_bl_int (And.intro @isi_bl_bool (And.intro @isi_bl_str (And.intro @isi_bl_tuple (And.intro @isi_bl_list (And.intro @isi_bl_dict (And.intro @isi_int_int (And.intro @isi_int_bool (And.intro @isi_int_str (And.intro @isi_int_tuple (And.intro @isi_int_list (And.intro @isi_int_dict (And.intro @isi_str_int (And.intro @isi_str_bool (And.intro @isi_str_str (And.intro @isi_str_tuple (And.intro @isi_str_list (And.intro @isi_str_dict (And.intro @isi_tup_int (And.intro @isi_tup_bool (And.intro @isi_tup_str (And.intro @isi_tup_tuple (And.intro @isi_tup_list (And.intro @isi_tup_dict (And.intro @isi_lst_int (And.intro @isi_lst_bool (And.intro @isi_lst_str (And.intro @isi_lst_tuple (And.intro @isi_lst_list (And.intro @isi_lst_dict (And.intro @isi_dK_int (And.intro @isi_dK_bool (And.intro @isi_dK_str (And.intro @isi_dK_tuple (And.intro @isi_dK_list (And.intro @isi_dK_dict (And.intro @tru_non (And.intro @tru_bl (And.intro @mapSome (And.intro @shr_ii (And.intro @deq_ii (And.intro @deq_ss (And.intro @deq_bb (And.intro @deq_nn (And.intro @deq_ni (And.intro @deq_in (And.intro @deq_ns (And.intro @deq_sn (And.intro @deq_nb (And.intro @deq_bn (And.intro @deq_is (And.intro @deq_si (And.intro @deq_bs (And.intro @deq_sb (And.intro @fSl_t (And.intro @fSl_l (And.intro @fLenD_k (And.intro @fLenD_l (And.intro @fLenD_t (And.intro @fIntT_i (And.intro @ev_compN (And.intro @ev_compC (And.intro @ev_Lc (And.intro @ev_BinL (And.intro @kBL1_ (And.intro @kBL2_ (And.intro @kBL3_ (And.intro @cat_ll (And.intro @ev_Ext (And.intro @kExt1_ (And.intro @kExt2_ (And.intro @kExt3_ (And.intro @ev_Ins (And.intro @kIns1_ (And.intro @kIns2_ (And.intro @kIns3_ (And.intro @kIns4_ (And.intro @ev_LstO (And.intro @kLsO_ (And.intro @kLsO2_ (And.intro @ocs2 (And.intro @ev_Chain3 (And.intro @k3a_ (And.intro @k3b_ (And.intro @k3b'_ (And.intro @k3ct (And.intro @k3cf (And.intro @k3d_ (And.intro @k3e_ (And.intro @k3ft (And.intro @k3ff (And.intro @k3g_ (And.intro @ev_Tp0' (And.intro @ev_Tp2' (And.intro @ev_TpL' (And.intro @ev_TpC' (And.intro @ev_Ts0 (And.intro @ev_Ts2 (And.intro @ev_TpN (And.intro @kTp0_ (And.intro @kTp2_ (And.intro @kTpL_ (And.intro @kTpI_ (And.intro @kTpC_ (And.intro @kTs0'_ (And.intro @kTs2'_ (And.intro @kTs0_ (And.intro @kTs2_ (And.intro @kTpN_ (@pow_ii))))))))))))))))))))))))))))))))))))))))))))))))))))))))))))))))))))))))))))))))))))))))))))))))))))))))))))))))))))))))))))))))))))))))))))))))))))))))))))))))))))))))))))))))))))))))))))))))))))))))))))))))))))))))))))))))))))))))))))))))))))))))))))))))))))))))))))))))))))))))))))))))))))))))))))))))))))))))))))))))))))))))))))))))))))))))))))))))))))))))))))))))))))))))))))))))))))))))))))))))))))))))))))))))))))))))))))))))))))))))))))))))))))))))))))))))
theorem nsAll : type_of% nsAll0 := nsAll0
end DL

set_option Elab.async false
set_option linter.all false
set_option maxRecDepth 100000
set_option maxHeartbeats 4000000
/-! DLq: what stands in rows of texts and of numbers. -/
namespace DL
open PySem PySem.Spec PyProof.Rows L2
def inS (x : Str) (l : List Str) : Bool := l.any fun y => decide (y = x)
theorem toVL_strs : ∀ l : List Str, toVL (l.map D.str) = some (l.map V.str)
  | [] => rfl
  | x :: l => by
    rw [List.map_cons, toVL, toVL_strs l]
    rfl
theorem inV_strs (x : Str) (l : List Str) : inV (.str x) (l.map V.str) = inS x l := by
  induction l with
  | nil => rfl
  | cons y l ih =>
    show (eqV (.str y) (.str x) || inV (.str x) (l.map V.str)) = (decide (y = x) || inS x l)
    rw [ih, eqV_str]
theorem memD_strs (x : Str) (l : List Str) : memD (.str x) (.lst (l.map D.str)) = some (inS x l) := by
  show (match toV (.str x), toVL (l.map D.str) with
    | some v, some vs => some (inV v vs)
    | _, _ => _) = _
  rw [toVL_strs]
  show some (inV (.str x) (l.map V.str)) = _
  rw [inV_strs]
theorem memT_strs (x : Str) (l : List Str) : memD (.str x) (.tup (l.map D.str)) = some (inS x l) := by
  show (match toV (.str x), toVL (l.map D.str) with
    | some v, some vs => some (inV v vs)
    | _, _ => none) = _
  rw [toVL_strs]
  show some (inV (.str x) (l.map V.str)) = _
  rw [inV_strs]
theorem in_strs (x : Str) (l : List Str) : fIn (.str x) (.lst (l.map D.str)) = some (.bl (inS x l)) := by unfold fIn; rw [memD_strs]; rfl
theorem notin_strs (x : Str) (l : List Str) : fNotIn (.str x) (.lst (l.map D.str)) = some (.bl (!inS x l)) := by unfold fNotIn; rw [memD_strs]; rfl
theorem inT_strs (x : Str) (l : List Str) : fIn (.str x) (.tup (l.map D.str)) = some (.bl (inS x l)) := by unfold fIn; rw [memT_strs]; rfl
theorem notinT_strs (x : Str) (l : List Str) : fNotIn (.str x) (.tup (l.map D.str)) = some (.bl (!inS x l)) := by unfold fNotIn; rw [memT_strs]; rfl
theorem inS_iff {x : Str} {l : List Str} : inS x l = true ↔ x ∈ l := by
  unfold inS
  rw [List.any_eq_true]
  exact ⟨fun ⟨y, h, e⟩ => of_decide_eq_true e ▸ h, fun h => ⟨x, h, decide_eq_true rfl⟩⟩
/-- a row of texts, each once: those that did not stand before -/
def firsts (ws : List Str) : List Str := ((List.range ws.length).filter fun j => !inS (ws.getD j "") (ws.take j)).map fun j => ws.getD j ""
theorem firsts_mem {ws : List Str} {x : Str} (h : x ∈ firsts ws) : x ∈ ws := by
  obtain ⟨j, hj, rfl⟩ := List.mem_map.mp h
  have hj := List.mem_range.mp (List.mem_filter.mp hj).1
  rw [List.getD_eq_getElem?_getD, List.getElem?_eq_getElem hj]
  exact List.getElem_mem hj
theorem firsts_nd (ws : List Str) : (firsts ws).Nodup := by
  unfold firsts
  refine List.pairwise_map.mpr ?_
  refine List.Pairwise.imp_of_mem (R := fun a b => a < b) (fun {a b} ha hb hab e => ?_) ((List.pairwise_lt_range).filter _)
  have hb2 := (List.mem_filter.mp hb).2
  have hb1 := List.mem_range.mp (List.mem_filter.mp hb).1
  have ha1 : a < ws.length := Nat.lt_trans hab hb1
  simp only [Bool.not_eq_true'] at hb2
  rw [Bool.eq_false_iff] at hb2
  refine hb2 (inS_iff.mpr ?_)
  rw [← e, List.getD_eq_getElem?_getD, List.getElem?_eq_getElem ha1]
  refine List.mem_take_iff_getElem.mpr ⟨a, by omega, rfl⟩
end DL
namespace DL
open PySem PySem.Spec PyProof.Rows L2
/-- two rows, item by item -/
inductive All2 {α β : Type} (Q : α → β → Prop) : List α → List β → Prop
  | nil : All2 Q [] []
  | cons {x : α} {y : β} {xs : List α} {ys : List β} : Q x y → All2 Q xs ys → All2 Q (x :: xs) (y :: ys)
theorem All2.len {α β : Type} {Q : α → β → Prop} {xs : List α} {ys : List β} (h : All2 Q xs ys) : ys.length = xs.length := by
  induction h with
  | nil => rfl
  | cons _ _ ih => rw [List.length_cons, List.length_cons, ih]
theorem All2.of {α β : Type} {Q : α → β → Prop} {xs : List α} {ys : List β} (h : All2 Q xs ys) {y : β} (hy : y ∈ ys) : ∃ x, x ∈ xs ∧ Q x y := by
  induction h with
  | nil => cases hy
  | cons q _ ih =>
    rcases List.mem_cons.mp hy with rfl | hy
    · exact ⟨_, List.mem_cons_self, q⟩
    · obtain ⟨x, hx, q⟩ := ih hy
      exact ⟨x, List.mem_cons_of_mem _ hx, q⟩
theorem All2.pair {α β : Type} {Q : α → β → Prop} {R1 : α → α → Prop} {R2 : β → β → Prop} {xs : List α} {ys : List β} (h : All2 Q xs ys) (hp : xs.Pairwise R1) (hq : ∀ a b x y, R1 a b → Q a x → Q b y → R2 x y) : ys.Pairwise R2 := by
  induction h with
  | nil => exact .nil
  | cons q r ih =>
    obtain ⟨h1, h2⟩ := List.pairwise_cons.mp hp
    refine List.pairwise_cons.mpr ⟨fun y hy => ?_, ih h2⟩
    obtain ⟨x, hx, q2⟩ := r.of hy
    exact hq _ _ _ _ (h1 x hx) q q2
/-- a comprehension that draws: one item each -/
theorem lc_rel {σ α β : Type} {vs : List Nat} {mi : Rho → Out (List D)} {g : D → Rho → Option Rho} {mt : Rho → Out Bool} {me : Rho → Out R} {ρ ρ1 : Rho} (enc : α → D) (encB : β → D) (St : σ → Rho) (Q : α → β → Prop) (xs : List α) {s : σ}
    (hi : mi ρ = .ok (xs.map enc) ρ1) (hw : wipeR ρ1 vs = St s) (hl : xs.length ≤ 1000000)
    (hh : ∀ x ∈ xs, ∀ s, ∃ b s', lF' vs g mt me (enc x) (St s) = .ok (some (encB b)) (St s') ∧ Q x b) :
    ∃ bs s', mLc vs mi g mt me ρ = .ok (.ol (bs.map encB)) (St s') ∧ All2 Q xs bs := by
  have key : ∀ (xs : List α) (s : σ), (∀ x ∈ xs, ∀ s, ∃ b s', lF' vs g mt me (enc x) (St s) = .ok (some (encB b)) (St s') ∧ Q x b) → ∃ bs s', compL vs g mt me (xs.map enc) (St s) = .ok (bs.map encB) (St s') ∧ All2 Q xs bs := by
    intro xs
    induction xs with
    | nil => intro s _; exact ⟨[], s, rfl, .nil⟩
    | cons x xs ih =>
      intro s hh
      obtain ⟨b, s1, e, q⟩ := hh x (by simp) s
      obtain ⟨bs, s2, e2, q2⟩ := ih s1 fun y hy => hh y (by simp [hy])
      refine ⟨b :: bs, s2, ?_, .cons q q2⟩
      rw [List.map_cons, lF_ok e, e2]
      rfl
  obtain ⟨bs, s', e, h⟩ := key xs s hh
  refine ⟨bs, s', ?_, h⟩
  unfold mLc
  rw [hi, bind_ok', if_pos (by rw [List.length_map]; exact hl), hw, e]
  rfl
end DL
namespace DL
open PySem PySem.Spec PyProof.Rows L2
theorem eq_of {α : Type} {x v : α} (h : ∀ P : α → Prop, P v → P x) : x = v := h (fun z => z = v) rfl
section
variable {α : Type} {Q : Option (R × List R) → Prop} {B : List Nat} {rs : List R} {rest : Rho → SOut} {g : D → Rho → Option Rho} {mb : Rho → SOut} {xs : List α} {ρ : Rho}
/-- a loop in the midst of a def: an invariant of what is left and of the slots -/
theorem loop_seq (enc : α → D) (I : List α → Rho → Prop) (h0 : I xs ρ) (hs : ∀ x xs ρ, I (x :: xs) ρ → Went I (fun o => Q (kFM B rs (kSeq rest o))) xs (fT' g mb (enc x) ρ)) (he : ∀ ρ, I [] ρ → Q (kFM B rs (rest ρ))) :
    Q (kFM B rs (kSeq rest (forL g mb (xs.map enc) ρ))) := forL_keep enc I (fun o => Q (kFM B rs (kSeq rest o))) h0 hs fun ρ h => by rw [kSeq_nx]; exact he ρ h
/-- a loop at the end of a def -/
theorem loop_end (enc : α → D) (I : List α → Rho → Prop) (h0 : I xs ρ) (hs : ∀ x xs ρ, I (x :: xs) ρ → Went I (fun o => Q (kFM B rs o)) xs (fT' g mb (enc x) ρ)) (he : ∀ ρ, I [] ρ → Q (kFM B rs (.nx ρ))) :
    Q (kFM B rs (forL g mb (xs.map enc) ρ)) := forL_keep enc I (fun o => Q (kFM B rs o)) h0 hs he
end
section
variable {α : Type} {C : SOut → Prop} {rest : Rho → SOut} {g : D → Rho → Option Rho} {mb : Rho → SOut} {xs : List α} {ρ : Rho}
theorem loop_in (enc : α → D) (I : List α → Rho → Prop) (h0 : I xs ρ) (hs : ∀ x xs ρ, I (x :: xs) ρ → Went I (fun o => C (kSeq rest o)) xs (fT' g mb (enc x) ρ)) (he : ∀ ρ, I [] ρ → C (rest ρ)) :
    C (kSeq rest (forL g mb (xs.map enc) ρ)) := forL_keep enc I (fun o => C (kSeq rest o)) h0 hs fun ρ h => by rw [kSeq_nx]; exact he ρ h
end
theorem at_getD {α β : Type} (f : α → β) (d : α) {xs : List α} {i : Nat} (h : i < xs.length) : atI (xs.map f) (i : Int) = some (f (xs.getD i d)) := by
  rw [atI_get f h, List.getD_eq_getElem?_getD, List.getElem?_eq_getElem h]; rfl
theorem ixN_nat {n i : Nat} (h : i < n) : ixN n (i : Int) = some i := by
  have h2 : (i : Int) < n := by omega
  simp [ixN, h2]
theorem cut_nat (ds : List D) (k : Nat) : cutD ds none (some (k : Int)) = ds.take k := by rw [cut_take (by omega)]; rfl
theorem cutd_nat (ds : List D) (k : Nat) : cutD ds (some (k : Int)) none = ds.drop k := by rw [cut_drop (by omega)]; rfl
/-- a draw as a natural number -/
theorem Dw.nat (s : Dw) {m : Int} (h : 0 < m) : ∃ k : Nat, s.val m = k ∧ (k : Int) < m := by
  have r := s.rng h
  exact ⟨(s.val m).toNat, by omega, by omega⟩
end DL

set_option Elab.async false
set_option linter.all false
set_option maxRecDepth 100000
set_option maxHeartbeats 4000000
namespace K49
open PySem PySem.Spec PyProof.Rows L2 DL
def law_draw_p1 : Rho → SOut := (mSet 2 (mS (mC (.int 0))))
theorem law_draw_p1_ (ρ : Rho) : law_draw_p1 ρ = (mSet 2 (mS (mC (.int 0)))) ρ := (rfl)
def law_draw_p2 : Rho → SOut := (mSet 2 (mS (mCall fAbs (mCons (mCall fIntT (mCons (mTpCell 0) mNil)) mNil))))
theorem law_draw_p2_ (ρ : Rho) : law_draw_p2 ρ = (mSet 2 (mS (mCall fAbs (mCons (mCall fIntT (mCons (mTpCell 0) mNil)) mNil)))) ρ := (rfl)
def law_draw_p3 : Rho → SOut := (mIf (mTst (mBin fLt (mTp2 0) (mTpLen 0))) law_draw_p2 mNext)
theorem law_draw_p3_ (ρ : Rho) : law_draw_p3 ρ = (mIf (mTst (mBin fLt (mTp2 0) (mTpLen 0))) law_draw_p2 mNext) ρ := (rfl)
def law_draw_p4 : Rho → SOut := (mTpSet2 0 (mBin fAdd (mTp2 0) (mC (.int 1))))
theorem law_draw_p4_ (ρ : Rho) : law_draw_p4 ρ = (mTpSet2 0 (mBin fAdd (mTp2 0) (mC (.int 1)))) ρ := (rfl)
def law_draw_p5 : Rho → SOut := (mTpSet0 0 (mV 2))
theorem law_draw_p5_ (ρ : Rho) : law_draw_p5 ρ = (mTpSet0 0 (mV 2)) ρ := (rfl)
def law_draw_p6 : Rho → SOut := (mSet 3 (mS (mBin fMod (mCall fIntT (mCons (mBin fAdd (mBin fAdd (mBin fMulS (mV 2) (mC (.int 48271))) (mBin fMulS (mTp2 0) (mC (.int 69621)))) (mC (.int 12345))) mNil)) (mC (.int 2147483647)))))
theorem law_draw_p6_ (ρ : Rho) : law_draw_p6 ρ = (mSet 3 (mS (mBin fMod (mCall fIntT (mCons (mBin fAdd (mBin fAdd (mBin fMulS (mV 2) (mC (.int 48271))) (mBin fMulS (mTp2 0) (mC (.int 69621)))) (mC (.int 12345))) mNil)) (mC (.int 2147483647))))) ρ := (rfl)
def law_draw_p7 : Rho → SOut := (mTpSet0 0 (mBin fAdd (mBin fMulS (mV 3) (mC (.int 2147483629))) (mBin fMod (mCall fIntT (mCons (mBin fAdd (mBin fMulS (mV 3) (mC (.int 16807))) (mC (.int 11))) mNil)) (mC (.int 2147483629)))))
theorem law_draw_p7_ (ρ : Rho) : law_draw_p7 ρ = (mTpSet0 0 (mBin fAdd (mBin fMulS (mV 3) (mC (.int 2147483629))) (mBin fMod (mCall fIntT (mCons (mBin fAdd (mBin fMulS (mV 3) (mC (.int 16807))) (mC (.int 11))) mNil)) (mC (.int 2147483629))))) ρ := (rfl)
def law_draw_p8 : Rho → SOut := (mIf (mTst (mBin fLt (mV 2) (mBin fPow (mC (.int 10)) (mC (.int 18))))) (mSeq law_draw_p6 law_draw_p7) mNext)
theorem law_draw_p8_ (ρ : Rho) : law_draw_p8 ρ = (mIf (mTst (mBin fLt (mV 2) (mBin fPow (mC (.int 10)) (mC (.int 18))))) (mSeq law_draw_p6 law_draw_p7) mNext) ρ := (rfl)
def law_draw_p9 : Rho → SOut := (mIf (mTst (mBin fEq (mTp0 0) (mC (.int 0)))) (mSeq law_draw_p1 (mSeq law_draw_p3 (mSeq law_draw_p4 (mSeq law_draw_p5 law_draw_p8)))) mNext)
theorem law_draw_p9_ (ρ : Rho) : law_draw_p9 ρ = (mIf (mTst (mBin fEq (mTp0 0) (mC (.int 0)))) (mSeq law_draw_p1 (mSeq law_draw_p3 (mSeq law_draw_p4 (mSeq law_draw_p5 law_draw_p8)))) mNext) ρ := (rfl)
def law_draw_p10 : Rho → SOut := (mSet 4 (mS (mTp0 0)))
theorem law_draw_p10_ (ρ : Rho) : law_draw_p10 ρ = (mSet 4 (mS (mTp0 0))) ρ := (rfl)
def law_draw_p11 : Rho → SOut := (mTpSet0 0 (mBin fDiv (mV 4) (mV 1)))
theorem law_draw_p11_ (ρ : Rho) : law_draw_p11 ρ = (mTpSet0 0 (mBin fDiv (mV 4) (mV 1))) ρ := (rfl)
def law_draw_p12 : Rho → SOut := (mRet (mS (mBin fMod (mCall fIntT (mCons (mV 4) mNil)) (mV 1))))
theorem law_draw_p12_ (ρ : Rho) : law_draw_p12 ρ = (mRet (mS (mBin fMod (mCall fIntT (mCons (mV 4) mNil)) (mV 1)))) ρ := (rfl)
def b_law_draw : Rho → SOut := (mSeq law_draw_p9 (mSeq law_draw_p10 (mSeq law_draw_p11 law_draw_p12)))
theorem b_law_draw_ (ρ : Rho) : b_law_draw ρ = (mSeq law_draw_p9 (mSeq law_draw_p10 (mSeq law_draw_p11 law_draw_p12))) ρ := (rfl)
def f_law_draw : List R → Option (R × List R) := fnM 5 2 [0] b_law_draw
theorem f_law_draw_ (a0 a1 : R) : f_law_draw [a0, a1] = kFM [0] [a0, a1] (b_law_draw [some a0, some a1, none, none, none]) := ev_fnM _ _ _ _ _ rfl
def b_law_pick : Rho → SOut := (mRet (mS (mBin fIxD (mV 1) (mF (mFn1 0 f_law_draw (mCons (mCall fLen (mCons (mV 1) mNil)) mNil))))))
theorem b_law_pick_ (ρ : Rho) : b_law_pick ρ = (mRet (mS (mBin fIxD (mV 1) (mF (mFn1 0 f_law_draw (mCons (mCall fLen (mCons (mV 1) mNil)) mNil)))))) ρ := (rfl)
def f_law_pick : List R → Option (R × List R) := fnM 2 2 [0] b_law_pick
theorem f_law_pick_ (a0 a1 : R) : f_law_pick [a0, a1] = kFM [0] [a0, a1] (b_law_pick [some a0, some a1]) := ev_fnM _ _ _ _ _ rfl
def law_policy_p1 : Rho → SOut := (mSet 3 (mLst mNil))
theorem law_policy_p1_ (ρ : Rho) : law_policy_p1 ρ = (mSet 3 (mLst mNil)) ρ := (rfl)
def law_policy_p2 : Rho → SOut := (mSet 5 (mFn1 0 f_law_pick (mCons (mF (mLst (mCons (mC (.str "request")) (mCons (mC (.str "answer")) mNil)))) mNil)))
theorem law_policy_p2_ (ρ : Rho) : law_policy_p2 ρ = (mSet 5 (mFn1 0 f_law_pick (mCons (mF (mLst (mCons (mC (.str "request")) (mCons (mC (.str "answer")) mNil)))) mNil))) ρ := (rfl)
def law_policy_p3 : Rho → SOut := (mSet 6 (mS (mBin fIxD (mF (mLst (mCons (mC (.str "a")) (mCons (mC (.str "b-2")) (mCons (mC (.str "x")) (mCons (mC (.str "cookie")) (mCons (mC (.str "accept")) (mCons (mC (.str "9")) mNil)))))))) (mV 4))))
theorem law_policy_p3_ (ρ : Rho) : law_policy_p3 ρ = (mSet 6 (mS (mBin fIxD (mF (mLst (mCons (mC (.str "a")) (mCons (mC (.str "b-2")) (mCons (mC (.str "x")) (mCons (mC (.str "cookie")) (mCons (mC (.str "accept")) (mCons (mC (.str "9")) mNil)))))))) (mV 4)))) ρ := (rfl)
def law_policy_p4 : Rho → SOut := (mApp 3 (mF (mFn1 0 f_law_pick (mCons (mF (mLst (mCons (mTup (mCons (mC (.str "hide")) (mCons (mV 5) (mCons (mV 6) mNil)))) (mCons (mTup (mCons (mC (.str "set")) (mCons (mV 5) (mCons (mV 6) (mCons (mF (mFn1 0 f_law_pick (mCons (mF (mLst (mCons (mC (.str "")) (mCons (mC (.str "new")) (mCons (mC (.str "v, w")) mNil))))) mNil))) mNil))))) (mCons (mTup (mCons (mC (.str "from")) (mCons (mV 6) mNil))) mNil))))) mNil))))
theorem law_policy_p4_ (ρ : Rho) : law_policy_p4 ρ = (mApp 3 (mF (mFn1 0 f_law_pick (mCons (mF (mLst (mCons (mTup (mCons (mC (.str "hide")) (mCons (mV 5) (mCons (mV 6) mNil)))) (mCons (mTup (mCons (mC (.str "set")) (mCons (mV 5) (mCons (mV 6) (mCons (mF (mFn1 0 f_law_pick (mCons (mF (mLst (mCons (mC (.str "")) (mCons (mC (.str "new")) (mCons (mC (.str "v, w")) mNil))))) mNil))) mNil))))) (mCons (mTup (mCons (mC (.str "from")) (mCons (mV 6) mNil))) mNil))))) mNil)))) ρ := (rfl)
def law_policy_b5 : Rho → SOut := (mSeq law_policy_p2 (mSeq law_policy_p3 law_policy_p4))
theorem law_policy_b5_ (ρ : Rho) : law_policy_b5 ρ = (mSeq law_policy_p2 (mSeq law_policy_p3 law_policy_p4)) ρ := (rfl)
def law_policy_p6 : Rho → SOut := (mFor (mItR fRng1 (mCons (mF (mFn1 0 f_law_draw (mCons (mC (.int 6)) mNil))) mNil)) (gNm 4) law_policy_b5)
theorem law_policy_p6_ (ρ : Rho) : law_policy_p6 ρ = (mFor (mItR fRng1 (mCons (mF (mFn1 0 f_law_draw (mCons (mC (.int 6)) mNil))) mNil)) (gNm 4) law_policy_b5) ρ := (rfl)
def law_policy_e7 : Rho → Out R := (mS (mV 18))
theorem law_policy_e7_ (ρ : Rho) : law_policy_e7 ρ = (mS (mV 18)) ρ := (rfl)
def law_policy_t8 : Rho → Out Bool := (mTst (mBin fNe (mBin fIxD (mV 18) (mC (.int 0))) (mC (.str "from"))))
theorem law_policy_t8_ (ρ : Rho) : law_policy_t8 ρ = (mTst (mBin fNe (mBin fIxD (mV 18) (mC (.int 0))) (mC (.str "from")))) ρ := (rfl)
def law_policy_c9 : Rho → Out R := (mLc [18] (mItS (mV 3)) (gNm 18) law_policy_t8 law_policy_e7)
theorem law_policy_c9_ (ρ : Rho) : law_policy_c9 ρ = (mLc [18] (mItS (mV 3)) (gNm 18) law_policy_t8 law_policy_e7) ρ := (rfl)
def law_policy_e10 : Rho → Out R := (mS (mV 18))
theorem law_policy_e10_ (ρ : Rho) : law_policy_e10 ρ = (mS (mV 18)) ρ := (rfl)
def law_policy_t11 : Rho → Out Bool := (mTst (mBin fEq (mBin fIxD (mV 18) (mC (.int 0))) (mC (.str "from"))))
theorem law_policy_t11_ (ρ : Rho) : law_policy_t11 ρ = (mTst (mBin fEq (mBin fIxD (mV 18) (mC (.int 0))) (mC (.str "from")))) ρ := (rfl)
def law_policy_c12 : Rho → Out R := (mLc [18] (mItS (mV 3)) (gNm 18) law_policy_t11 law_policy_e10)
theorem law_policy_c12_ (ρ : Rho) : law_policy_c12 ρ = (mLc [18] (mItS (mV 3)) (gNm 18) law_policy_t11 law_policy_e10) ρ := (rfl)
def law_policy_p13 : Rho → SOut := (mSet 3 (mBinL fCat (mF law_policy_c9) (mSl fSl (mF law_policy_c12) mQ0 (mQ1 (mC (.int 4))))))
theorem law_policy_p13_ (ρ : Rho) : law_policy_p13 ρ = (mSet 3 (mBinL fCat (mF law_policy_c9) (mSl fSl (mF law_policy_c12) mQ0 (mQ1 (mC (.int 4)))))) ρ := (rfl)
def law_policy_p14 : Rho → SOut := (mSet 7 (mLst mNil))
theorem law_policy_p14_ (ρ : Rho) : law_policy_p14 ρ = (mSet 7 (mLst mNil)) ρ := (rfl)
def law_policy_p15 : Rho → SOut := (mSet 10 (mS (mSl fSl (mTup (mCons (mC (.str "GET")) (mCons (mC (.str "HEAD")) (mCons (mC (.str "PUT")) (mCons (mC (.str "POST")) (mCons (mC (.str "DELETE")) mNil)))))) mQ0 (mQ1 (mF (mFn1 0 f_law_pick (mCons (mF (mLst (mCons (mC (.int 5)) (mCons (mC (.int 5)) (mCons (mC (.int 4)) (mCons (mC (.int 1)) mNil)))))) mNil)))))))
theorem law_policy_p15_ (ρ : Rho) : law_policy_p15 ρ = (mSet 10 (mS (mSl fSl (mTup (mCons (mC (.str "GET")) (mCons (mC (.str "HEAD")) (mCons (mC (.str "PUT")) (mCons (mC (.str "POST")) (mCons (mC (.str "DELETE")) mNil)))))) mQ0 (mQ1 (mF (mFn1 0 f_law_pick (mCons (mF (mLst (mCons (mC (.int 5)) (mCons (mC (.int 5)) (mCons (mC (.int 4)) (mCons (mC (.int 1)) mNil)))))) mNil))))))) ρ := (rfl)
def law_policy_p16 : Rho → SOut := (mSet 11 (mFn1 0 f_law_pick (mCons (mF (mLst (mCons (mTup mNil) (mCons (mTup (mCons (mC (.str "in")) mNil)) (mCons (mTup (mCons (mC (.str "p")) (mCons (mC (.str "q")) mNil))) (mCons (mTup (mCons (mC (.str "p")) (mCons (mC (.str "q")) (mCons (mC (.str "r")) (mCons (mC (.str "s")) mNil))))) mNil)))))) mNil)))
theorem law_policy_p16_ (ρ : Rho) : law_policy_p16 ρ = (mSet 11 (mFn1 0 f_law_pick (mCons (mF (mLst (mCons (mTup mNil) (mCons (mTup (mCons (mC (.str "in")) mNil)) (mCons (mTup (mCons (mC (.str "p")) (mCons (mC (.str "q")) mNil))) (mCons (mTup (mCons (mC (.str "p")) (mCons (mC (.str "q")) (mCons (mC (.str "r")) (mCons (mC (.str "s")) mNil))))) mNil)))))) mNil))) ρ := (rfl)
def law_policy_p17 : Rho → SOut := (mSet 12 (mS (mSl fSl (mTup (mCons (mC (.str "few")) mNil)) mQ0 (mQ1 (mF (mFn1 0 f_law_draw (mCons (mC (.int 2)) mNil)))))))
theorem law_policy_p17_ (ρ : Rho) : law_policy_p17 ρ = (mSet 12 (mS (mSl fSl (mTup (mCons (mC (.str "few")) mNil)) mQ0 (mQ1 (mF (mFn1 0 f_law_draw (mCons (mC (.int 2)) mNil))))))) ρ := (rfl)
def law_policy_p18 : Rho → SOut := (mSet 13 (mFn1 0 f_law_draw (mCons (mBin fAdd (mCall fLenD (mCons (mV 9) mNil)) (mC (.int 1))) mNil)))
theorem law_policy_p18_ (ρ : Rho) : law_policy_p18 ρ = (mSet 13 (mFn1 0 f_law_draw (mCons (mBin fAdd (mCall fLenD (mCons (mV 9) mNil)) (mC (.int 1))) mNil))) ρ := (rfl)
def law_policy_p19 : Rho → SOut := (mApp 7 (mTup (mCons (mV 8) (mCons (mV 9) (mCons (mV 10) (mCons (mV 1) (mCons (mV 13) (mCons (mV 11) (mCons (mV 12) (mCons (mF (mFn1 0 f_law_pick (mCons (mF (mLst (mCons (mC (.int 1)) (mCons (mC (.int 2)) (mCons (mC (.int 5)) (mCons (mC (.int 9)) mNil)))))) mNil))) (mCons (mBin fAdd (mC (.int 1)) (mF (mFn1 0 f_law_draw (mCons (mC (.int 3)) mNil)))) mNil)))))))))))
theorem law_policy_p19_ (ρ : Rho) : law_policy_p19 ρ = (mApp 7 (mTup (mCons (mV 8) (mCons (mV 9) (mCons (mV 10) (mCons (mV 1) (mCons (mV 13) (mCons (mV 11) (mCons (mV 12) (mCons (mF (mFn1 0 f_law_pick (mCons (mF (mLst (mCons (mC (.int 1)) (mCons (mC (.int 2)) (mCons (mC (.int 5)) (mCons (mC (.int 9)) mNil)))))) mNil))) (mCons (mBin fAdd (mC (.int 1)) (mF (mFn1 0 f_law_draw (mCons (mC (.int 3)) mNil)))) mNil))))))))))) ρ := (rfl)
def law_policy_p20 : Rho → SOut := (mIf (mTst (mBin fGt (mF (mFn1 0 f_law_draw (mCons (mC (.int 4)) mNil))) (mC (.int 0)))) (mSeq law_policy_p15 (mSeq law_policy_p16 (mSeq law_policy_p17 (mSeq law_policy_p18 law_policy_p19)))) mNext)
theorem law_policy_p20_ (ρ : Rho) : law_policy_p20 ρ = (mIf (mTst (mBin fGt (mF (mFn1 0 f_law_draw (mCons (mC (.int 4)) mNil))) (mC (.int 0)))) (mSeq law_policy_p15 (mSeq law_policy_p16 (mSeq law_policy_p17 (mSeq law_policy_p18 law_policy_p19)))) mNext) ρ := (rfl)
def law_policy_b21 : Rho → SOut := law_policy_p20
theorem law_policy_b21_ (ρ : Rho) : law_policy_b21 ρ = law_policy_p20 ρ := (rfl)
def law_policy_p22 : Rho → SOut := (mFor (mItS (mTup (mCons (mTup mNil) (mCons (mTup (mCons (mC (.str "b")) mNil)) (mCons (mTup (mCons (mC (.str "b")) (mCons (mC (.str "c")) mNil))) (mCons (mTup (mCons (mC (.str "b")) (mCons (mC (.str "c")) (mCons (mC (.str "d")) (mCons (mC (.str "e")) (mCons (mC (.str "f")) mNil)))))) mNil)))))) (gNm 9) law_policy_b21)
theorem law_policy_p22_ (ρ : Rho) : law_policy_p22 ρ = (mFor (mItS (mTup (mCons (mTup mNil) (mCons (mTup (mCons (mC (.str "b")) mNil)) (mCons (mTup (mCons (mC (.str "b")) (mCons (mC (.str "c")) mNil))) (mCons (mTup (mCons (mC (.str "b")) (mCons (mC (.str "c")) (mCons (mC (.str "d")) (mCons (mC (.str "e")) (mCons (mC (.str "f")) mNil)))))) mNil)))))) (gNm 9) law_policy_b21) ρ := (rfl)
def law_policy_b23 : Rho → SOut := law_policy_p22
theorem law_policy_b23_ (ρ : Rho) : law_policy_b23 ρ = law_policy_p22 ρ := (rfl)
def law_policy_p24 : Rho → SOut := (mFor (mItS (mTup (mCons (mC (.str "a")) (mCons (mC (.str "*")) mNil)))) (gNm 8) law_policy_b23)
theorem law_policy_p24_ (ρ : Rho) : law_policy_p24 ρ = (mFor (mItS (mTup (mCons (mC (.str "a")) (mCons (mC (.str "*")) mNil)))) (gNm 8) law_policy_b23) ρ := (rfl)
def law_policy_p25 : Rho → SOut := (mSet 14 (mLst (mCons (mC (.str "refused")) (mCons (mC (.str "no route")) (mCons (mC (.str "none")) (mCons (mC (.str "limit")) (mCons (mC (.str "broken")) (mCons (mC (.str "late")) mNil))))))))
theorem law_policy_p25_ (ρ : Rho) : law_policy_p25 ρ = (mSet 14 (mLst (mCons (mC (.str "refused")) (mCons (mC (.str "no route")) (mCons (mC (.str "none")) (mCons (mC (.str "limit")) (mCons (mC (.str "broken")) (mCons (mC (.str "late")) mNil)))))))) ρ := (rfl)
def law_policy_e26 : Rho → Out R := (mS (mTup (mCons (mBin fIxD (mV 14) (mV 4)) (mCons (mBin fAdd (mBin fAdd (mC (.int 400)) (mBin fMulS (mC (.int 7)) (mV 4))) (mF (mFn1 0 f_law_draw (mCons (mC (.int 5)) mNil)))) (mCons (mF (mFn1 0 f_law_pick (mCons (mF (mLst (mCons (mC (.str "")) (mCons (mC (.str "no")) (mCons (mBin fAdd (mC (.str "sorry: ")) (mBin fIxD (mV 14) (mV 4))) mNil))))) mNil))) mNil)))))
theorem law_policy_e26_ (ρ : Rho) : law_policy_e26 ρ = (mS (mTup (mCons (mBin fIxD (mV 14) (mV 4)) (mCons (mBin fAdd (mBin fAdd (mC (.int 400)) (mBin fMulS (mC (.int 7)) (mV 4))) (mF (mFn1 0 f_law_draw (mCons (mC (.int 5)) mNil)))) (mCons (mF (mFn1 0 f_law_pick (mCons (mF (mLst (mCons (mC (.str "")) (mCons (mC (.str "no")) (mCons (mBin fAdd (mC (.str "sorry: ")) (mBin fIxD (mV 14) (mV 4))) mNil))))) mNil))) mNil))))) ρ := (rfl)
def law_policy_c27 : Rho → Out R := (mLc [4] (mItR fRng1 (mCons (mC (.int 6)) mNil)) (gNm 4) mTrue law_policy_e26)
theorem law_policy_c27_ (ρ : Rho) : law_policy_c27 ρ = (mLc [4] (mItR fRng1 (mCons (mC (.int 6)) mNil)) (gNm 4) mTrue law_policy_e26) ρ := (rfl)
def law_policy_p28 : Rho → SOut := (mSet 15 (mS (mCall fTuple (mCons (mF law_policy_c27) mNil))))
theorem law_policy_p28_ (ρ : Rho) : law_policy_p28 ρ = (mSet 15 (mS (mCall fTuple (mCons (mF law_policy_c27) mNil)))) ρ := (rfl)
def law_policy_p29 : Rho → SOut := (mSet 16 (mFn1 0 f_law_pick (mCons (mF (mLst (mCons (mTup mNil) (mCons (mTup (mCons (mTup (mCons (mC (.int 16909060)) (mCons (mC (.int 16909070)) mNil))) mNil)) (mCons (mTup (mCons (mTup (mCons (mC (.int 0)) (mCons (mC (.int 134744071)) mNil))) (mCons (mTup (mCons (mC (.int 134744073)) (mCons (mC (.int 4294967295)) mNil))) mNil))) mNil))))) mNil)))
theorem law_policy_p29_ (ρ : Rho) : law_policy_p29 ρ = (mSet 16 (mFn1 0 f_law_pick (mCons (mF (mLst (mCons (mTup mNil) (mCons (mTup (mCons (mTup (mCons (mC (.int 16909060)) (mCons (mC (.int 16909070)) mNil))) mNil)) (mCons (mTup (mCons (mTup (mCons (mC (.int 0)) (mCons (mC (.int 134744071)) mNil))) (mCons (mTup (mCons (mC (.int 134744073)) (mCons (mC (.int 4294967295)) mNil))) mNil))) mNil))))) mNil))) ρ := (rfl)
def law_policy_p30 : Rho → SOut := (mSet 17 (mDisp [((mC (.str "routes")), (mCall fTuple (mCons (mV 7) mNil))), ((mC (.str "headers")), (mCall fTuple (mCons (mV 3) mNil))), ((mC (.str "errors")), (mV 15)), ((mC (.str "trusted")), (mV 16))]))
theorem law_policy_p30_ (ρ : Rho) : law_policy_p30 ρ = (mSet 17 (mDisp [((mC (.str "routes")), (mCall fTuple (mCons (mV 7) mNil))), ((mC (.str "headers")), (mCall fTuple (mCons (mV 3) mNil))), ((mC (.str "errors")), (mV 15)), ((mC (.str "trusted")), (mV 16))])) ρ := (rfl)
def law_policy_p31 : Rho → SOut := (mDPut 17 (mC (.str "services")) (mTup (mCons (mTup (mCons (mV 1) (mCons (mV 2) (mCons (mC (.str "turns")) (mCons (mC .non) mNil))))) mNil)))
theorem law_policy_p31_ (ρ : Rho) : law_policy_p31 ρ = (mDPut 17 (mC (.str "services")) (mTup (mCons (mTup (mCons (mV 1) (mCons (mV 2) (mCons (mC (.str "turns")) (mCons (mC .non) mNil))))) mNil))) ρ := (rfl)
def law_policy_p32 : Rho → SOut := (mDPut 17 (mC (.str "limits")) (mTup (mCons (mTup (mCons (mC (.str "few")) (mCons (mC (.str "open")) (mCons (mTup (mCons (mF (mFn1 0 f_law_pick (mCons (mF (mLst (mCons (mC (.int 1)) (mCons (mC (.int 2)) (mCons (mC (.int 9)) mNil))))) mNil))) mNil)) (mCons (mF (mFn1 0 f_law_pick (mCons (mF (mLst (mCons (mTup mNil) (mCons (mTup (mCons (mC (.str "outside")) mNil)) mNil)))) mNil))) mNil))))) mNil)))
theorem law_policy_p32_ (ρ : Rho) : law_policy_p32 ρ = (mDPut 17 (mC (.str "limits")) (mTup (mCons (mTup (mCons (mC (.str "few")) (mCons (mC (.str "open")) (mCons (mTup (mCons (mF (mFn1 0 f_law_pick (mCons (mF (mLst (mCons (mC (.int 1)) (mCons (mC (.int 2)) (mCons (mC (.int 9)) mNil))))) mNil))) mNil)) (mCons (mF (mFn1 0 f_law_pick (mCons (mF (mLst (mCons (mTup mNil) (mCons (mTup (mCons (mC (.str "outside")) mNil)) mNil)))) mNil))) mNil))))) mNil))) ρ := (rfl)
def law_policy_p33 : Rho → SOut := (mDPut 17 (mC (.str "rules")) (mTup (mCons (mTup mNil) (mCons (mTup (mCons (mTup (mCons (mC (.str "drop")) mNil)) (mCons (mTup mNil) mNil))) mNil))))
theorem law_policy_p33_ (ρ : Rho) : law_policy_p33 ρ = (mDPut 17 (mC (.str "rules")) (mTup (mCons (mTup mNil) (mCons (mTup (mCons (mTup (mCons (mC (.str "drop")) mNil)) (mCons (mTup mNil) mNil))) mNil)))) ρ := (rfl)
def law_policy_p34 : Rho → SOut := (mDPut 17 (mC (.str "times")) (mBin fAdd (mTup (mCons (mC (.str "times")) mNil)) (mBin fMulS (mTup (mCons (mC (.int 60)) mNil)) (mC (.int 9)))))
theorem law_policy_p34_ (ρ : Rho) : law_policy_p34 ρ = (mDPut 17 (mC (.str "times")) (mBin fAdd (mTup (mCons (mC (.str "times")) mNil)) (mBin fMulS (mTup (mCons (mC (.int 60)) mNil)) (mC (.int 9))))) ρ := (rfl)
def law_policy_p35 : Rho → SOut := (mDPut 17 (mC (.str "room")) (mC (.int 8)))
theorem law_policy_p35_ (ρ : Rho) : law_policy_p35 ρ = (mDPut 17 (mC (.str "room")) (mC (.int 8))) ρ := (rfl)
def law_policy_p36 : Rho → SOut := (mDPut 17 (mC (.str "keep")) (mC (.str "stay")))
theorem law_policy_p36_ (ρ : Rho) : law_policy_p36 ρ = (mDPut 17 (mC (.str "keep")) (mC (.str "stay"))) ρ := (rfl)
def law_policy_p37 : Rho → SOut := (mRet (mMove 17))
theorem law_policy_p37_ (ρ : Rho) : law_policy_p37 ρ = (mRet (mMove 17)) ρ := (rfl)
def b_law_policy : Rho → SOut := (mSeq law_policy_p1 (mSeq law_policy_p6 (mSeq law_policy_p13 (mSeq law_policy_p14 (mSeq law_policy_p24 (mSeq law_policy_p25 (mSeq law_policy_p28 (mSeq law_policy_p29 (mSeq law_policy_p30 (mSeq law_policy_p31 (mSeq law_policy_p32 (mSeq law_policy_p33 (mSeq law_policy_p34 (mSeq law_policy_p35 (mSeq law_policy_p36 law_policy_p37)))))))))))))))
theorem b_law_policy_ (ρ : Rho) : b_law_policy ρ = (mSeq law_policy_p1 (mSeq law_policy_p6 (mSeq law_policy_p13 (mSeq law_policy_p14 (mSeq law_policy_p24 (mSeq law_policy_p25 (mSeq law_policy_p28 (mSeq law_policy_p29 (mSeq law_policy_p30 (mSeq law_policy_p31 (mSeq law_policy_p32 (mSeq law_policy_p33 (mSeq law_policy_p34 (mSeq law_policy_p35 (mSeq law_policy_p36 law_policy_p37))))))))))))))) ρ := (rfl)
def f_law_policy : List R → Option (R × List R) := fnM 19 3 [0] b_law_policy
theorem f_law_policy_ (a0 a1 a2 : R) : f_law_policy [a0, a1, a2] = kFM [0] [a0, a1, a2] (b_law_policy [some a0, some a1, some a2, none, none, none, none, none, none, none, none, none, none, none, none, none, none, none, none]) := ev_fnM _ _ _ _ _ rfl
def law_given_p1 : Rho → SOut := (mSet 1 (mLst (mCons (mC (.str "a")) (mCons (mC (.str "b-2")) (mCons (mC (.str "x")) (mCons (mC (.str "cookie")) (mCons (mC (.str "accept")) (mCons (mC (.str "9")) (mCons (mC (.str "host")) (mCons (mC (.str "request")) (mCons (mC (.str "y")) (mCons (mC (.str "a")) mNil))))))))))))
theorem law_given_p1_ (ρ : Rho) : law_given_p1 ρ = (mSet 1 (mLst (mCons (mC (.str "a")) (mCons (mC (.str "b-2")) (mCons (mC (.str "x")) (mCons (mC (.str "cookie")) (mCons (mC (.str "accept")) (mCons (mC (.str "9")) (mCons (mC (.str "host")) (mCons (mC (.str "request")) (mCons (mC (.str "y")) (mCons (mC (.str "a")) mNil)))))))))))) ρ := (rfl)
def law_given_e2 : Rho → Out R := (mS (mTup (mCons (mF (mFn1 0 f_law_pick (mCons (mV 1) mNil))) (mCons (mF (mFn1 0 f_law_pick (mCons (mF (mLst (mCons (mC (.str "")) (mCons (mC (.str "1")) (mCons (mC (.str "1.2.3.4")) (mCons (mC (.str "u, v")) (mCons (mC (.str "w")) mNil))))))) mNil))) mNil))))
theorem law_given_e2_ (ρ : Rho) : law_given_e2 ρ = (mS (mTup (mCons (mF (mFn1 0 f_law_pick (mCons (mV 1) mNil))) (mCons (mF (mFn1 0 f_law_pick (mCons (mF (mLst (mCons (mC (.str "")) (mCons (mC (.str "1")) (mCons (mC (.str "1.2.3.4")) (mCons (mC (.str "u, v")) (mCons (mC (.str "w")) mNil))))))) mNil))) mNil)))) ρ := (rfl)
def law_given_c3 : Rho → Out R := (mLc [4] (mItR fRng1 (mCons (mF (mFn1 0 f_law_draw (mCons (mC (.int 9)) mNil))) mNil)) (gNm 4) mTrue law_given_e2)
theorem law_given_c3_ (ρ : Rho) : law_given_c3 ρ = (mLc [4] (mItR fRng1 (mCons (mF (mFn1 0 f_law_draw (mCons (mC (.int 9)) mNil))) mNil)) (gNm 4) mTrue law_given_e2) ρ := (rfl)
def law_given_p4 : Rho → SOut := (mSet 2 law_given_c3)
theorem law_given_p4_ (ρ : Rho) : law_given_p4 ρ = (mSet 2 law_given_c3) ρ := (rfl)
def law_given_p5 : Rho → SOut := (mSet 3 (mFn1 0 f_law_pick (mCons (mF (mLst (mCons (mC (.str "close")) (mCons (mC (.str "A,x")) (mCons (mC (.str "host, Cookie")) (mCons (mC (.str "y  accept")) (mCons (mC (.str "b-2,,9")) (mCons (mC (.str "request")) (mCons (mC (.str "connection")) (mCons (mC (.str "")) mNil)))))))))) mNil)))
theorem law_given_p5_ (ρ : Rho) : law_given_p5 ρ = (mSet 3 (mFn1 0 f_law_pick (mCons (mF (mLst (mCons (mC (.str "close")) (mCons (mC (.str "A,x")) (mCons (mC (.str "host, Cookie")) (mCons (mC (.str "y  accept")) (mCons (mC (.str "b-2,,9")) (mCons (mC (.str "request")) (mCons (mC (.str "connection")) (mCons (mC (.str "")) mNil)))))))))) mNil))) ρ := (rfl)
def law_given_p6 : Rho → SOut := (mIns 2 (mF (mFn1 0 f_law_draw (mCons (mBin fAdd (mCall fLenD (mCons (mV 2) mNil)) (mC (.int 1))) mNil))) (mTup (mCons (mC (.str "connection")) (mCons (mV 3) mNil))))
theorem law_given_p6_ (ρ : Rho) : law_given_p6 ρ = (mIns 2 (mF (mFn1 0 f_law_draw (mCons (mBin fAdd (mCall fLenD (mCons (mV 2) mNil)) (mC (.int 1))) mNil))) (mTup (mCons (mC (.str "connection")) (mCons (mV 3) mNil)))) ρ := (rfl)
def law_given_p7 : Rho → SOut := (mIf (mTst (mBin fEq (mF (mFn1 0 f_law_draw (mCons (mC (.int 2)) mNil))) (mC (.int 0)))) (mSeq law_given_p5 law_given_p6) mNext)
theorem law_given_p7_ (ρ : Rho) : law_given_p7 ρ = (mIf (mTst (mBin fEq (mF (mFn1 0 f_law_draw (mCons (mC (.int 2)) mNil))) (mC (.int 0)))) (mSeq law_given_p5 law_given_p6) mNext) ρ := (rfl)
def law_given_p8 : Rho → SOut := (mRet (mS (mCall fTuple (mCons (mV 2) mNil))))
theorem law_given_p8_ (ρ : Rho) : law_given_p8 ρ = (mRet (mS (mCall fTuple (mCons (mV 2) mNil)))) ρ := (rfl)
def b_law_given : Rho → SOut := (mSeq law_given_p1 (mSeq law_given_p4 (mSeq law_given_p7 law_given_p8)))
theorem b_law_given_ (ρ : Rho) : b_law_given ρ = (mSeq law_given_p1 (mSeq law_given_p4 (mSeq law_given_p7 law_given_p8))) ρ := (rfl)
def f_law_given : List R → Option (R × List R) := fnM 5 1 [0] b_law_given
theorem f_law_given_ (a0 : R) : f_law_given [a0] = kFM [0] [a0] (b_law_given [some a0, none, none, none, none]) := ev_fnM _ _ _ _ _ rfl
def set_headers_e1 : Rho → Out R := (mS (mTup (mCons (mBin fIxD (mV 2) (mC (.int 2))) (mCons (mBin fIxD (mV 2) (mC (.int 3))) mNil))))
theorem set_headers_e1_ (ρ : Rho) : set_headers_e1 ρ = (mS (mTup (mCons (mBin fIxD (mV 2) (mC (.int 2))) (mCons (mBin fIxD (mV 2) (mC (.int 3))) mNil)))) ρ := (rfl)
def set_headers_t2 : Rho → Out Bool := (mAnd (mTst (mBin fEq (mBin fIxD (mV 2) (mC (.int 0))) (mC (.str "set")))) (mTst (mBin fEq (mBin fIxD (mV 2) (mC (.int 1))) (mV 1))))
theorem set_headers_t2_ (ρ : Rho) : set_headers_t2 ρ = (mAnd (mTst (mBin fEq (mBin fIxD (mV 2) (mC (.int 0))) (mC (.str "set")))) (mTst (mBin fEq (mBin fIxD (mV 2) (mC (.int 1))) (mV 1)))) ρ := (rfl)
def set_headers_c3 : Rho → Out R := (mLc [2] (mItS (mV 0)) (gNm 2) set_headers_t2 set_headers_e1)
theorem set_headers_c3_ (ρ : Rho) : set_headers_c3 ρ = (mLc [2] (mItS (mV 0)) (gNm 2) set_headers_t2 set_headers_e1) ρ := (rfl)
def set_headers_p4 : Rho → SOut := (mRet set_headers_c3)
theorem set_headers_p4_ (ρ : Rho) : set_headers_p4 ρ = (mRet set_headers_c3) ρ := (rfl)
def b_set_headers : Rho → SOut := set_headers_p4
theorem b_set_headers_ (ρ : Rho) : b_set_headers ρ = set_headers_p4 ρ := (rfl)
def f_set_headers : List R → Option (R × List R) := fnM 3 2 [] b_set_headers
theorem f_set_headers_ (a0 a1 : R) : f_set_headers [a0, a1] = kFM [] [a0, a1] (b_set_headers [some a0, some a1, none]) := ev_fnM _ _ _ _ _ rfl
def named_by_connection_p1 : Rho → SOut := (mSet 1 (mLst mNil))
theorem named_by_connection_p1_ (ρ : Rho) : named_by_connection_p1 ρ = (mSet 1 (mLst mNil)) ρ := (rfl)
def named_by_connection_p2 : Rho → SOut := (mExt 1 (mMt fSplit (mUn (fLowRep "," " ") (mV 3)) (mCons (mC (.str " ")) mNil)))
theorem named_by_connection_p2_ (ρ : Rho) : named_by_connection_p2 ρ = (mExt 1 (mMt fSplit (mUn (fLowRep "," " ") (mV 3)) (mCons (mC (.str " ")) mNil))) ρ := (rfl)
def named_by_connection_p3 : Rho → SOut := (mIf (mTst (mBin fEq (mV 2) (mC (.str "connection")))) named_by_connection_p2 mNext)
theorem named_by_connection_p3_ (ρ : Rho) : named_by_connection_p3 ρ = (mIf (mTst (mBin fEq (mV 2) (mC (.str "connection")))) named_by_connection_p2 mNext) ρ := (rfl)
def named_by_connection_b4 : Rho → SOut := named_by_connection_p3
theorem named_by_connection_b4_ (ρ : Rho) : named_by_connection_b4 ρ = named_by_connection_p3 ρ := (rfl)
def named_by_connection_p5 : Rho → SOut := (mFor (mItS (mV 0)) (gTup' 2 (gCons' (gNm 2) (gCons' (gNm 3) gNil'))) named_by_connection_b4)
theorem named_by_connection_p5_ (ρ : Rho) : named_by_connection_p5 ρ = (mFor (mItS (mV 0)) (gTup' 2 (gCons' (gNm 2) (gCons' (gNm 3) gNil'))) named_by_connection_b4) ρ := (rfl)
def named_by_connection_e6 : Rho → Out R := (mS (mV 2))
theorem named_by_connection_e6_ (ρ : Rho) : named_by_connection_e6 ρ = (mS (mV 2)) ρ := (rfl)
def named_by_connection_t7 : Rho → Out Bool := (mTst (mBin fNe (mV 2) (mC (.str "host"))))
theorem named_by_connection_t7_ (ρ : Rho) : named_by_connection_t7 ρ = (mTst (mBin fNe (mV 2) (mC (.str "host")))) ρ := (rfl)
def named_by_connection_c8 : Rho → Out R := (mLc [2] (mItS (mV 1)) (gNm 2) named_by_connection_t7 named_by_connection_e6)
theorem named_by_connection_c8_ (ρ : Rho) : named_by_connection_c8 ρ = (mLc [2] (mItS (mV 1)) (gNm 2) named_by_connection_t7 named_by_connection_e6) ρ := (rfl)
def named_by_connection_p9 : Rho → SOut := (mRet named_by_connection_c8)
theorem named_by_connection_p9_ (ρ : Rho) : named_by_connection_p9 ρ = (mRet named_by_connection_c8) ρ := (rfl)
def b_named_by_connection : Rho → SOut := (mSeq named_by_connection_p1 (mSeq named_by_connection_p5 named_by_connection_p9))
theorem b_named_by_connection_ (ρ : Rho) : b_named_by_connection ρ = (mSeq named_by_connection_p1 (mSeq named_by_connection_p5 named_by_connection_p9)) ρ := (rfl)
def f_named_by_connection : List R → Option (R × List R) := fnM 4 1 [] b_named_by_connection
theorem f_named_by_connection_ (a0 : R) : f_named_by_connection [a0] = kFM [] [a0] (b_named_by_connection [some a0, none, none, none]) := ev_fnM _ _ _ _ _ rfl
def shut_names_e1 : Rho → Out R := (mS (mBin fIxD (mV 4) (mC (.int 2))))
theorem shut_names_e1_ (ρ : Rho) : shut_names_e1 ρ = (mS (mBin fIxD (mV 4) (mC (.int 2)))) ρ := (rfl)
def shut_names_t2 : Rho → Out Bool := (mAnd (mTst (mBin fNe (mBin fIxD (mV 4) (mC (.int 0))) (mC (.str "from")))) (mTst (mBin fEq (mBin fIxD (mV 4) (mC (.int 1))) (mV 1))))
theorem shut_names_t2_ (ρ : Rho) : shut_names_t2 ρ = (mAnd (mTst (mBin fNe (mBin fIxD (mV 4) (mC (.int 0))) (mC (.str "from")))) (mTst (mBin fEq (mBin fIxD (mV 4) (mC (.int 1))) (mV 1)))) ρ := (rfl)
def shut_names_c3 : Rho → Out R := (mLc [4] (mItS (mV 0)) (gNm 4) shut_names_t2 shut_names_e1)
theorem shut_names_c3_ (ρ : Rho) : shut_names_c3 ρ = (mLc [4] (mItS (mV 0)) (gNm 4) shut_names_t2 shut_names_e1) ρ := (rfl)
def shut_names_p4 : Rho → SOut := (mSet 3 shut_names_c3)
theorem shut_names_p4_ (ρ : Rho) : shut_names_p4 ρ = (mSet 3 shut_names_c3) ρ := (rfl)
def shut_names_p5 : Rho → SOut := (mRet (mS (mBin fAdd (mBin fAdd (mF (mLst (mCons (mC (.str "connection")) mNil))) (mF (mFn f_named_by_connection (mCons (mV 2) mNil)))) (mV 3))))
theorem shut_names_p5_ (ρ : Rho) : shut_names_p5 ρ = (mRet (mS (mBin fAdd (mBin fAdd (mF (mLst (mCons (mC (.str "connection")) mNil))) (mF (mFn f_named_by_connection (mCons (mV 2) mNil)))) (mV 3)))) ρ := (rfl)
def b_shut_names : Rho → SOut := (mSeq shut_names_p4 shut_names_p5)
theorem b_shut_names_ (ρ : Rho) : b_shut_names ρ = (mSeq shut_names_p4 shut_names_p5) ρ := (rfl)
def f_shut_names : List R → Option (R × List R) := fnM 5 3 [] b_shut_names
theorem f_shut_names_ (a0 a1 a2 : R) : f_shut_names [a0, a1, a2] = kFM [] [a0, a1, a2] (b_shut_names [some a0, some a1, some a2, none, none]) := ev_fnM _ _ _ _ _ rfl
def show_address_e1 : Rho → Out R := (mS (mCall fStr (mCons (mBin fMod (mBin fDiv (mV 0) (mV 1)) (mC (.int 256))) mNil)))
theorem show_address_e1_ (ρ : Rho) : show_address_e1 ρ = (mS (mCall fStr (mCons (mBin fMod (mBin fDiv (mV 0) (mV 1)) (mC (.int 256))) mNil))) ρ := (rfl)
def show_address_c2 : Rho → Out R := (mLc [1] (mItS (mTup (mCons (mBin fPow (mC (.int 2)) (mC (.int 24))) (mCons (mC (.int 65536)) (mCons (mC (.int 256)) (mCons (mC (.int 1)) mNil)))))) (gNm 1) mTrue show_address_e1)
theorem show_address_c2_ (ρ : Rho) : show_address_c2 ρ = (mLc [1] (mItS (mTup (mCons (mBin fPow (mC (.int 2)) (mC (.int 24))) (mCons (mC (.int 65536)) (mCons (mC (.int 256)) (mCons (mC (.int 1)) mNil)))))) (gNm 1) mTrue show_address_e1) ρ := (rfl)
def show_address_p3 : Rho → SOut := (mRet (mS (mMt fJoin (mC (.str ".")) (mCons (mF show_address_c2) mNil))))
theorem show_address_p3_ (ρ : Rho) : show_address_p3 ρ = (mRet (mS (mMt fJoin (mC (.str ".")) (mCons (mF show_address_c2) mNil)))) ρ := (rfl)
def b_show_address : Rho → SOut := show_address_p3
theorem b_show_address_ (ρ : Rho) : b_show_address ρ = show_address_p3 ρ := (rfl)
def f_show_address : List R → Option (R × List R) := fnM 2 1 [] b_show_address
theorem f_show_address_ (a0 : R) : f_show_address [a0] = kFM [] [a0] (b_show_address [some a0, none]) := ev_fnM _ _ _ _ _ rfl
def is_trusted_e1 : Rho → Out R := (mS (mChain fLe fLe (mV 2) (mV 1) (mV 3)))
theorem is_trusted_e1_ (ρ : Rho) : is_trusted_e1 ρ = (mS (mChain fLe fLe (mV 2) (mV 1) (mV 3))) ρ := (rfl)
def is_trusted_c2 : Rho → Out R := (mLc [2, 3] (mItS (mV 0)) (gTup' 2 (gCons' (gNm 2) (gCons' (gNm 3) gNil'))) mTrue is_trusted_e1)
theorem is_trusted_c2_ (ρ : Rho) : is_trusted_c2 ρ = (mLc [2, 3] (mItS (mV 0)) (gTup' 2 (gCons' (gNm 2) (gCons' (gNm 3) gNil'))) mTrue is_trusted_e1) ρ := (rfl)
def is_trusted_p3 : Rho → SOut := (mRet (mS (mCall fAny (mCons (mF is_trusted_c2) mNil))))
theorem is_trusted_p3_ (ρ : Rho) : is_trusted_p3 ρ = (mRet (mS (mCall fAny (mCons (mF is_trusted_c2) mNil)))) ρ := (rfl)
def b_is_trusted : Rho → SOut := is_trusted_p3
theorem b_is_trusted_ (ρ : Rho) : b_is_trusted ρ = is_trusted_p3 ρ := (rfl)
def f_is_trusted : List R → Option (R × List R) := fnM 4 2 [] b_is_trusted
theorem f_is_trusted_ (a0 a1 : R) : f_is_trusted [a0, a1] = kFM [] [a0, a1] (b_is_trusted [some a0, some a1, none, none]) := ev_fnM _ _ _ _ _ rfl
def from_value_e1 : Rho → Out R := (mS (mV 7))
theorem from_value_e1_ (ρ : Rho) : from_value_e1 ρ = (mS (mV 7)) ρ := (rfl)
def from_value_t2 : Rho → Out Bool := (mTst (mBin fEq (mV 6) (mV 0)))
theorem from_value_t2_ (ρ : Rho) : from_value_t2 ρ = (mTst (mBin fEq (mV 6) (mV 0))) ρ := (rfl)
def from_value_c3 : Rho → Out R := (mLc [6, 7] (mItS (mV 3)) (gTup' 2 (gCons' (gNm 6) (gCons' (gNm 7) gNil'))) from_value_t2 from_value_e1)
theorem from_value_c3_ (ρ : Rho) : from_value_c3 ρ = (mLc [6, 7] (mItS (mV 3)) (gTup' 2 (gCons' (gNm 6) (gCons' (gNm 7) gNil'))) from_value_t2 from_value_e1) ρ := (rfl)
def from_value_p4 : Rho → SOut := (mSet 4 (mS (mSl fSl (mF from_value_c3) mQ0 (mQ1 (mC (.int 1))))))
theorem from_value_p4_ (ρ : Rho) : from_value_p4 ρ = (mSet 4 (mS (mSl fSl (mF from_value_c3) mQ0 (mQ1 (mC (.int 1)))))) ρ := (rfl)
def from_value_p5 : Rho → SOut := (mSet 5 (mFn f_show_address (mCons (mV 2) mNil)))
theorem from_value_p5_ (ρ : Rho) : from_value_p5 ρ = (mSet 5 (mFn f_show_address (mCons (mV 2) mNil))) ρ := (rfl)
def from_value_p6 : Rho → SOut := (mRet (mS (mIfE (mAnd (mTst (mBin fNe (mV 4) (mF (mLst mNil)))) (mTru (mF (mFn f_is_trusted (mCons (mV 1) (mCons (mV 2) mNil)))))) (mBin fAdd (mBin fAdd (mBin fIxD (mV 4) (mC (.int 0))) (mC (.str ", "))) (mV 5)) (mV 5))))
theorem from_value_p6_ (ρ : Rho) : from_value_p6 ρ = (mRet (mS (mIfE (mAnd (mTst (mBin fNe (mV 4) (mF (mLst mNil)))) (mTru (mF (mFn f_is_trusted (mCons (mV 1) (mCons (mV 2) mNil)))))) (mBin fAdd (mBin fAdd (mBin fIxD (mV 4) (mC (.int 0))) (mC (.str ", "))) (mV 5)) (mV 5)))) ρ := (rfl)
def b_from_value : Rho → SOut := (mSeq from_value_p4 (mSeq from_value_p5 from_value_p6))
theorem b_from_value_ (ρ : Rho) : b_from_value ρ = (mSeq from_value_p4 (mSeq from_value_p5 from_value_p6)) ρ := (rfl)
def f_from_value : List R → Option (R × List R) := fnM 8 4 [] b_from_value
theorem f_from_value_ (a0 a1 a2 a3 : R) : f_from_value [a0, a1, a2, a3] = kFM [] [a0, a1, a2, a3] (b_from_value [some a0, some a1, some a2, some a3, none, none, none, none]) := ev_fnM _ _ _ _ _ rfl
def inside_headers_e1 : Rho → Out R := (mS (mBin fIxD (mV 8) (mC (.int 1))))
theorem inside_headers_e1_ (ρ : Rho) : inside_headers_e1 ρ = (mS (mBin fIxD (mV 8) (mC (.int 1)))) ρ := (rfl)
def inside_headers_t2 : Rho → Out Bool := (mTst (mBin fEq (mBin fIxD (mV 8) (mC (.int 0))) (mC (.str "from"))))
theorem inside_headers_t2_ (ρ : Rho) : inside_headers_t2 ρ = (mTst (mBin fEq (mBin fIxD (mV 8) (mC (.int 0))) (mC (.str "from")))) ρ := (rfl)
def inside_headers_c3 : Rho → Out R := (mLc [8] (mItS (mV 0)) (gNm 8) inside_headers_t2 inside_headers_e1)
theorem inside_headers_c3_ (ρ : Rho) : inside_headers_c3 ρ = (mLc [8] (mItS (mV 0)) (gNm 8) inside_headers_t2 inside_headers_e1) ρ := (rfl)
def inside_headers_p4 : Rho → SOut := (mSet 5 inside_headers_c3)
theorem inside_headers_p4_ (ρ : Rho) : inside_headers_p4 ρ = (mSet 5 inside_headers_c3) ρ := (rfl)
def inside_headers_p5 : Rho → SOut := (mSet 6 (mS (mBin fAdd (mBin fAdd (mF (mFn f_shut_names (mCons (mV 0) (mCons (mC (.str "request")) (mCons (mV 4) mNil))))) (mV 5)) (mF (mLst (mCons (mC (.str "request")) mNil))))))
theorem inside_headers_p5_ (ρ : Rho) : inside_headers_p5 ρ = (mSet 6 (mS (mBin fAdd (mBin fAdd (mF (mFn f_shut_names (mCons (mV 0) (mCons (mC (.str "request")) (mCons (mV 4) mNil))))) (mV 5)) (mF (mLst (mCons (mC (.str "request")) mNil)))))) ρ := (rfl)
def inside_headers_e6 : Rho → Out R := (mS (mV 9))
theorem inside_headers_e6_ (ρ : Rho) : inside_headers_e6 ρ = (mS (mV 9)) ρ := (rfl)
def inside_headers_t7 : Rho → Out Bool := (mTst (mBin fNotIn (mBin fIxD (mV 9) (mC (.int 0))) (mV 6)))
theorem inside_headers_t7_ (ρ : Rho) : inside_headers_t7 ρ = (mTst (mBin fNotIn (mBin fIxD (mV 9) (mC (.int 0))) (mV 6))) ρ := (rfl)
def inside_headers_c8 : Rho → Out R := (mLc [9] (mItS (mV 4)) (gNm 9) inside_headers_t7 inside_headers_e6)
theorem inside_headers_c8_ (ρ : Rho) : inside_headers_c8 ρ = (mLc [9] (mItS (mV 4)) (gNm 9) inside_headers_t7 inside_headers_e6) ρ := (rfl)
def inside_headers_p9 : Rho → SOut := (mSet 7 (mS (mBin fAdd (mF inside_headers_c8) (mF (mFn f_set_headers (mCons (mV 0) (mCons (mC (.str "request")) mNil)))))))
theorem inside_headers_p9_ (ρ : Rho) : inside_headers_p9 ρ = (mSet 7 (mS (mBin fAdd (mF inside_headers_c8) (mF (mFn f_set_headers (mCons (mV 0) (mCons (mC (.str "request")) mNil))))))) ρ := (rfl)
def inside_headers_e10 : Rho → Out R := (mS (mTup (mCons (mV 9) (mCons (mF (mFn f_from_value (mCons (mV 9) (mCons (mV 1) (mCons (mV 2) (mCons (mV 4) mNil)))))) mNil))))
theorem inside_headers_e10_ (ρ : Rho) : inside_headers_e10 ρ = (mS (mTup (mCons (mV 9) (mCons (mF (mFn f_from_value (mCons (mV 9) (mCons (mV 1) (mCons (mV 2) (mCons (mV 4) mNil)))))) mNil)))) ρ := (rfl)
def inside_headers_c11 : Rho → Out R := (mLc [9] (mItS (mV 5)) (gNm 9) mTrue inside_headers_e10)
theorem inside_headers_c11_ (ρ : Rho) : inside_headers_c11 ρ = (mLc [9] (mItS (mV 5)) (gNm 9) mTrue inside_headers_e10) ρ := (rfl)
def inside_headers_p12 : Rho → SOut := (mSet 7 (mS (mBin fAdd (mV 7) (mF inside_headers_c11))))
theorem inside_headers_p12_ (ρ : Rho) : inside_headers_p12 ρ = (mSet 7 (mS (mBin fAdd (mV 7) (mF inside_headers_c11)))) ρ := (rfl)
def inside_headers_p13 : Rho → SOut := (mRet (mS (mCall fTuple (mCons (mBin fAdd (mV 7) (mF (mLst (mCons (mTup (mCons (mC (.str "request")) (mCons (mBin fAdd (mBin fAdd (mCall fStr (mCons (mBin fIxD (mV 3) (mC (.int 0))) mNil)) (mC (.str "."))) (mCall fStr (mCons (mBin fIxD (mV 3) (mC (.int 1))) mNil))) mNil))) mNil)))) mNil))))
theorem inside_headers_p13_ (ρ : Rho) : inside_headers_p13 ρ = (mRet (mS (mCall fTuple (mCons (mBin fAdd (mV 7) (mF (mLst (mCons (mTup (mCons (mC (.str "request")) (mCons (mBin fAdd (mBin fAdd (mCall fStr (mCons (mBin fIxD (mV 3) (mC (.int 0))) mNil)) (mC (.str "."))) (mCall fStr (mCons (mBin fIxD (mV 3) (mC (.int 1))) mNil))) mNil))) mNil)))) mNil)))) ρ := (rfl)
def b_inside_headers : Rho → SOut := (mSeq inside_headers_p4 (mSeq inside_headers_p5 (mSeq inside_headers_p9 (mSeq inside_headers_p12 inside_headers_p13))))
theorem b_inside_headers_ (ρ : Rho) : b_inside_headers ρ = (mSeq inside_headers_p4 (mSeq inside_headers_p5 (mSeq inside_headers_p9 (mSeq inside_headers_p12 inside_headers_p13)))) ρ := (rfl)
def f_inside_headers : List R → Option (R × List R) := fnM 10 5 [] b_inside_headers
theorem f_inside_headers_ (a0 a1 a2 a3 a4 : R) : f_inside_headers [a0, a1, a2, a3, a4] = kFM [] [a0, a1, a2, a3, a4] (b_inside_headers [some a0, some a1, some a2, some a3, some a4, none, none, none, none, none]) := ev_fnM _ _ _ _ _ rfl
def outside_headers_p1 : Rho → SOut := (mSet 2 (mFn f_shut_names (mCons (mV 0) (mCons (mC (.str "answer")) (mCons (mV 1) mNil)))))
theorem outside_headers_p1_ (ρ : Rho) : outside_headers_p1 ρ = (mSet 2 (mFn f_shut_names (mCons (mV 0) (mCons (mC (.str "answer")) (mCons (mV 1) mNil))))) ρ := (rfl)
def outside_headers_e2 : Rho → Out R := (mS (mV 3))
theorem outside_headers_e2_ (ρ : Rho) : outside_headers_e2 ρ = (mS (mV 3)) ρ := (rfl)
def outside_headers_t3 : Rho → Out Bool := (mTst (mBin fNotIn (mBin fIxD (mV 3) (mC (.int 0))) (mV 2)))
theorem outside_headers_t3_ (ρ : Rho) : outside_headers_t3 ρ = (mTst (mBin fNotIn (mBin fIxD (mV 3) (mC (.int 0))) (mV 2))) ρ := (rfl)
def outside_headers_c4 : Rho → Out R := (mLc [3] (mItS (mV 1)) (gNm 3) outside_headers_t3 outside_headers_e2)
theorem outside_headers_c4_ (ρ : Rho) : outside_headers_c4 ρ = (mLc [3] (mItS (mV 1)) (gNm 3) outside_headers_t3 outside_headers_e2) ρ := (rfl)
def outside_headers_p5 : Rho → SOut := (mRet (mS (mCall fTuple (mCons (mBin fAdd (mF outside_headers_c4) (mF (mFn f_set_headers (mCons (mV 0) (mCons (mC (.str "answer")) mNil))))) mNil))))
theorem outside_headers_p5_ (ρ : Rho) : outside_headers_p5 ρ = (mRet (mS (mCall fTuple (mCons (mBin fAdd (mF outside_headers_c4) (mF (mFn f_set_headers (mCons (mV 0) (mCons (mC (.str "answer")) mNil))))) mNil)))) ρ := (rfl)
def b_outside_headers : Rho → SOut := (mSeq outside_headers_p1 outside_headers_p5)
theorem b_outside_headers_ (ρ : Rho) : b_outside_headers ρ = (mSeq outside_headers_p1 outside_headers_p5) ρ := (rfl)
def f_outside_headers : List R → Option (R × List R) := fnM 4 2 [] b_outside_headers
theorem f_outside_headers_ (a0 a1 : R) : f_outside_headers [a0, a1] = kFM [] [a0, a1] (b_outside_headers [some a0, some a1, none, none]) := ev_fnM _ _ _ _ _ rfl
def law_shut_p1 : Rho → SOut := (mSet 3 (mLst (mCons (mC (.str "connection")) mNil)))
theorem law_shut_p1_ (ρ : Rho) : law_shut_p1 ρ = (mSet 3 (mLst (mCons (mC (.str "connection")) mNil))) ρ := (rfl)
def law_shut_e2 : Rho → Out R := (mS (mV 7))
theorem law_shut_e2_ (ρ : Rho) : law_shut_e2 ρ = (mS (mV 7)) ρ := (rfl)
def law_shut_t3 : Rho → Out Bool := (mTst (mBin fNe (mV 7) (mC (.str "host"))))
theorem law_shut_t3_ (ρ : Rho) : law_shut_t3 ρ = (mTst (mBin fNe (mV 7) (mC (.str "host")))) ρ := (rfl)
def law_shut_c4 : Rho → Out R := (mLc [7] (mItS (mMt fSplit (mUn (fLowRep "," " ") (mV 5)) (mCons (mC (.str " ")) mNil))) (gNm 7) law_shut_t3 law_shut_e2)
theorem law_shut_c4_ (ρ : Rho) : law_shut_c4 ρ = (mLc [7] (mItS (mMt fSplit (mUn (fLowRep "," " ") (mV 5)) (mCons (mC (.str " ")) mNil))) (gNm 7) law_shut_t3 law_shut_e2) ρ := (rfl)
def law_shut_p5 : Rho → SOut := (mSet 3 (mBinL fCat (mV 3) (mF law_shut_c4)))
theorem law_shut_p5_ (ρ : Rho) : law_shut_p5 ρ = (mSet 3 (mBinL fCat (mV 3) (mF law_shut_c4))) ρ := (rfl)
def law_shut_p6 : Rho → SOut := (mIf (mTst (mBin fEq (mV 4) (mC (.str "connection")))) law_shut_p5 mNext)
theorem law_shut_p6_ (ρ : Rho) : law_shut_p6 ρ = (mIf (mTst (mBin fEq (mV 4) (mC (.str "connection")))) law_shut_p5 mNext) ρ := (rfl)
def law_shut_b7 : Rho → SOut := law_shut_p6
theorem law_shut_b7_ (ρ : Rho) : law_shut_b7 ρ = law_shut_p6 ρ := (rfl)
def law_shut_p8 : Rho → SOut := (mFor (mItS (mV 2)) (gTup' 2 (gCons' (gNm 4) (gCons' (gNm 5) gNil'))) law_shut_b7)
theorem law_shut_p8_ (ρ : Rho) : law_shut_p8 ρ = (mFor (mItS (mV 2)) (gTup' 2 (gCons' (gNm 4) (gCons' (gNm 5) gNil'))) law_shut_b7) ρ := (rfl)
def law_shut_p9 : Rho → SOut := (mApp 3 (mBin fIxD (mV 6) (mC (.int 1))))
theorem law_shut_p9_ (ρ : Rho) : law_shut_p9 ρ = (mApp 3 (mBin fIxD (mV 6) (mC (.int 1)))) ρ := (rfl)
def law_shut_p10 : Rho → SOut := (mIf (mAnd (mTst (mBin fEq (mBin fIxD (mV 6) (mC (.int 0))) (mC (.str "from")))) (mTst (mBin fEq (mV 1) (mC (.str "request"))))) law_shut_p9 mNext)
theorem law_shut_p10_ (ρ : Rho) : law_shut_p10 ρ = (mIf (mAnd (mTst (mBin fEq (mBin fIxD (mV 6) (mC (.int 0))) (mC (.str "from")))) (mTst (mBin fEq (mV 1) (mC (.str "request"))))) law_shut_p9 mNext) ρ := (rfl)
def law_shut_p11 : Rho → SOut := (mApp 3 (mBin fIxD (mV 6) (mC (.int 2))))
theorem law_shut_p11_ (ρ : Rho) : law_shut_p11 ρ = (mApp 3 (mBin fIxD (mV 6) (mC (.int 2)))) ρ := (rfl)
def law_shut_p12 : Rho → SOut := (mIf (mAnd (mTst (mBin fNe (mBin fIxD (mV 6) (mC (.int 0))) (mC (.str "from")))) (mTst (mBin fEq (mBin fIxD (mV 6) (mC (.int 1))) (mV 1)))) law_shut_p11 mNext)
theorem law_shut_p12_ (ρ : Rho) : law_shut_p12 ρ = (mIf (mAnd (mTst (mBin fNe (mBin fIxD (mV 6) (mC (.int 0))) (mC (.str "from")))) (mTst (mBin fEq (mBin fIxD (mV 6) (mC (.int 1))) (mV 1)))) law_shut_p11 mNext) ρ := (rfl)
def law_shut_b13 : Rho → SOut := (mSeq law_shut_p10 law_shut_p12)
theorem law_shut_b13_ (ρ : Rho) : law_shut_b13 ρ = (mSeq law_shut_p10 law_shut_p12) ρ := (rfl)
def law_shut_p14 : Rho → SOut := (mFor (mItS (mV 0)) (gNm 6) law_shut_b13)
theorem law_shut_p14_ (ρ : Rho) : law_shut_p14 ρ = (mFor (mItS (mV 0)) (gNm 6) law_shut_b13) ρ := (rfl)
def law_shut_p15 : Rho → SOut := (mRet (mMove 3))
theorem law_shut_p15_ (ρ : Rho) : law_shut_p15 ρ = (mRet (mMove 3)) ρ := (rfl)
def b_law_shut : Rho → SOut := (mSeq law_shut_p1 (mSeq law_shut_p8 (mSeq law_shut_p14 law_shut_p15)))
theorem b_law_shut_ (ρ : Rho) : b_law_shut ρ = (mSeq law_shut_p1 (mSeq law_shut_p8 (mSeq law_shut_p14 law_shut_p15))) ρ := (rfl)
def f_law_shut : List R → Option (R × List R) := fnM 8 3 [] b_law_shut
theorem f_law_shut_ (a0 a1 a2 : R) : f_law_shut [a0, a1, a2] = kFM [] [a0, a1, a2] (b_law_shut [some a0, some a1, some a2, none, none, none, none, none]) := ev_fnM _ _ _ _ _ rfl
def law_dotted_e1 : Rho → Out R := (mS (mCall fStr (mCons (mBin fMod (mCall fIntT (mCons (mBin fDiv (mV 0) (mV 1)) mNil)) (mC (.int 256))) mNil)))
theorem law_dotted_e1_ (ρ : Rho) : law_dotted_e1 ρ = (mS (mCall fStr (mCons (mBin fMod (mCall fIntT (mCons (mBin fDiv (mV 0) (mV 1)) mNil)) (mC (.int 256))) mNil))) ρ := (rfl)
def law_dotted_c2 : Rho → Out R := (mLc [1] (mItS (mTup (mCons (mC (.int 16777216)) (mCons (mC (.int 65536)) (mCons (mC (.int 256)) (mCons (mC (.int 1)) mNil)))))) (gNm 1) mTrue law_dotted_e1)
theorem law_dotted_c2_ (ρ : Rho) : law_dotted_c2 ρ = (mLc [1] (mItS (mTup (mCons (mC (.int 16777216)) (mCons (mC (.int 65536)) (mCons (mC (.int 256)) (mCons (mC (.int 1)) mNil)))))) (gNm 1) mTrue law_dotted_e1) ρ := (rfl)
def law_dotted_p3 : Rho → SOut := (mRet (mS (mMt fJoin (mC (.str ".")) (mCons (mF law_dotted_c2) mNil))))
theorem law_dotted_p3_ (ρ : Rho) : law_dotted_p3 ρ = (mRet (mS (mMt fJoin (mC (.str ".")) (mCons (mF law_dotted_c2) mNil)))) ρ := (rfl)
def b_law_dotted : Rho → SOut := law_dotted_p3
theorem b_law_dotted_ (ρ : Rho) : b_law_dotted ρ = law_dotted_p3 ρ := (rfl)
def f_law_dotted : List R → Option (R × List R) := fnM 2 1 [] b_law_dotted
theorem f_law_dotted_ (a0 : R) : f_law_dotted [a0] = kFM [] [a0] (b_law_dotted [some a0, none]) := ev_fnM _ _ _ _ _ rfl
def law_inside_p1 : Rho → SOut := (mSet 4 (mS (mBin fIxD (mV 0) (mC (.str "headers")))))
theorem law_inside_p1_ (ρ : Rho) : law_inside_p1 ρ = (mSet 4 (mS (mBin fIxD (mV 0) (mC (.str "headers"))))) ρ := (rfl)
def law_inside_p2 : Rho → SOut := (mSet 5 (mS (mBin fAdd (mF (mFn f_law_shut (mCons (mV 4) (mCons (mC (.str "request")) (mCons (mV 3) mNil))))) (mF (mLst (mCons (mC (.str "request")) mNil))))))
theorem law_inside_p2_ (ρ : Rho) : law_inside_p2 ρ = (mSet 5 (mS (mBin fAdd (mF (mFn f_law_shut (mCons (mV 4) (mCons (mC (.str "request")) (mCons (mV 3) mNil))))) (mF (mLst (mCons (mC (.str "request")) mNil)))))) ρ := (rfl)
def law_inside_e3 : Rho → Out R := (mS (mV 8))
theorem law_inside_e3_ (ρ : Rho) : law_inside_e3 ρ = (mS (mV 8)) ρ := (rfl)
def law_inside_t4 : Rho → Out Bool := (mTst (mBin fNotIn (mBin fIxD (mV 8) (mC (.int 0))) (mV 5)))
theorem law_inside_t4_ (ρ : Rho) : law_inside_t4 ρ = (mTst (mBin fNotIn (mBin fIxD (mV 8) (mC (.int 0))) (mV 5))) ρ := (rfl)
def law_inside_c5 : Rho → Out R := (mLc [8] (mItS (mV 3)) (gNm 8) law_inside_t4 law_inside_e3)
theorem law_inside_c5_ (ρ : Rho) : law_inside_c5 ρ = (mLc [8] (mItS (mV 3)) (gNm 8) law_inside_t4 law_inside_e3) ρ := (rfl)
def law_inside_p6 : Rho → SOut := (mSet 6 law_inside_c5)
theorem law_inside_p6_ (ρ : Rho) : law_inside_p6 ρ = (mSet 6 law_inside_c5) ρ := (rfl)
def law_inside_e7 : Rho → Out R := (mS (mTup (mCons (mBin fIxD (mV 8) (mC (.int 2))) (mCons (mBin fIxD (mV 8) (mC (.int 3))) mNil))))
theorem law_inside_e7_ (ρ : Rho) : law_inside_e7 ρ = (mS (mTup (mCons (mBin fIxD (mV 8) (mC (.int 2))) (mCons (mBin fIxD (mV 8) (mC (.int 3))) mNil)))) ρ := (rfl)
def law_inside_t8 : Rho → Out Bool := (mTst (mBin fEq (mSl fSl (mV 8) mQ0 (mQ1 (mC (.int 2)))) (mTup (mCons (mC (.str "set")) (mCons (mC (.str "request")) mNil)))))
theorem law_inside_t8_ (ρ : Rho) : law_inside_t8 ρ = (mTst (mBin fEq (mSl fSl (mV 8) mQ0 (mQ1 (mC (.int 2)))) (mTup (mCons (mC (.str "set")) (mCons (mC (.str "request")) mNil))))) ρ := (rfl)
def law_inside_c9 : Rho → Out R := (mLc [8] (mItS (mV 4)) (gNm 8) law_inside_t8 law_inside_e7)
theorem law_inside_c9_ (ρ : Rho) : law_inside_c9 ρ = (mLc [8] (mItS (mV 4)) (gNm 8) law_inside_t8 law_inside_e7) ρ := (rfl)
def law_inside_p10 : Rho → SOut := (mSet 6 (mBinL fCat (mV 6) (mF law_inside_c9)))
theorem law_inside_p10_ (ρ : Rho) : law_inside_p10 ρ = (mSet 6 (mBinL fCat (mV 6) (mF law_inside_c9))) ρ := (rfl)
def law_inside_e11 : Rho → Out R := (mS (mChain fLe fLe (mV 11) (mV 1) (mV 12)))
theorem law_inside_e11_ (ρ : Rho) : law_inside_e11 ρ = (mS (mChain fLe fLe (mV 11) (mV 1) (mV 12))) ρ := (rfl)
def law_inside_c12 : Rho → Out R := (mLc [11, 12] (mItS (mBin fIxD (mV 0) (mC (.str "trusted")))) (gTup' 2 (gCons' (gNm 11) (gCons' (gNm 12) gNil'))) mTrue law_inside_e11)
theorem law_inside_c12_ (ρ : Rho) : law_inside_c12 ρ = (mLc [11, 12] (mItS (mBin fIxD (mV 0) (mC (.str "trusted")))) (gTup' 2 (gCons' (gNm 11) (gCons' (gNm 12) gNil'))) mTrue law_inside_e11) ρ := (rfl)
def law_inside_p13 : Rho → SOut := (mSet 7 (mS (mCall fAny (mCons (mF law_inside_c12) mNil))))
theorem law_inside_p13_ (ρ : Rho) : law_inside_p13 ρ = (mSet 7 (mS (mCall fAny (mCons (mF law_inside_c12) mNil)))) ρ := (rfl)
def law_inside_e14 : Rho → Out R := (mS (mV 10))
theorem law_inside_e14_ (ρ : Rho) : law_inside_e14 ρ = (mS (mV 10)) ρ := (rfl)
def law_inside_t15 : Rho → Out Bool := (mTst (mBin fEq (mV 13) (mBin fIxD (mV 8) (mC (.int 1)))))
theorem law_inside_t15_ (ρ : Rho) : law_inside_t15 ρ = (mTst (mBin fEq (mV 13) (mBin fIxD (mV 8) (mC (.int 1))))) ρ := (rfl)
def law_inside_c16 : Rho → Out R := (mLc [13, 10] (mItS (mV 3)) (gTup' 2 (gCons' (gNm 13) (gCons' (gNm 10) gNil'))) law_inside_t15 law_inside_e14)
theorem law_inside_c16_ (ρ : Rho) : law_inside_c16 ρ = (mLc [13, 10] (mItS (mV 3)) (gTup' 2 (gCons' (gNm 13) (gCons' (gNm 10) gNil'))) law_inside_t15 law_inside_e14) ρ := (rfl)
def law_inside_p17 : Rho → SOut := (mSet 9 (mS (mSl fSl (mF law_inside_c16) mQ0 (mQ1 (mC (.int 1))))))
theorem law_inside_p17_ (ρ : Rho) : law_inside_p17 ρ = (mSet 9 (mS (mSl fSl (mF law_inside_c16) mQ0 (mQ1 (mC (.int 1)))))) ρ := (rfl)
def law_inside_p18 : Rho → SOut := (mSet 10 (mFn f_law_dotted (mCons (mV 1) mNil)))
theorem law_inside_p18_ (ρ : Rho) : law_inside_p18 ρ = (mSet 10 (mFn f_law_dotted (mCons (mV 1) mNil))) ρ := (rfl)
def law_inside_p19 : Rho → SOut := (mSet 10 (mS (mBin fAdd (mBin fAdd (mBin fIxD (mV 9) (mC (.int 0))) (mC (.str ", "))) (mV 10))))
theorem law_inside_p19_ (ρ : Rho) : law_inside_p19 ρ = (mSet 10 (mS (mBin fAdd (mBin fAdd (mBin fIxD (mV 9) (mC (.int 0))) (mC (.str ", "))) (mV 10)))) ρ := (rfl)
def law_inside_p20 : Rho → SOut := (mIf (mAnd (mTst (mBin fNe (mV 9) (mF (mLst mNil)))) (mTru (mV 7))) law_inside_p19 mNext)
theorem law_inside_p20_ (ρ : Rho) : law_inside_p20 ρ = (mIf (mAnd (mTst (mBin fNe (mV 9) (mF (mLst mNil)))) (mTru (mV 7))) law_inside_p19 mNext) ρ := (rfl)
def law_inside_p21 : Rho → SOut := (mApp 6 (mTup (mCons (mBin fIxD (mV 8) (mC (.int 1))) (mCons (mV 10) mNil))))
theorem law_inside_p21_ (ρ : Rho) : law_inside_p21 ρ = (mApp 6 (mTup (mCons (mBin fIxD (mV 8) (mC (.int 1))) (mCons (mV 10) mNil)))) ρ := (rfl)
def law_inside_p22 : Rho → SOut := (mIf (mTst (mBin fEq (mBin fIxD (mV 8) (mC (.int 0))) (mC (.str "from")))) (mSeq law_inside_p17 (mSeq law_inside_p18 (mSeq law_inside_p20 law_inside_p21))) mNext)
theorem law_inside_p22_ (ρ : Rho) : law_inside_p22 ρ = (mIf (mTst (mBin fEq (mBin fIxD (mV 8) (mC (.int 0))) (mC (.str "from")))) (mSeq law_inside_p17 (mSeq law_inside_p18 (mSeq law_inside_p20 law_inside_p21))) mNext) ρ := (rfl)
def law_inside_b23 : Rho → SOut := law_inside_p22
theorem law_inside_b23_ (ρ : Rho) : law_inside_b23 ρ = law_inside_p22 ρ := (rfl)
def law_inside_p24 : Rho → SOut := (mFor (mItS (mV 4)) (gNm 8) law_inside_b23)
theorem law_inside_p24_ (ρ : Rho) : law_inside_p24 ρ = (mFor (mItS (mV 4)) (gNm 8) law_inside_b23) ρ := (rfl)
def law_inside_p25 : Rho → SOut := (mRet (mS (mBin fAdd (mV 6) (mF (mLst (mCons (mTup (mCons (mC (.str "request")) (mCons (mBin fAdd (mBin fAdd (mCall fStr (mCons (mBin fIxD (mV 2) (mC (.int 0))) mNil)) (mC (.str "."))) (mCall fStr (mCons (mBin fIxD (mV 2) (mC (.int 1))) mNil))) mNil))) mNil))))))
theorem law_inside_p25_ (ρ : Rho) : law_inside_p25 ρ = (mRet (mS (mBin fAdd (mV 6) (mF (mLst (mCons (mTup (mCons (mC (.str "request")) (mCons (mBin fAdd (mBin fAdd (mCall fStr (mCons (mBin fIxD (mV 2) (mC (.int 0))) mNil)) (mC (.str "."))) (mCall fStr (mCons (mBin fIxD (mV 2) (mC (.int 1))) mNil))) mNil))) mNil)))))) ρ := (rfl)
def b_law_inside : Rho → SOut := (mSeq law_inside_p1 (mSeq law_inside_p2 (mSeq law_inside_p6 (mSeq law_inside_p10 (mSeq law_inside_p13 (mSeq law_inside_p24 law_inside_p25))))))
theorem b_law_inside_ (ρ : Rho) : b_law_inside ρ = (mSeq law_inside_p1 (mSeq law_inside_p2 (mSeq law_inside_p6 (mSeq law_inside_p10 (mSeq law_inside_p13 (mSeq law_inside_p24 law_inside_p25)))))) ρ := (rfl)
def f_law_inside : List R → Option (R × List R) := fnM 14 4 [] b_law_inside
theorem f_law_inside_ (a0 a1 a2 a3 : R) : f_law_inside [a0, a1, a2, a3] = kFM [] [a0, a1, a2, a3] (b_law_inside [some a0, some a1, some a2, some a3, none, none, none, none, none, none, none, none, none, none]) := ev_fnM _ _ _ _ _ rfl
def law_outside_p1 : Rho → SOut := (mSet 2 (mFn f_law_shut (mCons (mBin fIxD (mV 0) (mC (.str "headers"))) (mCons (mC (.str "answer")) (mCons (mV 1) mNil)))))
theorem law_outside_p1_ (ρ : Rho) : law_outside_p1 ρ = (mSet 2 (mFn f_law_shut (mCons (mBin fIxD (mV 0) (mC (.str "headers"))) (mCons (mC (.str "answer")) (mCons (mV 1) mNil))))) ρ := (rfl)
def law_outside_e2 : Rho → Out R := (mS (mV 4))
theorem law_outside_e2_ (ρ : Rho) : law_outside_e2 ρ = (mS (mV 4)) ρ := (rfl)
def law_outside_t3 : Rho → Out Bool := (mTst (mBin fNotIn (mBin fIxD (mV 4) (mC (.int 0))) (mV 2)))
theorem law_outside_t3_ (ρ : Rho) : law_outside_t3 ρ = (mTst (mBin fNotIn (mBin fIxD (mV 4) (mC (.int 0))) (mV 2))) ρ := (rfl)
def law_outside_c4 : Rho → Out R := (mLc [4] (mItS (mV 1)) (gNm 4) law_outside_t3 law_outside_e2)
theorem law_outside_c4_ (ρ : Rho) : law_outside_c4 ρ = (mLc [4] (mItS (mV 1)) (gNm 4) law_outside_t3 law_outside_e2) ρ := (rfl)
def law_outside_p5 : Rho → SOut := (mSet 3 law_outside_c4)
theorem law_outside_p5_ (ρ : Rho) : law_outside_p5 ρ = (mSet 3 law_outside_c4) ρ := (rfl)
def law_outside_e6 : Rho → Out R := (mS (mTup (mCons (mBin fIxD (mV 4) (mC (.int 2))) (mCons (mBin fIxD (mV 4) (mC (.int 3))) mNil))))
theorem law_outside_e6_ (ρ : Rho) : law_outside_e6 ρ = (mS (mTup (mCons (mBin fIxD (mV 4) (mC (.int 2))) (mCons (mBin fIxD (mV 4) (mC (.int 3))) mNil)))) ρ := (rfl)
def law_outside_t7 : Rho → Out Bool := (mTst (mBin fEq (mSl fSl (mV 4) mQ0 (mQ1 (mC (.int 2)))) (mTup (mCons (mC (.str "set")) (mCons (mC (.str "answer")) mNil)))))
theorem law_outside_t7_ (ρ : Rho) : law_outside_t7 ρ = (mTst (mBin fEq (mSl fSl (mV 4) mQ0 (mQ1 (mC (.int 2)))) (mTup (mCons (mC (.str "set")) (mCons (mC (.str "answer")) mNil))))) ρ := (rfl)
def law_outside_c8 : Rho → Out R := (mLc [4] (mItS (mBin fIxD (mV 0) (mC (.str "headers")))) (gNm 4) law_outside_t7 law_outside_e6)
theorem law_outside_c8_ (ρ : Rho) : law_outside_c8 ρ = (mLc [4] (mItS (mBin fIxD (mV 0) (mC (.str "headers")))) (gNm 4) law_outside_t7 law_outside_e6) ρ := (rfl)
def law_outside_p9 : Rho → SOut := (mRet (mS (mBin fAdd (mV 3) (mF law_outside_c8))))
theorem law_outside_p9_ (ρ : Rho) : law_outside_p9 ρ = (mRet (mS (mBin fAdd (mV 3) (mF law_outside_c8)))) ρ := (rfl)
def b_law_outside : Rho → SOut := (mSeq law_outside_p1 (mSeq law_outside_p5 law_outside_p9))
theorem b_law_outside_ (ρ : Rho) : b_law_outside ρ = (mSeq law_outside_p1 (mSeq law_outside_p5 law_outside_p9)) ρ := (rfl)
def f_law_outside : List R → Option (R × List R) := fnM 5 2 [] b_law_outside
theorem f_law_outside_ (a0 a1 : R) : f_law_outside [a0, a1] = kFM [] [a0, a1] (b_law_outside [some a0, some a1, none, none, none]) := ev_fnM _ _ _ _ _ rfl
def law_p1 : Rho → SOut := (mSet 1 (mTp 0))
theorem law_p1_ (ρ : Rho) : law_p1 ρ = (mSet 1 (mTp 0)) ρ := (rfl)
def law_p2 : Rho → SOut := (mSet 3 (mFn1 1 f_law_policy (mCons (mC (.str "web")) (mCons (mTup (mCons (mTup (mCons (mC (.str "s")) (mCons (mC (.int 167772161)) (mCons (mC (.int 80)) (mCons (mC (.int 1)) (mCons (mC (.str "up")) mNil)))))) mNil)) mNil))))
theorem law_p2_ (ρ : Rho) : law_p2 ρ = (mSet 3 (mFn1 1 f_law_policy (mCons (mC (.str "web")) (mCons (mTup (mCons (mTup (mCons (mC (.str "s")) (mCons (mC (.int 167772161)) (mCons (mC (.int 80)) (mCons (mC (.int 1)) (mCons (mC (.str "up")) mNil)))))) mNil)) mNil)))) ρ := (rfl)
def law_p3 : Rho → SOut := (mSet 4 (mFn1 1 f_law_given mNil))
theorem law_p3_ (ρ : Rho) : law_p3 ρ = (mSet 4 (mFn1 1 f_law_given mNil)) ρ := (rfl)
def law_p4 : Rho → SOut := (mSet 5 (mFn1 1 f_law_pick (mCons (mF (mLst (mCons (mC (.int 16909059)) (mCons (mC (.int 16909060)) (mCons (mC (.int 16909070)) (mCons (mC (.int 16909071)) (mCons (mC (.int 134744071)) (mCons (mC (.int 134744072)) (mCons (mC (.int 134744073)) (mCons (mC (.int 3758096383)) mNil)))))))))) mNil)))
theorem law_p4_ (ρ : Rho) : law_p4 ρ = (mSet 5 (mFn1 1 f_law_pick (mCons (mF (mLst (mCons (mC (.int 16909059)) (mCons (mC (.int 16909060)) (mCons (mC (.int 16909070)) (mCons (mC (.int 16909071)) (mCons (mC (.int 134744071)) (mCons (mC (.int 134744072)) (mCons (mC (.int 134744073)) (mCons (mC (.int 3758096383)) mNil)))))))))) mNil))) ρ := (rfl)
def law_p5 : Rho → SOut := (mSet 6 (mS (mTup (mCons (mF (mFn1 1 f_law_draw (mCons (mC (.int 300)) mNil))) (mCons (mF (mFn1 1 f_law_draw (mCons (mC (.int 12)) mNil))) mNil)))))
theorem law_p5_ (ρ : Rho) : law_p5 ρ = (mSet 6 (mS (mTup (mCons (mF (mFn1 1 f_law_draw (mCons (mC (.int 300)) mNil))) (mCons (mF (mFn1 1 f_law_draw (mCons (mC (.int 12)) mNil))) mNil))))) ρ := (rfl)
def law_p6 : Rho → SOut := (mSet 7 (mS (mCall fTuple (mCons (mF (mFn f_law_inside (mCons (mV 3) (mCons (mV 5) (mCons (mV 6) (mCons (mV 4) mNil)))))) mNil))))
theorem law_p6_ (ρ : Rho) : law_p6 ρ = (mSet 7 (mS (mCall fTuple (mCons (mF (mFn f_law_inside (mCons (mV 3) (mCons (mV 5) (mCons (mV 6) (mCons (mV 4) mNil)))))) mNil)))) ρ := (rfl)
def law_p7 : Rho → SOut := (mSet 8 (mFn f_inside_headers (mCons (mBin fIxD (mV 3) (mC (.str "headers"))) (mCons (mBin fIxD (mV 3) (mC (.str "trusted"))) (mCons (mV 5) (mCons (mV 6) (mCons (mV 4) mNil)))))))
theorem law_p7_ (ρ : Rho) : law_p7 ρ = (mSet 8 (mFn f_inside_headers (mCons (mBin fIxD (mV 3) (mC (.str "headers"))) (mCons (mBin fIxD (mV 3) (mC (.str "trusted"))) (mCons (mV 5) (mCons (mV 6) (mCons (mV 4) mNil))))))) ρ := (rfl)
def law_p8 : Rho → SOut := (mRet (mS (mC (.bl false))))
theorem law_p8_ (ρ : Rho) : law_p8 ρ = (mRet (mS (mC (.bl false)))) ρ := (rfl)
def law_p9 : Rho → SOut := (mIf (mOr (mNot (mTru (mCall fIsi (mCons (mV 8) (mCons (mC (.ty "tuple")) mNil))))) (mTst (mBin fNe (mV 8) (mV 7)))) law_p8 mNext)
theorem law_p9_ (ρ : Rho) : law_p9 ρ = (mIf (mOr (mNot (mTru (mCall fIsi (mCons (mV 8) (mCons (mC (.ty "tuple")) mNil))))) (mTst (mBin fNe (mV 8) (mV 7)))) law_p8 mNext) ρ := (rfl)
def law_p10 : Rho → SOut := (mSet 8 (mFn f_outside_headers (mCons (mBin fIxD (mV 3) (mC (.str "headers"))) (mCons (mV 4) mNil))))
theorem law_p10_ (ρ : Rho) : law_p10 ρ = (mSet 8 (mFn f_outside_headers (mCons (mBin fIxD (mV 3) (mC (.str "headers"))) (mCons (mV 4) mNil)))) ρ := (rfl)
def law_p11 : Rho → SOut := (mRet (mS (mC (.bl false))))
theorem law_p11_ (ρ : Rho) : law_p11 ρ = (mRet (mS (mC (.bl false)))) ρ := (rfl)
def law_p12 : Rho → SOut := (mIf (mOr (mNot (mTru (mCall fIsi (mCons (mV 8) (mCons (mC (.ty "tuple")) mNil))))) (mTst (mBin fNe (mV 8) (mCall fTuple (mCons (mF (mFn f_law_outside (mCons (mV 3) (mCons (mV 4) mNil)))) mNil))))) law_p11 mNext)
theorem law_p12_ (ρ : Rho) : law_p12 ρ = (mIf (mOr (mNot (mTru (mCall fIsi (mCons (mV 8) (mCons (mC (.ty "tuple")) mNil))))) (mTst (mBin fNe (mV 8) (mCall fTuple (mCons (mF (mFn f_law_outside (mCons (mV 3) (mCons (mV 4) mNil)))) mNil))))) law_p11 mNext) ρ := (rfl)
def law_b13 : Rho → SOut := (mSeq law_p2 (mSeq law_p3 (mSeq law_p4 (mSeq law_p5 (mSeq law_p6 (mSeq law_p7 (mSeq law_p9 (mSeq law_p10 law_p12))))))))
theorem law_b13_ (ρ : Rho) : law_b13 ρ = (mSeq law_p2 (mSeq law_p3 (mSeq law_p4 (mSeq law_p5 (mSeq law_p6 (mSeq law_p7 (mSeq law_p9 (mSeq law_p10 law_p12)))))))) ρ := (rfl)
def law_p14 : Rho → SOut := (mFor (mItR fRng1 (mCons (mC (.int 4)) mNil)) (gNm 2) law_b13)
theorem law_p14_ (ρ : Rho) : law_p14 ρ = (mFor (mItR fRng1 (mCons (mC (.int 4)) mNil)) (gNm 2) law_b13) ρ := (rfl)
def law_p15 : Rho → SOut := (mRet (mS (mC (.bl true))))
theorem law_p15_ (ρ : Rho) : law_p15 ρ = (mRet (mS (mC (.bl true)))) ρ := (rfl)
def b_law : Rho → SOut := (mSeq law_p1 (mSeq law_p14 law_p15))
theorem b_law_ (ρ : Rho) : b_law ρ = (mSeq law_p1 (mSeq law_p14 law_p15)) ρ := (rfl)
def f_law : List R → Option (R × List R) := fnM 9 1 [0] b_law
theorem f_law_ (a0 : R) : f_law [a0] = kFM [0] [a0] (b_law [some a0, none, none, none, none, none, none, none, none]) := ev_fnM _ _ _ _ _ rfl
def pcs0 := And.intro @law_draw_p1_ (And.intro @law_draw_p2_ (And.intro @law_draw_p3_ (And.intro @law_draw_p4_ (And.intro @law_draw_p5_ (And.intro @law_draw_p6_ (And.intro @law_draw_p7_ (And.intro @law_draw_p8_ (And.intro @law_draw_p9_ (And.intro @law_draw_p10_ (And.intro @law_draw_p11_ (And.intro @law_draw_p12_ (And.intro @law_policy_p1_ (And.intro @law_policy_p2_ (And.intro @law_policy_p3_ (And.intro @law_policy_p4_ (And.intro @law_policy_b5_ (And.intro @law_policy_e7_ (And.intro @law_policy_t8_ (And.intro @law_policy_e10_ (And.intro @law_policy_t11_ (And.intro @law_policy_p13_ (And.intro @law_policy_p14_ (And.intro @law_policy_p15_ (And.intro @law_policy_p16_ (And.intro @law_policy_p17_ (And.intro @law_policy_p18_ (And.intro @law_policy_p19_ (And.intro @law_policy_p20_ (And.intro @law_policy_b21_ (And.intro @law_policy_b23_ (And.intro @law_policy_p25_ (And.intro @law_policy_e26_ (And.intro @law_policy_p28_ (And.intro @law_policy_p29_ (And.intro @law_policy_p30_ (And.intro @law_policy_p31_ (And.intro @law_policy_p32_ (And.intro @law_policy_p33_ (And.intro @law_policy_p34_ (And.intro @law_policy_p35_ (And.intro @law_policy_p36_ (And.intro @law_policy_p37_ (And.intro @law_given_p1_ (And.intro @law_given_e2_ (And.intro @law_given_p4_ (And.intro @law_given_p5_ (And.intro @law_given_p6_ (And.intro @law_given_p7_ (And.intro @law_given_p8_ (And.intro @set_headers_e1_ (And.intro @set_headers_t2_ (And.intro @set_headers_p4_ (And.intro @named_by_connection_p1_ (And.intro @named_by_connection_p2_ (And.intro @named_by_connection_p3_ (And.intro @named_by_connection_b4_ (And.intro @named_by_connection_e6_ (And.intro @named_by_connection_t7_ (And.intro @named_by_connection_p9_ (And.intro @shut_names_e1_ (And.intro @shut_names_t2_ (And.intro @shut_names_p4_ (And.intro @shut_names_p5_ (And.intro @show_address_e1_ (And.intro @show_address_p3_ (And.intro @is_trusted_e1_ (And.intro @is_trusted_p3_ (And.intro @from_value_e1_ (And.intro @from_value_t2_ (And.intro @from_value_p4_ (And.intro @from_value_p5_ (And.intro @from_value_p6_ (And.intro @inside_headers_e1_ (And.intro @inside_headers_t2_ (And.intro @inside_headers_p4_ (And.intro @inside_headers_p5_ (And.intro @inside_headers_e6_ (And.intro @inside_headers_t7_ (And.intro @inside_headers_p9_ (And.intro @inside_headers_e10_ (And.intro @inside_headers_p12_ (And.intro @inside_headers_p13_ (And.intro @outside_headers_p1_ (And.intro @outside_headers_e2_ (And.intro @outside_headers_t3_ (And.intro @outside_headers_p5_ (And.intro @law_shut_p1_ (And.intro @law_shut_e2_ (And.intro @law_shut_t3_ (And.intro @law_shut_p5_ (And.intro @law_shut_p6_ (And.intro @law_shut_b7_ (And.intro @law_shut_p9_ (And.intro @law_shut_p10_ (And.intro @law_shut_p11_ (And.intro @law_shut_p12_ (And.intro @law_shut_b13_ (And.intro @law_shut_p15_ (And.intro @law_dotted_e1_ (And.intro @law_dotted_p3_ (And.intro @law_inside_p1_ (And.intro @law_inside_p2_ (And.intro @law_inside_e3_ (And.intro @law_inside_t4_ (And.intro @law_inside_p6_ (And.intro @law_inside_e7_ (And.intro @law_inside_t8_ (And.intro @law_inside_p10_ (And.intro @law_inside_e11_ (And.intro @law_inside_p13_ (And.intro @law_inside_e14_ (And.intro @law_inside_t15_ (And.intro @law_inside_p17_ (And.intro @law_inside_p18_ (And.intro @law_inside_p19_ (And.intro @law_inside_p20_ (And.intro @law_inside_p21_ (And.intro @law_inside_p22_ (And.intro @law_inside_b23_ (And.intro @law_inside_p25_ (And.intro @law_outside_p1_ (And.intro @law_outside_e2_ (And.intro @law_outside_t3_ (And.intro @law_outside_p5_ (And.intro @law_outside_e6_ (And.intro @law_outside_t7_ (And.intro @law_outside_p9_ (And.intro @law_p1_ (And.intro @law_p2_ (And.intro @law_p3_ (And.intro @law_p4_ (And.intro @law_p5_ (And.intro @law_p6_ (And.intro @law_p7_ (And.intro @law_p8_ (And.intro @law_p9_ (And.intro @law_p10_ (And.intro @law_p11_ (And.intro @law_p12_ (And.intro @law_b13_ (And.intro @law_p15_ (And.intro @b_show_address_ (And.intro @b_is_trusted_ (And.intro @b_named_by_connection_ (And.intro @b_shut_names_ (And.intro @b_set_headers_ (And.intro @b_from_value_ (And.intro @b_inside_headers_ (And.intro @b_outside_headers_ (And.intro @b_law_draw_ (And.intro @b_law_pick_ (And.intro @b_law_policy_ (And.intro @b_law_shut_ (And.intro @b_law_dotted_ (And.intro @b_law_inside_ (And.intro @b_law_outside_ (And.intro @b_law_given_ (@b_law_))))))))))))))))))))))))))))))))))))))))))))))))))))))))))))))))))))))))))))))))))))))))))))))))))))))))))))))))))))))))))))))))))))))))))))))))))))))))))))))
theorem pcs : type_of% pcs0 := pcs0
end K49

set_option Elab.async false
set_option linter.all false
set_option maxRecDepth 100000
set_option maxHeartbeats 4000000
namespace K49
open PySem PySem.Spec PyProof.Rows L2 DL
def topS (i : Nat) : Stmt := PySem.Challenge.pw_gatedpolicy_k49_headers_that_go_on.main.body.getD i (.Pass ⟨0, 0, 0, 0⟩)
abbrev s_show_address : Stmt := topS 1
abbrev N_show_address : List Str := ["address", "size"]
theorem sc_show_address : FnScope N_show_address ["address"] (defScope s_show_address) := ⟨rfl, rfl, rfl, by decide +kernel, rfl, by decide +kernel, by decide +kernel⟩
abbrev s_is_trusted : Stmt := topS 3
abbrev N_is_trusted : List Str := ["trusted", "address", "low", "high"]
theorem sc_is_trusted : FnScope N_is_trusted ["trusted", "address"] (defScope s_is_trusted) := ⟨rfl, rfl, rfl, by decide +kernel, rfl, by decide +kernel, by decide +kernel⟩
abbrev s_named_by_connection : Stmt := topS 4
abbrev N_named_by_connection : List Str := ["given", "names", "name", "value"]
theorem sc_named_by_connection : FnScope N_named_by_connection ["given"] (defScope s_named_by_connection) := ⟨rfl, rfl, rfl, by decide +kernel, rfl, by decide +kernel, by decide +kernel⟩
abbrev s_shut_names : Stmt := topS 5
abbrev N_shut_names : List Str := ["headers", "side", "given", "rows", "row"]
theorem sc_shut_names : FnScope N_shut_names ["headers", "side", "given"] (defScope s_shut_names) := ⟨rfl, rfl, rfl, by decide +kernel, rfl, by decide +kernel, by decide +kernel⟩
abbrev s_set_headers : Stmt := topS 6
abbrev N_set_headers : List Str := ["headers", "side", "row"]
theorem sc_set_headers : FnScope N_set_headers ["headers", "side"] (defScope s_set_headers) := ⟨rfl, rfl, rfl, by decide +kernel, rfl, by decide +kernel, by decide +kernel⟩
abbrev s_from_value : Stmt := topS 7
abbrev N_from_value : List Str := ["name", "trusted", "client", "given", "first", "own", "other", "value"]
theorem sc_from_value : FnScope N_from_value ["name", "trusted", "client", "given"] (defScope s_from_value) := ⟨rfl, rfl, rfl, by decide +kernel, rfl, by decide +kernel, by decide +kernel⟩
abbrev s_inside_headers : Stmt := topS 8
abbrev N_inside_headers : List Str := ["headers", "trusted", "client", "name", "given", "tellers", "shut", "kept", "row", "one"]
theorem sc_inside_headers : FnScope N_inside_headers ["headers", "trusted", "client", "name", "given"] (defScope s_inside_headers) := ⟨rfl, rfl, rfl, by decide +kernel, rfl, by decide +kernel, by decide +kernel⟩
abbrev s_outside_headers : Stmt := topS 9
abbrev N_outside_headers : List Str := ["headers", "given", "shut", "one"]
theorem sc_outside_headers : FnScope N_outside_headers ["headers", "given"] (defScope s_outside_headers) := ⟨rfl, rfl, rfl, by decide +kernel, rfl, by decide +kernel, by decide +kernel⟩
abbrev s_law_draw : Stmt := topS 11
abbrev N_law_draw : List Str := ["tape", "many", "cell", "mixed", "rest"]
theorem sc_law_draw : FnScope N_law_draw ["tape", "many"] (defScope s_law_draw) := ⟨rfl, rfl, rfl, by decide +kernel, rfl, by decide +kernel, by decide +kernel⟩
abbrev s_law_pick : Stmt := topS 12
abbrev N_law_pick : List Str := ["tape", "row"]
theorem sc_law_pick : FnScope N_law_pick ["tape", "row"] (defScope s_law_pick) := ⟨rfl, rfl, rfl, by decide +kernel, rfl, by decide +kernel, by decide +kernel⟩
abbrev s_law_marks : Stmt := topS 13
abbrev N_law_marks : List Str := ["method"]
theorem sc_law_marks : FnScope N_law_marks ["method"] (defScope s_law_marks) := ⟨rfl, rfl, rfl, by decide +kernel, rfl, by decide +kernel, by decide +kernel⟩
abbrev s_law_string : Stmt := topS 14
abbrev N_law_string : List Str := ["tape", "signs", "many", "k"]
theorem sc_law_string : FnScope N_law_string ["tape", "signs", "many"] (defScope s_law_string) := ⟨rfl, rfl, rfl, by decide +kernel, rfl, by decide +kernel, by decide +kernel⟩
abbrev s_law_name : Stmt := topS 15
abbrev N_law_name : List Str := ["tape", "names"]
theorem sc_law_name : FnScope N_law_name ["tape"] (defScope s_law_name) := ⟨rfl, rfl, rfl, by decide +kernel, rfl, by decide +kernel, by decide +kernel⟩
abbrev s_law_value : Stmt := topS 16
abbrev N_law_value : List Str := ["tape", "value"]
theorem sc_law_value : FnScope N_law_value ["tape"] (defScope s_law_value) := ⟨rfl, rfl, rfl, by decide +kernel, rfl, by decide +kernel, by decide +kernel⟩
abbrev s_law_headers : Stmt := topS 17
abbrev N_law_headers : List Str := ["tape", "least", "k"]
theorem sc_law_headers : FnScope N_law_headers ["tape", "least"] (defScope s_law_headers) := ⟨rfl, rfl, rfl, by decide +kernel, rfl, by decide +kernel, by decide +kernel⟩
abbrev s_law_body : Stmt := topS 18
abbrev N_law_body : List Str := ["tape", "k"]
theorem sc_law_body : FnScope N_law_body ["tape"] (defScope s_law_body) := ⟨rfl, rfl, rfl, by decide +kernel, rfl, by decide +kernel, by decide +kernel⟩
abbrev s_law_target : Stmt := topS 19
abbrev N_law_target : List Str := ["tape"]
theorem sc_law_target : FnScope N_law_target ["tape"] (defScope s_law_target) := ⟨rfl, rfl, rfl, by decide +kernel, rfl, by decide +kernel, by decide +kernel⟩
abbrev s_law_request : Stmt := topS 20
abbrev N_law_request : List Str := ["tape", "method", "headers", "body"]
theorem sc_law_request : FnScope N_law_request ["tape"] (defScope s_law_request) := ⟨rfl, rfl, rfl, by decide +kernel, rfl, by decide +kernel, by decide +kernel⟩
abbrev s_law_answer : Stmt := topS 21
abbrev N_law_answer : List Str := ["tape", "method", "status", "body"]
theorem sc_law_answer : FnScope N_law_answer ["tape", "method"] (defScope s_law_answer) := ⟨rfl, rfl, rfl, by decide +kernel, rfl, by decide +kernel, by decide +kernel⟩
abbrev s_law_octets : Stmt := topS 22
abbrev N_law_octets : List Str := ["text", "sign"]
theorem sc_law_octets : FnScope N_law_octets ["text"] (defScope s_law_octets) := ⟨rfl, rfl, rfl, by decide +kernel, rfl, by decide +kernel, by decide +kernel⟩
abbrev s_law_policy : Stmt := topS 23
abbrev N_law_policy : List Str := ["tape", "name", "servers", "rows", "k", "side", "one", "routes", "host", "prefix", "methods", "put", "limits", "taken", "words", "errors", "trusted", "policy", "row"]
theorem sc_law_policy : FnScope N_law_policy ["tape", "name", "servers"] (defScope s_law_policy) := ⟨rfl, rfl, rfl, by decide +kernel, rfl, by decide +kernel, by decide +kernel⟩
abbrev s_law_shut : Stmt := topS 24
abbrev N_law_shut : List Str := ["rows", "side", "given", "shut", "name", "value", "row", "word"]
theorem sc_law_shut : FnScope N_law_shut ["rows", "side", "given"] (defScope s_law_shut) := ⟨rfl, rfl, rfl, by decide +kernel, rfl, by decide +kernel, by decide +kernel⟩
abbrev s_law_dotted : Stmt := topS 25
abbrev N_law_dotted : List Str := ["address", "k"]
theorem sc_law_dotted : FnScope N_law_dotted ["address"] (defScope s_law_dotted) := ⟨rfl, rfl, rfl, by decide +kernel, rfl, by decide +kernel, by decide +kernel⟩
abbrev s_law_inside : Stmt := topS 26
abbrev N_law_inside : List Str := ["policy", "client", "name", "given", "rows", "shut", "found", "is_trusted_v", "row", "first", "value", "low", "high", "other"]
theorem sc_law_inside : FnScope N_law_inside ["policy", "client", "name", "given"] (defScope s_law_inside) := ⟨rfl, rfl, rfl, by decide +kernel, rfl, by decide +kernel, by decide +kernel⟩
abbrev s_law_outside : Stmt := topS 27
abbrev N_law_outside : List Str := ["policy", "given", "shut", "found", "row"]
theorem sc_law_outside : FnScope N_law_outside ["policy", "given"] (defScope s_law_outside) := ⟨rfl, rfl, rfl, by decide +kernel, rfl, by decide +kernel, by decide +kernel⟩
abbrev s_law_given : Stmt := topS 28
abbrev N_law_given : List Str := ["tape", "names", "rows", "value", "k"]
theorem sc_law_given : FnScope N_law_given ["tape"] (defScope s_law_given) := ⟨rfl, rfl, rfl, by decide +kernel, rfl, by decide +kernel, by decide +kernel⟩
abbrev s_law : Stmt := topS 29
abbrev N_law : List Str := ["script", "tape", "turn", "policy", "given", "client", "name", "due", "told"]
theorem sc_law : FnScope N_law ["script"] (defScope s_law) := ⟨rfl, rfl, rfl, by decide +kernel, rfl, by decide +kernel, by decide +kernel⟩
structure Txt (K : PySem.W.Frag) (mg : Str → Option Value) (w : World) where
  a_show_address : Addr
  d_show_address : FuncData
  F_show_address : Fun K "show_address" "show_address" s_show_address a_show_address d_show_address
  b_show_address : Binds K d_show_address ["address"] []
  g_show_address : mg "show_address" = some (.ref a_show_address)
  a_is_trusted : Addr
  d_is_trusted : FuncData
  F_is_trusted : Fun K "is_trusted" "is_trusted" s_is_trusted a_is_trusted d_is_trusted
  b_is_trusted : Binds K d_is_trusted ["trusted", "address"] []
  g_is_trusted : mg "is_trusted" = some (.ref a_is_trusted)
  a_named_by_connection : Addr
  d_named_by_connection : FuncData
  F_named_by_connection : Fun K "named_by_connection" "named_by_connection" s_named_by_connection a_named_by_connection d_named_by_connection
  b_named_by_connection : Binds K d_named_by_connection ["given"] []
  g_named_by_connection : mg "named_by_connection" = some (.ref a_named_by_connection)
  a_shut_names : Addr
  d_shut_names : FuncData
  F_shut_names : Fun K "shut_names" "shut_names" s_shut_names a_shut_names d_shut_names
  b_shut_names : Binds K d_shut_names ["headers", "side", "given"] []
  g_shut_names : mg "shut_names" = some (.ref a_shut_names)
  a_set_headers : Addr
  d_set_headers : FuncData
  F_set_headers : Fun K "set_headers" "set_headers" s_set_headers a_set_headers d_set_headers
  b_set_headers : Binds K d_set_headers ["headers", "side"] []
  g_set_headers : mg "set_headers" = some (.ref a_set_headers)
  a_from_value : Addr
  d_from_value : FuncData
  F_from_value : Fun K "from_value" "from_value" s_from_value a_from_value d_from_value
  b_from_value : Binds K d_from_value ["name", "trusted", "client", "given"] []
  g_from_value : mg "from_value" = some (.ref a_from_value)
  a_inside_headers : Addr
  d_inside_headers : FuncData
  F_inside_headers : Fun K "inside_headers" "inside_headers" s_inside_headers a_inside_headers d_inside_headers
  b_inside_headers : Binds K d_inside_headers ["headers", "trusted", "client", "name", "given"] []
  g_inside_headers : mg "inside_headers" = some (.ref a_inside_headers)
  a_outside_headers : Addr
  d_outside_headers : FuncData
  F_outside_headers : Fun K "outside_headers" "outside_headers" s_outside_headers a_outside_headers d_outside_headers
  b_outside_headers : Binds K d_outside_headers ["headers", "given"] []
  g_outside_headers : mg "outside_headers" = some (.ref a_outside_headers)
  a_law_draw : Addr
  d_law_draw : FuncData
  F_law_draw : Fun K "_law_draw" "_law_draw" s_law_draw a_law_draw d_law_draw
  b_law_draw : Binds K d_law_draw ["tape", "many"] []
  g_law_draw : mg "_law_draw" = some (.ref a_law_draw)
  a_law_pick : Addr
  d_law_pick : FuncData
  F_law_pick : Fun K "_law_pick" "_law_pick" s_law_pick a_law_pick d_law_pick
  b_law_pick : Binds K d_law_pick ["tape", "row"] []
  g_law_pick : mg "_law_pick" = some (.ref a_law_pick)
  a_law_policy : Addr
  d_law_policy : FuncData
  F_law_policy : Fun K "_law_policy" "_law_policy" s_law_policy a_law_policy d_law_policy
  b_law_policy : Binds K d_law_policy ["tape", "name", "servers"] []
  g_law_policy : mg "_law_policy" = some (.ref a_law_policy)
  a_law_shut : Addr
  d_law_shut : FuncData
  F_law_shut : Fun K "_law_shut" "_law_shut" s_law_shut a_law_shut d_law_shut
  b_law_shut : Binds K d_law_shut ["rows", "side", "given"] []
  g_law_shut : mg "_law_shut" = some (.ref a_law_shut)
  a_law_dotted : Addr
  d_law_dotted : FuncData
  F_law_dotted : Fun K "_law_dotted" "_law_dotted" s_law_dotted a_law_dotted d_law_dotted
  b_law_dotted : Binds K d_law_dotted ["address"] []
  g_law_dotted : mg "_law_dotted" = some (.ref a_law_dotted)
  a_law_inside : Addr
  d_law_inside : FuncData
  F_law_inside : Fun K "_law_inside" "_law_inside" s_law_inside a_law_inside d_law_inside
  b_law_inside : Binds K d_law_inside ["policy", "client", "name", "given"] []
  g_law_inside : mg "_law_inside" = some (.ref a_law_inside)
  a_law_outside : Addr
  d_law_outside : FuncData
  F_law_outside : Fun K "_law_outside" "_law_outside" s_law_outside a_law_outside d_law_outside
  b_law_outside : Binds K d_law_outside ["policy", "given"] []
  g_law_outside : mg "_law_outside" = some (.ref a_law_outside)
  a_law_given : Addr
  d_law_given : FuncData
  F_law_given : Fun K "_law_given" "_law_given" s_law_given a_law_given d_law_given
  b_law_given : Binds K d_law_given ["tape"] []
  g_law_given : mg "_law_given" = some (.ref a_law_given)
  a_law : Addr
  d_law : FuncData
  F_law : Fun K "law" "law" s_law a_law d_law
  b_law : Binds K d_law ["script"] []
  g_law : mg "law" = some (.ref a_law)
  z_abs : mg "abs" = none
  z_any : mg "any" = none
  z_int : mg "int" = none
  z_isinstance : mg "isinstance" = none
  z_len : mg "len" = none
  z_list : mg "list" = none
  z_range : mg "range" = none
  z_str : mg "str" = none
  z_tuple : mg "tuple" = none
end K49

set_option Elab.async false
set_option linter.all false
set_option maxRecDepth 100000
set_option maxHeartbeats 4000000
namespace K49
open PySem PySem.Spec PyProof.Rows L2 DL
section
variable {P : Program} {w : World} {K : PySem.W.Frag} {mg : Str → Option Value} {base : Heap}
theorem ok_law_draw (T : Txt K mg w) : FnG P w K mg base CX0 1 T.a_law_draw T.d_law_draw ["tape", "many"] (spM K 2 f_law_draw) := by
  refine fn_ok (N := N_law_draw) (B := [0]) (k := 0) T.F_law_draw sc_law_draw (fun cdv A outer s H E hr => ?_)
  exact (dss_cons (ds_if (dt_cmp (or_eq hr.units) bd_eq (dp_tp0 0) dp_int (nomark _)) (dss_cons (ds_set 2 sc_law_draw.nd (do_of_dp dp_int)) (dss_cons (ds_if (dt_cmp or_lt bd_lt (dp_tp2 0) (dp_tpLen 0 (by rfl) T.z_len (by decide +kernel)) (nomark _)) (dss_one (ds_set 2 sc_law_draw.nd (do_of_dp (dp_callB call_abs cd_abs (by rfl) T.z_abs (by decide +kernel) (da_cons (dp_callTy or_intT cd_intT (by rfl) T.z_int (by decide +kernel) (da_cons (dp_tpCell 0) da_nil)) da_nil))))) dss_nil) (dss_cons (ds_tpSet2 0 (dp_bin or_add bd_add (dp_tp2 0) dp_int)) (dss_cons (ds_tpSet0 0 (dp_var 2)) (dss_one (ds_if (dt_cmp or_lt bd_lt (dp_var 2) (dp_bin op_pow bd_pow dp_int dp_int) (nomark _)) (dss_cons (ds_set 3 sc_law_draw.nd (do_of_dp (dp_bin op_mod bd_mod (dp_callTy or_intT cd_intT (by rfl) T.z_int (by decide +kernel) (da_cons (dp_bin or_add bd_add (dp_bin or_add bd_add (dp_bin or_mulS bd_mulS (dp_var 2) dp_int) (dp_bin or_mulS bd_mulS (dp_tp2 0) dp_int)) dp_int) da_nil)) dp_int))) (dss_one (ds_tpSet0 0 (dp_bin or_add bd_add (dp_bin or_mulS bd_mulS (dp_var 3) dp_int) (dp_bin op_mod bd_mod (dp_callTy or_intT cd_intT (by rfl) T.z_int (by decide +kernel) (da_cons (dp_bin or_add bd_add (dp_bin or_mulS bd_mulS (dp_var 3) dp_int) dp_int) da_nil)) dp_int))))) dss_nil)))))) dss_nil) (dss_cons (ds_set 4 sc_law_draw.nd (do_of_dp (dp_tp0 0))) (dss_cons (ds_tpSet0 0 (dp_bin op_fdivW bd_div (dp_var 4) (dp_var 1))) (dss_one (ds_ret (do_of_dp (dp_bin op_mod bd_mod (dp_callTy or_intT cd_intT (by rfl) T.z_int (by decide +kernel) (da_cons (dp_var 4) da_nil)) (dp_var 1))))))))
theorem ok_law_pick (T : Txt K mg w) : FnG P w K mg base CX0 2 T.a_law_pick T.d_law_pick ["tape", "row"] (spM K 2 f_law_pick) := by
  refine fn_ok (N := N_law_pick) (B := [0]) (k := 1) T.F_law_pick sc_law_pick (fun cdv A outer s H E hr => ?_)
  have hr1 : RoomG 1 _ := hr.mono (by decide)
  exact (dss_one (ds_ret (do_of_dp (dp_ix (or_ix (hu_of hr)) bd_ixD (dp_var 1) (dp_of_do (do_fn1 0 (ok_law_draw T) hr1 (by rfl) T.g_law_draw T.F_law_draw.kp T.b_law_draw pass0 (da_cons (dp_callB call_len cd_len (by rfl) T.z_len (by decide +kernel) (da_cons (dp_var 1) da_nil)) da_nil)))))))
theorem ok_law_policy (T : Txt K mg w) : FnG P w K mg base CX0 3 T.a_law_policy T.d_law_policy ["tape", "name", "servers"] (spM K 3 f_law_policy) := by
  refine fn_ok (N := N_law_policy) (B := [0]) (k := 2) T.F_law_policy sc_law_policy (fun cdv A outer s H E hr => ?_)
  have hr1 : RoomG 1 _ := hr.mono (by decide)
  have hr2 : RoomG 2 _ := hr.mono (by decide)
  exact (dss_cons (ds_set 3 sc_law_policy.nd (do_lst da_nil)) (dss_cons (ds_for PassesOwn.never rfl (di_range1 (by rfl) T.z_range (da_cons (dp_of_do (do_fn1 0 (ok_law_draw T) hr1 (by rfl) T.g_law_draw T.F_law_draw.kp T.b_law_draw pass0 (da_cons dp_int da_nil))) da_nil)) (dg_name 4 sc_law_policy.nd) (dss_cons (ds_set 5 sc_law_policy.nd (do_fn1 0 (ok_law_pick T) hr2 (by rfl) T.g_law_pick T.F_law_pick.kp T.b_law_pick pass0 (da_cons (dp_of_do (do_lst (da_cons dp_str (da_cons dp_str da_nil)))) da_nil))) (dss_cons (ds_set 6 sc_law_policy.nd (do_of_dp (dp_ix (or_ix (hu_of hr)) bd_ixD (dp_of_do (do_lst (da_cons dp_str (da_cons dp_str (da_cons dp_str (da_cons dp_str (da_cons dp_str (da_cons dp_str da_nil)))))))) (dp_var 4)))) (dss_one (ds_append 3 (dp_of_do (do_fn1 0 (ok_law_pick T) hr2 (by rfl) T.g_law_pick T.F_law_pick.kp T.b_law_pick pass0 (da_cons (dp_of_do (do_lst (da_cons (dp_tup (da_cons dp_str (da_cons (dp_var 5) (da_cons (dp_var 6) da_nil)))) (da_cons (dp_tup (da_cons dp_str (da_cons (dp_var 5) (da_cons (dp_var 6) (da_cons (dp_of_do (do_fn1 0 (ok_law_pick T) hr2 (by rfl) T.g_law_pick T.F_law_pick.kp T.b_law_pick pass0 (da_cons (dp_of_do (do_lst (da_cons dp_str (da_cons dp_str (da_cons dp_str da_nil))))) da_nil))) da_nil))))) (da_cons (dp_tup (da_cons dp_str (da_cons (dp_var 6) da_nil))) da_nil))))) da_nil)))))))) (dss_cons (ds_set 3 sc_law_policy.nd (do_binL or_add bl_cat (dp_of_do (do_lc (own := [("row", 18)]) rfl sc_law_policy.nd (di_seq (dp_var 3)) (blkOk_by (own := [("row", 18)]) (N := N_law_policy) (sc := defScope s_law_policy) (by decide +kernel)) (fun _ _ _ _ _ => (dg_name 18 sc_law_policy.nd)) (fun _ _ _ _ _ => (dts_one (dt_cmp (or_ne hr.units) bd_ne (dp_ix (or_ix (hu_of hr)) bd_ixD (dp_var 18) dp_int) dp_str (nomark _)))) (fun _ _ _ _ _ => (do_of_dp (dp_var 18))))) (dp_sl or_sl sd_sl (dp_of_do (do_lc (own := [("row", 18)]) rfl sc_law_policy.nd (di_seq (dp_var 3)) (blkOk_by (own := [("row", 18)]) (N := N_law_policy) (sc := defScope s_law_policy) (by decide +kernel)) (fun _ _ _ _ _ => (dg_name 18 sc_law_policy.nd)) (fun _ _ _ _ _ => (dts_one (dt_cmp (or_eq hr.units) bd_eq (dp_ix (or_ix (hu_of hr)) bd_ixD (dp_var 18) dp_int) dp_str (nomark _)))) (fun _ _ _ _ _ => (do_of_dp (dp_var 18))))) dq_none (dq_some dp_int)))) (dss_cons (ds_set 7 sc_law_policy.nd (do_lst da_nil)) (dss_cons (ds_for PassesOwn.never rfl (di_seq (dp_tup (da_cons dp_str (da_cons dp_str da_nil)))) (dg_name 8 sc_law_policy.nd) (dss_one (ds_for PassesOwn.never rfl (di_seq (dp_tup (da_cons (dp_tup da_nil) (da_cons (dp_tup (da_cons dp_str da_nil)) (da_cons (dp_tup (da_cons dp_str (da_cons dp_str da_nil))) (da_cons (dp_tup (da_cons dp_str (da_cons dp_str (da_cons dp_str (da_cons dp_str (da_cons dp_str da_nil)))))) da_nil)))))) (dg_name 9 sc_law_policy.nd) (dss_one (ds_if (dt_cmp op_gt bd_gt (dp_of_do (do_fn1 0 (ok_law_draw T) hr1 (by rfl) T.g_law_draw T.F_law_draw.kp T.b_law_draw pass0 (da_cons dp_int da_nil))) dp_int (nomark _)) (dss_cons (ds_set 10 sc_law_policy.nd (do_of_dp (dp_sl or_sl sd_sl (dp_tup (da_cons dp_str (da_cons dp_str (da_cons dp_str (da_cons dp_str (da_cons dp_str da_nil)))))) dq_none (dq_some (dp_of_do (do_fn1 0 (ok_law_pick T) hr2 (by rfl) T.g_law_pick T.F_law_pick.kp T.b_law_pick pass0 (da_cons (dp_of_do (do_lst (da_cons dp_int (da_cons dp_int (da_cons dp_int (da_cons dp_int da_nil)))))) da_nil))))))) (dss_cons (ds_set 11 sc_law_policy.nd (do_fn1 0 (ok_law_pick T) hr2 (by rfl) T.g_law_pick T.F_law_pick.kp T.b_law_pick pass0 (da_cons (dp_of_do (do_lst (da_cons (dp_tup da_nil) (da_cons (dp_tup (da_cons dp_str da_nil)) (da_cons (dp_tup (da_cons dp_str (da_cons dp_str da_nil))) (da_cons (dp_tup (da_cons dp_str (da_cons dp_str (da_cons dp_str (da_cons dp_str da_nil))))) da_nil)))))) da_nil))) (dss_cons (ds_set 12 sc_law_policy.nd (do_of_dp (dp_sl or_sl sd_sl (dp_tup (da_cons dp_str da_nil)) dq_none (dq_some (dp_of_do (do_fn1 0 (ok_law_draw T) hr1 (by rfl) T.g_law_draw T.F_law_draw.kp T.b_law_draw pass0 (da_cons dp_int da_nil))))))) (dss_cons (ds_set 13 sc_law_policy.nd (do_fn1 0 (ok_law_draw T) hr1 (by rfl) T.g_law_draw T.F_law_draw.kp T.b_law_draw pass0 (da_cons (dp_bin or_add bd_add (dp_callB or_lenD cd_lenD (by rfl) T.z_len (by decide +kernel) (da_cons (dp_var 9) da_nil)) dp_int) da_nil))) (dss_one (ds_append 7 (dp_tup (da_cons (dp_var 8) (da_cons (dp_var 9) (da_cons (dp_var 10) (da_cons (dp_var 1) (da_cons (dp_var 13) (da_cons (dp_var 11) (da_cons (dp_var 12) (da_cons (dp_of_do (do_fn1 0 (ok_law_pick T) hr2 (by rfl) T.g_law_pick T.F_law_pick.kp T.b_law_pick pass0 (da_cons (dp_of_do (do_lst (da_cons dp_int (da_cons dp_int (da_cons dp_int (da_cons dp_int da_nil)))))) da_nil))) (da_cons (dp_bin or_add bd_add dp_int (dp_of_do (do_fn1 0 (ok_law_draw T) hr1 (by rfl) T.g_law_draw T.F_law_draw.kp T.b_law_draw pass0 (da_cons dp_int da_nil)))) da_nil)))))))))))))))) dss_nil))))) (dss_cons (ds_set 14 sc_law_policy.nd (do_lst (da_cons dp_str (da_cons dp_str (da_cons dp_str (da_cons dp_str (da_cons dp_str (da_cons dp_str da_nil)))))))) (dss_cons (ds_set 15 sc_law_policy.nd (do_of_dp (dp_callTy call_tuple_of cd_tuple (by rfl) T.z_tuple (by decide +kernel) (da_cons (dp_of_do (do_lc (own := [("k", 4)]) rfl sc_law_policy.nd (di_range1 (by rfl) T.z_range (da_cons dp_int da_nil)) (blkOk_by (own := [("k", 4)]) (N := N_law_policy) (sc := defScope s_law_policy) (by decide +kernel)) (fun _ _ _ _ _ => (dg_name 4 sc_law_policy.nd)) (fun _ _ _ _ _ => dts_nil) (fun _ _ _ _ _ => (do_of_dp (dp_tup (da_cons (dp_ix (or_ix (hu_of hr)) bd_ixD (dp_var 14) (dp_var 4)) (da_cons (dp_bin or_add bd_add (dp_bin or_add bd_add dp_int (dp_bin or_mulS bd_mulS dp_int (dp_var 4))) (dp_of_do (do_fn1 0 (ok_law_draw T) hr1 (by rfl) T.g_law_draw T.F_law_draw.kp T.b_law_draw pass0 (da_cons dp_int da_nil)))) (da_cons (dp_of_do (do_fn1 0 (ok_law_pick T) hr2 (by rfl) T.g_law_pick T.F_law_pick.kp T.b_law_pick pass0 (da_cons (dp_of_do (do_lst (da_cons dp_str (da_cons dp_str (da_cons (dp_bin or_add bd_add dp_str (dp_ix (or_ix (hu_of hr)) bd_ixD (dp_var 14) (dp_var 4))) da_nil))))) da_nil))) da_nil)))))))) da_nil)))) (dss_cons (ds_set 16 sc_law_policy.nd (do_fn1 0 (ok_law_pick T) hr2 (by rfl) T.g_law_pick T.F_law_pick.kp T.b_law_pick pass0 (da_cons (dp_of_do (do_lst (da_cons (dp_tup da_nil) (da_cons (dp_tup (da_cons (dp_tup (da_cons dp_int (da_cons dp_int da_nil))) da_nil)) (da_cons (dp_tup (da_cons (dp_tup (da_cons dp_int (da_cons dp_int da_nil))) (da_cons (dp_tup (da_cons dp_int (da_cons dp_int da_nil))) da_nil))) da_nil))))) da_nil))) (dss_cons (ds_set 17 sc_law_policy.nd (do_disp (dps_cons dp_str (dp_callTy call_tuple_of cd_tuple (by rfl) T.z_tuple (by decide +kernel) (da_cons (dp_var 7) da_nil)) (dps_cons dp_str (dp_callTy call_tuple_of cd_tuple (by rfl) T.z_tuple (by decide +kernel) (da_cons (dp_var 3) da_nil)) (dps_cons dp_str (dp_var 15) (dps_cons dp_str (dp_var 16) dps_nil)))))) (dss_cons (ds_dput 17 (hu_of hr) (dp_tup (da_cons (dp_tup (da_cons (dp_var 1) (da_cons (dp_var 2) (da_cons dp_str (da_cons dp_non da_nil))))) da_nil)) dp_str) (dss_cons (ds_dput 17 (hu_of hr) (dp_tup (da_cons (dp_tup (da_cons dp_str (da_cons dp_str (da_cons (dp_tup (da_cons (dp_of_do (do_fn1 0 (ok_law_pick T) hr2 (by rfl) T.g_law_pick T.F_law_pick.kp T.b_law_pick pass0 (da_cons (dp_of_do (do_lst (da_cons dp_int (da_cons dp_int (da_cons dp_int da_nil))))) da_nil))) da_nil)) (da_cons (dp_of_do (do_fn1 0 (ok_law_pick T) hr2 (by rfl) T.g_law_pick T.F_law_pick.kp T.b_law_pick pass0 (da_cons (dp_of_do (do_lst (da_cons (dp_tup da_nil) (da_cons (dp_tup (da_cons dp_str da_nil)) da_nil)))) da_nil))) da_nil))))) da_nil)) dp_str) (dss_cons (ds_dput 17 (hu_of hr) (dp_tup (da_cons (dp_tup da_nil) (da_cons (dp_tup (da_cons (dp_tup (da_cons dp_str da_nil)) (da_cons (dp_tup da_nil) da_nil))) da_nil))) dp_str) (dss_cons (ds_dput 17 (hu_of hr) (dp_bin or_add bd_add (dp_tup (da_cons dp_str da_nil)) (dp_bin or_mulS bd_mulS (dp_tup (da_cons dp_int da_nil)) dp_int)) dp_str) (dss_cons (ds_dput 17 (hu_of hr) dp_int dp_str) (dss_cons (ds_dput 17 (hu_of hr) dp_str dp_str) (dss_one (ds_ret (do_move 17))))))))))))))))))
theorem ok_law_given (T : Txt K mg w) : FnG P w K mg base CX0 3 T.a_law_given T.d_law_given ["tape"] (spM K 1 f_law_given) := by
  refine fn_ok (N := N_law_given) (B := [0]) (k := 2) T.F_law_given sc_law_given (fun cdv A outer s H E hr => ?_)
  have hr1 : RoomG 1 _ := hr.mono (by decide)
  have hr2 : RoomG 2 _ := hr.mono (by decide)
  exact (dss_cons (ds_set 1 sc_law_given.nd (do_lst (da_cons dp_str (da_cons dp_str (da_cons dp_str (da_cons dp_str (da_cons dp_str (da_cons dp_str (da_cons dp_str (da_cons dp_str (da_cons dp_str (da_cons dp_str da_nil)))))))))))) (dss_cons (ds_setLc 2 (own := [("k", 4)]) rfl sc_law_given.nd (di_range1 (by rfl) T.z_range (da_cons (dp_of_do (do_fn1 0 (ok_law_draw T) hr1 (by rfl) T.g_law_draw T.F_law_draw.kp T.b_law_draw pass0 (da_cons dp_int da_nil))) da_nil)) (blkOk_by (own := [("k", 4)]) (N := N_law_given) (sc := defScope s_law_given) (by decide +kernel)) (fun _ _ _ _ _ => (dg_name 4 sc_law_given.nd)) (fun _ _ _ _ _ => dts_nil) (fun _ _ _ _ _ => (do_of_dp (dp_tup (da_cons (dp_of_do (do_fn1 0 (ok_law_pick T) hr2 (by rfl) T.g_law_pick T.F_law_pick.kp T.b_law_pick pass0 (da_cons (dp_var 1) da_nil))) (da_cons (dp_of_do (do_fn1 0 (ok_law_pick T) hr2 (by rfl) T.g_law_pick T.F_law_pick.kp T.b_law_pick pass0 (da_cons (dp_of_do (do_lst (da_cons dp_str (da_cons dp_str (da_cons dp_str (da_cons dp_str (da_cons dp_str da_nil))))))) da_nil))) da_nil))))) (sw_true rfl rfl rfl (by decide +kernel))) (dss_cons (ds_if (dt_cmp (or_eq hr.units) bd_eq (dp_of_do (do_fn1 0 (ok_law_draw T) hr1 (by rfl) T.g_law_draw T.F_law_draw.kp T.b_law_draw pass0 (da_cons dp_int da_nil))) dp_int (nomark _)) (dss_cons (ds_set 3 sc_law_given.nd (do_fn1 0 (ok_law_pick T) hr2 (by rfl) T.g_law_pick T.F_law_pick.kp T.b_law_pick pass0 (da_cons (dp_of_do (do_lst (da_cons dp_str (da_cons dp_str (da_cons dp_str (da_cons dp_str (da_cons dp_str (da_cons dp_str (da_cons dp_str (da_cons dp_str da_nil)))))))))) da_nil))) (dss_one (ds_insert 2 (dp_of_do (do_fn1 0 (ok_law_draw T) hr1 (by rfl) T.g_law_draw T.F_law_draw.kp T.b_law_draw pass0 (da_cons (dp_bin or_add bd_add (dp_callB or_lenD cd_lenD (by rfl) T.z_len (by decide +kernel) (da_cons (dp_var 2) da_nil)) dp_int) da_nil))) (dp_tup (da_cons dp_str (da_cons (dp_var 3) da_nil)))))) dss_nil) (dss_one (ds_ret (do_of_dp (dp_callTy call_tuple_of cd_tuple (by rfl) T.z_tuple (by decide +kernel) (da_cons (dp_var 2) da_nil))))))))
theorem ok_set_headers (T : Txt K mg w) : FnG P w K mg base CX0 1 T.a_set_headers T.d_set_headers ["headers", "side"] (spM K 2 f_set_headers) := by
  refine fn_ok (N := N_set_headers) (B := []) (k := 0) T.F_set_headers sc_set_headers (fun cdv A outer s H E hr => ?_)
  exact (dss_one (ds_ret (do_lc (own := [("row", 2)]) rfl sc_set_headers.nd (di_seq (dp_var 0)) (blkOk_by (own := [("row", 2)]) (N := N_set_headers) (sc := defScope s_set_headers) (by decide +kernel)) (fun _ _ _ _ _ => (dg_name 2 sc_set_headers.nd)) (fun _ _ _ _ _ => (dts_one (DW.dt (dw_and (dt_cmp (or_eq hr.units) bd_eq (dp_ix (or_ix (hu_of hr)) bd_ixD (dp_var 2) dp_int) dp_str (nomark _)) (dw_and1 (dt_cmp (or_eq hr.units) bd_eq (dp_ix (or_ix (hu_of hr)) bd_ixD (dp_var 2) dp_int) (dp_var 1) (nomark _))))))) (fun _ _ _ _ _ => (do_of_dp (dp_tup (da_cons (dp_ix (or_ix (hu_of hr)) bd_ixD (dp_var 2) dp_int) (da_cons (dp_ix (or_ix (hu_of hr)) bd_ixD (dp_var 2) dp_int) da_nil))))))))
theorem ok_named_by_connection (T : Txt K mg w) : FnG P w K mg base CX0 1 T.a_named_by_connection T.d_named_by_connection ["given"] (spM K 1 f_named_by_connection) := by
  refine fn_ok (N := N_named_by_connection) (B := []) (k := 0) T.F_named_by_connection sc_named_by_connection (fun cdv A outer s H E hr => ?_)
  exact (dss_cons (ds_set 1 sc_named_by_connection.nd (do_lst da_nil)) (dss_cons (ds_for PassesOwn.never rfl (di_seq (dp_var 0)) (dg_tup rfl (dgs_cons (dg_name 2 sc_named_by_connection.nd) (dgs_cons (dg_name 3 sc_named_by_connection.nd) dgs_nil))) (dss_one (ds_if (dt_cmp (or_eq hr.units) bd_eq (dp_var 2) dp_str (nomark _)) (dss_one (ds_extend 1 (dp_mt PySem.F.plainAttrs_str PySem.F.slot_str_split PySem.F.type_str_split mt_split md_split (dp_lowrep (dp_var 3)) (da_cons dp_str da_nil)))) dss_nil))) (dss_one (ds_ret (do_lc (own := [("name", 2)]) rfl sc_named_by_connection.nd (di_seq (dp_var 1)) (blkOk_by (own := [("name", 2)]) (N := N_named_by_connection) (sc := defScope s_named_by_connection) (by decide +kernel)) (fun _ _ _ _ _ => (dg_name 2 sc_named_by_connection.nd)) (fun _ _ _ _ _ => (dts_one (dt_cmp (or_ne hr.units) bd_ne (dp_var 2) dp_str (nomark _)))) (fun _ _ _ _ _ => (do_of_dp (dp_var 2))))))))
theorem ok_shut_names (T : Txt K mg w) : FnG P w K mg base CX0 2 T.a_shut_names T.d_shut_names ["headers", "side", "given"] (spM K 3 f_shut_names) := by
  refine fn_ok (N := N_shut_names) (B := []) (k := 1) T.F_shut_names sc_shut_names (fun cdv A outer s H E hr => ?_)
  have hr1 : RoomG 1 _ := hr.mono (by decide)
  exact (dss_cons (ds_setLc 3 (own := [("row", 4)]) rfl sc_shut_names.nd (di_seq (dp_var 0)) (blkOk_by (own := [("row", 4)]) (N := N_shut_names) (sc := defScope s_shut_names) (by decide +kernel)) (fun _ _ _ _ _ => (dg_name 4 sc_shut_names.nd)) (fun _ _ _ _ _ => (dts_one (DW.dt (dw_and (dt_cmp (or_ne hr.units) bd_ne (dp_ix (or_ix (hu_of hr)) bd_ixD (dp_var 4) dp_int) dp_str (nomark _)) (dw_and1 (dt_cmp (or_eq hr.units) bd_eq (dp_ix (or_ix (hu_of hr)) bd_ixD (dp_var 4) dp_int) (dp_var 1) (nomark _))))))) (fun _ _ _ _ _ => (do_of_dp (dp_ix (or_ix (hu_of hr)) bd_ixD (dp_var 4) dp_int))) (sw_true rfl rfl rfl (by decide +kernel))) (dss_one (ds_ret (do_of_dp (dp_bin or_add bd_add (dp_bin or_add bd_add (dp_of_do (do_lst (da_cons dp_str da_nil))) (dp_of_do (do_fn (ok_named_by_connection T) hr1 (by rfl) T.g_named_by_connection T.F_named_by_connection.kp T.b_named_by_connection pass0 (da_cons (dp_var 2) da_nil)))) (dp_var 3))))))
theorem ok_show_address (T : Txt K mg w) : FnG P w K mg base CX0 1 T.a_show_address T.d_show_address ["address"] (spM K 1 f_show_address) := by
  refine fn_ok (N := N_show_address) (B := []) (k := 0) T.F_show_address sc_show_address (fun cdv A outer s H E hr => ?_)
  exact (dss_one (ds_ret (do_of_dp (dp_mt PySem.F.plainAttrs_str PySem.F.slot_str_join PySem.F.type_str_join mt_join md_join dp_str (da_cons (dp_of_do (do_lc (own := [("size", 1)]) rfl sc_show_address.nd (di_seq (dp_tup (da_cons (dp_bin op_pow bd_pow dp_int dp_int) (da_cons dp_int (da_cons dp_int (da_cons dp_int da_nil)))))) (blkOk_by (own := [("size", 1)]) (N := N_show_address) (sc := defScope s_show_address) (by decide +kernel)) (fun _ _ _ _ _ => (dg_name 1 sc_show_address.nd)) (fun _ _ _ _ _ => dts_nil) (fun _ _ _ _ _ => (do_of_dp (dp_callTy or_str cd_str (by rfl) T.z_str (by decide +kernel) (da_cons (dp_bin op_mod bd_mod (dp_bin op_fdivW bd_div (dp_var 0) (dp_var 1)) dp_int) da_nil)))))) da_nil)))))
theorem ok_is_trusted (T : Txt K mg w) : FnG P w K mg base CX0 1 T.a_is_trusted T.d_is_trusted ["trusted", "address"] (spM K 2 f_is_trusted) := by
  refine fn_ok (N := N_is_trusted) (B := []) (k := 0) T.F_is_trusted sc_is_trusted (fun cdv A outer s H E hr => ?_)
  exact (dss_one (ds_ret (do_of_dp (dp_callB (cr_any rfl) cd_any (by rfl) T.z_any (by decide +kernel) (da_cons (dp_of_do (do_lc (own := [("low", 2), ("high", 3)]) rfl sc_is_trusted.nd (di_seq (dp_var 0)) (blkOk_by (own := [("low", 2), ("high", 3)]) (N := N_is_trusted) (sc := defScope s_is_trusted) (by decide +kernel)) (fun _ _ _ _ _ => (dg_tup rfl (dgs_cons (dg_name 2 sc_is_trusted.nd) (dgs_cons (dg_name 3 sc_is_trusted.nd) dgs_nil)))) (fun _ _ _ _ _ => dts_nil) (fun _ _ _ _ _ => (do_of_dp (dp_chain op_le bd_le op_le bd_le (dp_var 2) (dp_var 1) (dp_var 3)))))) da_nil)))))
theorem ok_from_value (T : Txt K mg w) : FnG P w K mg base CX0 2 T.a_from_value T.d_from_value ["name", "trusted", "client", "given"] (spM K 4 f_from_value) := by
  refine fn_ok (N := N_from_value) (B := []) (k := 1) T.F_from_value sc_from_value (fun cdv A outer s H E hr => ?_)
  have hr1 : RoomG 1 _ := hr.mono (by decide)
  exact (dss_cons (ds_set 4 sc_from_value.nd (do_of_dp (dp_sl or_sl sd_sl (dp_of_do (do_lc (own := [("other", 6), ("value", 7)]) rfl sc_from_value.nd (di_seq (dp_var 3)) (blkOk_by (own := [("other", 6), ("value", 7)]) (N := N_from_value) (sc := defScope s_from_value) (by decide +kernel)) (fun _ _ _ _ _ => (dg_tup rfl (dgs_cons (dg_name 6 sc_from_value.nd) (dgs_cons (dg_name 7 sc_from_value.nd) dgs_nil)))) (fun _ _ _ _ _ => (dts_one (dt_cmp (or_eq hr.units) bd_eq (dp_var 6) (dp_var 0) (nomark _)))) (fun _ _ _ _ _ => (do_of_dp (dp_var 7))))) dq_none (dq_some dp_int)))) (dss_cons (ds_set 5 sc_from_value.nd (do_fn (ok_show_address T) hr1 (by rfl) T.g_show_address T.F_show_address.kp T.b_show_address pass0 (da_cons (dp_var 2) da_nil))) (dss_one (ds_ret (do_of_dp (dp_if (DW.dt (dw_and (dt_cmp (or_ne hr.units) bd_ne (dp_var 4) (dp_of_do (do_lst da_nil)) (nomark _)) (dw_and1 (dt_tru (dp_of_do (do_fn (ok_is_trusted T) hr1 (by rfl) T.g_is_trusted T.F_is_trusted.kp T.b_is_trusted pass0 (da_cons (dp_var 1) (da_cons (dp_var 2) da_nil)))))))) (dp_bin or_add bd_add (dp_bin or_add bd_add (dp_ix (or_ix (hu_of hr)) bd_ixD (dp_var 4) dp_int) dp_str) (dp_var 5)) (dp_var 5)))))))
theorem ok_inside_headers (T : Txt K mg w) : FnG P w K mg base CX0 3 T.a_inside_headers T.d_inside_headers ["headers", "trusted", "client", "name", "given"] (spM K 5 f_inside_headers) := by
  refine fn_ok (N := N_inside_headers) (B := []) (k := 2) T.F_inside_headers sc_inside_headers (fun cdv A outer s H E hr => ?_)
  have hr1 : RoomG 1 _ := hr.mono (by decide)
  have hr2 : RoomG 2 _ := hr.mono (by decide)
  exact (dss_cons (ds_setLc 5 (own := [("row", 8)]) rfl sc_inside_headers.nd (di_seq (dp_var 0)) (blkOk_by (own := [("row", 8)]) (N := N_inside_headers) (sc := defScope s_inside_headers) (by decide +kernel)) (fun _ _ _ _ _ => (dg_name 8 sc_inside_headers.nd)) (fun _ _ _ _ _ => (dts_one (dt_cmp (or_eq hr.units) bd_eq (dp_ix (or_ix (hu_of hr)) bd_ixD (dp_var 8) dp_int) dp_str (nomark _)))) (fun _ _ _ _ _ => (do_of_dp (dp_ix (or_ix (hu_of hr)) bd_ixD (dp_var 8) dp_int))) (sw_true rfl rfl rfl (by decide +kernel))) (dss_cons (ds_set 6 sc_inside_headers.nd (do_of_dp (dp_bin or_add bd_add (dp_bin or_add bd_add (dp_of_do (do_fn (ok_shut_names T) hr2 (by rfl) T.g_shut_names T.F_shut_names.kp T.b_shut_names pass0 (da_cons (dp_var 0) (da_cons dp_str (da_cons (dp_var 4) da_nil))))) (dp_var 5)) (dp_of_do (do_lst (da_cons dp_str da_nil)))))) (dss_cons (ds_set 7 sc_inside_headers.nd (do_of_dp (dp_bin or_add bd_add (dp_of_do (do_lc (own := [("one", 9)]) rfl sc_inside_headers.nd (di_seq (dp_var 4)) (blkOk_by (own := [("one", 9)]) (N := N_inside_headers) (sc := defScope s_inside_headers) (by decide +kernel)) (fun _ _ _ _ _ => (dg_name 9 sc_inside_headers.nd)) (fun _ _ _ _ _ => (dts_one (dt_cmp (or_notin hr) bd_notin (dp_ix (or_ix (hu_of hr)) bd_ixD (dp_var 9) dp_int) (dp_var 6) (by with_unfolding_all rfl)))) (fun _ _ _ _ _ => (do_of_dp (dp_var 9))))) (dp_of_do (do_fn (ok_set_headers T) hr1 (by rfl) T.g_set_headers T.F_set_headers.kp T.b_set_headers pass0 (da_cons (dp_var 0) (da_cons dp_str da_nil))))))) (dss_cons (ds_set 7 sc_inside_headers.nd (do_of_dp (dp_bin or_add bd_add (dp_var 7) (dp_of_do (do_lc (own := [("one", 9)]) rfl sc_inside_headers.nd (di_seq (dp_var 5)) (blkOk_by (own := [("one", 9)]) (N := N_inside_headers) (sc := defScope s_inside_headers) (by decide +kernel)) (fun _ _ _ _ _ => (dg_name 9 sc_inside_headers.nd)) (fun _ _ _ _ _ => dts_nil) (fun _ _ _ _ _ => (do_of_dp (dp_tup (da_cons (dp_var 9) (da_cons (dp_of_do (do_fn (ok_from_value T) hr2 (by rfl) T.g_from_value T.F_from_value.kp T.b_from_value pass0 (da_cons (dp_var 9) (da_cons (dp_var 1) (da_cons (dp_var 2) (da_cons (dp_var 4) da_nil)))))) da_nil)))))))))) (dss_one (ds_ret (do_of_dp (dp_callTy call_tuple_of cd_tuple (by rfl) T.z_tuple (by decide +kernel) (da_cons (dp_bin or_add bd_add (dp_var 7) (dp_of_do (do_lst (da_cons (dp_tup (da_cons dp_str (da_cons (dp_bin or_add bd_add (dp_bin or_add bd_add (dp_callTy or_str cd_str (by rfl) T.z_str (by decide +kernel) (da_cons (dp_ix (or_ix (hu_of hr)) bd_ixD (dp_var 3) dp_int) da_nil)) dp_str) (dp_callTy or_str cd_str (by rfl) T.z_str (by decide +kernel) (da_cons (dp_ix (or_ix (hu_of hr)) bd_ixD (dp_var 3) dp_int) da_nil))) da_nil))) da_nil)))) da_nil)))))))))
theorem ok_outside_headers (T : Txt K mg w) : FnG P w K mg base CX0 3 T.a_outside_headers T.d_outside_headers ["headers", "given"] (spM K 2 f_outside_headers) := by
  refine fn_ok (N := N_outside_headers) (B := []) (k := 2) T.F_outside_headers sc_outside_headers (fun cdv A outer s H E hr => ?_)
  have hr1 : RoomG 1 _ := hr.mono (by decide)
  have hr2 : RoomG 2 _ := hr.mono (by decide)
  exact (dss_cons (ds_set 2 sc_outside_headers.nd (do_fn (ok_shut_names T) hr2 (by rfl) T.g_shut_names T.F_shut_names.kp T.b_shut_names pass0 (da_cons (dp_var 0) (da_cons dp_str (da_cons (dp_var 1) da_nil))))) (dss_one (ds_ret (do_of_dp (dp_callTy call_tuple_of cd_tuple (by rfl) T.z_tuple (by decide +kernel) (da_cons (dp_bin or_add bd_add (dp_of_do (do_lc (own := [("one", 3)]) rfl sc_outside_headers.nd (di_seq (dp_var 1)) (blkOk_by (own := [("one", 3)]) (N := N_outside_headers) (sc := defScope s_outside_headers) (by decide +kernel)) (fun _ _ _ _ _ => (dg_name 3 sc_outside_headers.nd)) (fun _ _ _ _ _ => (dts_one (dt_cmp (or_notin hr) bd_notin (dp_ix (or_ix (hu_of hr)) bd_ixD (dp_var 3) dp_int) (dp_var 2) (by with_unfolding_all rfl)))) (fun _ _ _ _ _ => (do_of_dp (dp_var 3))))) (dp_of_do (do_fn (ok_set_headers T) hr1 (by rfl) T.g_set_headers T.F_set_headers.kp T.b_set_headers pass0 (da_cons (dp_var 0) (da_cons dp_str da_nil))))) da_nil))))))
theorem ok_law_shut (T : Txt K mg w) : FnG P w K mg base CX0 1 T.a_law_shut T.d_law_shut ["rows", "side", "given"] (spM K 3 f_law_shut) := by
  refine fn_ok (N := N_law_shut) (B := []) (k := 0) T.F_law_shut sc_law_shut (fun cdv A outer s H E hr => ?_)
  exact (dss_cons (ds_set 3 sc_law_shut.nd (do_lst (da_cons dp_str da_nil))) (dss_cons (ds_for PassesOwn.never rfl (di_seq (dp_var 2)) (dg_tup rfl (dgs_cons (dg_name 4 sc_law_shut.nd) (dgs_cons (dg_name 5 sc_law_shut.nd) dgs_nil))) (dss_one (ds_if (dt_cmp (or_eq hr.units) bd_eq (dp_var 4) dp_str (nomark _)) (dss_one (ds_set 3 sc_law_shut.nd (do_binL or_add bl_cat (dp_var 3) (dp_of_do (do_lc (own := [("word", 7)]) rfl sc_law_shut.nd (di_seq (dp_mt PySem.F.plainAttrs_str PySem.F.slot_str_split PySem.F.type_str_split mt_split md_split (dp_lowrep (dp_var 5)) (da_cons dp_str da_nil))) (blkOk_by (own := [("word", 7)]) (N := N_law_shut) (sc := defScope s_law_shut) (by decide +kernel)) (fun _ _ _ _ _ => (dg_name 7 sc_law_shut.nd)) (fun _ _ _ _ _ => (dts_one (dt_cmp (or_ne hr.units) bd_ne (dp_var 7) dp_str (nomark _)))) (fun _ _ _ _ _ => (do_of_dp (dp_var 7)))))))) dss_nil))) (dss_cons (ds_for PassesOwn.never rfl (di_seq (dp_var 0)) (dg_name 6 sc_law_shut.nd) (dss_cons (ds_if (DW.dt (dw_and (dt_cmp (or_eq hr.units) bd_eq (dp_ix (or_ix (hu_of hr)) bd_ixD (dp_var 6) dp_int) dp_str (nomark _)) (dw_and1 (dt_cmp (or_eq hr.units) bd_eq (dp_var 1) dp_str (nomark _))))) (dss_one (ds_append 3 (dp_ix (or_ix (hu_of hr)) bd_ixD (dp_var 6) dp_int))) dss_nil) (dss_one (ds_if (DW.dt (dw_and (dt_cmp (or_ne hr.units) bd_ne (dp_ix (or_ix (hu_of hr)) bd_ixD (dp_var 6) dp_int) dp_str (nomark _)) (dw_and1 (dt_cmp (or_eq hr.units) bd_eq (dp_ix (or_ix (hu_of hr)) bd_ixD (dp_var 6) dp_int) (dp_var 1) (nomark _))))) (dss_one (ds_append 3 (dp_ix (or_ix (hu_of hr)) bd_ixD (dp_var 6) dp_int))) dss_nil)))) (dss_one (ds_ret (do_move 3))))))
theorem ok_law_dotted (T : Txt K mg w) : FnG P w K mg base CX0 1 T.a_law_dotted T.d_law_dotted ["address"] (spM K 1 f_law_dotted) := by
  refine fn_ok (N := N_law_dotted) (B := []) (k := 0) T.F_law_dotted sc_law_dotted (fun cdv A outer s H E hr => ?_)
  exact (dss_one (ds_ret (do_of_dp (dp_mt PySem.F.plainAttrs_str PySem.F.slot_str_join PySem.F.type_str_join mt_join md_join dp_str (da_cons (dp_of_do (do_lc (own := [("k", 1)]) rfl sc_law_dotted.nd (di_seq (dp_tup (da_cons dp_int (da_cons dp_int (da_cons dp_int (da_cons dp_int da_nil)))))) (blkOk_by (own := [("k", 1)]) (N := N_law_dotted) (sc := defScope s_law_dotted) (by decide +kernel)) (fun _ _ _ _ _ => (dg_name 1 sc_law_dotted.nd)) (fun _ _ _ _ _ => dts_nil) (fun _ _ _ _ _ => (do_of_dp (dp_callTy or_str cd_str (by rfl) T.z_str (by decide +kernel) (da_cons (dp_bin op_mod bd_mod (dp_callTy or_intT cd_intT (by rfl) T.z_int (by decide +kernel) (da_cons (dp_bin op_fdivW bd_div (dp_var 0) (dp_var 1)) da_nil)) dp_int) da_nil)))))) da_nil)))))
theorem ok_law_inside (T : Txt K mg w) : FnG P w K mg base CX0 2 T.a_law_inside T.d_law_inside ["policy", "client", "name", "given"] (spM K 4 f_law_inside) := by
  refine fn_ok (N := N_law_inside) (B := []) (k := 1) T.F_law_inside sc_law_inside (fun cdv A outer s H E hr => ?_)
  have hr1 : RoomG 1 _ := hr.mono (by decide)
  exact (dss_cons (ds_set 4 sc_law_inside.nd (do_of_dp (dp_ix (or_ix (hu_of hr)) bd_ixD (dp_var 0) dp_str))) (dss_cons (ds_set 5 sc_law_inside.nd (do_of_dp (dp_bin or_add bd_add (dp_of_do (do_fn (ok_law_shut T) hr1 (by rfl) T.g_law_shut T.F_law_shut.kp T.b_law_shut pass0 (da_cons (dp_var 4) (da_cons dp_str (da_cons (dp_var 3) da_nil))))) (dp_of_do (do_lst (da_cons dp_str da_nil)))))) (dss_cons (ds_setLc 6 (own := [("row", 8)]) rfl sc_law_inside.nd (di_seq (dp_var 3)) (blkOk_by (own := [("row", 8)]) (N := N_law_inside) (sc := defScope s_law_inside) (by decide +kernel)) (fun _ _ _ _ _ => (dg_name 8 sc_law_inside.nd)) (fun _ _ _ _ _ => (dts_one (dt_cmp (or_notin hr) bd_notin (dp_ix (or_ix (hu_of hr)) bd_ixD (dp_var 8) dp_int) (dp_var 5) (by with_unfolding_all rfl)))) (fun _ _ _ _ _ => (do_of_dp (dp_var 8))) (sw_true rfl rfl rfl (by decide +kernel))) (dss_cons (ds_set 6 sc_law_inside.nd (do_binL or_add bl_cat (dp_var 6) (dp_of_do (do_lc (own := [("row", 8)]) rfl sc_law_inside.nd (di_seq (dp_var 4)) (blkOk_by (own := [("row", 8)]) (N := N_law_inside) (sc := defScope s_law_inside) (by decide +kernel)) (fun _ _ _ _ _ => (dg_name 8 sc_law_inside.nd)) (fun _ _ _ _ _ => (dts_one (dt_cmp (or_eq hr.units) bd_eq (dp_sl or_sl sd_sl (dp_var 8) dq_none (dq_some dp_int)) (dp_tup (da_cons dp_str (da_cons dp_str da_nil))) (nomark _)))) (fun _ _ _ _ _ => (do_of_dp (dp_tup (da_cons (dp_ix (or_ix (hu_of hr)) bd_ixD (dp_var 8) dp_int) (da_cons (dp_ix (or_ix (hu_of hr)) bd_ixD (dp_var 8) dp_int) da_nil))))))))) (dss_cons (ds_set 7 sc_law_inside.nd (do_of_dp (dp_callB (cr_any rfl) cd_any (by rfl) T.z_any (by decide +kernel) (da_cons (dp_of_do (do_lc (own := [("low", 11), ("high", 12)]) rfl sc_law_inside.nd (di_seq (dp_ix (or_ix (hu_of hr)) bd_ixD (dp_var 0) dp_str)) (blkOk_by (own := [("low", 11), ("high", 12)]) (N := N_law_inside) (sc := defScope s_law_inside) (by decide +kernel)) (fun _ _ _ _ _ => (dg_tup rfl (dgs_cons (dg_name 11 sc_law_inside.nd) (dgs_cons (dg_name 12 sc_law_inside.nd) dgs_nil)))) (fun _ _ _ _ _ => dts_nil) (fun _ _ _ _ _ => (do_of_dp (dp_chain op_le bd_le op_le bd_le (dp_var 11) (dp_var 1) (dp_var 12)))))) da_nil)))) (dss_cons (ds_for PassesOwn.never rfl (di_seq (dp_var 4)) (dg_name 8 sc_law_inside.nd) (dss_one (ds_if (dt_cmp (or_eq hr.units) bd_eq (dp_ix (or_ix (hu_of hr)) bd_ixD (dp_var 8) dp_int) dp_str (nomark _)) (dss_cons (ds_set 9 sc_law_inside.nd (do_of_dp (dp_sl or_sl sd_sl (dp_of_do (do_lc (own := [("other", 13), ("value", 10)]) rfl sc_law_inside.nd (di_seq (dp_var 3)) (blkOk_by (own := [("other", 13), ("value", 10)]) (N := N_law_inside) (sc := defScope s_law_inside) (by decide +kernel)) (fun _ _ _ _ _ => (dg_tup rfl (dgs_cons (dg_name 13 sc_law_inside.nd) (dgs_cons (dg_name 10 sc_law_inside.nd) dgs_nil)))) (fun _ _ _ _ _ => (dts_one (dt_cmp (or_eq hr.units) bd_eq (dp_var 13) (dp_ix (or_ix (hu_of hr)) bd_ixD (dp_var 8) dp_int) (nomark _)))) (fun _ _ _ _ _ => (do_of_dp (dp_var 10))))) dq_none (dq_some dp_int)))) (dss_cons (ds_set 10 sc_law_inside.nd (do_fn (ok_law_dotted T) hr1 (by rfl) T.g_law_dotted T.F_law_dotted.kp T.b_law_dotted pass0 (da_cons (dp_var 1) da_nil))) (dss_cons (ds_if (DW.dt (dw_and (dt_cmp (or_ne hr.units) bd_ne (dp_var 9) (dp_of_do (do_lst da_nil)) (nomark _)) (dw_and1 (dt_tru (dp_var 7))))) (dss_one (ds_set 10 sc_law_inside.nd (do_of_dp (dp_bin or_add bd_add (dp_bin or_add bd_add (dp_ix (or_ix (hu_of hr)) bd_ixD (dp_var 9) dp_int) dp_str) (dp_var 10))))) dss_nil) (dss_one (ds_append 6 (dp_tup (da_cons (dp_ix (or_ix (hu_of hr)) bd_ixD (dp_var 8) dp_int) (da_cons (dp_var 10) da_nil)))))))) dss_nil))) (dss_one (ds_ret (do_of_dp (dp_bin or_add bd_add (dp_var 6) (dp_of_do (do_lst (da_cons (dp_tup (da_cons dp_str (da_cons (dp_bin or_add bd_add (dp_bin or_add bd_add (dp_callTy or_str cd_str (by rfl) T.z_str (by decide +kernel) (da_cons (dp_ix (or_ix (hu_of hr)) bd_ixD (dp_var 2) dp_int) da_nil)) dp_str) (dp_callTy or_str cd_str (by rfl) T.z_str (by decide +kernel) (da_cons (dp_ix (or_ix (hu_of hr)) bd_ixD (dp_var 2) dp_int) da_nil))) da_nil))) da_nil)))))))))))))
theorem ok_law_outside (T : Txt K mg w) : FnG P w K mg base CX0 2 T.a_law_outside T.d_law_outside ["policy", "given"] (spM K 2 f_law_outside) := by
  refine fn_ok (N := N_law_outside) (B := []) (k := 1) T.F_law_outside sc_law_outside (fun cdv A outer s H E hr => ?_)
  have hr1 : RoomG 1 _ := hr.mono (by decide)
  exact (dss_cons (ds_set 2 sc_law_outside.nd (do_fn (ok_law_shut T) hr1 (by rfl) T.g_law_shut T.F_law_shut.kp T.b_law_shut pass0 (da_cons (dp_ix (or_ix (hu_of hr)) bd_ixD (dp_var 0) dp_str) (da_cons dp_str (da_cons (dp_var 1) da_nil))))) (dss_cons (ds_setLc 3 (own := [("row", 4)]) rfl sc_law_outside.nd (di_seq (dp_var 1)) (blkOk_by (own := [("row", 4)]) (N := N_law_outside) (sc := defScope s_law_outside) (by decide +kernel)) (fun _ _ _ _ _ => (dg_name 4 sc_law_outside.nd)) (fun _ _ _ _ _ => (dts_one (dt_cmp (or_notin hr) bd_notin (dp_ix (or_ix (hu_of hr)) bd_ixD (dp_var 4) dp_int) (dp_var 2) (by with_unfolding_all rfl)))) (fun _ _ _ _ _ => (do_of_dp (dp_var 4))) (sw_true rfl rfl rfl (by decide +kernel))) (dss_one (ds_ret (do_of_dp (dp_bin or_add bd_add (dp_var 3) (dp_of_do (do_lc (own := [("row", 4)]) rfl sc_law_outside.nd (di_seq (dp_ix (or_ix (hu_of hr)) bd_ixD (dp_var 0) dp_str)) (blkOk_by (own := [("row", 4)]) (N := N_law_outside) (sc := defScope s_law_outside) (by decide +kernel)) (fun _ _ _ _ _ => (dg_name 4 sc_law_outside.nd)) (fun _ _ _ _ _ => (dts_one (dt_cmp (or_eq hr.units) bd_eq (dp_sl or_sl sd_sl (dp_var 4) dq_none (dq_some dp_int)) (dp_tup (da_cons dp_str (da_cons dp_str da_nil))) (nomark _)))) (fun _ _ _ _ _ => (do_of_dp (dp_tup (da_cons (dp_ix (or_ix (hu_of hr)) bd_ixD (dp_var 4) dp_int) (da_cons (dp_ix (or_ix (hu_of hr)) bd_ixD (dp_var 4) dp_int) da_nil)))))))))))))
theorem ok_law (T : Txt K mg w) : FnG P w K mg base CX0 4 T.a_law T.d_law ["script"] (spM K 1 f_law) := by
  refine fn_ok (N := N_law) (B := [0]) (k := 3) T.F_law sc_law (fun cdv A outer s H E hr => ?_)
  have hr1 : RoomG 1 _ := hr.mono (by decide)
  have hr2 : RoomG 2 _ := hr.mono (by decide)
  have hr3 : RoomG 3 _ := hr.mono (by decide)
  exact (dss_cons (ds_set 1 sc_law.nd (do_tp 0 (by rfl) T.z_list (by decide +kernel))) (dss_cons (ds_for PassesOwn.never rfl (di_range1 (by rfl) T.z_range (da_cons dp_int da_nil)) (dg_name 2 sc_law.nd) (dss_cons (ds_set 3 sc_law.nd (do_fn1 1 (ok_law_policy T) hr3 (by rfl) T.g_law_policy T.F_law_policy.kp T.b_law_policy pass0 (da_cons dp_str (da_cons (dp_tup (da_cons (dp_tup (da_cons dp_str (da_cons dp_int (da_cons dp_int (da_cons dp_int (da_cons dp_str da_nil)))))) da_nil)) da_nil)))) (dss_cons (ds_set 4 sc_law.nd (do_fn1 1 (ok_law_given T) hr3 (by rfl) T.g_law_given T.F_law_given.kp T.b_law_given pass0 da_nil)) (dss_cons (ds_set 5 sc_law.nd (do_fn1 1 (ok_law_pick T) hr2 (by rfl) T.g_law_pick T.F_law_pick.kp T.b_law_pick pass0 (da_cons (dp_of_do (do_lst (da_cons dp_int (da_cons dp_int (da_cons dp_int (da_cons dp_int (da_cons dp_int (da_cons dp_int (da_cons dp_int (da_cons dp_int da_nil)))))))))) da_nil))) (dss_cons (ds_set 6 sc_law.nd (do_of_dp (dp_tup (da_cons (dp_of_do (do_fn1 1 (ok_law_draw T) hr1 (by rfl) T.g_law_draw T.F_law_draw.kp T.b_law_draw pass0 (da_cons dp_int da_nil))) (da_cons (dp_of_do (do_fn1 1 (ok_law_draw T) hr1 (by rfl) T.g_law_draw T.F_law_draw.kp T.b_law_draw pass0 (da_cons dp_int da_nil))) da_nil))))) (dss_cons (ds_set 7 sc_law.nd (do_of_dp (dp_callTy call_tuple_of cd_tuple (by rfl) T.z_tuple (by decide +kernel) (da_cons (dp_of_do (do_fn (ok_law_inside T) hr2 (by rfl) T.g_law_inside T.F_law_inside.kp T.b_law_inside pass0 (da_cons (dp_var 3) (da_cons (dp_var 5) (da_cons (dp_var 6) (da_cons (dp_var 4) da_nil)))))) da_nil)))) (dss_cons (ds_set 8 sc_law.nd (do_fn (ok_inside_headers T) hr3 (by rfl) T.g_inside_headers T.F_inside_headers.kp T.b_inside_headers pass0 (da_cons (dp_ix (or_ix (hu_of hr)) bd_ixD (dp_var 3) dp_str) (da_cons (dp_ix (or_ix (hu_of hr)) bd_ixD (dp_var 3) dp_str) (da_cons (dp_var 5) (da_cons (dp_var 6) (da_cons (dp_var 4) da_nil))))))) (dss_cons (ds_if (DW.dt (dw_or (dt_not (dt_tru (dp_callB or_isi cd_isi (by rfl) T.z_isinstance (by decide +kernel) (da_cons (dp_var 8) (da_cons (dp_ty (by rfl) T.z_tuple (by decide +kernel)) da_nil))))) (dw_or1 (dt_cmp (or_ne hr.units) bd_ne (dp_var 8) (dp_var 7) (nomark _))))) (dss_one (ds_ret (do_of_dp dp_bl))) dss_nil) (dss_cons (ds_set 8 sc_law.nd (do_fn (ok_outside_headers T) hr3 (by rfl) T.g_outside_headers T.F_outside_headers.kp T.b_outside_headers pass0 (da_cons (dp_ix (or_ix (hu_of hr)) bd_ixD (dp_var 3) dp_str) (da_cons (dp_var 4) da_nil)))) (dss_one (ds_if (DW.dt (dw_or (dt_not (dt_tru (dp_callB or_isi cd_isi (by rfl) T.z_isinstance (by decide +kernel) (da_cons (dp_var 8) (da_cons (dp_ty (by rfl) T.z_tuple (by decide +kernel)) da_nil))))) (dw_or1 (dt_cmp (or_ne hr.units) bd_ne (dp_var 8) (dp_callTy call_tuple_of cd_tuple (by rfl) T.z_tuple (by decide +kernel) (da_cons (dp_of_do (do_fn (ok_law_outside T) hr2 (by rfl) T.g_law_outside T.F_law_outside.kp T.b_law_outside pass0 (da_cons (dp_var 3) (da_cons (dp_var 4) da_nil)))) da_nil)) (nomark _))))) (dss_one (ds_ret (do_of_dp dp_bl))) dss_nil))))))))))) (dss_one (ds_ret (do_of_dp dp_bl)))))
end
end K49

set_option Elab.async false
set_option linter.all false
set_option maxRecDepth 100000
set_option maxHeartbeats 4000000
namespace K49
open PySem PySem.Spec PyProof.Rows L2 DL
/-! ### the tape -/
structure Tw where
  rest : Int
  cs : List Int
  n : Int
  h0 : 0 ≤ rest
  h1 : 0 ≤ n
def tpR (s : Tw) : R := .tp s.rest s.cs s.n
theorem pow18 : fPow (.int 10) (.int 18) = some (.int 1000000000000000000) := by
  rw [pow_ii ⟨by decide, by decide, by decide⟩]
  rfl
theorem abs_nn (z : Int) : 0 ≤ (if z < 0 then -z else z) := by split <;> omega
theorem draw_ex (s : Tw) {m : Int} (h0 : 0 < m) (h1 : m < 18446744073709551616) : ∃ v s', 0 ≤ v ∧ v < m ∧ f_law_draw [tpR s, .sh (.int m)] = some (.sh (.int v), [tpR s', .sh (.int m)]) := by
  suffices h : ∀ P : Option (R × List R) → Prop, (∀ (r : Int) (s' : Tw), s'.rest = r / m → P (some (.sh (.int (r % m)), [tpR s', .sh (.int m)]))) → P (f_law_draw [tpR s, .sh (.int m)]) by
    exact h (fun o => ∃ v s', 0 ≤ v ∧ v < m ∧ o = some (.sh (.int v), [tpR s', .sh (.int m)])) fun r s' _ => ⟨_, s', Int.emod_nonneg _ (by omega), Int.emod_lt_of_pos _ h0, rfl⟩
  intro P hP
  have fin : ∀ (r : Int) (cs : List Int) (n : Int), 0 ≤ r → 0 ≤ n → P (some (.sh (.int (r % m)), [.tp (r / m) cs n, .sh (.int m)])) := fun r cs n hr hn => hP r ⟨r / m, cs, n, Int.ediv_nonneg hr (by omega), hn⟩ rfl
  obtain ⟨rest, cs, n, hr, hn⟩ := s
  show P (f_law_draw [.tp rest cs n, .sh (.int m)])
  rw [f_law_draw_]
  by_cases c : rest = 0
  · have mixed : ∀ c n' : Int, 0 ≤ (c * 48271 + n' * 69621 + 12345) % 2147483647 * 2147483629 + ((c * 48271 + n' * 69621 + 12345) % 2147483647 * 16807 + 11) % 2147483629 := fun c n' => by omega
    have rest : ∀ cell : Int, 0 ≤ cell → P (kFM [0] [.tp rest cs n, .sh (.int m)] ((mSeq (mSeq law_draw_p4 (mSeq law_draw_p5 law_draw_p8)) (mSeq law_draw_p10 (mSeq law_draw_p11 law_draw_p12))) [some (.tp 0 cs n), some (.sh (.int m)), some (.sh (.int cell)), none, none])) := by
      intro cell hc
      by_cases c3 : cell < 1000000000000000000
      · simp -implicitDefEqProofs only [nsAll, pcs, List.getElem?_cons_zero, List.getElem?_cons_succ, List.set_cons_zero, List.set_cons_succ, List.length_cons, List.length_nil, if_true, if_false, eq_self, Bool.false_eq_true, Bool.true_eq_false, Bool.not_true, Bool.not_false, decide_true, decide_false, and_self, and_true, true_and, List.cons_append, List.nil_append, Option.some.injEq, Nat.zero_lt_succ, Nat.succ_lt_succ_iff, Nat.lt_add_one, gt_iff_lt, ge_iff_le, Int.reduceLT, Int.reduceLE, Int.reduceAdd, Int.reduceSub, Int.reduceMul, Int.reduceNeg, Int.reduceEq, Int.reduceToNat, Nat.reduceAdd, Nat.reduceSub, Nat.reduceLT, Nat.reduceLeDiff, Nat.reduceEqDiff, reduceIte, String.reduceEq, Option.bind_some, ite_self, pow18, c3, h0, h1]
        exact fin _ _ _ (mixed _ _) (by omega)
      · simp -implicitDefEqProofs only [nsAll, pcs, List.getElem?_cons_zero, List.getElem?_cons_succ, List.set_cons_zero, List.set_cons_succ, List.length_cons, List.length_nil, if_true, if_false, eq_self, Bool.false_eq_true, Bool.true_eq_false, Bool.not_true, Bool.not_false, decide_true, decide_false, and_self, and_true, true_and, List.cons_append, List.nil_append, Option.some.injEq, Nat.zero_lt_succ, Nat.succ_lt_succ_iff, Nat.lt_add_one, gt_iff_lt, ge_iff_le, Int.reduceLT, Int.reduceLE, Int.reduceAdd, Int.reduceSub, Int.reduceMul, Int.reduceNeg, Int.reduceEq, Int.reduceToNat, Nat.reduceAdd, Nat.reduceSub, Nat.reduceLT, Nat.reduceLeDiff, Nat.reduceEqDiff, reduceIte, String.reduceEq, Option.bind_some, ite_self, pow18, c3, h0, h1]
        exact fin _ _ _ hc (by omega)
    subst c
    by_cases c2 : n < (cs.length : Int)
    · obtain ⟨z, hz⟩ : ∃ z, atI cs n = some z := ⟨_, by rw [atI_lt hn c2]; exact List.getElem?_eq_getElem (by omega)⟩
      have := rest (if z < 0 then -z else z) (abs_nn z)
      simp -implicitDefEqProofs only [nsAll, law_draw_p1_, law_draw_p2_, law_draw_p3_, law_draw_p5_, law_draw_p6_, law_draw_p7_, law_draw_p8_, law_draw_p9_, law_draw_p10_, law_draw_p11_, law_draw_p12_, law_policy_p1_, law_policy_p2_, law_policy_p3_, law_policy_p4_, law_policy_b5_, law_policy_e7_, law_policy_t8_, law_policy_e10_, law_policy_t11_, law_policy_p13_, law_policy_p14_, law_policy_p15_, law_policy_p16_, law_policy_p17_, law_policy_p18_, law_policy_p19_, law_policy_p20_, law_policy_b21_, law_policy_b23_, law_policy_p25_, law_policy_e26_, law_policy_p28_, law_policy_p29_, law_policy_p30_, law_policy_p31_, law_policy_p32_, law_policy_p33_, law_policy_p34_, law_policy_p35_, law_policy_p36_, law_policy_p37_, law_given_p1_, law_given_e2_, law_given_p4_, law_given_p5_, law_given_p6_, law_given_p7_, law_given_p8_, set_headers_e1_, set_headers_t2_, set_headers_p4_, named_by_connection_p1_, named_by_connection_p2_, named_by_connection_p3_, named_by_connection_b4_, named_by_connection_e6_, named_by_connection_t7_, named_by_connection_p9_, shut_names_e1_, shut_names_t2_, shut_names_p4_, shut_names_p5_, show_address_e1_, show_address_p3_, is_trusted_e1_, is_trusted_p3_, from_value_e1_, from_value_t2_, from_value_p4_, from_value_p5_, from_value_p6_, inside_headers_e1_, inside_headers_t2_, inside_headers_p4_, inside_headers_p5_, inside_headers_e6_, inside_headers_t7_, inside_headers_p9_, inside_headers_e10_, inside_headers_p12_, inside_headers_p13_, outside_headers_p1_, outside_headers_e2_, outside_headers_t3_, outside_headers_p5_, law_shut_p1_, law_shut_e2_, law_shut_t3_, law_shut_p5_, law_shut_p6_, law_shut_b7_, law_shut_p9_, law_shut_p10_, law_shut_p11_, law_shut_p12_, law_shut_b13_, law_shut_p15_, law_dotted_e1_, law_dotted_p3_, law_inside_p1_, law_inside_p2_, law_inside_e3_, law_inside_t4_, law_inside_p6_, law_inside_e7_, law_inside_t8_, law_inside_p10_, law_inside_e11_, law_inside_p13_, law_inside_e14_, law_inside_t15_, law_inside_p17_, law_inside_p18_, law_inside_p19_, law_inside_p20_, law_inside_p21_, law_inside_p22_, law_inside_b23_, law_inside_p25_, law_outside_p1_, law_outside_e2_, law_outside_t3_, law_outside_p5_, law_outside_e6_, law_outside_t7_, law_outside_p9_, law_p1_, law_p2_, law_p3_, law_p4_, law_p5_, law_p6_, law_p7_, law_p8_, law_p9_, law_p10_, law_p11_, law_p12_, law_b13_, law_p15_, b_show_address_, b_is_trusted_, b_named_by_connection_, b_shut_names_, b_set_headers_, b_from_value_, b_inside_headers_, b_outside_headers_, b_law_draw_, b_law_pick_, b_law_policy_, b_law_shut_, b_law_dotted_, b_law_inside_, b_law_outside_, b_law_given_, b_law_, List.getElem?_cons_zero, List.getElem?_cons_succ, List.set_cons_zero, List.set_cons_succ, List.length_cons, List.length_nil, if_true, if_false, eq_self, Bool.false_eq_true, Bool.true_eq_false, Bool.not_true, Bool.not_false, decide_true, decide_false, and_self, and_true, true_and, List.cons_append, List.nil_append, Option.some.injEq, Nat.zero_lt_succ, Nat.succ_lt_succ_iff, Nat.lt_add_one, gt_iff_lt, ge_iff_le, Int.reduceLT, Int.reduceLE, Int.reduceAdd, Int.reduceSub, Int.reduceMul, Int.reduceNeg, Int.reduceEq, Int.reduceToNat, Nat.reduceAdd, Nat.reduceSub, Nat.reduceLT, Nat.reduceLeDiff, Nat.reduceEqDiff, reduceIte, String.reduceEq, Option.bind_some, ite_self, c2, hz]
      simp -implicitDefEqProofs only [nsAll, law_draw_p1_, law_draw_p2_, law_draw_p3_, law_draw_p5_, law_draw_p6_, law_draw_p7_, law_draw_p8_, law_draw_p9_, law_draw_p10_, law_draw_p11_, law_draw_p12_, law_policy_p1_, law_policy_p2_, law_policy_p3_, law_policy_p4_, law_policy_b5_, law_policy_e7_, law_policy_t8_, law_policy_e10_, law_policy_t11_, law_policy_p13_, law_policy_p14_, law_policy_p15_, law_policy_p16_, law_policy_p17_, law_policy_p18_, law_policy_p19_, law_policy_p20_, law_policy_b21_, law_policy_b23_, law_policy_p25_, law_policy_e26_, law_policy_p28_, law_policy_p29_, law_policy_p30_, law_policy_p31_, law_policy_p32_, law_policy_p33_, law_policy_p34_, law_policy_p35_, law_policy_p36_, law_policy_p37_, law_given_p1_, law_given_e2_, law_given_p4_, law_given_p5_, law_given_p6_, law_given_p7_, law_given_p8_, set_headers_e1_, set_headers_t2_, set_headers_p4_, named_by_connection_p1_, named_by_connection_p2_, named_by_connection_p3_, named_by_connection_b4_, named_by_connection_e6_, named_by_connection_t7_, named_by_connection_p9_, shut_names_e1_, shut_names_t2_, shut_names_p4_, shut_names_p5_, show_address_e1_, show_address_p3_, is_trusted_e1_, is_trusted_p3_, from_value_e1_, from_value_t2_, from_value_p4_, from_value_p5_, from_value_p6_, inside_headers_e1_, inside_headers_t2_, inside_headers_p4_, inside_headers_p5_, inside_headers_e6_, inside_headers_t7_, inside_headers_p9_, inside_headers_e10_, inside_headers_p12_, inside_headers_p13_, outside_headers_p1_, outside_headers_e2_, outside_headers_t3_, outside_headers_p5_, law_shut_p1_, law_shut_e2_, law_shut_t3_, law_shut_p5_, law_shut_p6_, law_shut_b7_, law_shut_p9_, law_shut_p10_, law_shut_p11_, law_shut_p12_, law_shut_b13_, law_shut_p15_, law_dotted_e1_, law_dotted_p3_, law_inside_p1_, law_inside_p2_, law_inside_e3_, law_inside_t4_, law_inside_p6_, law_inside_e7_, law_inside_t8_, law_inside_p10_, law_inside_e11_, law_inside_p13_, law_inside_e14_, law_inside_t15_, law_inside_p17_, law_inside_p18_, law_inside_p19_, law_inside_p20_, law_inside_p21_, law_inside_p22_, law_inside_b23_, law_inside_p25_, law_outside_p1_, law_outside_e2_, law_outside_t3_, law_outside_p5_, law_outside_e6_, law_outside_t7_, law_outside_p9_, law_p1_, law_p2_, law_p3_, law_p4_, law_p5_, law_p6_, law_p7_, law_p8_, law_p9_, law_p10_, law_p11_, law_p12_, law_b13_, law_p15_, b_show_address_, b_is_trusted_, b_named_by_connection_, b_shut_names_, b_set_headers_, b_from_value_, b_inside_headers_, b_outside_headers_, b_law_draw_, b_law_pick_, b_law_policy_, b_law_shut_, b_law_dotted_, b_law_inside_, b_law_outside_, b_law_given_, b_law_, List.getElem?_cons_zero, List.getElem?_cons_succ, List.set_cons_zero, List.set_cons_succ, List.length_cons, List.length_nil, if_true, if_false, eq_self, Bool.false_eq_true, Bool.true_eq_false, Bool.not_true, Bool.not_false, decide_true, decide_false, and_self, and_true, true_and, List.cons_append, List.nil_append, Option.some.injEq, Nat.zero_lt_succ, Nat.succ_lt_succ_iff, Nat.lt_add_one, gt_iff_lt, ge_iff_le, Int.reduceLT, Int.reduceLE, Int.reduceAdd, Int.reduceSub, Int.reduceMul, Int.reduceNeg, Int.reduceEq, Int.reduceToNat, Nat.reduceAdd, Nat.reduceSub, Nat.reduceLT, Nat.reduceLeDiff, Nat.reduceEqDiff, reduceIte, String.reduceEq, Option.bind_some, ite_self, c2, hz] at this
      exact this
    · have := rest 0 (Int.le_refl 0)
      simp -implicitDefEqProofs only [nsAll, law_draw_p1_, law_draw_p2_, law_draw_p3_, law_draw_p5_, law_draw_p6_, law_draw_p7_, law_draw_p8_, law_draw_p9_, law_draw_p10_, law_draw_p11_, law_draw_p12_, law_policy_p1_, law_policy_p2_, law_policy_p3_, law_policy_p4_, law_policy_b5_, law_policy_e7_, law_policy_t8_, law_policy_e10_, law_policy_t11_, law_policy_p13_, law_policy_p14_, law_policy_p15_, law_policy_p16_, law_policy_p17_, law_policy_p18_, law_policy_p19_, law_policy_p20_, law_policy_b21_, law_policy_b23_, law_policy_p25_, law_policy_e26_, law_policy_p28_, law_policy_p29_, law_policy_p30_, law_policy_p31_, law_policy_p32_, law_policy_p33_, law_policy_p34_, law_policy_p35_, law_policy_p36_, law_policy_p37_, law_given_p1_, law_given_e2_, law_given_p4_, law_given_p5_, law_given_p6_, law_given_p7_, law_given_p8_, set_headers_e1_, set_headers_t2_, set_headers_p4_, named_by_connection_p1_, named_by_connection_p2_, named_by_connection_p3_, named_by_connection_b4_, named_by_connection_e6_, named_by_connection_t7_, named_by_connection_p9_, shut_names_e1_, shut_names_t2_, shut_names_p4_, shut_names_p5_, show_address_e1_, show_address_p3_, is_trusted_e1_, is_trusted_p3_, from_value_e1_, from_value_t2_, from_value_p4_, from_value_p5_, from_value_p6_, inside_headers_e1_, inside_headers_t2_, inside_headers_p4_, inside_headers_p5_, inside_headers_e6_, inside_headers_t7_, inside_headers_p9_, inside_headers_e10_, inside_headers_p12_, inside_headers_p13_, outside_headers_p1_, outside_headers_e2_, outside_headers_t3_, outside_headers_p5_, law_shut_p1_, law_shut_e2_, law_shut_t3_, law_shut_p5_, law_shut_p6_, law_shut_b7_, law_shut_p9_, law_shut_p10_, law_shut_p11_, law_shut_p12_, law_shut_b13_, law_shut_p15_, law_dotted_e1_, law_dotted_p3_, law_inside_p1_, law_inside_p2_, law_inside_e3_, law_inside_t4_, law_inside_p6_, law_inside_e7_, law_inside_t8_, law_inside_p10_, law_inside_e11_, law_inside_p13_, law_inside_e14_, law_inside_t15_, law_inside_p17_, law_inside_p18_, law_inside_p19_, law_inside_p20_, law_inside_p21_, law_inside_p22_, law_inside_b23_, law_inside_p25_, law_outside_p1_, law_outside_e2_, law_outside_t3_, law_outside_p5_, law_outside_e6_, law_outside_t7_, law_outside_p9_, law_p1_, law_p2_, law_p3_, law_p4_, law_p5_, law_p6_, law_p7_, law_p8_, law_p9_, law_p10_, law_p11_, law_p12_, law_b13_, law_p15_, b_show_address_, b_is_trusted_, b_named_by_connection_, b_shut_names_, b_set_headers_, b_from_value_, b_inside_headers_, b_outside_headers_, b_law_draw_, b_law_pick_, b_law_policy_, b_law_shut_, b_law_dotted_, b_law_inside_, b_law_outside_, b_law_given_, b_law_, List.getElem?_cons_zero, List.getElem?_cons_succ, List.set_cons_zero, List.set_cons_succ, List.length_cons, List.length_nil, if_true, if_false, eq_self, Bool.false_eq_true, Bool.true_eq_false, Bool.not_true, Bool.not_false, decide_true, decide_false, and_self, and_true, true_and, List.cons_append, List.nil_append, Option.some.injEq, Nat.zero_lt_succ, Nat.succ_lt_succ_iff, Nat.lt_add_one, gt_iff_lt, ge_iff_le, Int.reduceLT, Int.reduceLE, Int.reduceAdd, Int.reduceSub, Int.reduceMul, Int.reduceNeg, Int.reduceEq, Int.reduceToNat, Nat.reduceAdd, Nat.reduceSub, Nat.reduceLT, Nat.reduceLeDiff, Nat.reduceEqDiff, reduceIte, String.reduceEq, Option.bind_some, ite_self, c2]
      simp -implicitDefEqProofs only [nsAll, law_draw_p1_, law_draw_p2_, law_draw_p3_, law_draw_p5_, law_draw_p6_, law_draw_p7_, law_draw_p8_, law_draw_p9_, law_draw_p10_, law_draw_p11_, law_draw_p12_, law_policy_p1_, law_policy_p2_, law_policy_p3_, law_policy_p4_, law_policy_b5_, law_policy_e7_, law_policy_t8_, law_policy_e10_, law_policy_t11_, law_policy_p13_, law_policy_p14_, law_policy_p15_, law_policy_p16_, law_policy_p17_, law_policy_p18_, law_policy_p19_, law_policy_p20_, law_policy_b21_, law_policy_b23_, law_policy_p25_, law_policy_e26_, law_policy_p28_, law_policy_p29_, law_policy_p30_, law_policy_p31_, law_policy_p32_, law_policy_p33_, law_policy_p34_, law_policy_p35_, law_policy_p36_, law_policy_p37_, law_given_p1_, law_given_e2_, law_given_p4_, law_given_p5_, law_given_p6_, law_given_p7_, law_given_p8_, set_headers_e1_, set_headers_t2_, set_headers_p4_, named_by_connection_p1_, named_by_connection_p2_, named_by_connection_p3_, named_by_connection_b4_, named_by_connection_e6_, named_by_connection_t7_, named_by_connection_p9_, shut_names_e1_, shut_names_t2_, shut_names_p4_, shut_names_p5_, show_address_e1_, show_address_p3_, is_trusted_e1_, is_trusted_p3_, from_value_e1_, from_value_t2_, from_value_p4_, from_value_p5_, from_value_p6_, inside_headers_e1_, inside_headers_t2_, inside_headers_p4_, inside_headers_p5_, inside_headers_e6_, inside_headers_t7_, inside_headers_p9_, inside_headers_e10_, inside_headers_p12_, inside_headers_p13_, outside_headers_p1_, outside_headers_e2_, outside_headers_t3_, outside_headers_p5_, law_shut_p1_, law_shut_e2_, law_shut_t3_, law_shut_p5_, law_shut_p6_, law_shut_b7_, law_shut_p9_, law_shut_p10_, law_shut_p11_, law_shut_p12_, law_shut_b13_, law_shut_p15_, law_dotted_e1_, law_dotted_p3_, law_inside_p1_, law_inside_p2_, law_inside_e3_, law_inside_t4_, law_inside_p6_, law_inside_e7_, law_inside_t8_, law_inside_p10_, law_inside_e11_, law_inside_p13_, law_inside_e14_, law_inside_t15_, law_inside_p17_, law_inside_p18_, law_inside_p19_, law_inside_p20_, law_inside_p21_, law_inside_p22_, law_inside_b23_, law_inside_p25_, law_outside_p1_, law_outside_e2_, law_outside_t3_, law_outside_p5_, law_outside_e6_, law_outside_t7_, law_outside_p9_, law_p1_, law_p2_, law_p3_, law_p4_, law_p5_, law_p6_, law_p7_, law_p8_, law_p9_, law_p10_, law_p11_, law_p12_, law_b13_, law_p15_, b_show_address_, b_is_trusted_, b_named_by_connection_, b_shut_names_, b_set_headers_, b_from_value_, b_inside_headers_, b_outside_headers_, b_law_draw_, b_law_pick_, b_law_policy_, b_law_shut_, b_law_dotted_, b_law_inside_, b_law_outside_, b_law_given_, b_law_, List.getElem?_cons_zero, List.getElem?_cons_succ, List.set_cons_zero, List.set_cons_succ, List.length_cons, List.length_nil, if_true, if_false, eq_self, Bool.false_eq_true, Bool.true_eq_false, Bool.not_true, Bool.not_false, decide_true, decide_false, and_self, and_true, true_and, List.cons_append, List.nil_append, Option.some.injEq, Nat.zero_lt_succ, Nat.succ_lt_succ_iff, Nat.lt_add_one, gt_iff_lt, ge_iff_le, Int.reduceLT, Int.reduceLE, Int.reduceAdd, Int.reduceSub, Int.reduceMul, Int.reduceNeg, Int.reduceEq, Int.reduceToNat, Nat.reduceAdd, Nat.reduceSub, Nat.reduceLT, Nat.reduceLeDiff, Nat.reduceEqDiff, reduceIte, String.reduceEq, Option.bind_some, ite_self, c2] at this
      exact this
  · simp -implicitDefEqProofs only [nsAll, pcs, List.getElem?_cons_zero, List.getElem?_cons_succ, List.set_cons_zero, List.set_cons_succ, List.length_cons, List.length_nil, if_true, if_false, eq_self, Bool.false_eq_true, Bool.true_eq_false, Bool.not_true, Bool.not_false, decide_true, decide_false, and_self, and_true, true_and, List.cons_append, List.nil_append, Option.some.injEq, Nat.zero_lt_succ, Nat.succ_lt_succ_iff, Nat.lt_add_one, gt_iff_lt, ge_iff_le, Int.reduceLT, Int.reduceLE, Int.reduceAdd, Int.reduceSub, Int.reduceMul, Int.reduceNeg, Int.reduceEq, Int.reduceToNat, Nat.reduceAdd, Nat.reduceSub, Nat.reduceLT, Nat.reduceLeDiff, Nat.reduceEqDiff, reduceIte, String.reduceEq, Option.bind_some, ite_self, c, h0, h1]
    exact fin _ _ _ hr hn
noncomputable def Tw.val (s : Tw) (m : Int) : Int := if h : 0 < m ∧ m < 18446744073709551616 then (draw_ex s h.1 h.2).choose else 0
noncomputable def Tw.adv (s : Tw) (m : Int) : Tw := if h : 0 < m ∧ m < 18446744073709551616 then (draw_ex s h.1 h.2).choose_spec.choose else s
theorem draw_spec (s : Tw) {m : Int} (h0 : 0 < m) (h1 : m < 18446744073709551616) : 0 ≤ s.val m ∧ s.val m < m ∧ f_law_draw [tpR s, .sh (.int m)] = some (.sh (.int (s.val m)), [tpR (s.adv m), .sh (.int m)]) := by
  unfold Tw.val Tw.adv
  rw [dif_pos ⟨h0, h1⟩, dif_pos ⟨h0, h1⟩]
  exact (draw_ex s h0 h1).choose_spec.choose_spec
theorem draw_run (s : Tw) {m : Int} (h0 : 0 < m) (h1 : m < 18446744073709551616) : f_law_draw [tpR s, .sh (.int m)] = some (.sh (.int (s.val m)), [tpR (s.adv m), .sh (.int m)]) := (draw_spec s h0 h1).2.2
theorem Tw.nat (s : Tw) {m : Int} (h0 : 0 < m) (h1 : m < 18446744073709551616) : ∃ k : Nat, s.val m = k ∧ (k : Int) < m := ⟨(s.val m).toNat, by have := (draw_spec s h0 h1).1; omega, by have := draw_spec s h0 h1; omega⟩
theorem pick_run (s : Tw) {ds : List D} (h0 : ds ≠ []) (h1 : ds.length ≤ 100000) : f_law_pick [tpR s, .sh (.lst ds)] = some (.sh (pk ds (s.val ds.length)), [tpR (s.adv ds.length), .sh (.lst ds)]) ∧ pk ds (s.val ds.length) ∈ ds := by
  have hp : (0 : Int) < (ds.length : Nat) := by have := List.length_pos_iff.mpr h0; omega
  have h2 : ((ds.length : Nat) : Int) < 18446744073709551616 := by omega
  obtain ⟨k, hk, hk2⟩ := s.nat hp h2
  have hl : k < ds.length := by omega
  have ea : atI ds (k : Int) = some (pk ds (k : Int)) := by
    rw [atI_lt (by omega) (by omega), List.getElem?_eq_getElem (by omega)]
    unfold pk
    rw [List.getD_eq_getElem?_getD, List.getElem?_eq_getElem (by omega), Option.getD_some]
  refine ⟨eq_of fun P hP => ?_, ?_⟩
  · rw [hk] at hP
    rw [f_law_pick_]
    simp -implicitDefEqProofs only [ev_F, ev_S, ev_V, ev_Mv, ev_C, ev_Bin, ev_Chain, ev_Un, ev_Tst, ev_Tru, ev_And, ev_Or, ev_Not, ev_AndV, ev_OrV, ev_NotV, ev_IfE, ev_Nil, ev_Cons, ev_Fz, ev_Tup, ev_Lst, ev_Res, ev_Call, ev_CallL, ev_Fn, ev_Fn1, ev_Q0, ev_Q1, ev_Sl, ev_Mt, ev_Next, ev_Brk, ev_Cnt, ev_Seq, ev_Drop, ev_Ret, ev_RetN, ev_If, ev_Set, ev_Asg, ev_Aug, ev_ItS, ev_ItR, ev_For, ev_forN, ev_True, ev_App, ev_SetL, ev_fnM, ev_at, ev_atD, ev_rs, ev_rsD, oD_s, oB_s, oL_s, oDs_s, kF_, kS_, kS2_, kV_, kM_, kBin3_, kBin2_, kBin1_, kCh4_, kCh3t, kCh3f, kCh2'_, kCh2_, kCh1_, kUn2_, kUn_, kTst2_, kTst_, kTru2_, kTru_, kAndt, kAndf, kOrt, kOrf, kNot_, kAndVt, kAndVf, kOrVt, kOrVf, kNotV_, kIfEt, kIfEf, kCons2_, kCons_, kFz2_, kFz_, kTup_, kLst_, kRes_, kCall_, kCallL_, kFn3_, kFn2_, kFn_, kG4_, kG3_, kG2_, kG1_, kG0_, kQ_, kQ1_, kSl4_, kSl3_, kSl2_, kSl1_, kSeq_nx, kSeq_rt, kSeq_bk, kSeq_ct, kDrop_, kRet_, kIft, kIff, kSet_, kAsg2_, kAsg_, kAug4_, kAug3_, kAug2_, kAug1_, kIt2l, kIt2t, kIt_, kItR_, kFor_, kFo2n, kFo2c, kFo2b, kFo2r, kFo1_, kW2n, kW2c, kW2b, kW2r, kW1t, kW1f, kLc2_, kLc1_, kC4_, kC3_, kC2t, kC2f, kC1_, kApp3_, kApp2_, kApp1_, kSL5_, kSL4_, kSL3_, kSL2_, kSL1_, kSL0_, kFM_rt, kFM_nx, kMt3_, kMt2_, kMt1_, kMt_, kAt_sh, kAt_ol, kAt_oK, kRs_sh, kRs_ol, kRs_oK, frz_sh, frz_ol, frz_oK, flat_ol, flat_oK, flat_sh, flat_int, flat_bl, flat_str, flat_non, flat_tup, flat_lst, flat_dK, gNm_, gNil_, gTup_, resL_n, fzL_n, wipeR_n, wipeR_c, resL_c, kL2_, kL1_, fzL_c, kZ2_, kZ1_, gCons_, kGc_, coll_c, kCo_, collect_nil, bind_ok', ev_ONil, ev_OCons, kOC_, kOC2_, ev_Par2, ev_Par3, kPar2_, kPar3_, ev_ItF, kItF_, lT_, kL1'_, kL2'_, lF_, kF1_, kF2t, kF2f, kF3_, fT_, kT_, tu_nx, tu_ct, tu_rt, tu_bk, we_nx, we_ct, we_bk, we_rt, atI_0, atI_1, atI_2, atI_3, atI_4, atI_5, atI_6, ev_KD, kKD_, kKD2_, atI_7, ev_D, kD_, oZ_, ev_Key, kKey_, keyD_i, keyD_s, ev_NewK, ev_Disp, kDisp_, ev_PairsN, ev_PairsC, kP1_, kP2_, kP3_, ev_DPut, kDP0_, kDP1_, kDP2_, kDP3_, ev_Get1, kGe_, kGe0_, kGe1_, kGe2_, ev_Get2, kGf_, kGf0_, kGf1_, kGf2_, ev_CallK, kCallK_, oK_s, ev_Pop, kPop0_, kPop1_, kPop2_, kPop3_, kPop4_, ev_PopN, kPopN_, kPopL_, ev_ItT, kItS_, kItS2l, kItS2t, kItS2s, ofS_eq, Dw.lo, Dw.hi, take2_run, col_in0, col_out0, col_outN, add_ii, castL, add_tt, add_ll, shm_c, shm_n, opt_some, sub_ii, mod_ii, div_ii, mul_li, mul_lj, mulS_ii, mulS_l, mulS_t, pow_ii, neg_i, lt_ii, le_ii, gt_ii, ge_ii, fEq_, fNe_, ix_t, ix_l, ix_ks, ix_ki, fInt_bt, fInt_bf, fInt_bd, fI_i, len_l, len_t, tuple_l, tuple_t, list_l, list_t, abs_i, min_ii, max_ii, zip_tt, zip_ll, is2_n, isnot2_n, nonQ_non, nonQ_bl, nonQ_int, nonQ_str, nonQ_tup, nonQ_lst, nonQ_dK, isi_non_int, isi_non_bool, isi_non_str, isi_non_tuple, isi_non_list, isi_non_dict, isi_bl_int, isi_bl_bool, isi_bl_str, isi_bl_tuple, isi_bl_list, isi_bl_dict, isi_int_int, isi_int_bool, isi_int_str, isi_int_tuple, isi_int_list, isi_int_dict, isi_str_int, isi_str_bool, isi_str_str, isi_str_tuple, isi_str_list, isi_str_dict, isi_tup_int, isi_tup_bool, isi_tup_str, isi_tup_tuple, isi_tup_list, isi_tup_dict, isi_lst_int, isi_lst_bool, isi_lst_str, isi_lst_tuple, isi_lst_list, isi_lst_dict, isi_dK_int, isi_dK_bool, isi_dK_str, isi_dK_tuple, isi_dK_list, isi_dK_dict, tru_non, tru_bl, mapSome, shr_ii, deq_ii, deq_ss, deq_bb, deq_nn, deq_ni, deq_in, deq_ns, deq_sn, deq_nb, deq_bn, deq_is, deq_si, deq_bs, deq_sb, fSl_t, fSl_l, fLenD_k, fLenD_l, fLenD_t, fIntT_i, ev_compN, ev_compC, ev_Lc, ev_BinL, kBL1_, kBL2_, kBL3_, cat_ll, ev_Ext, kExt1_, kExt2_, kExt3_, ev_Ins, kIns1_, kIns2_, kIns3_, kIns4_, ev_LstO, kLsO_, kLsO2_, ocs2, ev_Chain3, k3a_, k3b_, k3b'_, k3ct, k3cf, k3d_, k3e_, k3ft, k3ff, k3g_, ev_Tp0', ev_Tp2', ev_TpL', ev_TpC', ev_Ts0, ev_Ts2, ev_TpN, kTp0_, kTp2_, kTpL_, kTpI_, kTpC_, kTs0'_, kTs2'_, kTs0_, kTs2_, kTpN_, pow_ii, pcs, List.getElem?_cons_zero, List.getElem?_cons_succ, List.set_cons_zero, List.set_cons_succ, List.length_cons, List.length_nil, if_true, if_false, eq_self, Bool.false_eq_true, Bool.true_eq_false, Bool.not_true, Bool.not_false, decide_true, decide_false, and_self, and_true, true_and, List.cons_append, List.nil_append, Option.some.injEq, Nat.zero_lt_succ, Nat.succ_lt_succ_iff, Nat.lt_add_one, gt_iff_lt, ge_iff_le, Int.reduceLT, Int.reduceLE, Int.reduceAdd, Int.reduceSub, Int.reduceMul, Int.reduceNeg, Int.reduceEq, Int.reduceToNat, Nat.reduceAdd, Nat.reduceSub, Nat.reduceLT, Nat.reduceLeDiff, Nat.reduceEqDiff, reduceIte, String.reduceEq, Option.bind_some, ite_self, draw_run, hp, h2, hk, ea]
    exact hP
  · rw [hk]
    unfold pk
    rw [List.getD_eq_getElem?_getD, List.getElem?_eq_getElem (show (k : Int).toNat < ds.length by omega), Option.getD_some]
    exact List.getElem_mem _
theorem pick_ex (s : Tw) (ds : List D) (h0 : ds ≠ []) (h1 : ds.length ≤ 100000) : ∃ d s', d ∈ ds ∧ f_law_pick [tpR s, .sh (.lst ds)] = some (.sh d, [tpR s', .sh (.lst ds)]) := ⟨_, _, (pick_run s h0 h1).2, (pick_run s h0 h1).1⟩
theorem draw_nat (s : Tw) (m : Int) (h0 : 0 < m) (h1 : m < 1000000) : ∃ (k : Nat) (s' : Tw), (k : Int) < m ∧ f_law_draw [tpR s, .sh (.int m)] = some (.sh (.int (k : Int)), [tpR s', .sh (.int m)]) := by
  obtain ⟨v, s', a, b, e⟩ := draw_ex s (m := m) h0 (by omega)
  exact ⟨v.toNat, s', by omega, by rw [show ((v.toNat : Nat) : Int) = v by omega]; exact e⟩
end K49

set_option Elab.async false
set_option linter.all false
set_option maxRecDepth 100000
set_option maxHeartbeats 4000000
namespace K49
open PySem PySem.Spec PyProof.Rows L2 DL
/-! ### texts and pairs of texts -/
abbrev Tx (a : Str) : Prop := (PyData.str a).canLay0 = true
theorem tx_app {a b : Str} (ha : Tx a) (hb : Tx b) : Tx (a ++ b) := by
  have e : (a ++ b).cps = a.cps ++ b.cps := rfl
  have h1 : (PyData.strOk a) = true := ha
  have h2 : (PyData.strOk b) = true := hb
  show PyData.strOk (a ++ b) = true
  unfold PyData.strOk at *
  rw [e, Array.all_append, h1, h2]
  rfl
abbrev pr (p : Str × Str) : D := .tup [.str p.1, .str p.2]
theorem shp_pr {p : Str × Str} (h1 : Tx p.1) (h2 : Tx p.2) : Shp 1 (pr p) := shp_tup fun d hd => by
  simp only [List.mem_cons, List.not_mem_nil, or_false] at hd
  rcases hd with rfl | rfl
  · exact shp_str h1
  · exact shp_str h2
theorem shaped_of {k : Nat} {d : D} {a : PyData} (h : Shp k d) (hk : k ≤ 64) (e : toPy d = some a) : SeqAt.shaped a = true := by
  obtain ⟨b, e', c, p⟩ := h
  rw [e] at e'
  cases e'
  unfold SeqAt.shaped
  rw [c, decide_eq_true (Nat.le_trans p hk)]
  rfl
theorem eqv_py (p q : Str × Str) : PyData.eqv (.tuple [.str p.1, .str p.2]) (.tuple [.str q.1, .str q.2]) = decide (p = q) := by
  obtain ⟨a, b⟩ := p
  obtain ⟨c, d⟩ := q
  rw [Bool.eq_iff_iff]
  simp [PyData.eqv, PyData.eqvAll]
theorem deq_pr {a b c d : Str} (ha : Tx a) (hb : Tx b) (hc : Tx c) (hd : Tx d) : deq (.tup [.str a, .str b]) (.tup [.str c, .str d]) = some (decide ((a, b) = (c, d))) := by
  have e1 : toPy (.tup [.str a, .str b]) = some (.tuple [.str a, .str b]) := rfl
  have e2 : toPy (.tup [.str c, .str d]) = some (.tuple [.str c, .str d]) := rfl
  have s1 := shaped_of (shp_pr (p := (a, b)) ha hb) (by decide) e1
  have s2 := shaped_of (shp_pr (p := (c, d)) hc hd) (by decide) e2
  rw [deq_tt, e1, e2]
  unfold deq2
  dsimp only
  rw [if_pos ⟨s1, s2⟩, eqv_py (a, b) (c, d)]
theorem deq_l1 {a : Str} (ha : Tx a) : deq (.lst [.str a]) (.lst []) = some false := by
  have e1 : toPy (.lst [.str a]) = some (.list [.str a]) := rfl
  have e2 : toPy (.lst []) = some (.list []) := rfl
  have s1 := shaped_of (k := 1) (shp_lst (ds := [.str a]) fun d hd => by rw [List.mem_singleton.mp hd]; exact shp_str ha) (by decide) e1
  have s2 := shaped_of (k := 1) (shp_lst (ds := []) fun d hd => by cases hd) (by decide) e2
  rw [deq_ll, e1, e2]
  unfold deq2
  dsimp only
  rw [if_pos ⟨s1, s2⟩]
  rfl
theorem deq_l0 : deq (.lst []) (.lst []) = some true := by with_unfolding_all rfl
theorem add_ss {a b : Str} (h : a.length + b.length ≤ 100000) : fAdd (.str a) (.str b) = some (.str (a ++ b)) := if_pos (le_line h)
theorem len_app (a b : Str) : (a ++ b).length = a.length + b.length := by
  show (a.cps ++ b.cps).size = _
  rw [Array.size_append]
  rfl
/-! ### the words of a value -/
def low (v : Str) : Str := Txt.replace (Txt.lower v) "," " "
def wds (v : Str) : List Str := Txt.split (low v) " "
structure Vok (v : Str) : Prop where
  len : v.length ≤ 20
  lw : (low v).length ≤ 1000
  wn : (wds v).length ≤ 60
  tx : Tx v
theorem lr_run {v : Str} (h : Vok v) : fLowRep "," " " (.str v) = some (.str (low v)) := if_pos (Nat.le_trans h.len (by decide))
theorem sp_run {v : Str} (h : Vok v) : fSplit (.str (low v)) [.str " "] = some (.lst ((wds v).map D.str)) := if_pos ⟨by with_unfolding_all rfl, Nat.le_trans h.lw (by decide)⟩
def vals : List Str := ["", "1", "1.2.3.4", "u, v", "w", "close", "A,x", "host, Cookie", "y  accept", "b-2,,9", "request", "connection", ""]
theorem vals_ok : ∀ v ∈ vals, Vok v := by
  have h : (vals.all fun v => decide (v.length ≤ 20) && decide ((low v).length ≤ 1000) && decide ((wds v).length ≤ 60) && (PyData.str v).canLay0) = true := by decide +kernel
  intro v hv
  have := List.all_eq_true.mp h v hv
  simp only [Bool.and_eq_true, decide_eq_true_eq] at this
  exact ⟨this.1.1.1, this.1.1.2, this.1.2, this.2⟩
/-! ### rows -/
inductive Rw where
  | hide (s n : Str)
  | set (s n v : Str)
  | frm (n : Str)
def enc : Rw → D
  | .hide s n => .tup [.str "hide", .str s, .str n]
  | .set s n v => .tup [.str "set", .str s, .str n, .str v]
  | .frm n => .tup [.str "from", .str n]
def Rw.ok : Rw → Prop
  | .hide s n => Tx s ∧ Tx n
  | .set s n v => Tx s ∧ Tx n ∧ Tx v
  | .frm n => Tx n
def Rw.isF : Rw → Bool
  | .frm _ => true
  | _ => false
def Rw.nm : Rw → Str
  | .hide _ n => n
  | .set _ n _ => n
  | .frm n => n
/-- a row that sets on a side -/
def Rw.isS (sd : Str) : Rw → Bool
  | .set s _ _ => decide (s = sd)
  | _ => false
/-- a row that is no teller, of a side -/
def Rw.isH (sd : Str) : Rw → Bool
  | .set s _ _ => decide (s = sd)
  | .hide s _ => decide (s = sd)
  | _ => false
def Rw.nv : Rw → Str × Str
  | .hide _ n => (n, "")
  | .set _ n v => (n, v)
  | .frm n => (n, "")
structure Gok (g : List (Str × Str)) : Prop where
  len : g.length ≤ 20
  ok : ∀ p ∈ g, Tx p.1 ∧ Vok p.2
structure Rok (rs : List Rw) : Prop where
  len : rs.length ≤ 20
  ok : ∀ r ∈ rs, r.ok
end K49

set_option Elab.async false
set_option linter.all false
set_option maxRecDepth 100000
set_option maxHeartbeats 4000000
namespace K49
open PySem PySem.Spec PyProof.Rows L2 DL
/-! ### what connection names -/
def one (p : Str × Str) : List Str := if p.1 = ("connection" : Str) then wds p.2 else []
def named : List (Str × Str) → List Str
  | [] => []
  | p :: g => one p ++ named g
theorem named_app (a b : List (Str × Str)) : named (a ++ b) = named a ++ named b := by
  induction a with
  | nil => rfl
  | cons p a ih => rw [List.cons_append, named, ih, named, List.append_assoc]
theorem one_c (v : Str) : one (("connection" : Str), v) = wds v := if_pos rfl
theorem one_n {n v : Str} (h : ¬ n = ("connection" : Str)) : one (n, v) = [] := if_neg h
theorem named_len {g : List (Str × Str)} (h : ∀ p ∈ g, Tx p.1 ∧ Vok p.2) : (named g).length ≤ 60 * g.length := by
  induction g with
  | nil => exact Nat.le_refl _
  | cons p g ih =>
    rw [named, List.length_append, List.length_cons]
    have h1 := ih fun q hq => h q (List.mem_cons_of_mem _ hq)
    have h2 := (h p (List.mem_cons_self ..)).2.wn
    have h3 : (one p).length ≤ 60 := by
      unfold one
      split
      · exact h2
      · exact Nat.zero_le _
    omega
theorem named_nil : named [] = [] := rfl
abbrev nh (w : Str) : Bool := !decide (w = "host")
theorem named_run {g : List (Str × Str)} (h : Gok g) : f_named_by_connection [.sh (.tup (g.map pr))] = some (.ol (((named g).filter nh).map D.str), [.sh (.tup (g.map pr))]) := by
  refine eq_of fun P hP => ?_
  rw [f_named_by_connection_]
  simp -implicitDefEqProofs only [nsAll, pcs, List.getElem?_cons_zero, List.getElem?_cons_succ, List.set_cons_zero, List.set_cons_succ, List.length_cons, List.length_nil, if_true, if_false, eq_self, Bool.false_eq_true, Bool.true_eq_false, Bool.not_true, Bool.not_false, decide_true, decide_false, and_self, and_true, true_and, List.cons_append, List.nil_append, Option.some.injEq, Nat.zero_lt_succ, Nat.succ_lt_succ_iff, Nat.lt_add_one, gt_iff_lt, ge_iff_le, Int.reduceLT, Int.reduceLE, Int.reduceAdd, Int.reduceSub, Int.reduceMul, Int.reduceNeg, Int.reduceEq, Int.reduceToNat, Nat.reduceAdd, Nat.reduceSub, Nat.reduceLT, Nat.reduceLeDiff, Nat.reduceEqDiff, reduceIte, String.reduceEq, Option.bind_some, ite_self, named_by_connection_p5_]
  refine loop_in (C := fun o => P (kFM [] [.sh (.tup (g.map pr))] o)) pr (fun xs ρ => ∃ ds x2 x3, ds ++ xs = g ∧ ρ = [some (.sh (.tup (g.map pr))), some (.ol ((named ds).map D.str)), x2, x3]) ⟨[], none, none, rfl, by rw [named_nil]; rfl⟩ ?_ ?_
  · rintro ⟨n, v⟩ xs _ ⟨ds, x2, x3, rfl, rfl⟩
    have hv : Vok v := (h.ok (n, v) (by simp)).2
    have e1 := lr_run hv
    have e2 := sp_run hv
    have hl : ds.length ≤ 20 := by have := h.len; rw [List.length_append] at this; omega
    have hd := named_len (g := ds) fun p hp => h.ok p (by simp [hp])
    by_cases c : n = "connection"
    · subst c
      have hz : ((named ds).map D.str).length + ((wds v).map D.str).length < 1000000 := by rw [List.length_map, List.length_map]; have := hv.wn; omega
      simp -implicitDefEqProofs only [nsAll, pcs, List.getElem?_cons_zero, List.getElem?_cons_succ, List.set_cons_zero, List.set_cons_succ, List.length_cons, List.length_nil, if_true, if_false, eq_self, Bool.false_eq_true, Bool.true_eq_false, Bool.not_true, Bool.not_false, decide_true, decide_false, and_self, and_true, true_and, List.cons_append, List.nil_append, Option.some.injEq, Nat.zero_lt_succ, Nat.succ_lt_succ_iff, Nat.lt_add_one, gt_iff_lt, ge_iff_le, Int.reduceLT, Int.reduceLE, Int.reduceAdd, Int.reduceSub, Int.reduceMul, Int.reduceNeg, Int.reduceEq, Int.reduceToNat, Nat.reduceAdd, Nat.reduceSub, Nat.reduceLT, Nat.reduceLeDiff, Nat.reduceEqDiff, reduceIte, String.reduceEq, Option.bind_some, ite_self, e1, e2, hz, Option.isSome_some]
      refine ⟨ds ++ [(("connection" : Str), v)], some (.sh (.str "connection")), some (.sh (.str v)), by simp, ?_⟩
      have : named (ds ++ [(("connection" : Str), v)]) = named ds ++ wds v := by rw [named_app, named, named, List.append_nil, one_c]
      rw [this, List.map_append (l₁ := named ds)]
    · simp -implicitDefEqProofs only [nsAll, pcs, List.getElem?_cons_zero, List.getElem?_cons_succ, List.set_cons_zero, List.set_cons_succ, List.length_cons, List.length_nil, if_true, if_false, eq_self, Bool.false_eq_true, Bool.true_eq_false, Bool.not_true, Bool.not_false, decide_true, decide_false, and_self, and_true, true_and, List.cons_append, List.nil_append, Option.some.injEq, Nat.zero_lt_succ, Nat.succ_lt_succ_iff, Nat.lt_add_one, gt_iff_lt, ge_iff_le, Int.reduceLT, Int.reduceLE, Int.reduceAdd, Int.reduceSub, Int.reduceMul, Int.reduceNeg, Int.reduceEq, Int.reduceToNat, Nat.reduceAdd, Nat.reduceSub, Nat.reduceLT, Nat.reduceLeDiff, Nat.reduceEqDiff, reduceIte, String.reduceEq, Option.bind_some, ite_self, c]
      refine ⟨ds ++ [(n, v)], some (.sh (.str n)), some (.sh (.str v)), by simp, ?_⟩
      have : named (ds ++ [(n, v)]) = named ds := by rw [named_app, named, named, List.append_nil, one_n c, List.append_nil]
      rw [this]
  · rintro _ ⟨ds, x2, x3, hd, rfl⟩
    rw [List.append_nil] at hd
    subst hd
    have hl := named_len (g := ds) h.ok
    have hg := h.len
    have hc : named_by_connection_c8 [some (.sh (.tup (ds.map pr))), some (.ol ((named ds).map D.str)), x2, x3] = .ok (.ol (((named ds).filter nh).map D.str)) [some (.sh (.tup (ds.map pr))), some (.sh (.lst ((named ds).map D.str))), none, x3] := by
      rw [named_by_connection_c8_]
      refine lc_filter D.str D.str nh (named ds) (ρ1 := [some (.sh (.tup (ds.map pr))), some (.sh (.lst ((named ds).map D.str))), x2, x3]) ?_ rfl (by omega) fun x _ => ?_
      · simp -implicitDefEqProofs only [nsAll, pcs, List.getElem?_cons_zero, List.getElem?_cons_succ, List.set_cons_zero, List.set_cons_succ, List.length_cons, List.length_nil, if_true, if_false, eq_self, Bool.false_eq_true, Bool.true_eq_false, Bool.not_true, Bool.not_false, decide_true, decide_false, and_self, and_true, true_and, List.cons_append, List.nil_append, Option.some.injEq, Nat.zero_lt_succ, Nat.succ_lt_succ_iff, Nat.lt_add_one, gt_iff_lt, ge_iff_le, Int.reduceLT, Int.reduceLE, Int.reduceAdd, Int.reduceSub, Int.reduceMul, Int.reduceNeg, Int.reduceEq, Int.reduceToNat, Nat.reduceAdd, Nat.reduceSub, Nat.reduceLT, Nat.reduceLeDiff, Nat.reduceEqDiff, reduceIte, String.reduceEq, Option.bind_some, ite_self]
      · by_cases c : x = "host"
        · simp -implicitDefEqProofs only [nsAll, pcs, List.getElem?_cons_zero, List.getElem?_cons_succ, List.set_cons_zero, List.set_cons_succ, List.length_cons, List.length_nil, if_true, if_false, eq_self, Bool.false_eq_true, Bool.true_eq_false, Bool.not_true, Bool.not_false, decide_true, decide_false, and_self, and_true, true_and, List.cons_append, List.nil_append, Option.some.injEq, Nat.zero_lt_succ, Nat.succ_lt_succ_iff, Nat.lt_add_one, gt_iff_lt, ge_iff_le, Int.reduceLT, Int.reduceLE, Int.reduceAdd, Int.reduceSub, Int.reduceMul, Int.reduceNeg, Int.reduceEq, Int.reduceToNat, Nat.reduceAdd, Nat.reduceSub, Nat.reduceLT, Nat.reduceLeDiff, Nat.reduceEqDiff, reduceIte, String.reduceEq, Option.bind_some, ite_self, c, nh]
        · simp -implicitDefEqProofs only [nsAll, pcs, List.getElem?_cons_zero, List.getElem?_cons_succ, List.set_cons_zero, List.set_cons_succ, List.length_cons, List.length_nil, if_true, if_false, eq_self, Bool.false_eq_true, Bool.true_eq_false, Bool.not_true, Bool.not_false, decide_true, decide_false, and_self, and_true, true_and, List.cons_append, List.nil_append, Option.some.injEq, Nat.zero_lt_succ, Nat.succ_lt_succ_iff, Nat.lt_add_one, gt_iff_lt, ge_iff_le, Int.reduceLT, Int.reduceLE, Int.reduceAdd, Int.reduceSub, Int.reduceMul, Int.reduceNeg, Int.reduceEq, Int.reduceToNat, Nat.reduceAdd, Nat.reduceSub, Nat.reduceLT, Nat.reduceLeDiff, Nat.reduceEqDiff, reduceIte, String.reduceEq, Option.bind_some, ite_self, c, nh]
    simp -implicitDefEqProofs only [nsAll, pcs, List.getElem?_cons_zero, List.getElem?_cons_succ, List.set_cons_zero, List.set_cons_succ, List.length_cons, List.length_nil, if_true, if_false, eq_self, Bool.false_eq_true, Bool.true_eq_false, Bool.not_true, Bool.not_false, decide_true, decide_false, and_self, and_true, true_and, List.cons_append, List.nil_append, Option.some.injEq, Nat.zero_lt_succ, Nat.succ_lt_succ_iff, Nat.lt_add_one, gt_iff_lt, ge_iff_le, Int.reduceLT, Int.reduceLE, Int.reduceAdd, Int.reduceSub, Int.reduceMul, Int.reduceNeg, Int.reduceEq, Int.reduceToNat, Nat.reduceAdd, Nat.reduceSub, Nat.reduceLT, Nat.reduceLeDiff, Nat.reduceEqDiff, reduceIte, String.reduceEq, Option.bind_some, ite_self, hc]
    exact hP
/-! ### shut names -/
section
variable {rs : List Rw} {g : List (Str × Str)} {sd : Str}
def shutP (rs : List Rw) (sd : Str) (g : List (Str × Str)) : List Str := ("connection" : Str) :: (named g).filter nh ++ (rs.filter (Rw.isH sd)).map Rw.nm
theorem shutP_len (hr : Rok rs) (hg : Gok g) : (shutP rs sd g).length ≤ 1300 := by
  have h1 := named_len hg.ok
  have h2 := hg.len
  have h3 := hr.len
  have h4 : ((named g).filter nh).length ≤ (named g).length := List.length_filter_le ..
  have h5 : (rs.filter (Rw.isH sd)).length ≤ rs.length := List.length_filter_le ..
  unfold shutP
  rw [List.length_append, List.length_cons, List.length_map]
  omega
theorem shut_run (hr : Rok rs) (hg : Gok g) : f_shut_names [.sh (.tup (rs.map enc)), .sh (.str sd), .sh (.tup (g.map pr))] = some (.sh (.lst ((shutP rs sd g).map D.str)), [.sh (.tup (rs.map enc)), .sh (.str sd), .sh (.tup (g.map pr))]) := by
  refine eq_of fun P hP => ?_
  have hc : shut_names_c3 [some (.sh (.tup (rs.map enc))), some (.sh (.str sd)), some (.sh (.tup (g.map pr))), none, none] = .ok (.ol ((rs.filter (Rw.isH sd)).map fun r => D.str r.nm)) [some (.sh (.tup (rs.map enc))), some (.sh (.str sd)), some (.sh (.tup (g.map pr))), none, none] := by
    rw [shut_names_c3_]
    refine lc_filter enc (fun r => D.str r.nm) (Rw.isH sd) rs (ρ1 := [some (.sh (.tup (rs.map enc))), some (.sh (.str sd)), some (.sh (.tup (g.map pr))), none, none]) ?_ rfl (by have := hr.len; omega) fun r _ => ?_
    · simp -implicitDefEqProofs only [nsAll, pcs, List.getElem?_cons_zero, List.getElem?_cons_succ, List.set_cons_zero, List.set_cons_succ, List.length_cons, List.length_nil, if_true, if_false, eq_self, Bool.false_eq_true, Bool.true_eq_false, Bool.not_true, Bool.not_false, decide_true, decide_false, and_self, and_true, true_and, List.cons_append, List.nil_append, Option.some.injEq, Nat.zero_lt_succ, Nat.succ_lt_succ_iff, Nat.lt_add_one, gt_iff_lt, ge_iff_le, Int.reduceLT, Int.reduceLE, Int.reduceAdd, Int.reduceSub, Int.reduceMul, Int.reduceNeg, Int.reduceEq, Int.reduceToNat, Nat.reduceAdd, Nat.reduceSub, Nat.reduceLT, Nat.reduceLeDiff, Nat.reduceEqDiff, reduceIte, String.reduceEq, Option.bind_some, ite_self]
    · cases r with
      | hide s n => by_cases c : s = sd <;> simp -implicitDefEqProofs only [nsAll, pcs, List.getElem?_cons_zero, List.getElem?_cons_succ, List.set_cons_zero, List.set_cons_succ, List.length_cons, List.length_nil, if_true, if_false, eq_self, Bool.false_eq_true, Bool.true_eq_false, Bool.not_true, Bool.not_false, decide_true, decide_false, and_self, and_true, true_and, List.cons_append, List.nil_append, Option.some.injEq, Nat.zero_lt_succ, Nat.succ_lt_succ_iff, Nat.lt_add_one, gt_iff_lt, ge_iff_le, Int.reduceLT, Int.reduceLE, Int.reduceAdd, Int.reduceSub, Int.reduceMul, Int.reduceNeg, Int.reduceEq, Int.reduceToNat, Nat.reduceAdd, Nat.reduceSub, Nat.reduceLT, Nat.reduceLeDiff, Nat.reduceEqDiff, reduceIte, String.reduceEq, Option.bind_some, ite_self, enc, Rw.isH, Rw.nm, c]
      | set s n v => by_cases c : s = sd <;> simp -implicitDefEqProofs only [nsAll, pcs, List.getElem?_cons_zero, List.getElem?_cons_succ, List.set_cons_zero, List.set_cons_succ, List.length_cons, List.length_nil, if_true, if_false, eq_self, Bool.false_eq_true, Bool.true_eq_false, Bool.not_true, Bool.not_false, decide_true, decide_false, and_self, and_true, true_and, List.cons_append, List.nil_append, Option.some.injEq, Nat.zero_lt_succ, Nat.succ_lt_succ_iff, Nat.lt_add_one, gt_iff_lt, ge_iff_le, Int.reduceLT, Int.reduceLE, Int.reduceAdd, Int.reduceSub, Int.reduceMul, Int.reduceNeg, Int.reduceEq, Int.reduceToNat, Nat.reduceAdd, Nat.reduceSub, Nat.reduceLT, Nat.reduceLeDiff, Nat.reduceEqDiff, reduceIte, String.reduceEq, Option.bind_some, ite_self, enc, Rw.isH, Rw.nm, c]
      | frm n => simp -implicitDefEqProofs only [nsAll, pcs, List.getElem?_cons_zero, List.getElem?_cons_succ, List.set_cons_zero, List.set_cons_succ, List.length_cons, List.length_nil, if_true, if_false, eq_self, Bool.false_eq_true, Bool.true_eq_false, Bool.not_true, Bool.not_false, decide_true, decide_false, and_self, and_true, true_and, List.cons_append, List.nil_append, Option.some.injEq, Nat.zero_lt_succ, Nat.succ_lt_succ_iff, Nat.lt_add_one, gt_iff_lt, ge_iff_le, Int.reduceLT, Int.reduceLE, Int.reduceAdd, Int.reduceSub, Int.reduceMul, Int.reduceNeg, Int.reduceEq, Int.reduceToNat, Nat.reduceAdd, Nat.reduceSub, Nat.reduceLT, Nat.reduceLeDiff, Nat.reduceEqDiff, reduceIte, String.reduceEq, Option.bind_some, ite_self, enc, Rw.isH, Rw.nm]
  have em : ((rs.filter (Rw.isH sd)).map fun r => D.str r.nm) = ((rs.filter (Rw.isH sd)).map Rw.nm).map D.str := by rw [List.map_map]; rfl
  rw [em] at hc
  have en := named_run hg
  have h1 := named_len hg.ok
  have h2 := hg.len
  have h3 := hr.len
  have h4 : ((named g).filter nh).length ≤ (named g).length := List.length_filter_le ..
  have h5 : (rs.filter (Rw.isH sd)).length ≤ rs.length := List.length_filter_le ..
  have a1 : fAdd (.lst [.str "connection"]) (.lst (((named g).filter nh).map D.str)) = some (.lst (.str "connection" :: ((named g).filter nh).map D.str)) := by
    rw [add_ll (by rw [List.length_map, List.length_cons, List.length_nil]; omega)]; rfl
  have a2 : fAdd (.lst (.str "connection" :: ((named g).filter nh).map D.str)) (.lst (((rs.filter (Rw.isH sd)).map Rw.nm).map D.str)) = some (.lst ((shutP rs sd g).map D.str)) := by
    rw [add_ll (by rw [List.length_cons, List.length_map, List.length_map, List.length_map]; omega)]
    unfold shutP
    rw [List.map_append, List.map_cons]
  rw [f_shut_names_]
  simp -implicitDefEqProofs only [nsAll, pcs, List.getElem?_cons_zero, List.getElem?_cons_succ, List.set_cons_zero, List.set_cons_succ, List.length_cons, List.length_nil, if_true, if_false, eq_self, Bool.false_eq_true, Bool.true_eq_false, Bool.not_true, Bool.not_false, decide_true, decide_false, and_self, and_true, true_and, List.cons_append, List.nil_append, Option.some.injEq, Nat.zero_lt_succ, Nat.succ_lt_succ_iff, Nat.lt_add_one, gt_iff_lt, ge_iff_le, Int.reduceLT, Int.reduceLE, Int.reduceAdd, Int.reduceSub, Int.reduceMul, Int.reduceNeg, Int.reduceEq, Int.reduceToNat, Nat.reduceAdd, Nat.reduceSub, Nat.reduceLT, Nat.reduceLeDiff, Nat.reduceEqDiff, reduceIte, String.reduceEq, Option.bind_some, ite_self, hc, en, a1, a2]
  exact hP
/-! ### set headers -/
theorem set_run (hr : Rok rs) : f_set_headers [.sh (.tup (rs.map enc)), .sh (.str sd)] = some (.ol ((rs.filter (Rw.isS sd)).map fun r => pr r.nv), [.sh (.tup (rs.map enc)), .sh (.str sd)]) := by
  refine eq_of fun P hP => ?_
  have hc : set_headers_c3 [some (.sh (.tup (rs.map enc))), some (.sh (.str sd)), none] = .ok (.ol ((rs.filter (Rw.isS sd)).map fun r => pr r.nv)) [some (.sh (.tup (rs.map enc))), some (.sh (.str sd)), none] := by
    rw [set_headers_c3_]
    refine lc_filter enc (fun r => pr r.nv) (Rw.isS sd) rs (ρ1 := [some (.sh (.tup (rs.map enc))), some (.sh (.str sd)), none]) ?_ rfl (by have := hr.len; omega) fun r _ => ?_
    · simp -implicitDefEqProofs only [nsAll, pcs, List.getElem?_cons_zero, List.getElem?_cons_succ, List.set_cons_zero, List.set_cons_succ, List.length_cons, List.length_nil, if_true, if_false, eq_self, Bool.false_eq_true, Bool.true_eq_false, Bool.not_true, Bool.not_false, decide_true, decide_false, and_self, and_true, true_and, List.cons_append, List.nil_append, Option.some.injEq, Nat.zero_lt_succ, Nat.succ_lt_succ_iff, Nat.lt_add_one, gt_iff_lt, ge_iff_le, Int.reduceLT, Int.reduceLE, Int.reduceAdd, Int.reduceSub, Int.reduceMul, Int.reduceNeg, Int.reduceEq, Int.reduceToNat, Nat.reduceAdd, Nat.reduceSub, Nat.reduceLT, Nat.reduceLeDiff, Nat.reduceEqDiff, reduceIte, String.reduceEq, Option.bind_some, ite_self]
    · cases r with
      | hide s n => simp -implicitDefEqProofs only [nsAll, pcs, List.getElem?_cons_zero, List.getElem?_cons_succ, List.set_cons_zero, List.set_cons_succ, List.length_cons, List.length_nil, if_true, if_false, eq_self, Bool.false_eq_true, Bool.true_eq_false, Bool.not_true, Bool.not_false, decide_true, decide_false, and_self, and_true, true_and, List.cons_append, List.nil_append, Option.some.injEq, Nat.zero_lt_succ, Nat.succ_lt_succ_iff, Nat.lt_add_one, gt_iff_lt, ge_iff_le, Int.reduceLT, Int.reduceLE, Int.reduceAdd, Int.reduceSub, Int.reduceMul, Int.reduceNeg, Int.reduceEq, Int.reduceToNat, Nat.reduceAdd, Nat.reduceSub, Nat.reduceLT, Nat.reduceLeDiff, Nat.reduceEqDiff, reduceIte, String.reduceEq, Option.bind_some, ite_self, enc, Rw.isS, Rw.nv]
      | set s n v => by_cases c : s = sd <;> simp -implicitDefEqProofs only [nsAll, pcs, List.getElem?_cons_zero, List.getElem?_cons_succ, List.set_cons_zero, List.set_cons_succ, List.length_cons, List.length_nil, if_true, if_false, eq_self, Bool.false_eq_true, Bool.true_eq_false, Bool.not_true, Bool.not_false, decide_true, decide_false, and_self, and_true, true_and, List.cons_append, List.nil_append, Option.some.injEq, Nat.zero_lt_succ, Nat.succ_lt_succ_iff, Nat.lt_add_one, gt_iff_lt, ge_iff_le, Int.reduceLT, Int.reduceLE, Int.reduceAdd, Int.reduceSub, Int.reduceMul, Int.reduceNeg, Int.reduceEq, Int.reduceToNat, Nat.reduceAdd, Nat.reduceSub, Nat.reduceLT, Nat.reduceLeDiff, Nat.reduceEqDiff, reduceIte, String.reduceEq, Option.bind_some, ite_self, enc, Rw.isS, Rw.nv, c]
      | frm n => simp -implicitDefEqProofs only [nsAll, pcs, List.getElem?_cons_zero, List.getElem?_cons_succ, List.set_cons_zero, List.set_cons_succ, List.length_cons, List.length_nil, if_true, if_false, eq_self, Bool.false_eq_true, Bool.true_eq_false, Bool.not_true, Bool.not_false, decide_true, decide_false, and_self, and_true, true_and, List.cons_append, List.nil_append, Option.some.injEq, Nat.zero_lt_succ, Nat.succ_lt_succ_iff, Nat.lt_add_one, gt_iff_lt, ge_iff_le, Int.reduceLT, Int.reduceLE, Int.reduceAdd, Int.reduceSub, Int.reduceMul, Int.reduceNeg, Int.reduceEq, Int.reduceToNat, Nat.reduceAdd, Nat.reduceSub, Nat.reduceLT, Nat.reduceLeDiff, Nat.reduceEqDiff, reduceIte, String.reduceEq, Option.bind_some, ite_self, enc, Rw.isS, Rw.nv]
  rw [f_set_headers_]
  simp -implicitDefEqProofs only [nsAll, pcs, List.getElem?_cons_zero, List.getElem?_cons_succ, List.set_cons_zero, List.set_cons_succ, List.length_cons, List.length_nil, if_true, if_false, eq_self, Bool.false_eq_true, Bool.true_eq_false, Bool.not_true, Bool.not_false, decide_true, decide_false, and_self, and_true, true_and, List.cons_append, List.nil_append, Option.some.injEq, Nat.zero_lt_succ, Nat.succ_lt_succ_iff, Nat.lt_add_one, gt_iff_lt, ge_iff_le, Int.reduceLT, Int.reduceLE, Int.reduceAdd, Int.reduceSub, Int.reduceMul, Int.reduceNeg, Int.reduceEq, Int.reduceToNat, Nat.reduceAdd, Nat.reduceSub, Nat.reduceLT, Nat.reduceLeDiff, Nat.reduceEqDiff, reduceIte, String.reduceEq, Option.bind_some, ite_self, hc]
  exact hP
end
end K49

set_option Elab.async false
set_option linter.all false
set_option maxRecDepth 100000
set_option maxHeartbeats 4000000
namespace K49
open PySem PySem.Spec PyProof.Rows L2 DL
/-! ### addresses as texts -/
def tk (i : Int) : Str := Str.ofString (toString i)
theorem tk_len0 : ∀ i : Nat, i < 300 → (tk (i : Int)).length ≤ 3 ∧ Tx (tk (i : Int)) := by decide +kernel
theorem tk_len {i : Int} (h0 : 0 ≤ i) (h1 : i < 300) : (tk i).length ≤ 3 := by
  have := (tk_len0 i.toNat (by omega)).1
  rwa [show ((i.toNat : Nat) : Int) = i by omega] at this
theorem tk_run {i : Int} (h0 : 0 ≤ i) (h1 : i < 300) : fStr [.int i] = some (.str (tk i)) := if_pos (by
  have : i.natAbs < 300 := by omega
  exact Nat.lt_trans this (by decide +kernel))
def words (a : Int) : List Str := [tk (a / 16777216), tk (a / 65536 % 256), tk (a / 256 % 256), tk (a % 256)]
def txt (a : Int) : Str := Txt.join "." (words a)
theorem join_run {a : Int} (h0 : 0 ≤ a) (h1 : a < 4294967296) : fJoin (.str ".") [.lst [.str (tk (a / 16777216)), .str (tk (a / 65536 % 256)), .str (tk (a / 256 % 256)), .str (tk (a % 256))]] = some (.str (txt a)) := by
  have l1 := tk_len (i := a / 16777216) (by omega) (by omega)
  have l2 := tk_len (i := a / 65536 % 256) (by omega) (by omega)
  have l3 := tk_len (i := a / 256 % 256) (by omega) (by omega)
  have l4 := tk_len (i := a % 256) (by omega) (by omega)
  have e : strsD [.str (tk (a / 16777216)), .str (tk (a / 65536 % 256)), .str (tk (a / 256 % 256)), .str (tk (a % 256))] = some (words a) := rfl
  unfold fJoin
  dsimp only
  rw [e]
  dsimp only
  refine if_pos ?_
  have hd : (Str.ofString ".").length = 1 := by decide +kernel
  unfold words
  simp only [List.map_cons, List.map_nil, List.sum_cons, List.sum_nil, List.length_cons, List.length_nil, hd]
  omega
theorem show_run {a : Int} (h0 : 0 ≤ a) (h1 : a < 4294967296) : f_show_address [.sh (.int a)] = some (.sh (.str (txt a)), [.sh (.int a)]) := by
  refine eq_of fun P hP => ?_
  have t1 := tk_run (i := a / 16777216 % 256) (by omega) (by omega)
  have q1 : a / 16777216 % 256 = a / 16777216 := by omega
  have t2 := tk_run (i := a / 65536 % 256) (by omega) (by omega)
  have t3 := tk_run (i := a / 256 % 256) (by omega) (by omega)
  have t4 := tk_run (i := a / 1 % 256) (by omega) (by omega)
  have q4 : a / 1 % 256 = a % 256 := by omega
  rw [q1] at t1
  rw [q4] at t4
  have j := join_run h0 h1
  have p24 : fPow (.int 2) (.int 24) = some (.int 16777216) := by
    rw [pow_ii ⟨by decide, by decide, by decide⟩]
    rfl
  rw [f_show_address_]
  simp -implicitDefEqProofs only [nsAll, pcs, List.getElem?_cons_zero, List.getElem?_cons_succ, List.set_cons_zero, List.set_cons_succ, List.length_cons, List.length_nil, if_true, if_false, eq_self, Bool.false_eq_true, Bool.true_eq_false, Bool.not_true, Bool.not_false, decide_true, decide_false, and_self, and_true, true_and, List.cons_append, List.nil_append, Option.some.injEq, Nat.zero_lt_succ, Nat.succ_lt_succ_iff, Nat.lt_add_one, gt_iff_lt, ge_iff_le, Int.reduceLT, Int.reduceLE, Int.reduceAdd, Int.reduceSub, Int.reduceMul, Int.reduceNeg, Int.reduceEq, Int.reduceToNat, Nat.reduceAdd, Nat.reduceSub, Nat.reduceLT, Nat.reduceLeDiff, Nat.reduceEqDiff, reduceIte, String.reduceEq, Option.bind_some, ite_self, p24, q1, q4, t1, t2, t3, t4, j, show_address_c2_]
  exact hP
theorem dot_run {a : Int} (h0 : 0 ≤ a) (h1 : a < 4294967296) : f_law_dotted [.sh (.int a)] = some (.sh (.str (txt a)), [.sh (.int a)]) := by
  refine eq_of fun P hP => ?_
  have t1 := tk_run (i := a / 16777216 % 256) (by omega) (by omega)
  have q1 : a / 16777216 % 256 = a / 16777216 := by omega
  have t2 := tk_run (i := a / 65536 % 256) (by omega) (by omega)
  have t3 := tk_run (i := a / 256 % 256) (by omega) (by omega)
  have t4 := tk_run (i := a / 1 % 256) (by omega) (by omega)
  have q4 : a / 1 % 256 = a % 256 := by omega
  rw [q1] at t1
  rw [q4] at t4
  have j := join_run h0 h1
  rw [f_law_dotted_]
  simp -implicitDefEqProofs only [nsAll, pcs, List.getElem?_cons_zero, List.getElem?_cons_succ, List.set_cons_zero, List.set_cons_succ, List.length_cons, List.length_nil, if_true, if_false, eq_self, Bool.false_eq_true, Bool.true_eq_false, Bool.not_true, Bool.not_false, decide_true, decide_false, and_self, and_true, true_and, List.cons_append, List.nil_append, Option.some.injEq, Nat.zero_lt_succ, Nat.succ_lt_succ_iff, Nat.lt_add_one, gt_iff_lt, ge_iff_le, Int.reduceLT, Int.reduceLE, Int.reduceAdd, Int.reduceSub, Int.reduceMul, Int.reduceNeg, Int.reduceEq, Int.reduceToNat, Nat.reduceAdd, Nat.reduceSub, Nat.reduceLT, Nat.reduceLeDiff, Nat.reduceEqDiff, reduceIte, String.reduceEq, Option.bind_some, ite_self, q1, q4, t1, t2, t3, t4, j, law_dotted_c2_]
  exact hP
/-! ### clients -/
structure Cl (c : Int) : Prop where
  lo : 0 ≤ c
  hi : c < 4294967296
  len : (txt c).length ≤ 20
  tx : Tx (txt c)
def clients : List Int := [16909059, 16909060, 16909070, 16909071, 134744071, 134744072, 134744073, 3758096383]
theorem clients_ok : ∀ c ∈ clients, Cl c := by
  have h : (clients.all fun c => decide (0 ≤ c) && decide (c < 4294967296) && decide ((txt c).length ≤ 20) && (PyData.str (txt c)).canLay0) = true := by decide +kernel
  intro c hc
  have := List.all_eq_true.mp h c hc
  simp only [Bool.and_eq_true, decide_eq_true_eq] at this
  exact ⟨this.1.1.1, this.1.1.2, this.1.2, this.2⟩
abbrev enT (p : Int × Int) : D := .tup [.int p.1, .int p.2]
def trust (tr : List (Int × Int)) (c : Int) : Bool := tr.any fun p => decide (p.1 ≤ c) && decide (c ≤ p.2)
theorem trust_run (tr : List (Int × Int)) (c : Int) (hl : tr.length ≤ 20) : f_is_trusted [.sh (.tup (tr.map enT)), .sh (.int c)] = some (.sh (.bl (trust tr c)), [.sh (.tup (tr.map enT)), .sh (.int c)]) := by
  refine eq_of fun P hP => ?_
  have hc : is_trusted_c2 [some (.sh (.tup (tr.map enT))), some (.sh (.int c)), none, none] = .ok (.ol (tr.map fun p => .bl (decide (p.1 ≤ c) && decide (c ≤ p.2)))) [some (.sh (.tup (tr.map enT))), some (.sh (.int c)), none, none] := by
    rw [is_trusted_c2_]
    refine lc_map enT (fun p => .bl (decide (p.1 ≤ c) && decide (c ≤ p.2))) tr (ρ1 := [some (.sh (.tup (tr.map enT))), some (.sh (.int c)), none, none]) ?_ rfl (by omega) fun p _ => ?_
    · simp -implicitDefEqProofs only [nsAll, pcs, List.getElem?_cons_zero, List.getElem?_cons_succ, List.set_cons_zero, List.set_cons_succ, List.length_cons, List.length_nil, if_true, if_false, eq_self, Bool.false_eq_true, Bool.true_eq_false, Bool.not_true, Bool.not_false, decide_true, decide_false, and_self, and_true, true_and, List.cons_append, List.nil_append, Option.some.injEq, Nat.zero_lt_succ, Nat.succ_lt_succ_iff, Nat.lt_add_one, gt_iff_lt, ge_iff_le, Int.reduceLT, Int.reduceLE, Int.reduceAdd, Int.reduceSub, Int.reduceMul, Int.reduceNeg, Int.reduceEq, Int.reduceToNat, Nat.reduceAdd, Nat.reduceSub, Nat.reduceLT, Nat.reduceLeDiff, Nat.reduceEqDiff, reduceIte, String.reduceEq, Option.bind_some, ite_self]
    · by_cases c1 : p.1 ≤ c
      · by_cases c2 : c ≤ p.2 <;> simp -implicitDefEqProofs only [nsAll, pcs, List.getElem?_cons_zero, List.getElem?_cons_succ, List.set_cons_zero, List.set_cons_succ, List.length_cons, List.length_nil, if_true, if_false, eq_self, Bool.false_eq_true, Bool.true_eq_false, Bool.not_true, Bool.not_false, decide_true, decide_false, and_self, and_true, true_and, List.cons_append, List.nil_append, Option.some.injEq, Nat.zero_lt_succ, Nat.succ_lt_succ_iff, Nat.lt_add_one, gt_iff_lt, ge_iff_le, Int.reduceLT, Int.reduceLE, Int.reduceAdd, Int.reduceSub, Int.reduceMul, Int.reduceNeg, Int.reduceEq, Int.reduceToNat, Nat.reduceAdd, Nat.reduceSub, Nat.reduceLT, Nat.reduceLeDiff, Nat.reduceEqDiff, reduceIte, String.reduceEq, Option.bind_some, ite_self, c1, c2, Bool.true_and, Bool.and_true, Bool.and_false]
      · simp -implicitDefEqProofs only [nsAll, pcs, List.getElem?_cons_zero, List.getElem?_cons_succ, List.set_cons_zero, List.set_cons_succ, List.length_cons, List.length_nil, if_true, if_false, eq_self, Bool.false_eq_true, Bool.true_eq_false, Bool.not_true, Bool.not_false, decide_true, decide_false, and_self, and_true, true_and, List.cons_append, List.nil_append, Option.some.injEq, Nat.zero_lt_succ, Nat.succ_lt_succ_iff, Nat.lt_add_one, gt_iff_lt, ge_iff_le, Int.reduceLT, Int.reduceLE, Int.reduceAdd, Int.reduceSub, Int.reduceMul, Int.reduceNeg, Int.reduceEq, Int.reduceToNat, Nat.reduceAdd, Nat.reduceSub, Nat.reduceLT, Nat.reduceLeDiff, Nat.reduceEqDiff, reduceIte, String.reduceEq, Option.bind_some, ite_self, c1, Bool.false_and]
  have ha := any_map (fun p : Int × Int => decide (p.1 ≤ c) && decide (c ≤ p.2)) tr
  rw [f_is_trusted_]
  simp -implicitDefEqProofs only [nsAll, pcs, List.getElem?_cons_zero, List.getElem?_cons_succ, List.set_cons_zero, List.set_cons_succ, List.length_cons, List.length_nil, if_true, if_false, eq_self, Bool.false_eq_true, Bool.true_eq_false, Bool.not_true, Bool.not_false, decide_true, decide_false, and_self, and_true, true_and, List.cons_append, List.nil_append, Option.some.injEq, Nat.zero_lt_succ, Nat.succ_lt_succ_iff, Nat.lt_add_one, gt_iff_lt, ge_iff_le, Int.reduceLT, Int.reduceLE, Int.reduceAdd, Int.reduceSub, Int.reduceMul, Int.reduceNeg, Int.reduceEq, Int.reduceToNat, Nat.reduceAdd, Nat.reduceSub, Nat.reduceLT, Nat.reduceLeDiff, Nat.reduceEqDiff, reduceIte, String.reduceEq, Option.bind_some, ite_self, hc, ha]
  exact hP
/-! ### the value of a teller -/
section
variable {g : List (Str × Str)} {tr : List (Int × Int)} {c : Int}
def fv (g : List (Str × Str)) (tr : List (Int × Int)) (c : Int) (n : Str) : Str := match g.filter fun p => decide (p.1 = n) with
  | [] => txt c
  | p :: _ => if trust tr c = true then p.2 ++ ", " ++ txt c else txt c
theorem comma_len : (Str.ofString ", ").length = 2 := by decide +kernel
theorem comma_tx : Tx (Str.ofString ", ") := by decide +kernel
theorem cut1 {a : D} {ds : List D} : cutD (a :: ds) none (some 1) = [a] := cut_nat (a :: ds) 1
theorem cut10 : cutD [] none (some 1) = [] := cut_nat [] 1
theorem fv_tx (hg : Gok g) (hc : Cl c) (n : Str) : Tx (fv g tr c n) := by
  unfold fv
  cases hf : g.filter fun p => decide (p.1 = n) with
  | nil => exact hc.tx
  | cons p t =>
    have hp : p ∈ g := (List.mem_filter.mp (by rw [hf]; exact List.mem_cons_self .. : p ∈ g.filter fun p => decide (p.1 = n))).1
    dsimp only
    split
    · exact tx_app (tx_app (hg.ok p hp).2.tx comma_tx) hc.tx
    · exact hc.tx
theorem from_run (hg : Gok g) (hc : Cl c) (ht : tr.length ≤ 20) (n : Str) : f_from_value [.sh (.str n), .sh (.tup (tr.map enT)), .sh (.int c), .sh (.tup (g.map pr))] = some (.sh (.str (fv g tr c n)), [.sh (.str n), .sh (.tup (tr.map enT)), .sh (.int c), .sh (.tup (g.map pr))]) := by
  refine eq_of fun P hP => ?_
  have e1 := show_run hc.lo hc.hi
  have e2 := trust_run tr c ht
  have hcc : from_value_c3 [some (.sh (.str n)), some (.sh (.tup (tr.map enT))), some (.sh (.int c)), some (.sh (.tup (g.map pr))), none, none, none, none] = .ok (.ol ((g.filter fun p => decide (p.1 = n)).map fun p => D.str p.2)) [some (.sh (.str n)), some (.sh (.tup (tr.map enT))), some (.sh (.int c)), some (.sh (.tup (g.map pr))), none, none, none, none] := by
    rw [from_value_c3_]
    refine lc_filter pr (fun p => D.str p.2) (fun p => decide (p.1 = n)) g (ρ1 := [some (.sh (.str n)), some (.sh (.tup (tr.map enT))), some (.sh (.int c)), some (.sh (.tup (g.map pr))), none, none, none, none]) ?_ rfl (by have := hg.len; omega) fun p _ => ?_
    · simp -implicitDefEqProofs only [nsAll, pcs, List.getElem?_cons_zero, List.getElem?_cons_succ, List.set_cons_zero, List.set_cons_succ, List.length_cons, List.length_nil, if_true, if_false, eq_self, Bool.false_eq_true, Bool.true_eq_false, Bool.not_true, Bool.not_false, decide_true, decide_false, and_self, and_true, true_and, List.cons_append, List.nil_append, Option.some.injEq, Nat.zero_lt_succ, Nat.succ_lt_succ_iff, Nat.lt_add_one, gt_iff_lt, ge_iff_le, Int.reduceLT, Int.reduceLE, Int.reduceAdd, Int.reduceSub, Int.reduceMul, Int.reduceNeg, Int.reduceEq, Int.reduceToNat, Nat.reduceAdd, Nat.reduceSub, Nat.reduceLT, Nat.reduceLeDiff, Nat.reduceEqDiff, reduceIte, String.reduceEq, Option.bind_some, ite_self]
    · by_cases d : p.1 = n <;> simp -implicitDefEqProofs only [nsAll, pcs, List.getElem?_cons_zero, List.getElem?_cons_succ, List.set_cons_zero, List.set_cons_succ, List.length_cons, List.length_nil, if_true, if_false, eq_self, Bool.false_eq_true, Bool.true_eq_false, Bool.not_true, Bool.not_false, decide_true, decide_false, and_self, and_true, true_and, List.cons_append, List.nil_append, Option.some.injEq, Nat.zero_lt_succ, Nat.succ_lt_succ_iff, Nat.lt_add_one, gt_iff_lt, ge_iff_le, Int.reduceLT, Int.reduceLE, Int.reduceAdd, Int.reduceSub, Int.reduceMul, Int.reduceNeg, Int.reduceEq, Int.reduceToNat, Nat.reduceAdd, Nat.reduceSub, Nat.reduceLT, Nat.reduceLeDiff, Nat.reduceEqDiff, reduceIte, String.reduceEq, Option.bind_some, ite_self, d]
  rw [f_from_value_]
  unfold fv at hP
  cases hf : g.filter fun p => decide (p.1 = n) with
  | nil =>
    rw [hf] at hcc hP
    simp -implicitDefEqProofs only [nsAll, pcs, List.getElem?_cons_zero, List.getElem?_cons_succ, List.set_cons_zero, List.set_cons_succ, List.length_cons, List.length_nil, if_true, if_false, eq_self, Bool.false_eq_true, Bool.true_eq_false, Bool.not_true, Bool.not_false, decide_true, decide_false, and_self, and_true, true_and, List.cons_append, List.nil_append, Option.some.injEq, Nat.zero_lt_succ, Nat.succ_lt_succ_iff, Nat.lt_add_one, gt_iff_lt, ge_iff_le, Int.reduceLT, Int.reduceLE, Int.reduceAdd, Int.reduceSub, Int.reduceMul, Int.reduceNeg, Int.reduceEq, Int.reduceToNat, Nat.reduceAdd, Nat.reduceSub, Nat.reduceLT, Nat.reduceLeDiff, Nat.reduceEqDiff, reduceIte, String.reduceEq, Option.bind_some, ite_self, hcc, e1, e2, cut10, deq_l0]
    exact hP
  | cons p t =>
    have hp : p ∈ g := (List.mem_filter.mp (by rw [hf]; exact List.mem_cons_self .. : p ∈ g.filter fun p => decide (p.1 = n))).1
    have hv := (hg.ok p hp).2
    have hl := hv.len
    have hl2 := hc.len
    have dl := deq_l1 hv.tx
    have a1 : fAdd (.str p.2) (.str ", ") = some (.str (p.2 ++ ", ")) := add_ss (by rw [comma_len]; omega)
    have a2 : fAdd (.str (p.2 ++ ", ")) (.str (txt c)) = some (.str (p.2 ++ ", " ++ txt c)) := add_ss (by rw [len_app, comma_len]; omega)
    rw [hf, List.map_cons] at hcc
    rw [hf] at hP
    dsimp only at hP
    by_cases d : trust tr c = true
    · rw [if_pos d] at hP
      simp -implicitDefEqProofs only [nsAll, pcs, List.getElem?_cons_zero, List.getElem?_cons_succ, List.set_cons_zero, List.set_cons_succ, List.length_cons, List.length_nil, if_true, if_false, eq_self, Bool.false_eq_true, Bool.true_eq_false, Bool.not_true, Bool.not_false, decide_true, decide_false, and_self, and_true, true_and, List.cons_append, List.nil_append, Option.some.injEq, Nat.zero_lt_succ, Nat.succ_lt_succ_iff, Nat.lt_add_one, gt_iff_lt, ge_iff_le, Int.reduceLT, Int.reduceLE, Int.reduceAdd, Int.reduceSub, Int.reduceMul, Int.reduceNeg, Int.reduceEq, Int.reduceToNat, Nat.reduceAdd, Nat.reduceSub, Nat.reduceLT, Nat.reduceLeDiff, Nat.reduceEqDiff, reduceIte, String.reduceEq, Option.bind_some, ite_self, hcc, e1, e2, cut1, dl, d, a1, a2]
      exact hP
    · rw [if_neg d] at hP
      rw [Bool.not_eq_true] at d
      simp -implicitDefEqProofs only [nsAll, pcs, List.getElem?_cons_zero, List.getElem?_cons_succ, List.set_cons_zero, List.set_cons_succ, List.length_cons, List.length_nil, if_true, if_false, eq_self, Bool.false_eq_true, Bool.true_eq_false, Bool.not_true, Bool.not_false, decide_true, decide_false, and_self, and_true, true_and, List.cons_append, List.nil_append, Option.some.injEq, Nat.zero_lt_succ, Nat.succ_lt_succ_iff, Nat.lt_add_one, gt_iff_lt, ge_iff_le, Int.reduceLT, Int.reduceLE, Int.reduceAdd, Int.reduceSub, Int.reduceMul, Int.reduceNeg, Int.reduceEq, Int.reduceToNat, Nat.reduceAdd, Nat.reduceSub, Nat.reduceLT, Nat.reduceLeDiff, Nat.reduceEqDiff, reduceIte, String.reduceEq, Option.bind_some, ite_self, hcc, e1, e2, cut1, dl, d]
      exact hP
end
end K49

set_option Elab.async false
set_option linter.all false
set_option maxRecDepth 100000
set_option maxHeartbeats 4000000
namespace K49
open PySem PySem.Spec PyProof.Rows L2 DL
/-! ### what the law shuts -/
def oneL (p : Str × Str) : List Str := if p.1 = ("connection" : Str) then (wds p.2).filter nh else []
def namedL : List (Str × Str) → List Str
  | [] => []
  | p :: g => oneL p ++ namedL g
theorem namedL_eq (g : List (Str × Str)) : namedL g = (named g).filter nh := by
  induction g with
  | nil => rfl
  | cons p g ih =>
    rw [namedL, named, List.filter_append, ih]
    unfold oneL one
    split
    · rfl
    · rfl
theorem namedL_app (a b : List (Str × Str)) : namedL (a ++ b) = namedL a ++ namedL b := by rw [namedL_eq, namedL_eq, namedL_eq, named_app, List.filter_append]
theorem oneL_c (v : Str) : oneL (("connection" : Str), v) = (wds v).filter nh := if_pos rfl
theorem oneL_n {n v : Str} (h : ¬ n = ("connection" : Str)) : oneL (n, v) = [] := if_neg h
def rowL (sd : Str) : Rw → List Str
  | .hide s n => if s = sd then [n] else []
  | .set s n _ => if s = sd then [n] else []
  | .frm n => if sd = ("request" : Str) then [n] else []
def rowsL (sd : Str) : List Rw → List Str
  | [] => []
  | r :: rs => rowL sd r ++ rowsL sd rs
theorem rowsL_app (sd : Str) (a b : List Rw) : rowsL sd (a ++ b) = rowsL sd a ++ rowsL sd b := by
  induction a with
  | nil => rfl
  | cons p a ih => rw [List.cons_append, rowsL, ih, rowsL, List.append_assoc]
theorem rowsL_one (sd : Str) (r : Rw) : rowsL sd [r] = rowL sd r := by rw [rowsL, rowsL, List.append_nil]
theorem rowsL_len (sd : Str) (rs : List Rw) : (rowsL sd rs).length ≤ rs.length := by
  induction rs with
  | nil => exact Nat.le_refl _
  | cons r rs ih =>
    rw [rowsL, List.length_append, List.length_cons]
    have : (rowL sd r).length ≤ 1 := by
      unfold rowL
      cases r <;> (dsimp only; split <;> simp)
    omega
theorem mem_rowsL (sd : Str) (rs : List Rw) (x : Str) : x ∈ rowsL sd rs ↔ ∃ r, r ∈ rs ∧ x ∈ rowL sd r := by
  induction rs with
  | nil => simp [rowsL]
  | cons r rs ih => rw [rowsL, List.mem_append, ih]; simp
section
variable {rs : List Rw} {g : List (Str × Str)} {sd : Str}
def shutL (rs : List Rw) (sd : Str) (g : List (Str × Str)) : List Str := ("connection" : Str) :: namedL g ++ rowsL sd rs
theorem shutL_run (hr : Rok rs) (hg : Gok g) : f_law_shut [.sh (.tup (rs.map enc)), .sh (.str sd), .sh (.tup (g.map pr))] = some (.ol ((shutL rs sd g).map D.str), [.sh (.tup (rs.map enc)), .sh (.str sd), .sh (.tup (g.map pr))]) := by
  refine eq_of fun P hP => ?_
  have hgl := hg.len
  have hrl := hr.len
  rw [f_law_shut_]
  simp -implicitDefEqProofs only [nsAll, pcs, List.getElem?_cons_zero, List.getElem?_cons_succ, List.set_cons_zero, List.set_cons_succ, List.length_cons, List.length_nil, if_true, if_false, eq_self, Bool.false_eq_true, Bool.true_eq_false, Bool.not_true, Bool.not_false, decide_true, decide_false, and_self, and_true, true_and, List.cons_append, List.nil_append, Option.some.injEq, Nat.zero_lt_succ, Nat.succ_lt_succ_iff, Nat.lt_add_one, gt_iff_lt, ge_iff_le, Int.reduceLT, Int.reduceLE, Int.reduceAdd, Int.reduceSub, Int.reduceMul, Int.reduceNeg, Int.reduceEq, Int.reduceToNat, Nat.reduceAdd, Nat.reduceSub, Nat.reduceLT, Nat.reduceLeDiff, Nat.reduceEqDiff, reduceIte, String.reduceEq, Option.bind_some, ite_self, law_shut_p8_]
  refine loop_in (C := fun o => P (kFM [] [.sh (.tup (rs.map enc)), .sh (.str sd), .sh (.tup (g.map pr))] o)) pr (fun xs ρ => ∃ ds x4 x5, ds ++ xs = g ∧ ρ = [some (.sh (.tup (rs.map enc))), some (.sh (.str sd)), some (.sh (.tup (g.map pr))), some (.ol ((("connection" : Str) :: namedL ds).map D.str)), x4, x5, none, none]) ⟨[], none, none, rfl, rfl⟩ ?_ ?_
  · rintro ⟨n, v⟩ xs _ ⟨ds, x4, x5, hd, rfl⟩
    have hv : Vok v := (hg.ok (n, v) (by rw [← hd]; simp)).2
    have e1 := lr_run hv
    have e2 := sp_run hv
    have hl : ds.length ≤ 20 := by rw [← hd, List.length_append] at hgl; omega
    have hdl := named_len (g := ds) fun p hp => hg.ok p (by rw [← hd]; simp [hp])
    have hn : (namedL ds).length ≤ (named ds).length := by rw [namedL_eq]; exact List.length_filter_le ..
    have hw := hv.wn
    by_cases c : n = "connection"
    · have hc : law_shut_c4 [some (.sh (.tup (rs.map enc))), some (.sh (.str sd)), some (.sh (.tup (g.map pr))), some (.ol ((("connection" : Str) :: namedL ds).map D.str)), some (.sh (.str n)), some (.sh (.str v)), none, none] = .ok (.ol (((wds v).filter nh).map D.str)) [some (.sh (.tup (rs.map enc))), some (.sh (.str sd)), some (.sh (.tup (g.map pr))), some (.ol ((("connection" : Str) :: namedL ds).map D.str)), some (.sh (.str n)), some (.sh (.str v)), none, none] := by
        rw [law_shut_c4_]
        refine lc_filter D.str D.str nh (wds v) (ρ1 := [some (.sh (.tup (rs.map enc))), some (.sh (.str sd)), some (.sh (.tup (g.map pr))), some (.ol ((("connection" : Str) :: namedL ds).map D.str)), some (.sh (.str n)), some (.sh (.str v)), none, none]) ?_ rfl (by omega) fun x _ => ?_
        · simp -implicitDefEqProofs only [nsAll, pcs, List.getElem?_cons_zero, List.getElem?_cons_succ, List.set_cons_zero, List.set_cons_succ, List.length_cons, List.length_nil, if_true, if_false, eq_self, Bool.false_eq_true, Bool.true_eq_false, Bool.not_true, Bool.not_false, decide_true, decide_false, and_self, and_true, true_and, List.cons_append, List.nil_append, Option.some.injEq, Nat.zero_lt_succ, Nat.succ_lt_succ_iff, Nat.lt_add_one, gt_iff_lt, ge_iff_le, Int.reduceLT, Int.reduceLE, Int.reduceAdd, Int.reduceSub, Int.reduceMul, Int.reduceNeg, Int.reduceEq, Int.reduceToNat, Nat.reduceAdd, Nat.reduceSub, Nat.reduceLT, Nat.reduceLeDiff, Nat.reduceEqDiff, reduceIte, String.reduceEq, Option.bind_some, ite_self, e1, e2, Option.isSome_some]
        · by_cases c : x = "host"
          · simp -implicitDefEqProofs only [nsAll, pcs, List.getElem?_cons_zero, List.getElem?_cons_succ, List.set_cons_zero, List.set_cons_succ, List.length_cons, List.length_nil, if_true, if_false, eq_self, Bool.false_eq_true, Bool.true_eq_false, Bool.not_true, Bool.not_false, decide_true, decide_false, and_self, and_true, true_and, List.cons_append, List.nil_append, Option.some.injEq, Nat.zero_lt_succ, Nat.succ_lt_succ_iff, Nat.lt_add_one, gt_iff_lt, ge_iff_le, Int.reduceLT, Int.reduceLE, Int.reduceAdd, Int.reduceSub, Int.reduceMul, Int.reduceNeg, Int.reduceEq, Int.reduceToNat, Nat.reduceAdd, Nat.reduceSub, Nat.reduceLT, Nat.reduceLeDiff, Nat.reduceEqDiff, reduceIte, String.reduceEq, Option.bind_some, ite_self, c, nh]
          · simp -implicitDefEqProofs only [nsAll, pcs, List.getElem?_cons_zero, List.getElem?_cons_succ, List.set_cons_zero, List.set_cons_succ, List.length_cons, List.length_nil, if_true, if_false, eq_self, Bool.false_eq_true, Bool.true_eq_false, Bool.not_true, Bool.not_false, decide_true, decide_false, and_self, and_true, true_and, List.cons_append, List.nil_append, Option.some.injEq, Nat.zero_lt_succ, Nat.succ_lt_succ_iff, Nat.lt_add_one, gt_iff_lt, ge_iff_le, Int.reduceLT, Int.reduceLE, Int.reduceAdd, Int.reduceSub, Int.reduceMul, Int.reduceNeg, Int.reduceEq, Int.reduceToNat, Nat.reduceAdd, Nat.reduceSub, Nat.reduceLT, Nat.reduceLeDiff, Nat.reduceEqDiff, reduceIte, String.reduceEq, Option.bind_some, ite_self, c, nh]
      have hf : ((wds v).filter nh).length ≤ (wds v).length := List.length_filter_le ..
      have hz : ((("connection" : Str) :: namedL ds).map D.str).length + (((wds v).filter nh).map D.str).length ≤ 100000 := by rw [List.length_map, List.length_map, List.length_cons]; omega
      have ecat := cat_ll hz
      generalize hL : (("connection" : Str) :: namedL ds).map D.str = L at hc ecat ⊢
      subst c
      simp -implicitDefEqProofs only [nsAll, pcs, List.getElem?_cons_zero, List.getElem?_cons_succ, List.set_cons_zero, List.set_cons_succ, List.length_cons, List.length_nil, if_true, if_false, eq_self, Bool.false_eq_true, Bool.true_eq_false, Bool.not_true, Bool.not_false, decide_true, decide_false, and_self, and_true, true_and, List.cons_append, List.nil_append, Option.some.injEq, Nat.zero_lt_succ, Nat.succ_lt_succ_iff, Nat.lt_add_one, gt_iff_lt, ge_iff_le, Int.reduceLT, Int.reduceLE, Int.reduceAdd, Int.reduceSub, Int.reduceMul, Int.reduceNeg, Int.reduceEq, Int.reduceToNat, Nat.reduceAdd, Nat.reduceSub, Nat.reduceLT, Nat.reduceLeDiff, Nat.reduceEqDiff, reduceIte, String.reduceEq, Option.bind_some, ite_self, hc, ecat]
      refine ⟨ds ++ [(("connection" : Str), v)], some (.sh (.str "connection")), some (.sh (.str v)), by rw [← hd]; simp, ?_⟩
      rw [← hL, namedL_app, namedL, namedL, List.append_nil, oneL_c, ← List.map_append, List.cons_append]
    · generalize hL : (("connection" : Str) :: namedL ds).map D.str = L
      simp -implicitDefEqProofs only [nsAll, pcs, List.getElem?_cons_zero, List.getElem?_cons_succ, List.set_cons_zero, List.set_cons_succ, List.length_cons, List.length_nil, if_true, if_false, eq_self, Bool.false_eq_true, Bool.true_eq_false, Bool.not_true, Bool.not_false, decide_true, decide_false, and_self, and_true, true_and, List.cons_append, List.nil_append, Option.some.injEq, Nat.zero_lt_succ, Nat.succ_lt_succ_iff, Nat.lt_add_one, gt_iff_lt, ge_iff_le, Int.reduceLT, Int.reduceLE, Int.reduceAdd, Int.reduceSub, Int.reduceMul, Int.reduceNeg, Int.reduceEq, Int.reduceToNat, Nat.reduceAdd, Nat.reduceSub, Nat.reduceLT, Nat.reduceLeDiff, Nat.reduceEqDiff, reduceIte, String.reduceEq, Option.bind_some, ite_self, c]
      refine ⟨ds ++ [(n, v)], some (.sh (.str n)), some (.sh (.str v)), by rw [← hd]; simp, ?_⟩
      rw [← hL, namedL_app, namedL, namedL, List.append_nil, oneL_n c, List.append_nil]
  · rintro _ ⟨ds, x4, x5, hd, rfl⟩
    rw [List.append_nil] at hd
    subst hd
    have hdl := named_len hg.ok
    have hn : (namedL ds).length ≤ (named ds).length := by rw [namedL_eq]; exact List.length_filter_le ..
    simp -implicitDefEqProofs only [nsAll, pcs, List.getElem?_cons_zero, List.getElem?_cons_succ, List.set_cons_zero, List.set_cons_succ, List.length_cons, List.length_nil, if_true, if_false, eq_self, Bool.false_eq_true, Bool.true_eq_false, Bool.not_true, Bool.not_false, decide_true, decide_false, and_self, and_true, true_and, List.cons_append, List.nil_append, Option.some.injEq, Nat.zero_lt_succ, Nat.succ_lt_succ_iff, Nat.lt_add_one, gt_iff_lt, ge_iff_le, Int.reduceLT, Int.reduceLE, Int.reduceAdd, Int.reduceSub, Int.reduceMul, Int.reduceNeg, Int.reduceEq, Int.reduceToNat, Nat.reduceAdd, Nat.reduceSub, Nat.reduceLT, Nat.reduceLeDiff, Nat.reduceEqDiff, reduceIte, String.reduceEq, Option.bind_some, ite_self, law_shut_p14_]
    refine loop_in (C := fun o => P (kFM [] [.sh (.tup (rs.map enc)), .sh (.str sd), .sh (.tup (ds.map pr))] o)) enc (fun xs ρ => ∃ qs x6, qs ++ xs = rs ∧ ρ = [some (.sh (.tup (rs.map enc))), some (.sh (.str sd)), some (.sh (.tup (ds.map pr))), some (.ol ((shutL qs sd ds).map D.str)), x4, x5, x6, none]) ⟨[], none, rfl, by unfold shutL; rw [rowsL, List.append_nil]⟩ ?_ ?_
    · rintro r xs _ ⟨qs, x6, hq, rfl⟩
      have hql := rowsL_len sd qs
      have hq2 : qs.length ≤ 20 := by rw [← hq, List.length_append] at hrl; omega
      have hz : ((shutL qs sd ds).map D.str).length < 1000000 := by unfold shutL; rw [List.length_map, List.length_append, List.length_cons]; omega
      have key : shutL (qs ++ [r]) sd ds = shutL qs sd ds ++ rowL sd r := by unfold shutL; rw [rowsL_app, rowsL_one, List.append_assoc]
      have fin : ∀ (l : List D) (y : Option R), l = (shutL qs sd ds).map D.str ++ (rowL sd r).map D.str → ∃ qs x6', qs ++ xs = rs ∧ ([some (.sh (.tup (rs.map enc))), some (.sh (.str sd)), some (.sh (.tup (ds.map pr))), some (.ol l), x4, x5, y, none] : Rho) = [some (.sh (.tup (rs.map enc))), some (.sh (.str sd)), some (.sh (.tup (ds.map pr))), some (.ol ((shutL qs sd ds).map D.str)), x4, x5, x6', none] :=
        fun l y hl => ⟨qs ++ [r], y, by rw [← hq]; simp, by rw [key, List.map_append, hl]⟩
      generalize (shutL qs sd ds).map D.str = L at hz fin ⊢
      cases r with
      | hide s n =>
        by_cases c : s = sd
        · simp -implicitDefEqProofs only [nsAll, pcs, List.getElem?_cons_zero, List.getElem?_cons_succ, List.set_cons_zero, List.set_cons_succ, List.length_cons, List.length_nil, if_true, if_false, eq_self, Bool.false_eq_true, Bool.true_eq_false, Bool.not_true, Bool.not_false, decide_true, decide_false, and_self, and_true, true_and, List.cons_append, List.nil_append, Option.some.injEq, Nat.zero_lt_succ, Nat.succ_lt_succ_iff, Nat.lt_add_one, gt_iff_lt, ge_iff_le, Int.reduceLT, Int.reduceLE, Int.reduceAdd, Int.reduceSub, Int.reduceMul, Int.reduceNeg, Int.reduceEq, Int.reduceToNat, Nat.reduceAdd, Nat.reduceSub, Nat.reduceLT, Nat.reduceLeDiff, Nat.reduceEqDiff, reduceIte, String.reduceEq, Option.bind_some, ite_self, enc, c, hz]
          refine fin _ _ ?_
          rw [rowL, if_pos c]; rfl
        · simp -implicitDefEqProofs only [nsAll, pcs, List.getElem?_cons_zero, List.getElem?_cons_succ, List.set_cons_zero, List.set_cons_succ, List.length_cons, List.length_nil, if_true, if_false, eq_self, Bool.false_eq_true, Bool.true_eq_false, Bool.not_true, Bool.not_false, decide_true, decide_false, and_self, and_true, true_and, List.cons_append, List.nil_append, Option.some.injEq, Nat.zero_lt_succ, Nat.succ_lt_succ_iff, Nat.lt_add_one, gt_iff_lt, ge_iff_le, Int.reduceLT, Int.reduceLE, Int.reduceAdd, Int.reduceSub, Int.reduceMul, Int.reduceNeg, Int.reduceEq, Int.reduceToNat, Nat.reduceAdd, Nat.reduceSub, Nat.reduceLT, Nat.reduceLeDiff, Nat.reduceEqDiff, reduceIte, String.reduceEq, Option.bind_some, ite_self, enc, c, hz]
          refine fin _ _ ?_
          rw [rowL, if_neg c, List.map_nil, List.append_nil]
      | set s n v =>
        by_cases c : s = sd
        · simp -implicitDefEqProofs only [nsAll, pcs, List.getElem?_cons_zero, List.getElem?_cons_succ, List.set_cons_zero, List.set_cons_succ, List.length_cons, List.length_nil, if_true, if_false, eq_self, Bool.false_eq_true, Bool.true_eq_false, Bool.not_true, Bool.not_false, decide_true, decide_false, and_self, and_true, true_and, List.cons_append, List.nil_append, Option.some.injEq, Nat.zero_lt_succ, Nat.succ_lt_succ_iff, Nat.lt_add_one, gt_iff_lt, ge_iff_le, Int.reduceLT, Int.reduceLE, Int.reduceAdd, Int.reduceSub, Int.reduceMul, Int.reduceNeg, Int.reduceEq, Int.reduceToNat, Nat.reduceAdd, Nat.reduceSub, Nat.reduceLT, Nat.reduceLeDiff, Nat.reduceEqDiff, reduceIte, String.reduceEq, Option.bind_some, ite_self, enc, c, hz]
          refine fin _ _ ?_
          rw [rowL, if_pos c]; rfl
        · simp -implicitDefEqProofs only [nsAll, pcs, List.getElem?_cons_zero, List.getElem?_cons_succ, List.set_cons_zero, List.set_cons_succ, List.length_cons, List.length_nil, if_true, if_false, eq_self, Bool.false_eq_true, Bool.true_eq_false, Bool.not_true, Bool.not_false, decide_true, decide_false, and_self, and_true, true_and, List.cons_append, List.nil_append, Option.some.injEq, Nat.zero_lt_succ, Nat.succ_lt_succ_iff, Nat.lt_add_one, gt_iff_lt, ge_iff_le, Int.reduceLT, Int.reduceLE, Int.reduceAdd, Int.reduceSub, Int.reduceMul, Int.reduceNeg, Int.reduceEq, Int.reduceToNat, Nat.reduceAdd, Nat.reduceSub, Nat.reduceLT, Nat.reduceLeDiff, Nat.reduceEqDiff, reduceIte, String.reduceEq, Option.bind_some, ite_self, enc, c, hz]
          refine fin _ _ ?_
          rw [rowL, if_neg c, List.map_nil, List.append_nil]
      | frm n =>
        by_cases c : sd = "request"
        · simp -implicitDefEqProofs only [nsAll, pcs, List.getElem?_cons_zero, List.getElem?_cons_succ, List.set_cons_zero, List.set_cons_succ, List.length_cons, List.length_nil, if_true, if_false, eq_self, Bool.false_eq_true, Bool.true_eq_false, Bool.not_true, Bool.not_false, decide_true, decide_false, and_self, and_true, true_and, List.cons_append, List.nil_append, Option.some.injEq, Nat.zero_lt_succ, Nat.succ_lt_succ_iff, Nat.lt_add_one, gt_iff_lt, ge_iff_le, Int.reduceLT, Int.reduceLE, Int.reduceAdd, Int.reduceSub, Int.reduceMul, Int.reduceNeg, Int.reduceEq, Int.reduceToNat, Nat.reduceAdd, Nat.reduceSub, Nat.reduceLT, Nat.reduceLeDiff, Nat.reduceEqDiff, reduceIte, String.reduceEq, Option.bind_some, ite_self, enc, c, hz]
          rw [c] at fin
          refine fin _ _ ?_
          rw [rowL, if_pos rfl]; rfl
        · simp -implicitDefEqProofs only [nsAll, pcs, List.getElem?_cons_zero, List.getElem?_cons_succ, List.set_cons_zero, List.set_cons_succ, List.length_cons, List.length_nil, if_true, if_false, eq_self, Bool.false_eq_true, Bool.true_eq_false, Bool.not_true, Bool.not_false, decide_true, decide_false, and_self, and_true, true_and, List.cons_append, List.nil_append, Option.some.injEq, Nat.zero_lt_succ, Nat.succ_lt_succ_iff, Nat.lt_add_one, gt_iff_lt, ge_iff_le, Int.reduceLT, Int.reduceLE, Int.reduceAdd, Int.reduceSub, Int.reduceMul, Int.reduceNeg, Int.reduceEq, Int.reduceToNat, Nat.reduceAdd, Nat.reduceSub, Nat.reduceLT, Nat.reduceLeDiff, Nat.reduceEqDiff, reduceIte, String.reduceEq, Option.bind_some, ite_self, enc, c, hz]
          refine fin _ _ ?_
          rw [rowL, if_neg c, List.map_nil, List.append_nil]
    · rintro _ ⟨qs, x6, hq, rfl⟩
      rw [List.append_nil] at hq
      subst hq
      simp -implicitDefEqProofs only [nsAll, pcs, List.getElem?_cons_zero, List.getElem?_cons_succ, List.set_cons_zero, List.set_cons_succ, List.length_cons, List.length_nil, if_true, if_false, eq_self, Bool.false_eq_true, Bool.true_eq_false, Bool.not_true, Bool.not_false, decide_true, decide_false, and_self, and_true, true_and, List.cons_append, List.nil_append, Option.some.injEq, Nat.zero_lt_succ, Nat.succ_lt_succ_iff, Nat.lt_add_one, gt_iff_lt, ge_iff_le, Int.reduceLT, Int.reduceLE, Int.reduceAdd, Int.reduceSub, Int.reduceMul, Int.reduceNeg, Int.reduceEq, Int.reduceToNat, Nat.reduceAdd, Nat.reduceSub, Nat.reduceLT, Nat.reduceLeDiff, Nat.reduceEqDiff, reduceIte, String.reduceEq, Option.bind_some, ite_self]
      exact hP
end
end K49

set_option Elab.async false
set_option linter.all false
set_option maxRecDepth 100000
set_option maxHeartbeats 4000000
namespace K49
open PySem PySem.Spec PyProof.Rows L2 DL
section
variable {rs : List Rw} {g : List (Str × Str)} {sd : Str} {tr : List (Int × Int)} {c : Int}
/-! ### the same are shut -/
def tellers (rs : List Rw) : List Str := (rs.filter Rw.isF).map Rw.nm
theorem in_congr {a b : List Str} (h : ∀ x, x ∈ a ↔ x ∈ b) (x : Str) : inS x a = inS x b := by
  rw [Bool.eq_iff_iff, inS_iff, inS_iff]
  exact h x
theorem mem_req (x : Str) : ∀ rs : List Rw, x ∈ rowsL "request" rs ↔ x ∈ (rs.filter (Rw.isH "request")).map Rw.nm ∨ x ∈ tellers rs
  | [] => by simp [rowsL, tellers]
  | r :: rs => by
    rw [rowsL, List.mem_append, mem_req x rs]
    unfold tellers
    cases r with
    | hide s n =>
      by_cases c : s = "request"
      · simp only [rowL, c, if_true, List.filter_cons, Rw.isH, Rw.isF, decide_true, List.map_cons, Rw.nm, List.mem_cons, List.not_mem_nil, or_false, Bool.false_eq_true, if_false]
        rw [or_assoc]
      · simp only [rowL, c, if_false, List.filter_cons, Rw.isH, Rw.isF, decide_false, Bool.false_eq_true, List.not_mem_nil, false_or]
    | set s n v =>
      by_cases c : s = "request"
      · simp only [rowL, c, if_true, List.filter_cons, Rw.isH, Rw.isF, decide_true, List.map_cons, Rw.nm, List.mem_cons, List.not_mem_nil, or_false, Bool.false_eq_true, if_false]
        rw [or_assoc]
      · simp only [rowL, c, if_false, List.filter_cons, Rw.isH, Rw.isF, decide_false, Bool.false_eq_true, List.not_mem_nil, false_or]
    | frm n =>
      simp only [rowL, if_true, List.filter_cons, Rw.isH, Rw.isF, Bool.false_eq_true, if_false, List.map_cons, Rw.nm, List.mem_cons, List.not_mem_nil, or_false]
      rw [← or_assoc, ← or_assoc, or_comm (a := x = n)]
theorem rowsL_ans : ∀ rs : List Rw, rowsL "answer" rs = (rs.filter (Rw.isH "answer")).map Rw.nm
  | [] => rfl
  | r :: rs => by
    have na : ¬ (Str.ofString "answer" = Str.ofString "request") := by decide +kernel
    rw [rowsL, rowsL_ans rs]
    cases r with
    | hide s n =>
      by_cases c : s = "answer"
      · simp only [rowL, c, if_true, List.filter_cons, Rw.isH, decide_true, List.map_cons, Rw.nm]; rfl
      · simp only [rowL, c, if_false, List.filter_cons, Rw.isH, decide_false, Bool.false_eq_true]; rfl
    | set s n v =>
      by_cases c : s = "answer"
      · simp only [rowL, c, if_true, List.filter_cons, Rw.isH, decide_true, List.map_cons, Rw.nm]; rfl
      · simp only [rowL, c, if_false, List.filter_cons, Rw.isH, decide_false, Bool.false_eq_true]; rfl
    | frm n => simp only [rowL, na, if_false, List.filter_cons, Rw.isH, Bool.false_eq_true]; rfl
theorem in_req (x : Str) : inS x (shutP rs "request" g ++ tellers rs ++ [("request" : Str)]) = inS x (shutL rs "request" g ++ [("request" : Str)]) := by
  refine in_congr (fun x => ?_) x
  unfold shutP shutL
  rw [namedL_eq]
  rw [List.mem_append, List.mem_append, List.mem_append, List.mem_append, List.mem_append, mem_req, or_assoc (b := x ∈ List.map Rw.nm (rs.filter _))]
theorem in_ans (x : Str) : inS x (shutP rs "answer" g) = inS x (shutL rs "answer" g) := by
  unfold shutP shutL
  rw [namedL_eq, rowsL_ans]
/-! ### what goes on inside -/
def kept (g : List (Str × Str)) (L : List Str) : List (Str × Str) := g.filter fun p => !inS p.1 L
def sets (rs : List Rw) (sd : Str) : List (Str × Str) := (rs.filter (Rw.isS sd)).map Rw.nv
def tells (rs : List Rw) (g : List (Str × Str)) (tr : List (Int × Int)) (c : Int) : List (Str × Str) := (tellers rs).map fun n => (n, fv g tr c n)
def rq (i j : Int) : Str := tk i ++ "." ++ tk j
def inside (rs : List Rw) (g : List (Str × Str)) (tr : List (Int × Int)) (c i j : Int) : List (Str × Str) :=
  kept g (shutP rs "request" g ++ tellers rs ++ [("request" : Str)]) ++ sets rs "request" ++ tells rs g tr c ++ [(("request" : Str), rq i j)]
def outside (rs : List Rw) (g : List (Str × Str)) : List (Str × Str) := kept g (shutP rs "answer" g) ++ sets rs "answer"
theorem kept_congr {a b : List Str} (h : ∀ x, inS x a = inS x b) : kept g a = kept g b := by
  unfold kept
  congr 1
  funext p
  rw [h]
theorem kept_len (L : List Str) : (kept g L).length ≤ g.length := List.length_filter_le ..
theorem sets_len : (sets rs sd).length ≤ rs.length := by unfold sets; rw [List.length_map]; exact List.length_filter_le ..
theorem tellers_len : (tellers rs).length ≤ rs.length := by unfold tellers; rw [List.length_map]; exact List.length_filter_le ..
theorem sets_map : (sets rs sd).map pr = (rs.filter (Rw.isS sd)).map fun r => pr r.nv := by unfold sets; rw [List.map_map]; rfl
theorem dot_len : (Str.ofString ".").length = 1 := by decide +kernel
theorem rq_run {i j : Int} (hi : 0 ≤ i) (hi2 : i < 300) (hj : 0 ≤ j) (hj2 : j < 300) : fAdd (.str (tk i)) (.str ".") = some (.str (tk i ++ ".")) ∧ fAdd (.str (tk i ++ ".")) (.str (tk j)) = some (.str (rq i j)) := by
  have h1 := tk_len hi hi2
  have h2 := tk_len hj hj2
  exact ⟨add_ss (by rw [dot_len]; omega), add_ss (by rw [len_app, dot_len]; omega)⟩
theorem inside_run {i j : Int} (hr : Rok rs) (hg : Gok g) (hc : Cl c) (ht : tr.length ≤ 20) (hi : 0 ≤ i) (hi2 : i < 300) (hj : 0 ≤ j) (hj2 : j < 300) :
    f_inside_headers [.sh (.tup (rs.map enc)), .sh (.tup (tr.map enT)), .sh (.int c), .sh (.tup [.int i, .int j]), .sh (.tup (g.map pr))] = some (.sh (.tup ((inside rs g tr c i j).map pr)), [.sh (.tup (rs.map enc)), .sh (.tup (tr.map enT)), .sh (.int c), .sh (.tup [.int i, .int j]), .sh (.tup (g.map pr))]) := by
  refine eq_of fun P hP => ?_
  have hgl := hg.len
  have hrl := hr.len
  have htl : (tellers rs).length ≤ rs.length := tellers_len
  have hsl := shutP_len (sd := "request") hr hg
  have hss : (sets rs "request").length ≤ rs.length := sets_len
  have hkl : (kept g (shutP rs "request" g ++ tellers rs ++ [("request" : Str)])).length ≤ g.length := kept_len _
  have e1 := shut_run (sd := "request") hr hg
  have e2 := set_run (sd := "request") hr
  rw [← sets_map] at e2
  have t1 := tk_run hi hi2
  have t2 := tk_run hj hj2
  obtain ⟨r1, r2⟩ := rq_run hi hi2 hj hj2
  have c3 : inside_headers_c3 [some (.sh (.tup (rs.map enc))), some (.sh (.tup (tr.map enT))), some (.sh (.int c)), some (.sh (.tup [.int i, .int j])), some (.sh (.tup (g.map pr))), none, none, none, none, none] = .ok (.ol ((tellers rs).map D.str)) [some (.sh (.tup (rs.map enc))), some (.sh (.tup (tr.map enT))), some (.sh (.int c)), some (.sh (.tup [.int i, .int j])), some (.sh (.tup (g.map pr))), none, none, none, none, none] := by
    rw [inside_headers_c3_, show (tellers rs).map D.str = (rs.filter Rw.isF).map fun r => D.str r.nm by unfold tellers; rw [List.map_map]; rfl]
    refine lc_filter enc (fun r => D.str r.nm) Rw.isF rs (ρ1 := [some (.sh (.tup (rs.map enc))), some (.sh (.tup (tr.map enT))), some (.sh (.int c)), some (.sh (.tup [.int i, .int j])), some (.sh (.tup (g.map pr))), none, none, none, none, none]) ?_ rfl (by omega) fun r _ => ?_
    · simp -implicitDefEqProofs only [nsAll, pcs, List.getElem?_cons_zero, List.getElem?_cons_succ, List.set_cons_zero, List.set_cons_succ, List.length_cons, List.length_nil, if_true, if_false, eq_self, Bool.false_eq_true, Bool.true_eq_false, Bool.not_true, Bool.not_false, decide_true, decide_false, and_self, and_true, true_and, List.cons_append, List.nil_append, Option.some.injEq, Nat.zero_lt_succ, Nat.succ_lt_succ_iff, Nat.lt_add_one, gt_iff_lt, ge_iff_le, Int.reduceLT, Int.reduceLE, Int.reduceAdd, Int.reduceSub, Int.reduceMul, Int.reduceNeg, Int.reduceEq, Int.reduceToNat, Nat.reduceAdd, Nat.reduceSub, Nat.reduceLT, Nat.reduceLeDiff, Nat.reduceEqDiff, reduceIte, String.reduceEq, Option.bind_some, ite_self]
    · cases r <;> simp -implicitDefEqProofs only [nsAll, pcs, List.getElem?_cons_zero, List.getElem?_cons_succ, List.set_cons_zero, List.set_cons_succ, List.length_cons, List.length_nil, if_true, if_false, eq_self, Bool.false_eq_true, Bool.true_eq_false, Bool.not_true, Bool.not_false, decide_true, decide_false, and_self, and_true, true_and, List.cons_append, List.nil_append, Option.some.injEq, Nat.zero_lt_succ, Nat.succ_lt_succ_iff, Nat.lt_add_one, gt_iff_lt, ge_iff_le, Int.reduceLT, Int.reduceLE, Int.reduceAdd, Int.reduceSub, Int.reduceMul, Int.reduceNeg, Int.reduceEq, Int.reduceToNat, Nat.reduceAdd, Nat.reduceSub, Nat.reduceLT, Nat.reduceLeDiff, Nat.reduceEqDiff, reduceIte, String.reduceEq, Option.bind_some, ite_self, enc, Rw.isF, Rw.nm]
  have a1 : fAdd (.lst ((shutP rs "request" g).map D.str)) (.lst ((tellers rs).map D.str)) = some (.lst ((shutP rs "request" g ++ tellers rs).map D.str)) := by
    rw [add_ll (by rw [List.length_map, List.length_map]; omega), List.map_append]
  have a2 : fAdd (.lst ((shutP rs "request" g ++ tellers rs).map D.str)) (.lst [.str "request"]) = some (.lst ((shutP rs "request" g ++ tellers rs ++ [("request" : Str)]).map D.str)) := by
    rw [add_ll (by rw [List.length_map, List.length_append, List.length_cons, List.length_nil]; omega), List.map_append (l₂ := [("request" : Str)])]; rfl
  generalize hT : shutP rs "request" g ++ tellers rs ++ [("request" : Str)] = T at a2 hkl
  have c8 : inside_headers_c8 [some (.sh (.tup (rs.map enc))), some (.sh (.tup (tr.map enT))), some (.sh (.int c)), some (.sh (.tup [.int i, .int j])), some (.sh (.tup (g.map pr))), some (.ol ((tellers rs).map D.str)), some (.sh (.lst (T.map D.str))), none, none, none] = .ok (.ol ((kept g T).map pr)) [some (.sh (.tup (rs.map enc))), some (.sh (.tup (tr.map enT))), some (.sh (.int c)), some (.sh (.tup [.int i, .int j])), some (.sh (.tup (g.map pr))), some (.ol ((tellers rs).map D.str)), some (.sh (.lst (T.map D.str))), none, none, none] := by
    rw [inside_headers_c8_]
    refine lc_filter pr pr (fun p => !inS p.1 T) g (ρ1 := [some (.sh (.tup (rs.map enc))), some (.sh (.tup (tr.map enT))), some (.sh (.int c)), some (.sh (.tup [.int i, .int j])), some (.sh (.tup (g.map pr))), some (.ol ((tellers rs).map D.str)), some (.sh (.lst (T.map D.str))), none, none, none]) ?_ rfl (by omega) fun p _ => ?_
    · simp -implicitDefEqProofs only [nsAll, pcs, List.getElem?_cons_zero, List.getElem?_cons_succ, List.set_cons_zero, List.set_cons_succ, List.length_cons, List.length_nil, if_true, if_false, eq_self, Bool.false_eq_true, Bool.true_eq_false, Bool.not_true, Bool.not_false, decide_true, decide_false, and_self, and_true, true_and, List.cons_append, List.nil_append, Option.some.injEq, Nat.zero_lt_succ, Nat.succ_lt_succ_iff, Nat.lt_add_one, gt_iff_lt, ge_iff_le, Int.reduceLT, Int.reduceLE, Int.reduceAdd, Int.reduceSub, Int.reduceMul, Int.reduceNeg, Int.reduceEq, Int.reduceToNat, Nat.reduceAdd, Nat.reduceSub, Nat.reduceLT, Nat.reduceLeDiff, Nat.reduceEqDiff, reduceIte, String.reduceEq, Option.bind_some, ite_self]
    · have hn := notin_strs p.1 T
      generalize inS p.1 T = b at hn ⊢
      cases b <;> simp -implicitDefEqProofs only [nsAll, pcs, List.getElem?_cons_zero, List.getElem?_cons_succ, List.set_cons_zero, List.set_cons_succ, List.length_cons, List.length_nil, if_true, if_false, eq_self, Bool.false_eq_true, Bool.true_eq_false, Bool.not_true, Bool.not_false, decide_true, decide_false, and_self, and_true, true_and, List.cons_append, List.nil_append, Option.some.injEq, Nat.zero_lt_succ, Nat.succ_lt_succ_iff, Nat.lt_add_one, gt_iff_lt, ge_iff_le, Int.reduceLT, Int.reduceLE, Int.reduceAdd, Int.reduceSub, Int.reduceMul, Int.reduceNeg, Int.reduceEq, Int.reduceToNat, Nat.reduceAdd, Nat.reduceSub, Nat.reduceLT, Nat.reduceLeDiff, Nat.reduceEqDiff, reduceIte, String.reduceEq, Option.bind_some, ite_self, hn]
  have a3 : fAdd (.lst ((kept g T).map pr)) (.lst ((sets rs "request").map pr)) = some (.lst ((kept g T ++ sets rs "request").map pr)) := by
    rw [add_ll (by rw [List.length_map, List.length_map]; omega), List.map_append]
  have c11 : inside_headers_c11 [some (.sh (.tup (rs.map enc))), some (.sh (.tup (tr.map enT))), some (.sh (.int c)), some (.sh (.tup [.int i, .int j])), some (.sh (.tup (g.map pr))), some (.ol ((tellers rs).map D.str)), some (.sh (.lst (T.map D.str))), some (.sh (.lst ((kept g T ++ sets rs "request").map pr))), none, none] = .ok (.ol ((tells rs g tr c).map pr)) [some (.sh (.tup (rs.map enc))), some (.sh (.tup (tr.map enT))), some (.sh (.int c)), some (.sh (.tup [.int i, .int j])), some (.sh (.tup (g.map pr))), some (.sh (.lst ((tellers rs).map D.str))), some (.sh (.lst (T.map D.str))), some (.sh (.lst ((kept g T ++ sets rs "request").map pr))), none, none] := by
    rw [inside_headers_c11_, show (tells rs g tr c).map pr = (tellers rs).map fun n => pr (n, fv g tr c n) by unfold tells; rw [List.map_map]; rfl]
    refine lc_map D.str (fun n => pr (n, fv g tr c n)) (tellers rs) (ρ1 := [some (.sh (.tup (rs.map enc))), some (.sh (.tup (tr.map enT))), some (.sh (.int c)), some (.sh (.tup [.int i, .int j])), some (.sh (.tup (g.map pr))), some (.sh (.lst ((tellers rs).map D.str))), some (.sh (.lst (T.map D.str))), some (.sh (.lst ((kept g T ++ sets rs "request").map pr))), none, none]) ?_ rfl (by omega) fun n _ => ?_
    · simp -implicitDefEqProofs only [nsAll, pcs, List.getElem?_cons_zero, List.getElem?_cons_succ, List.set_cons_zero, List.set_cons_succ, List.length_cons, List.length_nil, if_true, if_false, eq_self, Bool.false_eq_true, Bool.true_eq_false, Bool.not_true, Bool.not_false, decide_true, decide_false, and_self, and_true, true_and, List.cons_append, List.nil_append, Option.some.injEq, Nat.zero_lt_succ, Nat.succ_lt_succ_iff, Nat.lt_add_one, gt_iff_lt, ge_iff_le, Int.reduceLT, Int.reduceLE, Int.reduceAdd, Int.reduceSub, Int.reduceMul, Int.reduceNeg, Int.reduceEq, Int.reduceToNat, Nat.reduceAdd, Nat.reduceSub, Nat.reduceLT, Nat.reduceLeDiff, Nat.reduceEqDiff, reduceIte, String.reduceEq, Option.bind_some, ite_self]
    · have ef := from_run hg hc ht n
      simp -implicitDefEqProofs only [nsAll, pcs, List.getElem?_cons_zero, List.getElem?_cons_succ, List.set_cons_zero, List.set_cons_succ, List.length_cons, List.length_nil, if_true, if_false, eq_self, Bool.false_eq_true, Bool.true_eq_false, Bool.not_true, Bool.not_false, decide_true, decide_false, and_self, and_true, true_and, List.cons_append, List.nil_append, Option.some.injEq, Nat.zero_lt_succ, Nat.succ_lt_succ_iff, Nat.lt_add_one, gt_iff_lt, ge_iff_le, Int.reduceLT, Int.reduceLE, Int.reduceAdd, Int.reduceSub, Int.reduceMul, Int.reduceNeg, Int.reduceEq, Int.reduceToNat, Nat.reduceAdd, Nat.reduceSub, Nat.reduceLT, Nat.reduceLeDiff, Nat.reduceEqDiff, reduceIte, String.reduceEq, Option.bind_some, ite_self, ef]
  have htt : (tells rs g tr c).length ≤ rs.length := by unfold tells; rw [List.length_map]; exact htl
  have a4 : fAdd (.lst ((kept g T ++ sets rs "request").map pr)) (.lst ((tells rs g tr c).map pr)) = some (.lst ((kept g T ++ sets rs "request" ++ tells rs g tr c).map pr)) := by
    rw [add_ll (by rw [List.length_map, List.length_map, List.length_append]; omega), List.map_append (l₂ := tells rs g tr c)]
  have a5 : fAdd (.lst ((kept g T ++ sets rs "request" ++ tells rs g tr c).map pr)) (.lst [.tup [.str "request", .str (rq i j)]]) = some (.lst ((inside rs g tr c i j).map pr)) := by
    unfold inside
    rw [hT, add_ll (by rw [List.length_map, List.length_append, List.length_append, List.length_cons, List.length_nil]; omega), List.map_append (l₂ := [(("request" : Str), rq i j)])]; rfl
  rw [f_inside_headers_]
  simp -implicitDefEqProofs only [nsAll, pcs, List.getElem?_cons_zero, List.getElem?_cons_succ, List.set_cons_zero, List.set_cons_succ, List.length_cons, List.length_nil, if_true, if_false, eq_self, Bool.false_eq_true, Bool.true_eq_false, Bool.not_true, Bool.not_false, decide_true, decide_false, and_self, and_true, true_and, List.cons_append, List.nil_append, Option.some.injEq, Nat.zero_lt_succ, Nat.succ_lt_succ_iff, Nat.lt_add_one, gt_iff_lt, ge_iff_le, Int.reduceLT, Int.reduceLE, Int.reduceAdd, Int.reduceSub, Int.reduceMul, Int.reduceNeg, Int.reduceEq, Int.reduceToNat, Nat.reduceAdd, Nat.reduceSub, Nat.reduceLT, Nat.reduceLeDiff, Nat.reduceEqDiff, reduceIte, String.reduceEq, Option.bind_some, ite_self, c3, e1, a1, a2, c8, e2, a3, c11, a4, t1, t2, r1, r2, a5]
  exact hP
theorem outside_run (hr : Rok rs) (hg : Gok g) : f_outside_headers [.sh (.tup (rs.map enc)), .sh (.tup (g.map pr))] = some (.sh (.tup ((outside rs g).map pr)), [.sh (.tup (rs.map enc)), .sh (.tup (g.map pr))]) := by
  refine eq_of fun P hP => ?_
  have hgl := hg.len
  have hrl := hr.len
  have hsl := shutP_len (sd := "answer") hr hg
  have hss : (sets rs "answer").length ≤ rs.length := sets_len
  have hkl : (kept g (shutP rs "answer" g)).length ≤ g.length := kept_len _
  have e1 := shut_run (sd := "answer") hr hg
  have e2 := set_run (sd := "answer") hr
  rw [← sets_map] at e2
  unfold outside at hP
  generalize shutP rs "answer" g = T at *
  have c4 : outside_headers_c4 [some (.sh (.tup (rs.map enc))), some (.sh (.tup (g.map pr))), some (.sh (.lst (T.map D.str))), none] = .ok (.ol ((kept g T).map pr)) [some (.sh (.tup (rs.map enc))), some (.sh (.tup (g.map pr))), some (.sh (.lst (T.map D.str))), none] := by
    rw [outside_headers_c4_]
    refine lc_filter pr pr (fun p => !inS p.1 T) g (ρ1 := [some (.sh (.tup (rs.map enc))), some (.sh (.tup (g.map pr))), some (.sh (.lst (T.map D.str))), none]) ?_ rfl (by omega) fun p _ => ?_
    · simp -implicitDefEqProofs only [nsAll, pcs, List.getElem?_cons_zero, List.getElem?_cons_succ, List.set_cons_zero, List.set_cons_succ, List.length_cons, List.length_nil, if_true, if_false, eq_self, Bool.false_eq_true, Bool.true_eq_false, Bool.not_true, Bool.not_false, decide_true, decide_false, and_self, and_true, true_and, List.cons_append, List.nil_append, Option.some.injEq, Nat.zero_lt_succ, Nat.succ_lt_succ_iff, Nat.lt_add_one, gt_iff_lt, ge_iff_le, Int.reduceLT, Int.reduceLE, Int.reduceAdd, Int.reduceSub, Int.reduceMul, Int.reduceNeg, Int.reduceEq, Int.reduceToNat, Nat.reduceAdd, Nat.reduceSub, Nat.reduceLT, Nat.reduceLeDiff, Nat.reduceEqDiff, reduceIte, String.reduceEq, Option.bind_some, ite_self]
    · have hn := notin_strs p.1 T
      generalize inS p.1 T = b at hn ⊢
      cases b <;> simp -implicitDefEqProofs only [nsAll, pcs, List.getElem?_cons_zero, List.getElem?_cons_succ, List.set_cons_zero, List.set_cons_succ, List.length_cons, List.length_nil, if_true, if_false, eq_self, Bool.false_eq_true, Bool.true_eq_false, Bool.not_true, Bool.not_false, decide_true, decide_false, and_self, and_true, true_and, List.cons_append, List.nil_append, Option.some.injEq, Nat.zero_lt_succ, Nat.succ_lt_succ_iff, Nat.lt_add_one, gt_iff_lt, ge_iff_le, Int.reduceLT, Int.reduceLE, Int.reduceAdd, Int.reduceSub, Int.reduceMul, Int.reduceNeg, Int.reduceEq, Int.reduceToNat, Nat.reduceAdd, Nat.reduceSub, Nat.reduceLT, Nat.reduceLeDiff, Nat.reduceEqDiff, reduceIte, String.reduceEq, Option.bind_some, ite_self, hn]
  have a3 : fAdd (.lst ((kept g T).map pr)) (.lst ((sets rs "answer").map pr)) = some (.lst ((kept g T ++ sets rs "answer").map pr)) := by
    rw [add_ll (by rw [List.length_map, List.length_map]; omega), List.map_append]
  rw [f_outside_headers_]
  simp -implicitDefEqProofs only [nsAll, pcs, List.getElem?_cons_zero, List.getElem?_cons_succ, List.set_cons_zero, List.set_cons_succ, List.length_cons, List.length_nil, if_true, if_false, eq_self, Bool.false_eq_true, Bool.true_eq_false, Bool.not_true, Bool.not_false, decide_true, decide_false, and_self, and_true, true_and, List.cons_append, List.nil_append, Option.some.injEq, Nat.zero_lt_succ, Nat.succ_lt_succ_iff, Nat.lt_add_one, gt_iff_lt, ge_iff_le, Int.reduceLT, Int.reduceLE, Int.reduceAdd, Int.reduceSub, Int.reduceMul, Int.reduceNeg, Int.reduceEq, Int.reduceToNat, Nat.reduceAdd, Nat.reduceSub, Nat.reduceLT, Nat.reduceLeDiff, Nat.reduceEqDiff, reduceIte, String.reduceEq, Option.bind_some, ite_self, e1, c4, e2, a3]
  exact hP
end
end K49

set_option Elab.async false
set_option linter.all false
set_option maxRecDepth 100000
set_option maxHeartbeats 4000000
namespace K49
open PySem PySem.Spec PyProof.Rows L2 DL
section
variable {rs : List Rw} {g : List (Str × Str)} {sd : Str} {tr : List (Int × Int)} {c : Int} {kv : List (Key × D)}
theorem cut2 {a b : D} {ds : List D} : cutD (a :: b :: ds) none (some 2) = [a, b] := cut_nat (a :: b :: ds) 2
theorem set_tx : Tx (Str.ofString "set") := by decide +kernel
theorem hide_tx : Tx (Str.ofString "hide") := by decide +kernel
theorem from_tx : Tx (Str.ofString "from") := by decide +kernel
theorem req_tx : Tx (Str.ofString "request") := by decide +kernel
theorem ans_tx : Tx (Str.ofString "answer") := by decide +kernel
theorem isS_run {r : Rw} (h : r.ok) (hs : Tx sd) : ∃ d, fSl (enc r) none (some 2) = some d ∧ deq d (.tup [.str "set", .str sd]) = some (r.isS sd) := by
  cases r with
  | hide s n =>
    refine ⟨_, by rw [enc, fSl_t, cut2], ?_⟩
    rw [deq_pr hide_tx h.1 set_tx hs]
    rfl
  | set s n v =>
    refine ⟨_, by rw [enc, fSl_t, cut2], ?_⟩
    rw [deq_pr set_tx h.1 set_tx hs]
    show some (decide ((Str.ofString "set", s) = (Str.ofString "set", sd))) = some (decide (s = sd))
    simp
  | frm n =>
    refine ⟨_, by rw [enc, fSl_t, cut2], ?_⟩
    rw [deq_pr from_tx h set_tx hs]
    have : ¬ (Str.ofString "from", n) = (Str.ofString "set", sd) := fun e => absurd (show Str.ofString "from" = Str.ofString "set" from congrArg Prod.fst e) (by decide +kernel)
    rw [decide_eq_false this]
    rfl
structure Pok (kv : List (Key × D)) (rs : List Rw) (tr : List (Int × Int)) : Prop where
  h : valD kv (Sum.inr (Str.ofString "headers")) = some (.tup (rs.map enc))
  t : valD kv (Sum.inr (Str.ofString "trusted")) = some (.tup (tr.map enT))
theorem lout_run (hp : Pok kv rs tr) (hr : Rok rs) (hg : Gok g) : f_law_outside [.sh (.dK kv), .sh (.tup (g.map pr))] = some (.sh (.lst ((outside rs g).map pr)), [.sh (.dK kv), .sh (.tup (g.map pr))]) := by
  refine eq_of fun P hP => ?_
  have hgl := hg.len
  have hrl := hr.len
  have hss : (sets rs "answer").length ≤ rs.length := sets_len
  have hkl : (kept g (shutP rs "answer" g)).length ≤ g.length := kept_len _
  have e1 := shutL_run (sd := "answer") hr hg
  have hk : kept g (shutP rs "answer" g) = kept g (shutL rs "answer" g) := kept_congr in_ans
  have h1 := hp.h
  unfold outside at hP
  rw [hk] at hP hkl
  generalize shutL rs "answer" g = T at *
  have c4 : law_outside_c4 [some (.sh (.dK kv)), some (.sh (.tup (g.map pr))), some (.ol (T.map D.str)), none, none] = .ok (.ol ((kept g T).map pr)) [some (.sh (.dK kv)), some (.sh (.tup (g.map pr))), some (.ol (T.map D.str)), none, none] := by
    rw [law_outside_c4_]
    refine lc_filter pr pr (fun p => !inS p.1 T) g (ρ1 := [some (.sh (.dK kv)), some (.sh (.tup (g.map pr))), some (.ol (T.map D.str)), none, none]) ?_ rfl (by omega) fun p _ => ?_
    · simp -implicitDefEqProofs only [nsAll, pcs, List.getElem?_cons_zero, List.getElem?_cons_succ, List.set_cons_zero, List.set_cons_succ, List.length_cons, List.length_nil, if_true, if_false, eq_self, Bool.false_eq_true, Bool.true_eq_false, Bool.not_true, Bool.not_false, decide_true, decide_false, and_self, and_true, true_and, List.cons_append, List.nil_append, Option.some.injEq, Nat.zero_lt_succ, Nat.succ_lt_succ_iff, Nat.lt_add_one, gt_iff_lt, ge_iff_le, Int.reduceLT, Int.reduceLE, Int.reduceAdd, Int.reduceSub, Int.reduceMul, Int.reduceNeg, Int.reduceEq, Int.reduceToNat, Nat.reduceAdd, Nat.reduceSub, Nat.reduceLT, Nat.reduceLeDiff, Nat.reduceEqDiff, reduceIte, String.reduceEq, Option.bind_some, ite_self]
    · have hn := notin_strs p.1 T
      generalize inS p.1 T = b at hn ⊢
      cases b <;> simp -implicitDefEqProofs only [nsAll, pcs, List.getElem?_cons_zero, List.getElem?_cons_succ, List.set_cons_zero, List.set_cons_succ, List.length_cons, List.length_nil, if_true, if_false, eq_self, Bool.false_eq_true, Bool.true_eq_false, Bool.not_true, Bool.not_false, decide_true, decide_false, and_self, and_true, true_and, List.cons_append, List.nil_append, Option.some.injEq, Nat.zero_lt_succ, Nat.succ_lt_succ_iff, Nat.lt_add_one, gt_iff_lt, ge_iff_le, Int.reduceLT, Int.reduceLE, Int.reduceAdd, Int.reduceSub, Int.reduceMul, Int.reduceNeg, Int.reduceEq, Int.reduceToNat, Nat.reduceAdd, Nat.reduceSub, Nat.reduceLT, Nat.reduceLeDiff, Nat.reduceEqDiff, reduceIte, String.reduceEq, Option.bind_some, ite_self, hn]
  have c8 : law_outside_c8 [some (.sh (.dK kv)), some (.sh (.tup (g.map pr))), some (.ol (T.map D.str)), some (.ol ((kept g T).map pr)), none] = .ok (.ol ((sets rs "answer").map pr)) [some (.sh (.dK kv)), some (.sh (.tup (g.map pr))), some (.ol (T.map D.str)), some (.ol ((kept g T).map pr)), none] := by
    rw [law_outside_c8_, sets_map]
    refine lc_filter enc (fun r => pr r.nv) (Rw.isS "answer") rs (ρ1 := [some (.sh (.dK kv)), some (.sh (.tup (g.map pr))), some (.ol (T.map D.str)), some (.ol ((kept g T).map pr)), none]) ?_ rfl (by omega) fun r hrr => ?_
    · simp -implicitDefEqProofs only [nsAll, pcs, List.getElem?_cons_zero, List.getElem?_cons_succ, List.set_cons_zero, List.set_cons_succ, List.length_cons, List.length_nil, if_true, if_false, eq_self, Bool.false_eq_true, Bool.true_eq_false, Bool.not_true, Bool.not_false, decide_true, decide_false, and_self, and_true, true_and, List.cons_append, List.nil_append, Option.some.injEq, Nat.zero_lt_succ, Nat.succ_lt_succ_iff, Nat.lt_add_one, gt_iff_lt, ge_iff_le, Int.reduceLT, Int.reduceLE, Int.reduceAdd, Int.reduceSub, Int.reduceMul, Int.reduceNeg, Int.reduceEq, Int.reduceToNat, Nat.reduceAdd, Nat.reduceSub, Nat.reduceLT, Nat.reduceLeDiff, Nat.reduceEqDiff, reduceIte, String.reduceEq, Option.bind_some, ite_self, h1]
    · obtain ⟨d, s1, s2⟩ := isS_run (sd := "answer") (hr.ok r hrr) ans_tx
      cases r with
      | hide s n => simp -implicitDefEqProofs only [nsAll, pcs, List.getElem?_cons_zero, List.getElem?_cons_succ, List.set_cons_zero, List.set_cons_succ, List.length_cons, List.length_nil, if_true, if_false, eq_self, Bool.false_eq_true, Bool.true_eq_false, Bool.not_true, Bool.not_false, decide_true, decide_false, and_self, and_true, true_and, List.cons_append, List.nil_append, Option.some.injEq, Nat.zero_lt_succ, Nat.succ_lt_succ_iff, Nat.lt_add_one, gt_iff_lt, ge_iff_le, Int.reduceLT, Int.reduceLE, Int.reduceAdd, Int.reduceSub, Int.reduceMul, Int.reduceNeg, Int.reduceEq, Int.reduceToNat, Nat.reduceAdd, Nat.reduceSub, Nat.reduceLT, Nat.reduceLeDiff, Nat.reduceEqDiff, reduceIte, String.reduceEq, Option.bind_some, ite_self, s1, s2, Rw.isS, Rw.nv]
      | set s n v =>
        have i2 : fIxD (enc (.set s n v)) (.int 2) = some (.str n) := rfl
        have i3 : fIxD (enc (.set s n v)) (.int 3) = some (.str v) := rfl
        by_cases c : s = "answer"
        · have hb : decide (s = Str.ofString "answer") = true := decide_eq_true c
          simp -implicitDefEqProofs only [nsAll, pcs, List.getElem?_cons_zero, List.getElem?_cons_succ, List.set_cons_zero, List.set_cons_succ, List.length_cons, List.length_nil, if_true, if_false, eq_self, Bool.false_eq_true, Bool.true_eq_false, Bool.not_true, Bool.not_false, decide_true, decide_false, and_self, and_true, true_and, List.cons_append, List.nil_append, Option.some.injEq, Nat.zero_lt_succ, Nat.succ_lt_succ_iff, Nat.lt_add_one, gt_iff_lt, ge_iff_le, Int.reduceLT, Int.reduceLE, Int.reduceAdd, Int.reduceSub, Int.reduceMul, Int.reduceNeg, Int.reduceEq, Int.reduceToNat, Nat.reduceAdd, Nat.reduceSub, Nat.reduceLT, Nat.reduceLeDiff, Nat.reduceEqDiff, reduceIte, String.reduceEq, Option.bind_some, ite_self, s1, s2, i2, i3, Rw.isS, Rw.nv, hb]
        · have hb : decide (s = Str.ofString "answer") = false := decide_eq_false c
          simp -implicitDefEqProofs only [nsAll, pcs, List.getElem?_cons_zero, List.getElem?_cons_succ, List.set_cons_zero, List.set_cons_succ, List.length_cons, List.length_nil, if_true, if_false, eq_self, Bool.false_eq_true, Bool.true_eq_false, Bool.not_true, Bool.not_false, decide_true, decide_false, and_self, and_true, true_and, List.cons_append, List.nil_append, Option.some.injEq, Nat.zero_lt_succ, Nat.succ_lt_succ_iff, Nat.lt_add_one, gt_iff_lt, ge_iff_le, Int.reduceLT, Int.reduceLE, Int.reduceAdd, Int.reduceSub, Int.reduceMul, Int.reduceNeg, Int.reduceEq, Int.reduceToNat, Nat.reduceAdd, Nat.reduceSub, Nat.reduceLT, Nat.reduceLeDiff, Nat.reduceEqDiff, reduceIte, String.reduceEq, Option.bind_some, ite_self, s1, s2, i2, i3, Rw.isS, Rw.nv, hb]
      | frm n => simp -implicitDefEqProofs only [nsAll, pcs, List.getElem?_cons_zero, List.getElem?_cons_succ, List.set_cons_zero, List.set_cons_succ, List.length_cons, List.length_nil, if_true, if_false, eq_self, Bool.false_eq_true, Bool.true_eq_false, Bool.not_true, Bool.not_false, decide_true, decide_false, and_self, and_true, true_and, List.cons_append, List.nil_append, Option.some.injEq, Nat.zero_lt_succ, Nat.succ_lt_succ_iff, Nat.lt_add_one, gt_iff_lt, ge_iff_le, Int.reduceLT, Int.reduceLE, Int.reduceAdd, Int.reduceSub, Int.reduceMul, Int.reduceNeg, Int.reduceEq, Int.reduceToNat, Nat.reduceAdd, Nat.reduceSub, Nat.reduceLT, Nat.reduceLeDiff, Nat.reduceEqDiff, reduceIte, String.reduceEq, Option.bind_some, ite_self, s1, s2, Rw.isS, Rw.nv]
  have a3 : fAdd (.lst ((kept g T).map pr)) (.lst ((sets rs "answer").map pr)) = some (.lst ((kept g T ++ sets rs "answer").map pr)) := by
    rw [add_ll (by rw [List.length_map, List.length_map]; omega), List.map_append]
  rw [f_law_outside_]
  simp -implicitDefEqProofs only [nsAll, pcs, List.getElem?_cons_zero, List.getElem?_cons_succ, List.set_cons_zero, List.set_cons_succ, List.length_cons, List.length_nil, if_true, if_false, eq_self, Bool.false_eq_true, Bool.true_eq_false, Bool.not_true, Bool.not_false, decide_true, decide_false, and_self, and_true, true_and, List.cons_append, List.nil_append, Option.some.injEq, Nat.zero_lt_succ, Nat.succ_lt_succ_iff, Nat.lt_add_one, gt_iff_lt, ge_iff_le, Int.reduceLT, Int.reduceLE, Int.reduceAdd, Int.reduceSub, Int.reduceMul, Int.reduceNeg, Int.reduceEq, Int.reduceToNat, Nat.reduceAdd, Nat.reduceSub, Nat.reduceLT, Nat.reduceLeDiff, Nat.reduceEqDiff, reduceIte, String.reduceEq, Option.bind_some, ite_self, h1, e1, c4, c8, a3]
  exact hP
theorem lin_run {i j : Int} (hp : Pok kv rs tr) (hr : Rok rs) (hg : Gok g) (hc : Cl c) (ht : tr.length ≤ 20) (hi : 0 ≤ i) (hi2 : i < 300) (hj : 0 ≤ j) (hj2 : j < 300) :
    f_law_inside [.sh (.dK kv), .sh (.int c), .sh (.tup [.int i, .int j]), .sh (.tup (g.map pr))] = some (.sh (.lst ((inside rs g tr c i j).map pr)), [.sh (.dK kv), .sh (.int c), .sh (.tup [.int i, .int j]), .sh (.tup (g.map pr))]) := by
  refine eq_of fun P hP => ?_
  have hgl := hg.len
  have hrl := hr.len
  have hss : (sets rs "request").length ≤ rs.length := sets_len
  have htl : (tellers rs).length ≤ rs.length := tellers_len
  have hkl : (kept g (shutP rs "request" g ++ tellers rs ++ [("request" : Str)])).length ≤ g.length := kept_len _
  have hsl : (shutL rs "request" g).length ≤ 1300 := by
    have h1 := named_len hg.ok
    have h3 := rowsL_len "request" rs
    have h4 : ((named g).filter nh).length ≤ (named g).length := List.length_filter_le ..
    unfold shutL
    rw [namedL_eq, List.length_append, List.length_cons]
    omega
  have e1 := shutL_run (sd := "request") hr hg
  have hk : kept g (shutP rs "request" g ++ tellers rs ++ [("request" : Str)]) = kept g (shutL rs "request" g ++ [("request" : Str)]) := kept_congr in_req
  have h1 := hp.h
  have h2 := hp.t
  have t1 := tk_run hi hi2
  have t2 := tk_run hj hj2
  obtain ⟨r1, r2⟩ := rq_run hi hi2 hj hj2
  unfold inside at hP
  rw [hk] at hP hkl
  have a1 : fAdd (.lst ((shutL rs "request" g).map D.str)) (.lst [.str "request"]) = some (.lst ((shutL rs "request" g ++ [("request" : Str)]).map D.str)) := by
    rw [add_ll (by rw [List.length_map, List.length_cons, List.length_nil]; omega), List.map_append (l₂ := [("request" : Str)])]; rfl
  generalize hT : shutL rs "request" g ++ [("request" : Str)] = T at *
  have c5 : law_inside_c5 [some (.sh (.dK kv)), some (.sh (.int c)), some (.sh (.tup [.int i, .int j])), some (.sh (.tup (g.map pr))), some (.sh (.tup (rs.map enc))), some (.sh (.lst (T.map D.str))), none, none, none, none, none, none, none, none] = .ok (.ol ((kept g T).map pr)) [some (.sh (.dK kv)), some (.sh (.int c)), some (.sh (.tup [.int i, .int j])), some (.sh (.tup (g.map pr))), some (.sh (.tup (rs.map enc))), some (.sh (.lst (T.map D.str))), none, none, none, none, none, none, none, none] := by
    rw [law_inside_c5_]
    refine lc_filter pr pr (fun p => !inS p.1 T) g (ρ1 := [some (.sh (.dK kv)), some (.sh (.int c)), some (.sh (.tup [.int i, .int j])), some (.sh (.tup (g.map pr))), some (.sh (.tup (rs.map enc))), some (.sh (.lst (T.map D.str))), none, none, none, none, none, none, none, none]) ?_ rfl (by omega) fun p _ => ?_
    · simp -implicitDefEqProofs only [nsAll, pcs, List.getElem?_cons_zero, List.getElem?_cons_succ, List.set_cons_zero, List.set_cons_succ, List.length_cons, List.length_nil, if_true, if_false, eq_self, Bool.false_eq_true, Bool.true_eq_false, Bool.not_true, Bool.not_false, decide_true, decide_false, and_self, and_true, true_and, List.cons_append, List.nil_append, Option.some.injEq, Nat.zero_lt_succ, Nat.succ_lt_succ_iff, Nat.lt_add_one, gt_iff_lt, ge_iff_le, Int.reduceLT, Int.reduceLE, Int.reduceAdd, Int.reduceSub, Int.reduceMul, Int.reduceNeg, Int.reduceEq, Int.reduceToNat, Nat.reduceAdd, Nat.reduceSub, Nat.reduceLT, Nat.reduceLeDiff, Nat.reduceEqDiff, reduceIte, String.reduceEq, Option.bind_some, ite_self]
    · have hn := notin_strs p.1 T
      generalize inS p.1 T = b at hn ⊢
      cases b <;> simp -implicitDefEqProofs only [nsAll, pcs, List.getElem?_cons_zero, List.getElem?_cons_succ, List.set_cons_zero, List.set_cons_succ, List.length_cons, List.length_nil, if_true, if_false, eq_self, Bool.false_eq_true, Bool.true_eq_false, Bool.not_true, Bool.not_false, decide_true, decide_false, and_self, and_true, true_and, List.cons_append, List.nil_append, Option.some.injEq, Nat.zero_lt_succ, Nat.succ_lt_succ_iff, Nat.lt_add_one, gt_iff_lt, ge_iff_le, Int.reduceLT, Int.reduceLE, Int.reduceAdd, Int.reduceSub, Int.reduceMul, Int.reduceNeg, Int.reduceEq, Int.reduceToNat, Nat.reduceAdd, Nat.reduceSub, Nat.reduceLT, Nat.reduceLeDiff, Nat.reduceEqDiff, reduceIte, String.reduceEq, Option.bind_some, ite_self, hn]
  have c9 : law_inside_c9 [some (.sh (.dK kv)), some (.sh (.int c)), some (.sh (.tup [.int i, .int j])), some (.sh (.tup (g.map pr))), some (.sh (.tup (rs.map enc))), some (.sh (.lst (T.map D.str))), some (.ol ((kept g T).map pr)), none, none, none, none, none, none, none] = .ok (.ol ((sets rs "request").map pr)) [some (.sh (.dK kv)), some (.sh (.int c)), some (.sh (.tup [.int i, .int j])), some (.sh (.tup (g.map pr))), some (.sh (.tup (rs.map enc))), some (.sh (.lst (T.map D.str))), some (.ol ((kept g T).map pr)), none, none, none, none, none, none, none] := by
    rw [law_inside_c9_, sets_map]
    refine lc_filter enc (fun r => pr r.nv) (Rw.isS "request") rs (ρ1 := [some (.sh (.dK kv)), some (.sh (.int c)), some (.sh (.tup [.int i, .int j])), some (.sh (.tup (g.map pr))), some (.sh (.tup (rs.map enc))), some (.sh (.lst (T.map D.str))), some (.ol ((kept g T).map pr)), none, none, none, none, none, none, none]) ?_ rfl (by omega) fun r hrr => ?_
    · simp -implicitDefEqProofs only [nsAll, pcs, List.getElem?_cons_zero, List.getElem?_cons_succ, List.set_cons_zero, List.set_cons_succ, List.length_cons, List.length_nil, if_true, if_false, eq_self, Bool.false_eq_true, Bool.true_eq_false, Bool.not_true, Bool.not_false, decide_true, decide_false, and_self, and_true, true_and, List.cons_append, List.nil_append, Option.some.injEq, Nat.zero_lt_succ, Nat.succ_lt_succ_iff, Nat.lt_add_one, gt_iff_lt, ge_iff_le, Int.reduceLT, Int.reduceLE, Int.reduceAdd, Int.reduceSub, Int.reduceMul, Int.reduceNeg, Int.reduceEq, Int.reduceToNat, Nat.reduceAdd, Nat.reduceSub, Nat.reduceLT, Nat.reduceLeDiff, Nat.reduceEqDiff, reduceIte, String.reduceEq, Option.bind_some, ite_self]
    · obtain ⟨d, s1, s2⟩ := isS_run (sd := "request") (hr.ok r hrr) req_tx
      cases r with
      | hide s n => simp -implicitDefEqProofs only [nsAll, pcs, List.getElem?_cons_zero, List.getElem?_cons_succ, List.set_cons_zero, List.set_cons_succ, List.length_cons, List.length_nil, if_true, if_false, eq_self, Bool.false_eq_true, Bool.true_eq_false, Bool.not_true, Bool.not_false, decide_true, decide_false, and_self, and_true, true_and, List.cons_append, List.nil_append, Option.some.injEq, Nat.zero_lt_succ, Nat.succ_lt_succ_iff, Nat.lt_add_one, gt_iff_lt, ge_iff_le, Int.reduceLT, Int.reduceLE, Int.reduceAdd, Int.reduceSub, Int.reduceMul, Int.reduceNeg, Int.reduceEq, Int.reduceToNat, Nat.reduceAdd, Nat.reduceSub, Nat.reduceLT, Nat.reduceLeDiff, Nat.reduceEqDiff, reduceIte, String.reduceEq, Option.bind_some, ite_self, s1, s2, Rw.isS, Rw.nv]
      | set s n v =>
        have i2 : fIxD (enc (.set s n v)) (.int 2) = some (.str n) := rfl
        have i3 : fIxD (enc (.set s n v)) (.int 3) = some (.str v) := rfl
        by_cases c : s = "request"
        · have hb : decide (s = Str.ofString "request") = true := decide_eq_true c
          simp -implicitDefEqProofs only [nsAll, pcs, List.getElem?_cons_zero, List.getElem?_cons_succ, List.set_cons_zero, List.set_cons_succ, List.length_cons, List.length_nil, if_true, if_false, eq_self, Bool.false_eq_true, Bool.true_eq_false, Bool.not_true, Bool.not_false, decide_true, decide_false, and_self, and_true, true_and, List.cons_append, List.nil_append, Option.some.injEq, Nat.zero_lt_succ, Nat.succ_lt_succ_iff, Nat.lt_add_one, gt_iff_lt, ge_iff_le, Int.reduceLT, Int.reduceLE, Int.reduceAdd, Int.reduceSub, Int.reduceMul, Int.reduceNeg, Int.reduceEq, Int.reduceToNat, Nat.reduceAdd, Nat.reduceSub, Nat.reduceLT, Nat.reduceLeDiff, Nat.reduceEqDiff, reduceIte, String.reduceEq, Option.bind_some, ite_self, s1, s2, i2, i3, Rw.isS, Rw.nv, hb]
        · have hb : decide (s = Str.ofString "request") = false := decide_eq_false c
          simp -implicitDefEqProofs only [nsAll, pcs, List.getElem?_cons_zero, List.getElem?_cons_succ, List.set_cons_zero, List.set_cons_succ, List.length_cons, List.length_nil, if_true, if_false, eq_self, Bool.false_eq_true, Bool.true_eq_false, Bool.not_true, Bool.not_false, decide_true, decide_false, and_self, and_true, true_and, List.cons_append, List.nil_append, Option.some.injEq, Nat.zero_lt_succ, Nat.succ_lt_succ_iff, Nat.lt_add_one, gt_iff_lt, ge_iff_le, Int.reduceLT, Int.reduceLE, Int.reduceAdd, Int.reduceSub, Int.reduceMul, Int.reduceNeg, Int.reduceEq, Int.reduceToNat, Nat.reduceAdd, Nat.reduceSub, Nat.reduceLT, Nat.reduceLeDiff, Nat.reduceEqDiff, reduceIte, String.reduceEq, Option.bind_some, ite_self, s1, s2, i2, i3, Rw.isS, Rw.nv, hb]
      | frm n => simp -implicitDefEqProofs only [nsAll, pcs, List.getElem?_cons_zero, List.getElem?_cons_succ, List.set_cons_zero, List.set_cons_succ, List.length_cons, List.length_nil, if_true, if_false, eq_self, Bool.false_eq_true, Bool.true_eq_false, Bool.not_true, Bool.not_false, decide_true, decide_false, and_self, and_true, true_and, List.cons_append, List.nil_append, Option.some.injEq, Nat.zero_lt_succ, Nat.succ_lt_succ_iff, Nat.lt_add_one, gt_iff_lt, ge_iff_le, Int.reduceLT, Int.reduceLE, Int.reduceAdd, Int.reduceSub, Int.reduceMul, Int.reduceNeg, Int.reduceEq, Int.reduceToNat, Nat.reduceAdd, Nat.reduceSub, Nat.reduceLT, Nat.reduceLeDiff, Nat.reduceEqDiff, reduceIte, String.reduceEq, Option.bind_some, ite_self, s1, s2, Rw.isS, Rw.nv]
  have a3 := cat_ll (xs := (kept g T).map pr) (ys := (sets rs "request").map pr) (by rw [List.length_map, List.length_map]; omega)
  have c12 : ∀ L : List D, law_inside_c12 [some (.sh (.dK kv)), some (.sh (.int c)), some (.sh (.tup [.int i, .int j])), some (.sh (.tup (g.map pr))), some (.sh (.tup (rs.map enc))), some (.sh (.lst (T.map D.str))), some (.ol L), none, none, none, none, none, none, none] = .ok (.ol (tr.map fun p => .bl (decide (p.1 ≤ c) && decide (c ≤ p.2)))) [some (.sh (.dK kv)), some (.sh (.int c)), some (.sh (.tup [.int i, .int j])), some (.sh (.tup (g.map pr))), some (.sh (.tup (rs.map enc))), some (.sh (.lst (T.map D.str))), some (.ol L), none, none, none, none, none, none, none] := by
    intro L
    rw [law_inside_c12_]
    refine lc_map enT (fun p => .bl (decide (p.1 ≤ c) && decide (c ≤ p.2))) tr (ρ1 := [some (.sh (.dK kv)), some (.sh (.int c)), some (.sh (.tup [.int i, .int j])), some (.sh (.tup (g.map pr))), some (.sh (.tup (rs.map enc))), some (.sh (.lst (T.map D.str))), some (.ol L), none, none, none, none, none, none, none]) ?_ rfl (by omega) fun p _ => ?_
    · simp -implicitDefEqProofs only [nsAll, pcs, List.getElem?_cons_zero, List.getElem?_cons_succ, List.set_cons_zero, List.set_cons_succ, List.length_cons, List.length_nil, if_true, if_false, eq_self, Bool.false_eq_true, Bool.true_eq_false, Bool.not_true, Bool.not_false, decide_true, decide_false, and_self, and_true, true_and, List.cons_append, List.nil_append, Option.some.injEq, Nat.zero_lt_succ, Nat.succ_lt_succ_iff, Nat.lt_add_one, gt_iff_lt, ge_iff_le, Int.reduceLT, Int.reduceLE, Int.reduceAdd, Int.reduceSub, Int.reduceMul, Int.reduceNeg, Int.reduceEq, Int.reduceToNat, Nat.reduceAdd, Nat.reduceSub, Nat.reduceLT, Nat.reduceLeDiff, Nat.reduceEqDiff, reduceIte, String.reduceEq, Option.bind_some, ite_self, h2]
    · by_cases c1 : p.1 ≤ c
      · by_cases c2 : c ≤ p.2 <;> simp -implicitDefEqProofs only [nsAll, pcs, List.getElem?_cons_zero, List.getElem?_cons_succ, List.set_cons_zero, List.set_cons_succ, List.length_cons, List.length_nil, if_true, if_false, eq_self, Bool.false_eq_true, Bool.true_eq_false, Bool.not_true, Bool.not_false, decide_true, decide_false, and_self, and_true, true_and, List.cons_append, List.nil_append, Option.some.injEq, Nat.zero_lt_succ, Nat.succ_lt_succ_iff, Nat.lt_add_one, gt_iff_lt, ge_iff_le, Int.reduceLT, Int.reduceLE, Int.reduceAdd, Int.reduceSub, Int.reduceMul, Int.reduceNeg, Int.reduceEq, Int.reduceToNat, Nat.reduceAdd, Nat.reduceSub, Nat.reduceLT, Nat.reduceLeDiff, Nat.reduceEqDiff, reduceIte, String.reduceEq, Option.bind_some, ite_self, c1, c2, Bool.true_and, Bool.and_true, Bool.and_false]
      · simp -implicitDefEqProofs only [nsAll, pcs, List.getElem?_cons_zero, List.getElem?_cons_succ, List.set_cons_zero, List.set_cons_succ, List.length_cons, List.length_nil, if_true, if_false, eq_self, Bool.false_eq_true, Bool.true_eq_false, Bool.not_true, Bool.not_false, decide_true, decide_false, and_self, and_true, true_and, List.cons_append, List.nil_append, Option.some.injEq, Nat.zero_lt_succ, Nat.succ_lt_succ_iff, Nat.lt_add_one, gt_iff_lt, ge_iff_le, Int.reduceLT, Int.reduceLE, Int.reduceAdd, Int.reduceSub, Int.reduceMul, Int.reduceNeg, Int.reduceEq, Int.reduceToNat, Nat.reduceAdd, Nat.reduceSub, Nat.reduceLT, Nat.reduceLeDiff, Nat.reduceEqDiff, reduceIte, String.reduceEq, Option.bind_some, ite_self, c1, Bool.false_and]
  have ha := any_map (fun p : Int × Int => decide (p.1 ≤ c) && decide (c ≤ p.2)) tr
  rw [show (tr.any fun p => decide (p.1 ≤ c) && decide (c ≤ p.2)) = trust tr c from rfl] at ha
  rw [f_law_inside_]
  simp -implicitDefEqProofs only [nsAll, pcs, List.getElem?_cons_zero, List.getElem?_cons_succ, List.set_cons_zero, List.set_cons_succ, List.length_cons, List.length_nil, if_true, if_false, eq_self, Bool.false_eq_true, Bool.true_eq_false, Bool.not_true, Bool.not_false, decide_true, decide_false, and_self, and_true, true_and, List.cons_append, List.nil_append, Option.some.injEq, Nat.zero_lt_succ, Nat.succ_lt_succ_iff, Nat.lt_add_one, gt_iff_lt, ge_iff_le, Int.reduceLT, Int.reduceLE, Int.reduceAdd, Int.reduceSub, Int.reduceMul, Int.reduceNeg, Int.reduceEq, Int.reduceToNat, Nat.reduceAdd, Nat.reduceSub, Nat.reduceLT, Nat.reduceLeDiff, Nat.reduceEqDiff, reduceIte, String.reduceEq, Option.bind_some, ite_self, h1, e1, a1, c5, c9, a3, c12, ha, law_inside_p24_]
  refine loop_in (C := fun o => P (kFM [] [.sh (.dK kv), .sh (.int c), .sh (.tup [.int i, .int j]), .sh (.tup (g.map pr))] o)) enc (fun xs ρ => ∃ qs x8 x9 x10, qs ++ xs = rs ∧ ρ = [some (.sh (.dK kv)), some (.sh (.int c)), some (.sh (.tup [.int i, .int j])), some (.sh (.tup (g.map pr))), some (.sh (.tup (rs.map enc))), some (.sh (.lst (T.map D.str))), some (.ol ((kept g T ++ sets rs "request" ++ tells qs g tr c).map pr)), some (.sh (.bl (trust tr c))), x8, x9, x10, none, none, none]) ⟨[], none, none, none, rfl, by rw [← List.map_append, show tells [] g tr c = [] from rfl, List.append_nil]⟩ ?_ ?_
  · rintro r xs _ ⟨qs, x8, x9, x10, hq, rfl⟩
    have tq : ∀ a b : List Rw, tells (a ++ b) g tr c = tells a g tr c ++ tells b g tr c := fun a b => by unfold tells tellers; rw [List.filter_append, List.map_append, List.map_append]
    have hz : ((kept g T ++ sets rs "request" ++ tells qs g tr c).map pr).length < 1000000 := by
      have h5 : (tellers qs).length ≤ qs.length := tellers_len
      have h6 : qs.length ≤ rs.length := by rw [← hq, List.length_append]; omega
      have h7 : (tells qs g tr c).length = (tellers qs).length := by unfold tells; rw [List.length_map]
      rw [List.length_map, List.length_append, List.length_append]
      omega
    have fin : ∀ (l : List D) (y8 y9 y10 : Option R), l = (kept g T ++ sets rs "request" ++ tells qs g tr c).map pr ++ (tells [r] g tr c).map pr → ∃ qs x8 x9 x10, qs ++ xs = rs ∧ ([some (.sh (.dK kv)), some (.sh (.int c)), some (.sh (.tup [.int i, .int j])), some (.sh (.tup (g.map pr))), some (.sh (.tup (rs.map enc))), some (.sh (.lst (T.map D.str))), some (.ol l), some (.sh (.bl (trust tr c))), y8, y9, y10, none, none, none] : Rho) = [some (.sh (.dK kv)), some (.sh (.int c)), some (.sh (.tup [.int i, .int j])), some (.sh (.tup (g.map pr))), some (.sh (.tup (rs.map enc))), some (.sh (.lst (T.map D.str))), some (.ol ((kept g T ++ sets rs "request" ++ tells qs g tr c).map pr)), some (.sh (.bl (trust tr c))), x8, x9, x10, none, none, none] :=
      fun l y8 y9 y10 hl => ⟨qs ++ [r], y8, y9, y10, by rw [← hq]; simp, by rw [tq, hl, ← List.append_assoc, ← List.map_append]⟩
    generalize (kept g T ++ sets rs "request" ++ tells qs g tr c).map pr = L at hz fin ⊢
    cases r with
    | hide s n =>
      simp -implicitDefEqProofs only [nsAll, pcs, List.getElem?_cons_zero, List.getElem?_cons_succ, List.set_cons_zero, List.set_cons_succ, List.length_cons, List.length_nil, if_true, if_false, eq_self, Bool.false_eq_true, Bool.true_eq_false, Bool.not_true, Bool.not_false, decide_true, decide_false, and_self, and_true, true_and, List.cons_append, List.nil_append, Option.some.injEq, Nat.zero_lt_succ, Nat.succ_lt_succ_iff, Nat.lt_add_one, gt_iff_lt, ge_iff_le, Int.reduceLT, Int.reduceLE, Int.reduceAdd, Int.reduceSub, Int.reduceMul, Int.reduceNeg, Int.reduceEq, Int.reduceToNat, Nat.reduceAdd, Nat.reduceSub, Nat.reduceLT, Nat.reduceLeDiff, Nat.reduceEqDiff, reduceIte, String.reduceEq, Option.bind_some, ite_self, enc]
      exact fin _ _ _ _ (by rw [show tells [.hide s n] g tr c = [] from rfl, List.map_nil, List.append_nil])
    | set s n v =>
      simp -implicitDefEqProofs only [nsAll, pcs, List.getElem?_cons_zero, List.getElem?_cons_succ, List.set_cons_zero, List.set_cons_succ, List.length_cons, List.length_nil, if_true, if_false, eq_self, Bool.false_eq_true, Bool.true_eq_false, Bool.not_true, Bool.not_false, decide_true, decide_false, and_self, and_true, true_and, List.cons_append, List.nil_append, Option.some.injEq, Nat.zero_lt_succ, Nat.succ_lt_succ_iff, Nat.lt_add_one, gt_iff_lt, ge_iff_le, Int.reduceLT, Int.reduceLE, Int.reduceAdd, Int.reduceSub, Int.reduceMul, Int.reduceNeg, Int.reduceEq, Int.reduceToNat, Nat.reduceAdd, Nat.reduceSub, Nat.reduceLT, Nat.reduceLeDiff, Nat.reduceEqDiff, reduceIte, String.reduceEq, Option.bind_some, ite_self, enc]
      exact fin _ _ _ _ (by rw [show tells [.set s n v] g tr c = [] from rfl, List.map_nil, List.append_nil])
    | frm n =>
      have e5 := dot_run hc.lo hc.hi
      have hcc : law_inside_c16 [some (.sh (.dK kv)), some (.sh (.int c)), some (.sh (.tup [.int i, .int j])), some (.sh (.tup (g.map pr))), some (.sh (.tup (rs.map enc))), some (.sh (.lst (T.map D.str))), some (.ol L), some (.sh (.bl (trust tr c))), some (.sh (.tup [.str "from", .str n])), x9, x10, none, none, none] = .ok (.ol ((g.filter fun p => decide (p.1 = n)).map fun p => D.str p.2)) [some (.sh (.dK kv)), some (.sh (.int c)), some (.sh (.tup [.int i, .int j])), some (.sh (.tup (g.map pr))), some (.sh (.tup (rs.map enc))), some (.sh (.lst (T.map D.str))), some (.ol L), some (.sh (.bl (trust tr c))), some (.sh (.tup [.str "from", .str n])), x9, none, none, none, none] := by
        rw [law_inside_c16_]
        refine lc_filter pr (fun p => D.str p.2) (fun p => decide (p.1 = n)) g (ρ1 := [some (.sh (.dK kv)), some (.sh (.int c)), some (.sh (.tup [.int i, .int j])), some (.sh (.tup (g.map pr))), some (.sh (.tup (rs.map enc))), some (.sh (.lst (T.map D.str))), some (.ol L), some (.sh (.bl (trust tr c))), some (.sh (.tup [.str "from", .str n])), x9, x10, none, none, none]) ?_ rfl (by omega) fun p _ => ?_
        · simp -implicitDefEqProofs only [nsAll, pcs, List.getElem?_cons_zero, List.getElem?_cons_succ, List.set_cons_zero, List.set_cons_succ, List.length_cons, List.length_nil, if_true, if_false, eq_self, Bool.false_eq_true, Bool.true_eq_false, Bool.not_true, Bool.not_false, decide_true, decide_false, and_self, and_true, true_and, List.cons_append, List.nil_append, Option.some.injEq, Nat.zero_lt_succ, Nat.succ_lt_succ_iff, Nat.lt_add_one, gt_iff_lt, ge_iff_le, Int.reduceLT, Int.reduceLE, Int.reduceAdd, Int.reduceSub, Int.reduceMul, Int.reduceNeg, Int.reduceEq, Int.reduceToNat, Nat.reduceAdd, Nat.reduceSub, Nat.reduceLT, Nat.reduceLeDiff, Nat.reduceEqDiff, reduceIte, String.reduceEq, Option.bind_some, ite_self]
        · by_cases d : p.1 = n <;> simp -implicitDefEqProofs only [nsAll, pcs, List.getElem?_cons_zero, List.getElem?_cons_succ, List.set_cons_zero, List.set_cons_succ, List.length_cons, List.length_nil, if_true, if_false, eq_self, Bool.false_eq_true, Bool.true_eq_false, Bool.not_true, Bool.not_false, decide_true, decide_false, and_self, and_true, true_and, List.cons_append, List.nil_append, Option.some.injEq, Nat.zero_lt_succ, Nat.succ_lt_succ_iff, Nat.lt_add_one, gt_iff_lt, ge_iff_le, Int.reduceLT, Int.reduceLE, Int.reduceAdd, Int.reduceSub, Int.reduceMul, Int.reduceNeg, Int.reduceEq, Int.reduceToNat, Nat.reduceAdd, Nat.reduceSub, Nat.reduceLT, Nat.reduceLeDiff, Nat.reduceEqDiff, reduceIte, String.reduceEq, Option.bind_some, ite_self, d]
      have fin2 : ∀ y8 y9 y10 : Option R, _ := fun y8 y9 y10 => fin (L ++ [.tup [.str n, .str (fv g tr c n)]]) y8 y9 y10 rfl
      clear fin
      unfold fv at fin2
      cases hf : g.filter fun p => decide (p.1 = n) with
      | nil =>
        rw [hf, List.map_nil] at hcc
        rw [hf] at fin2
        simp -implicitDefEqProofs only [nsAll, pcs, List.getElem?_cons_zero, List.getElem?_cons_succ, List.set_cons_zero, List.set_cons_succ, List.length_cons, List.length_nil, if_true, if_false, eq_self, Bool.false_eq_true, Bool.true_eq_false, Bool.not_true, Bool.not_false, decide_true, decide_false, and_self, and_true, true_and, List.cons_append, List.nil_append, Option.some.injEq, Nat.zero_lt_succ, Nat.succ_lt_succ_iff, Nat.lt_add_one, gt_iff_lt, ge_iff_le, Int.reduceLT, Int.reduceLE, Int.reduceAdd, Int.reduceSub, Int.reduceMul, Int.reduceNeg, Int.reduceEq, Int.reduceToNat, Nat.reduceAdd, Nat.reduceSub, Nat.reduceLT, Nat.reduceLeDiff, Nat.reduceEqDiff, reduceIte, String.reduceEq, Option.bind_some, ite_self, enc, hcc, e5, cut10, deq_l0, hz]
        exact fin2 _ _ _
      | cons p t =>
        have hpm : p ∈ g := (List.mem_filter.mp (by rw [hf]; exact List.mem_cons_self .. : p ∈ g.filter fun p => decide (p.1 = n))).1
        have hv := (hg.ok p hpm).2
        have hl := hv.len
        have hl2 := hc.len
        have dl := deq_l1 hv.tx
        have a1 : fAdd (.str p.2) (.str ", ") = some (.str (p.2 ++ ", ")) := add_ss (by rw [comma_len]; omega)
        have a2 : fAdd (.str (p.2 ++ ", ")) (.str (txt c)) = some (.str (p.2 ++ ", " ++ txt c)) := add_ss (by rw [len_app, comma_len]; omega)
        rw [hf, List.map_cons] at hcc
        rw [hf] at fin2
        dsimp only at fin2
        generalize trust tr c = b at *
        cases b with
        | true =>
          rw [if_pos rfl] at fin2
          simp -implicitDefEqProofs only [nsAll, pcs, List.getElem?_cons_zero, List.getElem?_cons_succ, List.set_cons_zero, List.set_cons_succ, List.length_cons, List.length_nil, if_true, if_false, eq_self, Bool.false_eq_true, Bool.true_eq_false, Bool.not_true, Bool.not_false, decide_true, decide_false, and_self, and_true, true_and, List.cons_append, List.nil_append, Option.some.injEq, Nat.zero_lt_succ, Nat.succ_lt_succ_iff, Nat.lt_add_one, gt_iff_lt, ge_iff_le, Int.reduceLT, Int.reduceLE, Int.reduceAdd, Int.reduceSub, Int.reduceMul, Int.reduceNeg, Int.reduceEq, Int.reduceToNat, Nat.reduceAdd, Nat.reduceSub, Nat.reduceLT, Nat.reduceLeDiff, Nat.reduceEqDiff, reduceIte, String.reduceEq, Option.bind_some, ite_self, enc, hcc, e5, cut1, dl, a1, a2, hz]
          exact fin2 _ _ _
        | false =>
          rw [if_neg Bool.false_ne_true] at fin2
          simp -implicitDefEqProofs only [nsAll, pcs, List.getElem?_cons_zero, List.getElem?_cons_succ, List.set_cons_zero, List.set_cons_succ, List.length_cons, List.length_nil, if_true, if_false, eq_self, Bool.false_eq_true, Bool.true_eq_false, Bool.not_true, Bool.not_false, decide_true, decide_false, and_self, and_true, true_and, List.cons_append, List.nil_append, Option.some.injEq, Nat.zero_lt_succ, Nat.succ_lt_succ_iff, Nat.lt_add_one, gt_iff_lt, ge_iff_le, Int.reduceLT, Int.reduceLE, Int.reduceAdd, Int.reduceSub, Int.reduceMul, Int.reduceNeg, Int.reduceEq, Int.reduceToNat, Nat.reduceAdd, Nat.reduceSub, Nat.reduceLT, Nat.reduceLeDiff, Nat.reduceEqDiff, reduceIte, String.reduceEq, Option.bind_some, ite_self, enc, hcc, e5, cut1, dl, hz]
          exact fin2 _ _ _
  · rintro _ ⟨qs, x8, x9, x10, hq, rfl⟩
    rw [List.append_nil] at hq
    subst hq
    have htt : (tells qs g tr c).length ≤ qs.length := by unfold tells; rw [List.length_map]; exact htl
    have a5 : fAdd (.lst ((kept g T ++ sets qs "request" ++ tells qs g tr c).map pr)) (.lst [.tup [.str "request", .str (rq i j)]]) = some (.lst ((kept g T ++ sets qs "request" ++ tells qs g tr c ++ [(("request" : Str), rq i j)]).map pr)) := by
      rw [add_ll (by rw [List.length_map, List.length_append, List.length_append, List.length_cons, List.length_nil]; omega), List.map_append (l₂ := [(("request" : Str), rq i j)])]; rfl
    simp -implicitDefEqProofs only [nsAll, pcs, List.getElem?_cons_zero, List.getElem?_cons_succ, List.set_cons_zero, List.set_cons_succ, List.length_cons, List.length_nil, if_true, if_false, eq_self, Bool.false_eq_true, Bool.true_eq_false, Bool.not_true, Bool.not_false, decide_true, decide_false, and_self, and_true, true_and, List.cons_append, List.nil_append, Option.some.injEq, Nat.zero_lt_succ, Nat.succ_lt_succ_iff, Nat.lt_add_one, gt_iff_lt, ge_iff_le, Int.reduceLT, Int.reduceLE, Int.reduceAdd, Int.reduceSub, Int.reduceMul, Int.reduceNeg, Int.reduceEq, Int.reduceToNat, Nat.reduceAdd, Nat.reduceSub, Nat.reduceLT, Nat.reduceLeDiff, Nat.reduceEqDiff, reduceIte, String.reduceEq, Option.bind_some, ite_self, t1, t2, r1, r2, a5]
    exact hP
end
end K49

set_option Elab.async false
set_option linter.all false
set_option maxRecDepth 100000
set_option maxHeartbeats 4000000
namespace K49
open PySem PySem.Spec PyProof.Rows L2 DL
/-! ### what is given -/
def nms : List Str := ["a", "b-2", "x", "cookie", "accept", "9", "host", "request", "y", "a"]
theorem nms_tx : ∀ n ∈ nms, Tx n := by decide +kernel
theorem pick_str (s : Tw) (l : List Str) (h0 : l ≠ []) (h1 : l.length ≤ 100000) : ∃ x s', x ∈ l ∧ f_law_pick [tpR s, .sh (.lst (l.map D.str))] = some (.sh (.str x), [tpR s', .sh (.lst (l.map D.str))]) := by
  obtain ⟨d, s', hd, e⟩ := pick_ex s (l.map D.str) (by simpa using h0) (by rw [List.length_map]; exact h1)
  obtain ⟨x, hx, rfl⟩ := List.mem_map.mp hd
  exact ⟨x, s', hx, e⟩
def v5 : List Str := ["", "1", "1.2.3.4", "u, v", "w"]
def v8 : List Str := ["close", "A,x", "host, Cookie", "y  accept", "b-2,,9", "request", "connection", ""]
theorem v5_ok : ∀ v ∈ v5, Vok v := fun v h => vals_ok v (List.mem_append_left (bs := v8) (as := v5) h)
theorem v8_ok : ∀ v ∈ v8, Vok v := fun v h => vals_ok v (List.mem_append_right v5 h)
theorem con_tx : Tx (Str.ofString "connection") := by decide +kernel
theorem ins_map (g : List (Str × Str)) (k : Nat) (p : Str × Str) : insD (g.map pr) (k : Int) (pr p) = (g.take k ++ [p] ++ g.drop k).map pr := by
  unfold insD
  rw [show (k : Int).toNat = k by omega, List.map_append, List.map_append, List.map_take, List.map_drop]
  rfl
theorem given_ex (s : Tw) : ∃ g s', Gok g ∧ f_law_given [tpR s] = some (.sh (.tup (g.map pr)), [tpR s']) := by
  suffices h : ∀ P : Option (R × List R) → Prop, (∀ g s', Gok g → P (some (.sh (.tup (g.map pr)), [tpR s']))) → P (f_law_given [tpR s]) from h (fun o => ∃ g s', Gok g ∧ o = some (.sh (.tup (g.map pr)), [tpR s'])) fun g s' h => ⟨g, s', h, rfl⟩
  intro P hP
  obtain ⟨n, s1, hn, e1⟩ := draw_nat s 9 (by decide) (by decide)
  have er : fRng1 [.int (n : Int)] = some ((List.range n).map fun i => .int (0 + (i : Nat))) := rng1_nat (by omega)
  have nmse : ([.str "a", .str "b-2", .str "x", .str "cookie", .str "accept", .str "9", .str "host", .str "request", .str "y", .str "a"] : List D) = nms.map D.str := rfl
  rw [f_law_given_]
  obtain ⟨g, ⟨s2, b2⟩, hc, hq⟩ := lc_rel (vs := [4]) (mi := mItR fRng1 (mCons (mF (mFn1 0 f_law_draw (mCons (mC (.int 9)) mNil))) mNil)) (g := gNm 4) (mt := mTrue) (me := law_given_e2) (ρ := [some (tpR s), some (.ol (nms.map D.str)), none, none, none]) (ρ1 := [some (tpR s1), some (.ol (nms.map D.str)), none, none, none])
    (fun i : Nat => .int (0 + (i : Nat))) pr (fun s : Tw × Bool => [some (tpR s.1), some (if s.2 = true then .ol (nms.map D.str) else .sh (.lst (nms.map D.str))), none, none, none]) (fun _ p => Tx p.1 ∧ Vok p.2) (List.range n) (s := (s1, true)) (by simp -implicitDefEqProofs only [nsAll, pcs, List.getElem?_cons_zero, List.getElem?_cons_succ, List.set_cons_zero, List.set_cons_succ, List.length_cons, List.length_nil, if_true, if_false, eq_self, Bool.false_eq_true, Bool.true_eq_false, Bool.not_true, Bool.not_false, decide_true, decide_false, and_self, and_true, true_and, List.cons_append, List.nil_append, Option.some.injEq, Nat.zero_lt_succ, Nat.succ_lt_succ_iff, Nat.lt_add_one, gt_iff_lt, ge_iff_le, Int.reduceLT, Int.reduceLE, Int.reduceAdd, Int.reduceSub, Int.reduceMul, Int.reduceNeg, Int.reduceEq, Int.reduceToNat, Nat.reduceAdd, Nat.reduceSub, Nat.reduceLT, Nat.reduceLeDiff, Nat.reduceEqDiff, reduceIte, String.reduceEq, Option.bind_some, ite_self, e1, er]) rfl (by rw [List.length_range]; omega) (by
      rintro x _ ⟨s, b⟩
      obtain ⟨a, s3, ha, e3⟩ := pick_str s nms (by unfold nms; exact List.cons_ne_nil _ _) (by unfold nms; decide)
      obtain ⟨v, s4, hv, e4⟩ := pick_str s3 v5 (by unfold v5; exact List.cons_ne_nil _ _) (by unfold v5; decide)
      refine ⟨(a, v), (s4, false), ?_, nms_tx a ha, v5_ok v hv⟩
      have v5e : ([.str "", .str "1", .str "1.2.3.4", .str "u, v", .str "w"] : List D) = v5.map D.str := rfl
      generalize nms.map D.str = N at *
      cases b
      · simp -implicitDefEqProofs only [nsAll, pcs, List.getElem?_cons_zero, List.getElem?_cons_succ, List.set_cons_zero, List.set_cons_succ, List.length_cons, List.length_nil, if_true, if_false, eq_self, Bool.false_eq_true, Bool.true_eq_false, Bool.not_true, Bool.not_false, decide_true, decide_false, and_self, and_true, true_and, List.cons_append, List.nil_append, Option.some.injEq, Nat.zero_lt_succ, Nat.succ_lt_succ_iff, Nat.lt_add_one, gt_iff_lt, ge_iff_le, Int.reduceLT, Int.reduceLE, Int.reduceAdd, Int.reduceSub, Int.reduceMul, Int.reduceNeg, Int.reduceEq, Int.reduceToNat, Nat.reduceAdd, Nat.reduceSub, Nat.reduceLT, Nat.reduceLeDiff, Nat.reduceEqDiff, reduceIte, String.reduceEq, Option.bind_some, ite_self, e3, v5e, e4]
      · simp -implicitDefEqProofs only [nsAll, pcs, List.getElem?_cons_zero, List.getElem?_cons_succ, List.set_cons_zero, List.set_cons_succ, List.length_cons, List.length_nil, if_true, if_false, eq_self, Bool.false_eq_true, Bool.true_eq_false, Bool.not_true, Bool.not_false, decide_true, decide_false, and_self, and_true, true_and, List.cons_append, List.nil_append, Option.some.injEq, Nat.zero_lt_succ, Nat.succ_lt_succ_iff, Nat.lt_add_one, gt_iff_lt, ge_iff_le, Int.reduceLT, Int.reduceLE, Int.reduceAdd, Int.reduceSub, Int.reduceMul, Int.reduceNeg, Int.reduceEq, Int.reduceToNat, Nat.reduceAdd, Nat.reduceSub, Nat.reduceLT, Nat.reduceLeDiff, Nat.reduceEqDiff, reduceIte, String.reduceEq, Option.bind_some, ite_self, e3, v5e, e4])
  have hgl : g.length ≤ 8 := by rw [hq.len, List.length_range]; omega
  have hg : ∀ p ∈ g, Tx p.1 ∧ Vok p.2 := fun p hp => by
    obtain ⟨_, _, h⟩ := hq.of hp
    exact h
  rw [← law_given_c3_] at hc
  generalize hN : (if (s2, b2).2 = true then R.ol (nms.map D.str) else .sh (.lst (nms.map D.str))) = N at hc
  obtain ⟨k, s3, hk, e3⟩ := draw_nat s2 2 (by decide) (by decide)
  by_cases c : (k : Int) = 0
  · obtain ⟨v, s4, hv, e4⟩ := pick_str s3 v8 (by unfold v8; exact List.cons_ne_nil _ _) (by unfold v8; decide)
    have v8e : ([.str "close", .str "A,x", .str "host, Cookie", .str "y  accept", .str "b-2,,9", .str "request", .str "connection", .str ""] : List D) = v8.map D.str := rfl
    obtain ⟨j, s5, hj, e5⟩ := draw_nat s4 (((g.map pr).length : Nat) + 1) (by omega) (by rw [List.length_map]; omega)
    have hz : (g.map pr).length < 1000000 ∧ (0 : Int) ≤ j ∧ (j : Int) < 1000000000 := ⟨by rw [List.length_map]; omega, by omega, by rw [List.length_map] at hj; omega⟩
    have ei := ins_map g j (("connection" : Str), v)
    have fin := hP (g.take j ++ [(("connection" : Str), v)] ++ g.drop j) s5 ⟨by simp only [List.length_append, List.length_take, List.length_drop, List.length_cons, List.length_nil]; omega, fun p hp => by
      rcases List.mem_append.mp hp with hp | hp
      · rcases List.mem_append.mp hp with hp | hp
        · exact hg p (List.mem_of_mem_take hp)
        · rw [List.mem_singleton.mp hp]
          exact ⟨con_tx, v8_ok v hv⟩
      · exact hg p (List.mem_of_mem_drop hp)⟩
    rw [← ei] at fin
    generalize hG : g.map pr = G at hc hz e5 fin
    simp -implicitDefEqProofs only [nsAll, pcs, List.getElem?_cons_zero, List.getElem?_cons_succ, List.set_cons_zero, List.set_cons_succ, List.length_cons, List.length_nil, if_true, if_false, eq_self, Bool.false_eq_true, Bool.true_eq_false, Bool.not_true, Bool.not_false, decide_true, decide_false, and_self, and_true, true_and, List.cons_append, List.nil_append, Option.some.injEq, Nat.zero_lt_succ, Nat.succ_lt_succ_iff, Nat.lt_add_one, gt_iff_lt, ge_iff_le, Int.reduceLT, Int.reduceLE, Int.reduceAdd, Int.reduceSub, Int.reduceMul, Int.reduceNeg, Int.reduceEq, Int.reduceToNat, Nat.reduceAdd, Nat.reduceSub, Nat.reduceLT, Nat.reduceLeDiff, Nat.reduceEqDiff, reduceIte, String.reduceEq, Option.bind_some, ite_self, nmse, hc, e3, c, v8e, e4, e5, hz]
    exact fin
  · have fin := hP g s3 ⟨by omega, hg⟩
    simp -implicitDefEqProofs only [nsAll, pcs, List.getElem?_cons_zero, List.getElem?_cons_succ, List.set_cons_zero, List.set_cons_succ, List.length_cons, List.length_nil, if_true, if_false, eq_self, Bool.false_eq_true, Bool.true_eq_false, Bool.not_true, Bool.not_false, decide_true, decide_false, and_self, and_true, true_and, List.cons_append, List.nil_append, Option.some.injEq, Nat.zero_lt_succ, Nat.succ_lt_succ_iff, Nat.lt_add_one, gt_iff_lt, ge_iff_le, Int.reduceLT, Int.reduceLE, Int.reduceAdd, Int.reduceSub, Int.reduceMul, Int.reduceNeg, Int.reduceEq, Int.reduceToNat, Nat.reduceAdd, Nat.reduceSub, Nat.reduceLT, Nat.reduceLeDiff, Nat.reduceEqDiff, reduceIte, String.reduceEq, Option.bind_some, ite_self, nmse, hc, e3, c]
    exact fin
end K49

set_option Elab.async false
set_option linter.all false
set_option maxRecDepth 100000
set_option maxHeartbeats 4000000
namespace K49
open PySem PySem.Spec PyProof.Rows L2 DL
/-! ### the policy -/
def n6 : List Str := ["a", "b-2", "x", "cookie", "accept", "9"]
theorem n6_tx : ∀ n ∈ n6, Tx n := by decide +kernel
def w3 : List Str := ["", "new", "v, w"]
theorem w3_tx : ∀ n ∈ w3, Tx n := by decide +kernel
def sd2 : List Str := ["request", "answer"]
theorem sd2_tx : ∀ n ∈ sd2, Tx n := by decide +kernel
theorem row_ex (s : Tw) {sd o v : Str} (h1 : Tx sd) (h2 : Tx o) (h3 : Tx v) : ∃ (r : Rw) (s' : Tw), r.ok ∧ f_law_pick [tpR s, .sh (.lst [.tup [.str "hide", .str sd, .str o], .tup [.str "set", .str sd, .str o, .str v], .tup [.str "from", .str o]])] = some (.sh (enc r), [tpR s', .sh (.lst [.tup [.str "hide", .str sd, .str o], .tup [.str "set", .str sd, .str o, .str v], .tup [.str "from", .str o]])]) := by
  obtain ⟨d, s', hd, e⟩ := pick_ex s [.tup [.str "hide", .str sd, .str o], .tup [.str "set", .str sd, .str o, .str v], .tup [.str "from", .str o]] (List.cons_ne_nil _ _) (by simp)
  simp only [List.mem_cons, List.not_mem_nil, or_false] at hd
  rcases hd with rfl | rfl | rfl
  · exact ⟨.hide sd o, s', ⟨h1, h2⟩, e⟩
  · exact ⟨.set sd o v, s', ⟨h1, h2, h3⟩, e⟩
  · exact ⟨.frm o, s', h2, e⟩
abbrev webR : R := .sh (.str "web")
abbrev srvR : R := .sh (.tup [.tup [.str "s", .int 167772161, .int 80, .int 1, .str "up"]])
abbrev prefs : List D := [.tup [], .tup [.str "b"], .tup [.str "b", .str "c"], .tup [.str "b", .str "c", .str "d", .str "e", .str "f"]]
def Pf (d : D) : Prop := ∃ ds, d = .tup ds ∧ ds.length ≤ 5
theorem prefs_ok : ∀ d ∈ prefs, Pf d := by
  intro d hd
  simp only [List.mem_cons, List.not_mem_nil, or_false] at hd
  rcases hd with rfl | rfl | rfl | rfl <;> exact ⟨_, rfl, by decide⟩
theorem times_run : fMulS (.tup [.int 60]) (.int 9) = some (.tup [.int 60, .int 60, .int 60, .int 60, .int 60, .int 60, .int 60, .int 60, .int 60]) := by with_unfolding_all rfl
section
variable {rs : List Rw} {x1 x2 x4 x5 x6 x7 x8 x9 x10 x11 x12 x13 x14 x15 x16 x17 x18 : Option R} {s : Tw}
theorem isF_ix (r : Rw) : ∃ k : Str, fIxD (enc r) (.int 0) = some (.str k) ∧ decide (k = Str.ofString "from") = r.isF := by
  cases r with
  | hide s n => exact ⟨_, rfl, (by decide +kernel : decide (Str.ofString "hide" = Str.ofString "from") = false)⟩
  | set s n v => exact ⟨_, rfl, (by decide +kernel : decide (Str.ofString "set" = Str.ofString "from") = false)⟩
  | frm n => exact ⟨_, rfl, (by decide +kernel : decide (Str.ofString "from" = Str.ofString "from") = true)⟩
theorem c9_run (hl : rs.length ≤ 20) : law_policy_c9 [some (tpR s), x1, x2, some (.ol (rs.map enc)), x4, x5, x6, x7, x8, x9, x10, x11, x12, x13, x14, x15, x16, x17, none] = .ok (.ol ((rs.filter fun r => !r.isF).map enc)) [some (tpR s), x1, x2, some (.sh (.lst (rs.map enc))), x4, x5, x6, x7, x8, x9, x10, x11, x12, x13, x14, x15, x16, x17, none] := by
  rw [law_policy_c9_]
  refine lc_filter enc enc (fun r => !r.isF) rs (ρ1 := [some (tpR s), x1, x2, some (.sh (.lst (rs.map enc))), x4, x5, x6, x7, x8, x9, x10, x11, x12, x13, x14, x15, x16, x17, none]) ?_ rfl (by omega) fun r _ => ?_
  · simp -implicitDefEqProofs only [nsAll, pcs, List.getElem?_cons_zero, List.getElem?_cons_succ, List.set_cons_zero, List.set_cons_succ, List.length_cons, List.length_nil, if_true, if_false, eq_self, Bool.false_eq_true, Bool.true_eq_false, Bool.not_true, Bool.not_false, decide_true, decide_false, and_self, and_true, true_and, List.cons_append, List.nil_append, Option.some.injEq, Nat.zero_lt_succ, Nat.succ_lt_succ_iff, Nat.lt_add_one, gt_iff_lt, ge_iff_le, Int.reduceLT, Int.reduceLE, Int.reduceAdd, Int.reduceSub, Int.reduceMul, Int.reduceNeg, Int.reduceEq, Int.reduceToNat, Nat.reduceAdd, Nat.reduceSub, Nat.reduceLT, Nat.reduceLeDiff, Nat.reduceEqDiff, reduceIte, String.reduceEq, Option.bind_some, ite_self]
  · obtain ⟨k, h1, h2⟩ := isF_ix r
    cases hb : r.isF
    · rw [hb] at h2; simp -implicitDefEqProofs only [nsAll, pcs, List.getElem?_cons_zero, List.getElem?_cons_succ, List.set_cons_zero, List.set_cons_succ, List.length_cons, List.length_nil, if_true, if_false, eq_self, Bool.false_eq_true, Bool.true_eq_false, Bool.not_true, Bool.not_false, decide_true, decide_false, and_self, and_true, true_and, List.cons_append, List.nil_append, Option.some.injEq, Nat.zero_lt_succ, Nat.succ_lt_succ_iff, Nat.lt_add_one, gt_iff_lt, ge_iff_le, Int.reduceLT, Int.reduceLE, Int.reduceAdd, Int.reduceSub, Int.reduceMul, Int.reduceNeg, Int.reduceEq, Int.reduceToNat, Nat.reduceAdd, Nat.reduceSub, Nat.reduceLT, Nat.reduceLeDiff, Nat.reduceEqDiff, reduceIte, String.reduceEq, Option.bind_some, ite_self, h1, h2]
    · rw [hb] at h2; simp -implicitDefEqProofs only [nsAll, pcs, List.getElem?_cons_zero, List.getElem?_cons_succ, List.set_cons_zero, List.set_cons_succ, List.length_cons, List.length_nil, if_true, if_false, eq_self, Bool.false_eq_true, Bool.true_eq_false, Bool.not_true, Bool.not_false, decide_true, decide_false, and_self, and_true, true_and, List.cons_append, List.nil_append, Option.some.injEq, Nat.zero_lt_succ, Nat.succ_lt_succ_iff, Nat.lt_add_one, gt_iff_lt, ge_iff_le, Int.reduceLT, Int.reduceLE, Int.reduceAdd, Int.reduceSub, Int.reduceMul, Int.reduceNeg, Int.reduceEq, Int.reduceToNat, Nat.reduceAdd, Nat.reduceSub, Nat.reduceLT, Nat.reduceLeDiff, Nat.reduceEqDiff, reduceIte, String.reduceEq, Option.bind_some, ite_self, h1, h2]
theorem c12_run (hl : rs.length ≤ 20) : law_policy_c12 [some (tpR s), x1, x2, some (.sh (.lst (rs.map enc))), x4, x5, x6, x7, x8, x9, x10, x11, x12, x13, x14, x15, x16, x17, none] = .ok (.ol ((rs.filter Rw.isF).map enc)) [some (tpR s), x1, x2, some (.sh (.lst (rs.map enc))), x4, x5, x6, x7, x8, x9, x10, x11, x12, x13, x14, x15, x16, x17, none] := by
  rw [law_policy_c12_]
  refine lc_filter enc enc Rw.isF rs (ρ1 := [some (tpR s), x1, x2, some (.sh (.lst (rs.map enc))), x4, x5, x6, x7, x8, x9, x10, x11, x12, x13, x14, x15, x16, x17, none]) ?_ rfl (by omega) fun r _ => ?_
  · simp -implicitDefEqProofs only [nsAll, pcs, List.getElem?_cons_zero, List.getElem?_cons_succ, List.set_cons_zero, List.set_cons_succ, List.length_cons, List.length_nil, if_true, if_false, eq_self, Bool.false_eq_true, Bool.true_eq_false, Bool.not_true, Bool.not_false, decide_true, decide_false, and_self, and_true, true_and, List.cons_append, List.nil_append, Option.some.injEq, Nat.zero_lt_succ, Nat.succ_lt_succ_iff, Nat.lt_add_one, gt_iff_lt, ge_iff_le, Int.reduceLT, Int.reduceLE, Int.reduceAdd, Int.reduceSub, Int.reduceMul, Int.reduceNeg, Int.reduceEq, Int.reduceToNat, Nat.reduceAdd, Nat.reduceSub, Nat.reduceLT, Nat.reduceLeDiff, Nat.reduceEqDiff, reduceIte, String.reduceEq, Option.bind_some, ite_self]
  · obtain ⟨k, h1, h2⟩ := isF_ix r
    cases hb : r.isF
    · rw [hb] at h2; simp -implicitDefEqProofs only [nsAll, pcs, List.getElem?_cons_zero, List.getElem?_cons_succ, List.set_cons_zero, List.set_cons_succ, List.length_cons, List.length_nil, if_true, if_false, eq_self, Bool.false_eq_true, Bool.true_eq_false, Bool.not_true, Bool.not_false, decide_true, decide_false, and_self, and_true, true_and, List.cons_append, List.nil_append, Option.some.injEq, Nat.zero_lt_succ, Nat.succ_lt_succ_iff, Nat.lt_add_one, gt_iff_lt, ge_iff_le, Int.reduceLT, Int.reduceLE, Int.reduceAdd, Int.reduceSub, Int.reduceMul, Int.reduceNeg, Int.reduceEq, Int.reduceToNat, Nat.reduceAdd, Nat.reduceSub, Nat.reduceLT, Nat.reduceLeDiff, Nat.reduceEqDiff, reduceIte, String.reduceEq, Option.bind_some, ite_self, h1, h2]
    · rw [hb] at h2; simp -implicitDefEqProofs only [nsAll, pcs, List.getElem?_cons_zero, List.getElem?_cons_succ, List.set_cons_zero, List.set_cons_succ, List.length_cons, List.length_nil, if_true, if_false, eq_self, Bool.false_eq_true, Bool.true_eq_false, Bool.not_true, Bool.not_false, decide_true, decide_false, and_self, and_true, true_and, List.cons_append, List.nil_append, Option.some.injEq, Nat.zero_lt_succ, Nat.succ_lt_succ_iff, Nat.lt_add_one, gt_iff_lt, ge_iff_le, Int.reduceLT, Int.reduceLE, Int.reduceAdd, Int.reduceSub, Int.reduceMul, Int.reduceNeg, Int.reduceEq, Int.reduceToNat, Nat.reduceAdd, Nat.reduceSub, Nat.reduceLT, Nat.reduceLeDiff, Nat.reduceEqDiff, reduceIte, String.reduceEq, Option.bind_some, ite_self, h1, h2]
end
theorem cut4 (l : List Rw) : cutD (l.map enc) none (some 4) = (l.take 4).map enc := by rw [show (4 : Int) = ((4 : Nat) : Int) from rfl, cut_nat, List.map_take]
theorem rng_ (n : Nat) (h : n ≤ 1000) : fRng1 [.int (n : Int)] = some ((List.range n).map fun i : Nat => D.int (i : Int)) := by
  rw [rng1_nat (by omega), rng_map]
  simp only [Int.zero_add]
theorem tr_ex (s : Tw) : ∃ (tr : List (Int × Int)) (s' : Tw), tr.length ≤ 20 ∧ f_law_pick [tpR s, .sh (.lst [.tup [], .tup [.tup [.int 16909060, .int 16909070]], .tup [.tup [.int 0, .int 134744071], .tup [.int 134744073, .int 4294967295]]])] = some (.sh (.tup (tr.map enT)), [tpR s', .sh (.lst [.tup [], .tup [.tup [.int 16909060, .int 16909070]], .tup [.tup [.int 0, .int 134744071], .tup [.int 134744073, .int 4294967295]]])]) := by
  obtain ⟨d, s', hd, e⟩ := pick_ex s [.tup [], .tup [.tup [.int 16909060, .int 16909070]], .tup [.tup [.int 0, .int 134744071], .tup [.int 134744073, .int 4294967295]]] (List.cons_ne_nil _ _) (by simp)
  simp only [List.mem_cons, List.not_mem_nil, or_false] at hd
  rcases hd with rfl | rfl | rfl
  · exact ⟨[], s', by decide, e⟩
  · exact ⟨[(16909060, 16909070)], s', by decide, e⟩
  · exact ⟨[(0, 134744071), (134744073, 4294967295)], s', by decide, e⟩
theorem five_ex (s : Tw) : ∃ (k : Int) (s' : Tw), f_law_pick [tpR s, .sh (.lst [.int 5, .int 5, .int 4, .int 1])] = some (.sh (.int k), [tpR s', .sh (.lst [.int 5, .int 5, .int 4, .int 1])]) := by
  obtain ⟨d, s', hd, e⟩ := pick_ex s [.int 5, .int 5, .int 4, .int 1] (List.cons_ne_nil _ _) (by simp)
  simp only [List.mem_cons, List.not_mem_nil, or_false] at hd
  rcases hd with rfl | rfl | rfl | rfl <;> exact ⟨_, s', e⟩
abbrev ky (s : String) : Key := Sum.inr (Str.ofString s)
theorem put1 (a b c d e : D) : putD (mergeD [] [(ky "routes", a), (ky "headers", b), (ky "errors", c), (ky "trusted", d)]) (ky "services") e = [(ky "routes", a), (ky "headers", b), (ky "errors", c), (ky "trusted", d), (ky "services", e)] := by with_unfolding_all rfl
theorem put2 (a b c d e f : D) : putD [(ky "routes", a), (ky "headers", b), (ky "errors", c), (ky "trusted", d), (ky "services", e)] (ky "limits") f = [(ky "routes", a), (ky "headers", b), (ky "errors", c), (ky "trusted", d), (ky "services", e), (ky "limits", f)] := by with_unfolding_all rfl
theorem put3 (a b c d e f g : D) : putD [(ky "routes", a), (ky "headers", b), (ky "errors", c), (ky "trusted", d), (ky "services", e), (ky "limits", f)] (ky "rules") g = [(ky "routes", a), (ky "headers", b), (ky "errors", c), (ky "trusted", d), (ky "services", e), (ky "limits", f), (ky "rules", g)] := by with_unfolding_all rfl
theorem put4 (a b c d e f g h : D) : putD [(ky "routes", a), (ky "headers", b), (ky "errors", c), (ky "trusted", d), (ky "services", e), (ky "limits", f), (ky "rules", g)] (ky "times") h = [(ky "routes", a), (ky "headers", b), (ky "errors", c), (ky "trusted", d), (ky "services", e), (ky "limits", f), (ky "rules", g), (ky "times", h)] := by with_unfolding_all rfl
theorem put5 (a b c d e f g h i : D) : putD [(ky "routes", a), (ky "headers", b), (ky "errors", c), (ky "trusted", d), (ky "services", e), (ky "limits", f), (ky "rules", g), (ky "times", h)] (ky "room") i = [(ky "routes", a), (ky "headers", b), (ky "errors", c), (ky "trusted", d), (ky "services", e), (ky "limits", f), (ky "rules", g), (ky "times", h), (ky "room", i)] := by with_unfolding_all rfl
theorem put6 (a b c d e f g h i j : D) : putD [(ky "routes", a), (ky "headers", b), (ky "errors", c), (ky "trusted", d), (ky "services", e), (ky "limits", f), (ky "rules", g), (ky "times", h), (ky "room", i)] (ky "keep") j = [(ky "routes", a), (ky "headers", b), (ky "errors", c), (ky "trusted", d), (ky "services", e), (ky "limits", f), (ky "rules", g), (ky "times", h), (ky "room", i), (ky "keep", j)] := by with_unfolding_all rfl
theorem len1 (a b c d : D) : (mergeD [] [(ky "routes", a), (ky "headers", b), (ky "errors", c), (ky "trusted", d)]).length < 1000000 := by
  have : mergeD [] [(ky "routes", a), (ky "headers", b), (ky "errors", c), (ky "trusted", d)] = [(ky "routes", a), (ky "headers", b), (ky "errors", c), (ky "trusted", d)] := by with_unfolding_all rfl
  rw [this]
  simp
theorem pok_of (a c e f g h i j : D) {rs : List Rw} {tr : List (Int × Int)} : Pok [(ky "routes", a), (ky "headers", .tup (rs.map enc)), (ky "errors", c), (ky "trusted", .tup (tr.map enT)), (ky "services", e), (ky "limits", f), (ky "rules", g), (ky "times", h), (ky "room", i), (ky "keep", j)] rs tr := ⟨by with_unfolding_all rfl, by with_unfolding_all rfl⟩
end K49

set_option Elab.async false
set_option linter.all false
set_option maxRecDepth 100000
set_option maxHeartbeats 4000000
namespace K49
open PySem PySem.Spec PyProof.Rows L2 DL
section
variable {P : Option (R × List R) → Prop}
abbrev Cp (P : Option (R × List R) → Prop) (s : Tw) (o : SOut) : Prop := P (kFM [0] [tpR s, webR, srvR] o)
theorem word6 (k : Nat) (h : k < 6) : ∃ w : Str, atI ([.str "refused", .str "no route", .str "none", .str "limit", .str "broken", .str "late"] : List D) (k : Int) = some (.str w) ∧ w.length ≤ 20 := by
  rcases (show k = 0 ∨ k = 1 ∨ k = 2 ∨ k = 3 ∨ k = 4 ∨ k = 5 by omega) with rfl | rfl | rfl | rfl | rfl | rfl <;> exact ⟨_, by with_unfolding_all rfl, by decide +kernel⟩
theorem sorry_len : (Str.ofString "sorry: ").length = 7 := by decide +kernel
/-- behind the routes -/
theorem pol_end {s0 : Tw} {rs : List Rw} (hr : Rok rs) (hP : ∀ kv rs tr s', Pok kv rs tr → Rok rs → tr.length ≤ 20 → P (some (.oK kv, [tpR s', webR, srvR])))
    (s : Tw) (Q : List D) (y4 y5 y6 y8 y9 y10 y11 y12 y13 : Option R) : Cp P s0 ((mSeq law_policy_p25 (mSeq law_policy_p28 (mSeq law_policy_p29 (mSeq law_policy_p30 (mSeq law_policy_p31 (mSeq law_policy_p32 (mSeq law_policy_p33 (mSeq law_policy_p34 (mSeq law_policy_p35 (mSeq law_policy_p36 law_policy_p37))))))))))
      [some (tpR s), some webR, some srvR, some (.ol (rs.map enc)), y4, y5, y6, some (.ol Q), y8, y9, y10, y11, y12, y13, none, none, none, none, none]) := by
  obtain ⟨es, s2, hc, hq⟩ := lc_rel (vs := [4]) (mi := mItR fRng1 (mCons (mC (.int 6)) mNil)) (g := gNm 4) (mt := mTrue) (me := law_policy_e26)
    (ρ := [some (tpR s), some webR, some srvR, some (.ol (rs.map enc)), y4, y5, y6, some (.ol Q), y8, y9, y10, y11, y12, y13, some (.ol [.str "refused", .str "no route", .str "none", .str "limit", .str "broken", .str "late"]), none, none, none, none])
    (ρ1 := [some (tpR s), some webR, some srvR, some (.ol (rs.map enc)), y4, y5, y6, some (.ol Q), y8, y9, y10, y11, y12, y13, some (.ol [.str "refused", .str "no route", .str "none", .str "limit", .str "broken", .str "late"]), none, none, none, none])
    (fun i : Nat => .int (i : Int)) (fun d : D => d) (fun s : Tw => [some (tpR s), some webR, some srvR, some (.ol (rs.map enc)), none, y5, y6, some (.ol Q), y8, y9, y10, y11, y12, y13, some (.ol [.str "refused", .str "no route", .str "none", .str "limit", .str "broken", .str "late"]), none, none, none, none]) (fun _ _ => True) (List.range 6) (s := s)
    (by have er := rng_ 6 (by decide)
        rw [show ((6 : Nat) : Int) = 6 from rfl] at er
        simp -implicitDefEqProofs only [nsAll, pcs, List.getElem?_cons_zero, List.getElem?_cons_succ, List.set_cons_zero, List.set_cons_succ, List.length_cons, List.length_nil, if_true, if_false, eq_self, Bool.false_eq_true, Bool.true_eq_false, Bool.not_true, Bool.not_false, decide_true, decide_false, and_self, and_true, true_and, List.cons_append, List.nil_append, Option.some.injEq, Nat.zero_lt_succ, Nat.succ_lt_succ_iff, Nat.lt_add_one, gt_iff_lt, ge_iff_le, Int.reduceLT, Int.reduceLE, Int.reduceAdd, Int.reduceSub, Int.reduceMul, Int.reduceNeg, Int.reduceEq, Int.reduceToNat, Nat.reduceAdd, Nat.reduceSub, Nat.reduceLT, Nat.reduceLeDiff, Nat.reduceEqDiff, reduceIte, String.reduceEq, Option.bind_some, ite_self, er]) rfl (by decide) (by
      intro x hx s
      obtain ⟨w, hw, hwl⟩ := word6 x (List.mem_range.mp hx)
      generalize ([.str "refused", .str "no route", .str "none", .str "limit", .str "broken", .str "late"] : List D) = W at hw ⊢
      obtain ⟨k, s3, hk, e3⟩ := draw_nat s 5 (by decide) (by decide)
      have a1 : fAdd (.str "sorry: ") (.str w) = some (.str ("sorry: " ++ w)) := add_ss (by rw [sorry_len]; omega)
      obtain ⟨d, s4, hd, e4⟩ := pick_ex s3 [.str "", .str "no", .str ("sorry: " ++ w)] (List.cons_ne_nil _ _) (by simp)
      refine ⟨.tup [.str w, .int (400 + 7 * x + k), d], s4, ?_, trivial⟩
      simp -implicitDefEqProofs only [nsAll, pcs, List.getElem?_cons_zero, List.getElem?_cons_succ, List.set_cons_zero, List.set_cons_succ, List.length_cons, List.length_nil, if_true, if_false, eq_self, Bool.false_eq_true, Bool.true_eq_false, Bool.not_true, Bool.not_false, decide_true, decide_false, and_self, and_true, true_and, List.cons_append, List.nil_append, Option.some.injEq, Nat.zero_lt_succ, Nat.succ_lt_succ_iff, Nat.lt_add_one, gt_iff_lt, ge_iff_le, Int.reduceLT, Int.reduceLE, Int.reduceAdd, Int.reduceSub, Int.reduceMul, Int.reduceNeg, Int.reduceEq, Int.reduceToNat, Nat.reduceAdd, Nat.reduceSub, Nat.reduceLT, Nat.reduceLeDiff, Nat.reduceEqDiff, reduceIte, String.reduceEq, Option.bind_some, ite_self, hw, e3, a1, e4])
  rw [← law_policy_c27_, List.map_id'] at hc
  obtain ⟨tr, s3, ht, e3⟩ := tr_ex s2
  obtain ⟨d4, s4, hd4, e4⟩ := pick_ex s3 [.int 1, .int 2, .int 9] (List.cons_ne_nil _ _) (by simp)
  obtain ⟨d5, s5, hd5, e5⟩ := pick_ex s4 [.tup [], .tup [.str "outside"]] (List.cons_ne_nil _ _) (by simp)
  have t1 := times_run
  have fin := fun a c e f g h i j => hP _ rs tr s5 (pok_of a c e f g h i j (rs := rs) (tr := tr)) hr ht
  show P _
  simp -implicitDefEqProofs only [nsAll, pcs, List.getElem?_cons_zero, List.getElem?_cons_succ, List.set_cons_zero, List.set_cons_succ, List.length_cons, List.length_nil, if_true, if_false, eq_self, Bool.false_eq_true, Bool.true_eq_false, Bool.not_true, Bool.not_false, decide_true, decide_false, and_self, and_true, true_and, List.cons_append, List.nil_append, Option.some.injEq, Nat.zero_lt_succ, Nat.succ_lt_succ_iff, Nat.lt_add_one, gt_iff_lt, ge_iff_le, Int.reduceLT, Int.reduceLE, Int.reduceAdd, Int.reduceSub, Int.reduceMul, Int.reduceNeg, Int.reduceEq, Int.reduceToNat, Nat.reduceAdd, Nat.reduceSub, Nat.reduceLT, Nat.reduceLeDiff, Nat.reduceEqDiff, reduceIte, String.reduceEq, Option.bind_some, ite_self, hc, e3, e4, e5, t1, len1, put1, put2, put3, put4, put5, put6]
  exact fin _ _ _ _ _ _ _ _
end
end K49

set_option Elab.async false
set_option linter.all false
set_option maxRecDepth 100000
set_option maxHeartbeats 4000000
namespace K49
open PySem PySem.Spec PyProof.Rows L2 DL
section
variable {P : Option (R × List R) → Prop}
abbrev rest24 : Rho → SOut := (mSeq law_policy_p25 (mSeq law_policy_p28 (mSeq law_policy_p29 (mSeq law_policy_p30 (mSeq law_policy_p31 (mSeq law_policy_p32 (mSeq law_policy_p33 (mSeq law_policy_p34 (mSeq law_policy_p35 (mSeq law_policy_p36 law_policy_p37))))))))))
/-- the routes -/
theorem pol_routes {s0 : Tw} {rs : List Rw} (hr : Rok rs) (hP : ∀ kv rs tr s', Pok kv rs tr → Rok rs → tr.length ≤ 20 → P (some (.oK kv, [tpR s', webR, srvR])))
    (s : Tw) (y4 y5 y6 : Option R) : Cp P s0 (kSeq rest24 (law_policy_p24
      [some (tpR s), some webR, some srvR, some (.ol (rs.map enc)), y4, y5, y6, some (.ol []), none, none, none, none, none, none, none, none, none, none, none])) := by
  have hl : ([.str "a", .str "*"] : List D) = ([.str "a", .str "*"] : List D).map fun d => d := rfl
  rw [law_policy_p24_]
  show Cp P s0 (kSeq rest24 _)
  simp -implicitDefEqProofs only [nsAll, pcs, List.getElem?_cons_zero, List.getElem?_cons_succ, List.set_cons_zero, List.set_cons_succ, List.length_cons, List.length_nil, if_true, if_false, eq_self, Bool.false_eq_true, Bool.true_eq_false, Bool.not_true, Bool.not_false, decide_true, decide_false, and_self, and_true, true_and, List.cons_append, List.nil_append, Option.some.injEq, Nat.zero_lt_succ, Nat.succ_lt_succ_iff, Nat.lt_add_one, gt_iff_lt, ge_iff_le, Int.reduceLT, Int.reduceLE, Int.reduceAdd, Int.reduceSub, Int.reduceMul, Int.reduceNeg, Int.reduceEq, Int.reduceToNat, Nat.reduceAdd, Nat.reduceSub, Nat.reduceLT, Nat.reduceLeDiff, Nat.reduceEqDiff, reduceIte, String.reduceEq, Option.bind_some, ite_self]
  rw [hl]
  refine loop_in (C := Cp P s0) (fun d : D => d) (fun xs ρ => ∃ (s : Tw) (Q : List D) (y8 y9 y10 y11 y12 y13 : Option R), Q.length + 4 * xs.length ≤ 8 ∧
    ρ = [some (tpR s), some webR, some srvR, some (.ol (rs.map enc)), y4, y5, y6, some (.ol Q), y8, y9, y10, y11, y12, y13, none, none, none, none, none]) ⟨s, [], _, _, _, _, _, _, by decide, rfl⟩ ?_ ?_
  · rintro host outs _ ⟨s, Q, y8, y9, y10, y11, y12, y13, hQ, rfl⟩
    rw [List.length_cons] at hQ
    simp -implicitDefEqProofs only [nsAll, pcs, List.getElem?_cons_zero, List.getElem?_cons_succ, List.set_cons_zero, List.set_cons_succ, List.length_cons, List.length_nil, if_true, if_false, eq_self, Bool.false_eq_true, Bool.true_eq_false, Bool.not_true, Bool.not_false, decide_true, decide_false, and_self, and_true, true_and, List.cons_append, List.nil_append, Option.some.injEq, Nat.zero_lt_succ, Nat.succ_lt_succ_iff, Nat.lt_add_one, gt_iff_lt, ge_iff_le, Int.reduceLT, Int.reduceLE, Int.reduceAdd, Int.reduceSub, Int.reduceMul, Int.reduceNeg, Int.reduceEq, Int.reduceToNat, Nat.reduceAdd, Nat.reduceSub, Nat.reduceLT, Nat.reduceLeDiff, Nat.reduceEqDiff, reduceIte, String.reduceEq, Option.bind_some, ite_self, law_policy_p22_]
    refine forL_keep (xs := prefs) (fun d : D => d) (fun xs ρ => ∃ (s : Tw) (Q : List D) (y9 y10 y11 y12 y13 : Option R), (∀ d ∈ xs, Pf d) ∧ Q.length + xs.length + 4 * outs.length ≤ 8 ∧
      ρ = [some (tpR s), some webR, some srvR, some (.ol (rs.map enc)), y4, y5, y6, some (.ol Q), some (.sh host), y9, y10, y11, y12, y13, none, none, none, none, none]) _ ⟨s, Q, _, _, _, _, _, prefs_ok, by simp only [List.length_cons, List.length_nil]; omega, rfl⟩ ?_ ?_
    · rintro pf xs _ ⟨s, Q, y9, y10, y11, y12, y13, hpf, hQ, rfl⟩
      obtain ⟨ds, rfl, hds⟩ := hpf pf (List.mem_cons_self ..)
      rw [List.length_cons] at hQ
      have hrest : ∀ d ∈ xs, Pf d := fun d hd => hpf d (List.mem_cons_of_mem _ hd)
      obtain ⟨k, s1, hk, e1⟩ := draw_nat s 4 (by decide) (by decide)
      by_cases c : (0 : Int) < k
      · obtain ⟨m, s2, e2⟩ := five_ex s1
        obtain ⟨d3, s3, hd3, e3⟩ := pick_ex s2 [.tup [], .tup [.str "in"], .tup [.str "p", .str "q"], .tup [.str "p", .str "q", .str "r", .str "s"]] (List.cons_ne_nil _ _) (by simp)
        obtain ⟨k4, s4, hk4, e4⟩ := draw_nat s3 2 (by decide) (by decide)
        obtain ⟨k5, s5, hk5, e5⟩ := draw_nat s4 ((ds.length : Nat) + 1) (by omega) (by omega)
        obtain ⟨d6, s6, hd6, e6⟩ := pick_ex s5 [.int 1, .int 2, .int 5, .int 9] (List.cons_ne_nil _ _) (by simp)
        obtain ⟨k7, s7, hk7, e7⟩ := draw_nat s6 3 (by decide) (by decide)
        have hz : Q.length < 1000000 := by omega
        simp -implicitDefEqProofs only [nsAll, pcs, List.getElem?_cons_zero, List.getElem?_cons_succ, List.set_cons_zero, List.set_cons_succ, List.length_cons, List.length_nil, if_true, if_false, eq_self, Bool.false_eq_true, Bool.true_eq_false, Bool.not_true, Bool.not_false, decide_true, decide_false, and_self, and_true, true_and, List.cons_append, List.nil_append, Option.some.injEq, Nat.zero_lt_succ, Nat.succ_lt_succ_iff, Nat.lt_add_one, gt_iff_lt, ge_iff_le, Int.reduceLT, Int.reduceLE, Int.reduceAdd, Int.reduceSub, Int.reduceMul, Int.reduceNeg, Int.reduceEq, Int.reduceToNat, Nat.reduceAdd, Nat.reduceSub, Nat.reduceLT, Nat.reduceLeDiff, Nat.reduceEqDiff, reduceIte, String.reduceEq, Option.bind_some, ite_self, e1, c, e2, e3, e4, e5, e6, e7, hz]
        exact ⟨s7, _, _, _, _, _, _, hrest, by rw [List.length_append, List.length_cons, List.length_nil]; omega, rfl⟩
      · simp -implicitDefEqProofs only [nsAll, pcs, List.getElem?_cons_zero, List.getElem?_cons_succ, List.set_cons_zero, List.set_cons_succ, List.length_cons, List.length_nil, if_true, if_false, eq_self, Bool.false_eq_true, Bool.true_eq_false, Bool.not_true, Bool.not_false, decide_true, decide_false, and_self, and_true, true_and, List.cons_append, List.nil_append, Option.some.injEq, Nat.zero_lt_succ, Nat.succ_lt_succ_iff, Nat.lt_add_one, gt_iff_lt, ge_iff_le, Int.reduceLT, Int.reduceLE, Int.reduceAdd, Int.reduceSub, Int.reduceMul, Int.reduceNeg, Int.reduceEq, Int.reduceToNat, Nat.reduceAdd, Nat.reduceSub, Nat.reduceLT, Nat.reduceLeDiff, Nat.reduceEqDiff, reduceIte, String.reduceEq, Option.bind_some, ite_self, e1, c]
        exact ⟨s1, _, _, _, _, _, _, hrest, by omega, rfl⟩
    · rintro _ ⟨s, Q, y9, y10, y11, y12, y13, hpf, hQ, rfl⟩
      rw [we_nx]
      exact ⟨s, Q, _, _, _, _, _, _, by rw [List.length_nil] at hQ; omega, rfl⟩
  · rintro _ ⟨s, Q, y8, y9, y10, y11, y12, y13, hQ, rfl⟩
    exact pol_end hr hP s Q _ _ _ _ _ _ _ _ _
end
end K49

set_option Elab.async false
set_option linter.all false
set_option maxRecDepth 100000
set_option maxHeartbeats 4000000
namespace K49
open PySem PySem.Spec PyProof.Rows L2 DL
section
variable {P : Option (R × List R) → Prop}
theorem n6_at (k : Nat) (h : k < 6) : ∃ n : Str, Tx n ∧ atI ([.str "a", .str "b-2", .str "x", .str "cookie", .str "accept", .str "9"] : List D) (k : Int) = some (.str n) := by
  rcases (show k = 0 ∨ k = 1 ∨ k = 2 ∨ k = 3 ∨ k = 4 ∨ k = 5 by omega) with rfl | rfl | rfl | rfl | rfl | rfl
  · exact ⟨"a", by decide +kernel, by with_unfolding_all rfl⟩
  · exact ⟨"b-2", by decide +kernel, by with_unfolding_all rfl⟩
  · exact ⟨"x", by decide +kernel, by with_unfolding_all rfl⟩
  · exact ⟨"cookie", by decide +kernel, by with_unfolding_all rfl⟩
  · exact ⟨"accept", by decide +kernel, by with_unfolding_all rfl⟩
  · exact ⟨"9", by decide +kernel, by with_unfolding_all rfl⟩
theorem policy_ex (s : Tw) : ∃ kv rs tr s', Pok kv rs tr ∧ Rok rs ∧ tr.length ≤ 20 ∧ f_law_policy [tpR s, webR, srvR] = some (.oK kv, [tpR s', webR, srvR]) := by
  suffices h : ∀ P : Option (R × List R) → Prop, (∀ kv rs tr s', Pok kv rs tr → Rok rs → tr.length ≤ 20 → P (some (.oK kv, [tpR s', webR, srvR]))) → P (f_law_policy [tpR s, webR, srvR]) from
    h (fun o => ∃ kv rs tr s', Pok kv rs tr ∧ Rok rs ∧ tr.length ≤ 20 ∧ o = some (.oK kv, [tpR s', webR, srvR])) fun kv rs tr s' a b c => ⟨kv, rs, tr, s', a, b, c, rfl⟩
  intro P hP
  obtain ⟨n, s1, hn, e1⟩ := draw_nat s 6 (by decide) (by decide)
  have er := rng_ n (by omega)
  rw [f_law_policy_]
  simp -implicitDefEqProofs only [nsAll, pcs, List.getElem?_cons_zero, List.getElem?_cons_succ, List.set_cons_zero, List.set_cons_succ, List.length_cons, List.length_nil, if_true, if_false, eq_self, Bool.false_eq_true, Bool.true_eq_false, Bool.not_true, Bool.not_false, decide_true, decide_false, and_self, and_true, true_and, List.cons_append, List.nil_append, Option.some.injEq, Nat.zero_lt_succ, Nat.succ_lt_succ_iff, Nat.lt_add_one, gt_iff_lt, ge_iff_le, Int.reduceLT, Int.reduceLE, Int.reduceAdd, Int.reduceSub, Int.reduceMul, Int.reduceNeg, Int.reduceEq, Int.reduceToNat, Nat.reduceAdd, Nat.reduceSub, Nat.reduceLT, Nat.reduceLeDiff, Nat.reduceEqDiff, reduceIte, String.reduceEq, Option.bind_some, ite_self, e1, er, law_policy_p6_]
  refine loop_in (C := Cp P s) (fun i : Nat => D.int (i : Int)) (fun xs ρ => ∃ (s : Tw) (qs : List Rw) (y4 y5 y6 : Option R), (∀ k ∈ xs, k < 6) ∧ qs.length + xs.length ≤ 6 ∧ (∀ r ∈ qs, r.ok) ∧
    ρ = [some (tpR s), some webR, some srvR, some (.ol (qs.map enc)), y4, y5, y6, none, none, none, none, none, none, none, none, none, none, none, none]) ⟨s1, [], _, _, _, fun k hk => by have := List.mem_range.mp hk; omega, by rw [List.length_range]; simp only [List.length_nil]; omega, (fun r h => by cases h), rfl⟩ ?_ ?_
  · rintro k xs _ ⟨s, qs, y4, y5, y6, hk, hl, ho, rfl⟩
    rw [List.length_cons] at hl
    obtain ⟨o, ho1, ho2⟩ := n6_at k (hk k (List.mem_cons_self ..))
    obtain ⟨sd, s2, hsd, e2⟩ := pick_str s sd2 (by unfold sd2; exact List.cons_ne_nil _ _) (by unfold sd2; decide)
    obtain ⟨v, s3, hv, e3⟩ := pick_str s2 w3 (by unfold w3; exact List.cons_ne_nil _ _) (by unfold w3; decide)
    obtain ⟨r, s4, hr, e4⟩ := row_ex s3 (sd2_tx sd hsd) ho1 (w3_tx v hv)
    have sde : ([.str "request", .str "answer"] : List D) = sd2.map D.str := rfl
    have we : ([.str "", .str "new", .str "v, w"] : List D) = w3.map D.str := rfl
    have hz : (qs.map enc).length < 1000000 := by rw [List.length_map]; omega
    simp -implicitDefEqProofs only [nsAll, pcs, List.getElem?_cons_zero, List.getElem?_cons_succ, List.set_cons_zero, List.set_cons_succ, List.length_cons, List.length_nil, if_true, if_false, eq_self, Bool.false_eq_true, Bool.true_eq_false, Bool.not_true, Bool.not_false, decide_true, decide_false, and_self, and_true, true_and, List.cons_append, List.nil_append, Option.some.injEq, Nat.zero_lt_succ, Nat.succ_lt_succ_iff, Nat.lt_add_one, gt_iff_lt, ge_iff_le, Int.reduceLT, Int.reduceLE, Int.reduceAdd, Int.reduceSub, Int.reduceMul, Int.reduceNeg, Int.reduceEq, Int.reduceToNat, Nat.reduceAdd, Nat.reduceSub, Nat.reduceLT, Nat.reduceLeDiff, Nat.reduceEqDiff, reduceIte, String.reduceEq, Option.bind_some, ite_self, sde, e2, we, e3, e4, ho2, hz]
    exact ⟨s4, qs ++ [r], _, _, _, fun k h => hk k (List.mem_cons_of_mem _ h), by rw [List.length_append, List.length_cons, List.length_nil]; omega, fun x hx => by
      rcases List.mem_append.mp hx with hx | hx
      · exact ho x hx
      · rw [List.mem_singleton.mp hx]; exact hr, by rw [List.map_append]; rfl⟩
  · rintro _ ⟨s', qs, y4, y5, y6, hk, hl, ho, rfl⟩
    rw [List.length_nil] at hl
    have c9 := fun x1 x2 x4 x5 x6 x7 x8 x9 x10 x11 x12 x13 x14 x15 x16 x17 => c9_run (rs := qs) (s := s') (x1 := x1) (x2 := x2) (x4 := x4) (x5 := x5) (x6 := x6) (x7 := x7) (x8 := x8) (x9 := x9) (x10 := x10) (x11 := x11) (x12 := x12) (x13 := x13) (x14 := x14) (x15 := x15) (x16 := x16) (x17 := x17) (by omega)
    have c12 := fun x1 x2 x4 x5 x6 x7 x8 x9 x10 x11 x12 x13 x14 x15 x16 x17 => c12_run (rs := qs) (s := s') (x1 := x1) (x2 := x2) (x4 := x4) (x5 := x5) (x6 := x6) (x7 := x7) (x8 := x8) (x9 := x9) (x10 := x10) (x11 := x11) (x12 := x12) (x13 := x13) (x14 := x14) (x15 := x15) (x16 := x16) (x17 := x17) (by omega)
    have h1 : (qs.filter fun r => !r.isF).length ≤ qs.length := List.length_filter_le ..
    have h2 : (qs.filter Rw.isF).length ≤ qs.length := List.length_filter_le ..
    have h3 : ((qs.filter Rw.isF).take 4).length ≤ (qs.filter Rw.isF).length := by rw [List.length_take]; omega
    have ct := cut4 (qs.filter Rw.isF)
    have cc : fCat (.lst ((qs.filter fun r => !r.isF).map enc)) (.lst (((qs.filter Rw.isF).take 4).map enc)) = some (((qs.filter fun r => !r.isF) ++ (qs.filter Rw.isF).take 4).map enc) := by
      rw [cat_ll (by rw [List.length_map, List.length_map]; omega), List.map_append]
    have hr : Rok ((qs.filter fun r => !r.isF) ++ (qs.filter Rw.isF).take 4) := ⟨by rw [List.length_append]; omega, fun r hr => by
      rcases List.mem_append.mp hr with hr | hr
      · exact ho r (List.mem_filter.mp hr).1
      · exact ho r (List.mem_filter.mp (List.mem_of_mem_take hr)).1⟩
    have fin := fun y4 y5 y6 => pol_routes (P := P) (s0 := s) hr hP s' y4 y5 y6
    generalize (qs.filter fun r => !r.isF) ++ (qs.filter Rw.isF).take 4 = rs at cc hr fin
    simp -implicitDefEqProofs only [nsAll, pcs, List.getElem?_cons_zero, List.getElem?_cons_succ, List.set_cons_zero, List.set_cons_succ, List.length_cons, List.length_nil, if_true, if_false, eq_self, Bool.false_eq_true, Bool.true_eq_false, Bool.not_true, Bool.not_false, decide_true, decide_false, and_self, and_true, true_and, List.cons_append, List.nil_append, Option.some.injEq, Nat.zero_lt_succ, Nat.succ_lt_succ_iff, Nat.lt_add_one, gt_iff_lt, ge_iff_le, Int.reduceLT, Int.reduceLE, Int.reduceAdd, Int.reduceSub, Int.reduceMul, Int.reduceNeg, Int.reduceEq, Int.reduceToNat, Nat.reduceAdd, Nat.reduceSub, Nat.reduceLT, Nat.reduceLeDiff, Nat.reduceEqDiff, reduceIte, String.reduceEq, Option.bind_some, ite_self, c9, c12, ct, cc]
    exact fin _ _ _
end
end K49

set_option Elab.async false
set_option linter.all false
set_option maxRecDepth 100000
set_option maxHeartbeats 4000000
namespace K49
open PySem PySem.Spec PyProof.Rows L2 DL
theorem client_ex (s : Tw) : ∃ (c : Int) (s' : Tw), Cl c ∧ f_law_pick [tpR s, .sh (.lst [.int 16909059, .int 16909060, .int 16909070, .int 16909071, .int 134744071, .int 134744072, .int 134744073, .int 3758096383])] = some (.sh (.int c), [tpR s', .sh (.lst [.int 16909059, .int 16909060, .int 16909070, .int 16909071, .int 134744071, .int 134744072, .int 134744073, .int 3758096383])]) := by
  obtain ⟨d, s', hd, e⟩ := pick_ex s (clients.map D.int) (by unfold clients; exact List.cons_ne_nil _ _) (by unfold clients; simp)
  obtain ⟨c, hc, rfl⟩ := List.mem_map.mp hd
  exact ⟨c, s', clients_ok c hc, e⟩
theorem tx_tk {i : Int} (h0 : 0 ≤ i) (h1 : i < 300) : Tx (tk i) := by
  have := (tk_len0 i.toNat (by omega)).2
  rwa [show ((i.toNat : Nat) : Int) = i by omega] at this
section
variable {rs : List Rw} {g : List (Str × Str)} {tr : List (Int × Int)} {c i j : Int}
theorem shp_all2 {l : List (Str × Str)} (h : ∀ p ∈ l, Tx p.1 ∧ Tx p.2) : Shp 2 (.tup (l.map pr)) := shp_tup fun d hd => by
  obtain ⟨p, hp, rfl⟩ := List.mem_map.mp hd
  exact shp_pr (h p hp).1 (h p hp).2
theorem nv_tx {r : Rw} (h : r.ok) : Tx r.nv.1 ∧ Tx r.nv.2 := by
  cases r with
  | hide s n => exact ⟨h.2, (by decide +kernel : Tx (Str.ofString ""))⟩
  | set s n v => exact ⟨h.2.1, h.2.2⟩
  | frm n => exact ⟨h, (by decide +kernel : Tx (Str.ofString ""))⟩
theorem kept_tx (hg : Gok g) (L : List Str) : ∀ p ∈ kept g L, Tx p.1 ∧ Tx p.2 := fun p hp => by
  have := hg.ok p (List.mem_filter.mp hp).1
  exact ⟨this.1, this.2.tx⟩
theorem sets_tx (hr : Rok rs) (sd : Str) : ∀ p ∈ sets rs sd, Tx p.1 ∧ Tx p.2 := fun p hp => by
  obtain ⟨r, h, rfl⟩ := List.mem_map.mp hp
  exact nv_tx (hr.ok r (List.mem_filter.mp h).1)
theorem outside_shp (hr : Rok rs) (hg : Gok g) : Shp 2 (.tup ((outside rs g).map pr)) := shp_all2 fun p hp => by
  rcases List.mem_append.mp hp with hp | hp
  · exact kept_tx hg _ p hp
  · exact sets_tx hr _ p hp
theorem inside_shp (hr : Rok rs) (hg : Gok g) (hc : Cl c) (hi : 0 ≤ i) (hi2 : i < 300) (hj : 0 ≤ j) (hj2 : j < 300) : Shp 2 (.tup ((inside rs g tr c i j).map pr)) := shp_all2 fun p hp => by
  rcases List.mem_append.mp hp with hp | hp
  · rcases List.mem_append.mp hp with hp | hp
    · rcases List.mem_append.mp hp with hp | hp
      · exact kept_tx hg _ p hp
      · exact sets_tx hr _ p hp
    · obtain ⟨n, hn, rfl⟩ := List.mem_map.mp hp
      obtain ⟨r, h, rfl⟩ := List.mem_map.mp hn
      have ho := hr.ok r (List.mem_filter.mp h).1
      refine ⟨?_, fv_tx hg hc _⟩
      cases r with
      | hide s n => exact ho.2
      | set s n v => exact ho.2.1
      | frm n => exact ho
  · rw [List.mem_singleton.mp hp]
    exact ⟨req_tx, tx_app (tx_app (tx_tk hi hi2) (by decide +kernel)) (tx_tk hj hj2)⟩
end
theorem law_true : ∀ ns : List Int, ns.length ≤ 63 → ∃ rs', f_law [.scr ns] = some (.sh (.bl true), rs') := by
  intro ns _
  suffices h : ∀ P : Option (R × List R) → Prop, (∀ rs', P (some (.sh (.bl true), rs'))) → P (f_law [.scr ns]) from h (fun o => ∃ rs', o = some (.sh (.bl true), rs')) fun rs' => ⟨rs', rfl⟩
  intro P hP
  have e0 : R.tp 0 ns 0 = tpR ⟨0, ns, 0, Int.le_refl _, Int.le_refl _⟩ := rfl
  have er := rng_ 4 (by decide)
  rw [show ((4 : Nat) : Int) = 4 from rfl] at er
  rw [f_law_]
  simp -implicitDefEqProofs only [nsAll, pcs, List.getElem?_cons_zero, List.getElem?_cons_succ, List.set_cons_zero, List.set_cons_succ, List.length_cons, List.length_nil, if_true, if_false, eq_self, Bool.false_eq_true, Bool.true_eq_false, Bool.not_true, Bool.not_false, decide_true, decide_false, and_self, and_true, true_and, List.cons_append, List.nil_append, Option.some.injEq, Nat.zero_lt_succ, Nat.succ_lt_succ_iff, Nat.lt_add_one, gt_iff_lt, ge_iff_le, Int.reduceLT, Int.reduceLE, Int.reduceAdd, Int.reduceSub, Int.reduceMul, Int.reduceNeg, Int.reduceEq, Int.reduceToNat, Nat.reduceAdd, Nat.reduceSub, Nat.reduceLT, Nat.reduceLeDiff, Nat.reduceEqDiff, reduceIte, String.reduceEq, Option.bind_some, ite_self, e0, er, law_p14_]
  refine loop_in (C := fun o => P (kFM [0] [.scr ns] o)) (fun i : Nat => D.int (i : Int)) (fun xs ρ => ∃ (s : Tw) (y2 y3 y4 y5 y6 y7 y8 : Option R), ρ = [some (.scr ns), some (tpR s), y2, y3, y4, y5, y6, y7, y8]) ⟨_, _, _, _, _, _, _, _, rfl⟩ ?_ ?_
  · rintro x xs _ ⟨s, y2, y3, y4, y5, y6, y7, y8, rfl⟩
    obtain ⟨kv, rs, tr, s1, hp, hr, ht, e1⟩ := policy_ex s
    obtain ⟨g, s2, hg, e2⟩ := given_ex s1
    obtain ⟨c, s3, hc, e3⟩ := client_ex s2
    obtain ⟨i, s4, hi, e4⟩ := draw_nat s3 300 (by decide) (by decide)
    obtain ⟨j, s5, hj, e5⟩ := draw_nat s4 12 (by decide) (by decide)
    have a1 := lin_run (i := i) (j := j) hp hr hg hc ht (by omega) hi (by omega) (by omega)
    have a2 := inside_run (i := i) (j := j) hr hg hc ht (by omega) hi (by omega) (by omega)
    have a3 := lout_run hp hr hg
    have a4 := outside_run hr hg
    have d1 := deq_shp (inside_shp (tr := tr) (i := i) (j := j) hr hg hc (by omega) hi (by omega) (by omega)) (by decide)
    have d2 := deq_shp (outside_shp hr hg) (by decide)
    have h1 := hp.h
    have h2 := hp.t
    simp -implicitDefEqProofs only [nsAll, pcs, List.getElem?_cons_zero, List.getElem?_cons_succ, List.set_cons_zero, List.set_cons_succ, List.length_cons, List.length_nil, if_true, if_false, eq_self, Bool.false_eq_true, Bool.true_eq_false, Bool.not_true, Bool.not_false, decide_true, decide_false, and_self, and_true, true_and, List.cons_append, List.nil_append, Option.some.injEq, Nat.zero_lt_succ, Nat.succ_lt_succ_iff, Nat.lt_add_one, gt_iff_lt, ge_iff_le, Int.reduceLT, Int.reduceLE, Int.reduceAdd, Int.reduceSub, Int.reduceMul, Int.reduceNeg, Int.reduceEq, Int.reduceToNat, Nat.reduceAdd, Nat.reduceSub, Nat.reduceLT, Nat.reduceLeDiff, Nat.reduceEqDiff, reduceIte, String.reduceEq, Option.bind_some, ite_self, e1, e2, e3, e4, e5, a1, a2, a3, a4, d1, d2, h1, h2]
    exact ⟨s5, _, _, _, _, _, _, _, rfl⟩
  · rintro _ ⟨s, y2, y3, y4, y5, y6, y7, y8, rfl⟩
    simp -implicitDefEqProofs only [nsAll, pcs, List.getElem?_cons_zero, List.getElem?_cons_succ, List.set_cons_zero, List.set_cons_succ, List.length_cons, List.length_nil, if_true, if_false, eq_self, Bool.false_eq_true, Bool.true_eq_false, Bool.not_true, Bool.not_false, decide_true, decide_false, and_self, and_true, true_and, List.cons_append, List.nil_append, Option.some.injEq, Nat.zero_lt_succ, Nat.succ_lt_succ_iff, Nat.lt_add_one, gt_iff_lt, ge_iff_le, Int.reduceLT, Int.reduceLE, Int.reduceAdd, Int.reduceSub, Int.reduceMul, Int.reduceNeg, Int.reduceEq, Int.reduceToNat, Nat.reduceAdd, Nat.reduceSub, Nat.reduceLT, Nat.reduceLeDiff, Nat.reduceEqDiff, reduceIte, String.reduceEq, Option.bind_some, ite_self]
    exact hP _
end K49

set_option Elab.async false
set_option linter.all false
set_option maxRecDepth 100000
set_option maxHeartbeats 4000000
namespace K49
open PySem PySem.Spec PyProof.Rows L2 DL
theorem all_mk {l : PySem.W.OpenLaw} {w : World} {K : PySem.W.Frag} {h : Heap} {mg : Str → Option Value} {fa : Addr} (X : K.In h) (G : h.Ns mainGlobals mg) (hfa : mg "law" = some (.ref fa))
    {f0 : Addr} {od0 an0 : Option Addr} {sl0 : Array (Option Value)} {oc0 kV0 dc0 pm0 cd0 ct0 : Value}
    (a0 : PySem.W.nsIn K mainGlobals "show_address" = some (some (.ref f0))) (l0 : K.lookup f0 = some ⟨oc0, od0, .func (PySem.W.fnOf "show_address" "show_address" (defArgs s_show_address) (defBody s_show_address) (defScope s_show_address) .none kV0 dc0 pm0 an0 cd0 ct0), sl0⟩) (c0 : PySem.W.codeIn K cd0 "show_address" = true) (k0 : PySem.W.keepIn K (.ref f0) = true)
    {f1 : Addr} {od1 an1 : Option Addr} {sl1 : Array (Option Value)} {oc1 kV1 dc1 pm1 cd1 ct1 : Value}
    (a1 : PySem.W.nsIn K mainGlobals "is_trusted" = some (some (.ref f1))) (l1 : K.lookup f1 = some ⟨oc1, od1, .func (PySem.W.fnOf "is_trusted" "is_trusted" (defArgs s_is_trusted) (defBody s_is_trusted) (defScope s_is_trusted) .none kV1 dc1 pm1 an1 cd1 ct1), sl1⟩) (c1 : PySem.W.codeIn K cd1 "is_trusted" = true) (k1 : PySem.W.keepIn K (.ref f1) = true)
    {f2 : Addr} {od2 an2 : Option Addr} {sl2 : Array (Option Value)} {oc2 kV2 dc2 pm2 cd2 ct2 : Value}
    (a2 : PySem.W.nsIn K mainGlobals "named_by_connection" = some (some (.ref f2))) (l2 : K.lookup f2 = some ⟨oc2, od2, .func (PySem.W.fnOf "named_by_connection" "named_by_connection" (defArgs s_named_by_connection) (defBody s_named_by_connection) (defScope s_named_by_connection) .none kV2 dc2 pm2 an2 cd2 ct2), sl2⟩) (c2 : PySem.W.codeIn K cd2 "named_by_connection" = true) (k2 : PySem.W.keepIn K (.ref f2) = true)
    {f3 : Addr} {od3 an3 : Option Addr} {sl3 : Array (Option Value)} {oc3 kV3 dc3 pm3 cd3 ct3 : Value}
    (a3 : PySem.W.nsIn K mainGlobals "shut_names" = some (some (.ref f3))) (l3 : K.lookup f3 = some ⟨oc3, od3, .func (PySem.W.fnOf "shut_names" "shut_names" (defArgs s_shut_names) (defBody s_shut_names) (defScope s_shut_names) .none kV3 dc3 pm3 an3 cd3 ct3), sl3⟩) (c3 : PySem.W.codeIn K cd3 "shut_names" = true) (k3 : PySem.W.keepIn K (.ref f3) = true)
    {f4 : Addr} {od4 an4 : Option Addr} {sl4 : Array (Option Value)} {oc4 kV4 dc4 pm4 cd4 ct4 : Value}
    (a4 : PySem.W.nsIn K mainGlobals "set_headers" = some (some (.ref f4))) (l4 : K.lookup f4 = some ⟨oc4, od4, .func (PySem.W.fnOf "set_headers" "set_headers" (defArgs s_set_headers) (defBody s_set_headers) (defScope s_set_headers) .none kV4 dc4 pm4 an4 cd4 ct4), sl4⟩) (c4 : PySem.W.codeIn K cd4 "set_headers" = true) (k4 : PySem.W.keepIn K (.ref f4) = true)
    {f5 : Addr} {od5 an5 : Option Addr} {sl5 : Array (Option Value)} {oc5 kV5 dc5 pm5 cd5 ct5 : Value}
    (a5 : PySem.W.nsIn K mainGlobals "from_value" = some (some (.ref f5))) (l5 : K.lookup f5 = some ⟨oc5, od5, .func (PySem.W.fnOf "from_value" "from_value" (defArgs s_from_value) (defBody s_from_value) (defScope s_from_value) .none kV5 dc5 pm5 an5 cd5 ct5), sl5⟩) (c5 : PySem.W.codeIn K cd5 "from_value" = true) (k5 : PySem.W.keepIn K (.ref f5) = true)
    {f6 : Addr} {od6 an6 : Option Addr} {sl6 : Array (Option Value)} {oc6 kV6 dc6 pm6 cd6 ct6 : Value}
    (a6 : PySem.W.nsIn K mainGlobals "inside_headers" = some (some (.ref f6))) (l6 : K.lookup f6 = some ⟨oc6, od6, .func (PySem.W.fnOf "inside_headers" "inside_headers" (defArgs s_inside_headers) (defBody s_inside_headers) (defScope s_inside_headers) .none kV6 dc6 pm6 an6 cd6 ct6), sl6⟩) (c6 : PySem.W.codeIn K cd6 "inside_headers" = true) (k6 : PySem.W.keepIn K (.ref f6) = true)
    {f7 : Addr} {od7 an7 : Option Addr} {sl7 : Array (Option Value)} {oc7 kV7 dc7 pm7 cd7 ct7 : Value}
    (a7 : PySem.W.nsIn K mainGlobals "outside_headers" = some (some (.ref f7))) (l7 : K.lookup f7 = some ⟨oc7, od7, .func (PySem.W.fnOf "outside_headers" "outside_headers" (defArgs s_outside_headers) (defBody s_outside_headers) (defScope s_outside_headers) .none kV7 dc7 pm7 an7 cd7 ct7), sl7⟩) (c7 : PySem.W.codeIn K cd7 "outside_headers" = true) (k7 : PySem.W.keepIn K (.ref f7) = true)
    {f8 : Addr} {od8 an8 : Option Addr} {sl8 : Array (Option Value)} {oc8 kV8 dc8 pm8 cd8 ct8 : Value}
    (a8 : PySem.W.nsIn K mainGlobals "_law_draw" = some (some (.ref f8))) (l8 : K.lookup f8 = some ⟨oc8, od8, .func (PySem.W.fnOf "_law_draw" "_law_draw" (defArgs s_law_draw) (defBody s_law_draw) (defScope s_law_draw) .none kV8 dc8 pm8 an8 cd8 ct8), sl8⟩) (c8 : PySem.W.codeIn K cd8 "_law_draw" = true) (k8 : PySem.W.keepIn K (.ref f8) = true)
    {f9 : Addr} {od9 an9 : Option Addr} {sl9 : Array (Option Value)} {oc9 kV9 dc9 pm9 cd9 ct9 : Value}
    (a9 : PySem.W.nsIn K mainGlobals "_law_pick" = some (some (.ref f9))) (l9 : K.lookup f9 = some ⟨oc9, od9, .func (PySem.W.fnOf "_law_pick" "_law_pick" (defArgs s_law_pick) (defBody s_law_pick) (defScope s_law_pick) .none kV9 dc9 pm9 an9 cd9 ct9), sl9⟩) (c9 : PySem.W.codeIn K cd9 "_law_pick" = true) (k9 : PySem.W.keepIn K (.ref f9) = true)
    {f10 : Addr} {od10 an10 : Option Addr} {sl10 : Array (Option Value)} {oc10 kV10 dc10 pm10 cd10 ct10 : Value}
    (a10 : PySem.W.nsIn K mainGlobals "_law_policy" = some (some (.ref f10))) (l10 : K.lookup f10 = some ⟨oc10, od10, .func (PySem.W.fnOf "_law_policy" "_law_policy" (defArgs s_law_policy) (defBody s_law_policy) (defScope s_law_policy) .none kV10 dc10 pm10 an10 cd10 ct10), sl10⟩) (c10 : PySem.W.codeIn K cd10 "_law_policy" = true) (k10 : PySem.W.keepIn K (.ref f10) = true)
    {f11 : Addr} {od11 an11 : Option Addr} {sl11 : Array (Option Value)} {oc11 kV11 dc11 pm11 cd11 ct11 : Value}
    (a11 : PySem.W.nsIn K mainGlobals "_law_shut" = some (some (.ref f11))) (l11 : K.lookup f11 = some ⟨oc11, od11, .func (PySem.W.fnOf "_law_shut" "_law_shut" (defArgs s_law_shut) (defBody s_law_shut) (defScope s_law_shut) .none kV11 dc11 pm11 an11 cd11 ct11), sl11⟩) (c11 : PySem.W.codeIn K cd11 "_law_shut" = true) (k11 : PySem.W.keepIn K (.ref f11) = true)
    {f12 : Addr} {od12 an12 : Option Addr} {sl12 : Array (Option Value)} {oc12 kV12 dc12 pm12 cd12 ct12 : Value}
    (a12 : PySem.W.nsIn K mainGlobals "_law_dotted" = some (some (.ref f12))) (l12 : K.lookup f12 = some ⟨oc12, od12, .func (PySem.W.fnOf "_law_dotted" "_law_dotted" (defArgs s_law_dotted) (defBody s_law_dotted) (defScope s_law_dotted) .none kV12 dc12 pm12 an12 cd12 ct12), sl12⟩) (c12 : PySem.W.codeIn K cd12 "_law_dotted" = true) (k12 : PySem.W.keepIn K (.ref f12) = true)
    {f13 : Addr} {od13 an13 : Option Addr} {sl13 : Array (Option Value)} {oc13 kV13 dc13 pm13 cd13 ct13 : Value}
    (a13 : PySem.W.nsIn K mainGlobals "_law_inside" = some (some (.ref f13))) (l13 : K.lookup f13 = some ⟨oc13, od13, .func (PySem.W.fnOf "_law_inside" "_law_inside" (defArgs s_law_inside) (defBody s_law_inside) (defScope s_law_inside) .none kV13 dc13 pm13 an13 cd13 ct13), sl13⟩) (c13 : PySem.W.codeIn K cd13 "_law_inside" = true) (k13 : PySem.W.keepIn K (.ref f13) = true)
    {f14 : Addr} {od14 an14 : Option Addr} {sl14 : Array (Option Value)} {oc14 kV14 dc14 pm14 cd14 ct14 : Value}
    (a14 : PySem.W.nsIn K mainGlobals "_law_outside" = some (some (.ref f14))) (l14 : K.lookup f14 = some ⟨oc14, od14, .func (PySem.W.fnOf "_law_outside" "_law_outside" (defArgs s_law_outside) (defBody s_law_outside) (defScope s_law_outside) .none kV14 dc14 pm14 an14 cd14 ct14), sl14⟩) (c14 : PySem.W.codeIn K cd14 "_law_outside" = true) (k14 : PySem.W.keepIn K (.ref f14) = true)
    {f15 : Addr} {od15 an15 : Option Addr} {sl15 : Array (Option Value)} {oc15 kV15 dc15 pm15 cd15 ct15 : Value}
    (a15 : PySem.W.nsIn K mainGlobals "_law_given" = some (some (.ref f15))) (l15 : K.lookup f15 = some ⟨oc15, od15, .func (PySem.W.fnOf "_law_given" "_law_given" (defArgs s_law_given) (defBody s_law_given) (defScope s_law_given) .none kV15 dc15 pm15 an15 cd15 ct15), sl15⟩) (c15 : PySem.W.codeIn K cd15 "_law_given" = true) (k15 : PySem.W.keepIn K (.ref f15) = true)
    {f16 : Addr} {od16 an16 : Option Addr} {sl16 : Array (Option Value)} {oc16 kV16 dc16 pm16 cd16 ct16 : Value}
    (a16 : PySem.W.nsIn K mainGlobals "law" = some (some (.ref f16))) (l16 : K.lookup f16 = some ⟨oc16, od16, .func (PySem.W.fnOf "law" "law" (defArgs s_law) (defBody s_law) (defScope s_law) .none kV16 dc16 pm16 an16 cd16 ct16), sl16⟩) (c16 : PySem.W.codeIn K cd16 "law" = true) (k16 : PySem.W.keepIn K (.ref f16) = true)
    (zabs : PySem.W.nsIn K mainGlobals "abs" = some none)
    (zany : PySem.W.nsIn K mainGlobals "any" = some none)
    (zint : PySem.W.nsIn K mainGlobals "int" = some none)
    (zisinstance : PySem.W.nsIn K mainGlobals "isinstance" = some none)
    (zlen : PySem.W.nsIn K mainGlobals "len" = some none)
    (zlist : PySem.W.nsIn K mainGlobals "list" = some none)
    (zrange : PySem.W.nsIn K mainGlobals "range" = some none)
    (zstr : PySem.W.nsIn K mainGlobals "str" = some none)
    (ztuple : PySem.W.nsIn K mainGlobals "tuple" = some none) :
    ∃ fd : FuncData, (∀ (s : Shared) (v : Value), BindsTo s fd ⟨[v], []⟩ [("script", v)]) ∧ ∀ base : Heap, K.In base → base.Ns mainGlobals mg → FnG l.prog w K mg base CX0 4 fa fd ["script"] (spLaw K) := by
  have e := hfa.symm.trans (PySem.W.mg_of X G a16)
  obtain rfl : fa = f16 := Value.ref.inj (Option.some.inj e)
  let T : Txt K mg w := ⟨f0, _, fun_mk (st := s_show_address) l0 c0 k0, (fun_mk (st := s_show_address) l0 c0 k0).binds (ps := ["address"]) (fun _ _ _ _ _ _ us hl => match us, hl with | [_], _ => rfl), PySem.W.mg_of X G a0,
    f1, _, fun_mk (st := s_is_trusted) l1 c1 k1, (fun_mk (st := s_is_trusted) l1 c1 k1).binds (ps := ["trusted", "address"]) (fun _ _ _ _ _ _ us hl => match us, hl with | [_, _], _ => rfl), PySem.W.mg_of X G a1,
    f2, _, fun_mk (st := s_named_by_connection) l2 c2 k2, (fun_mk (st := s_named_by_connection) l2 c2 k2).binds (ps := ["given"]) (fun _ _ _ _ _ _ us hl => match us, hl with | [_], _ => rfl), PySem.W.mg_of X G a2,
    f3, _, fun_mk (st := s_shut_names) l3 c3 k3, (fun_mk (st := s_shut_names) l3 c3 k3).binds (ps := ["headers", "side", "given"]) (fun _ _ _ _ _ _ us hl => match us, hl with | [_, _, _], _ => rfl), PySem.W.mg_of X G a3,
    f4, _, fun_mk (st := s_set_headers) l4 c4 k4, (fun_mk (st := s_set_headers) l4 c4 k4).binds (ps := ["headers", "side"]) (fun _ _ _ _ _ _ us hl => match us, hl with | [_, _], _ => rfl), PySem.W.mg_of X G a4,
    f5, _, fun_mk (st := s_from_value) l5 c5 k5, (fun_mk (st := s_from_value) l5 c5 k5).binds (ps := ["name", "trusted", "client", "given"]) (fun _ _ _ _ _ _ us hl => match us, hl with | [_, _, _, _], _ => rfl), PySem.W.mg_of X G a5,
    f6, _, fun_mk (st := s_inside_headers) l6 c6 k6, (fun_mk (st := s_inside_headers) l6 c6 k6).binds (ps := ["headers", "trusted", "client", "name", "given"]) (fun _ _ _ _ _ _ us hl => match us, hl with | [_, _, _, _, _], _ => rfl), PySem.W.mg_of X G a6,
    f7, _, fun_mk (st := s_outside_headers) l7 c7 k7, (fun_mk (st := s_outside_headers) l7 c7 k7).binds (ps := ["headers", "given"]) (fun _ _ _ _ _ _ us hl => match us, hl with | [_, _], _ => rfl), PySem.W.mg_of X G a7,
    f8, _, fun_mk (st := s_law_draw) l8 c8 k8, (fun_mk (st := s_law_draw) l8 c8 k8).binds (ps := ["tape", "many"]) (fun _ _ _ _ _ _ us hl => match us, hl with | [_, _], _ => rfl), PySem.W.mg_of X G a8,
    f9, _, fun_mk (st := s_law_pick) l9 c9 k9, (fun_mk (st := s_law_pick) l9 c9 k9).binds (ps := ["tape", "row"]) (fun _ _ _ _ _ _ us hl => match us, hl with | [_, _], _ => rfl), PySem.W.mg_of X G a9,
    f10, _, fun_mk (st := s_law_policy) l10 c10 k10, (fun_mk (st := s_law_policy) l10 c10 k10).binds (ps := ["tape", "name", "servers"]) (fun _ _ _ _ _ _ us hl => match us, hl with | [_, _, _], _ => rfl), PySem.W.mg_of X G a10,
    f11, _, fun_mk (st := s_law_shut) l11 c11 k11, (fun_mk (st := s_law_shut) l11 c11 k11).binds (ps := ["rows", "side", "given"]) (fun _ _ _ _ _ _ us hl => match us, hl with | [_, _, _], _ => rfl), PySem.W.mg_of X G a11,
    f12, _, fun_mk (st := s_law_dotted) l12 c12 k12, (fun_mk (st := s_law_dotted) l12 c12 k12).binds (ps := ["address"]) (fun _ _ _ _ _ _ us hl => match us, hl with | [_], _ => rfl), PySem.W.mg_of X G a12,
    f13, _, fun_mk (st := s_law_inside) l13 c13 k13, (fun_mk (st := s_law_inside) l13 c13 k13).binds (ps := ["policy", "client", "name", "given"]) (fun _ _ _ _ _ _ us hl => match us, hl with | [_, _, _, _], _ => rfl), PySem.W.mg_of X G a13,
    f14, _, fun_mk (st := s_law_outside) l14 c14 k14, (fun_mk (st := s_law_outside) l14 c14 k14).binds (ps := ["policy", "given"]) (fun _ _ _ _ _ _ us hl => match us, hl with | [_, _], _ => rfl), PySem.W.mg_of X G a14,
    f15, _, fun_mk (st := s_law_given) l15 c15 k15, (fun_mk (st := s_law_given) l15 c15 k15).binds (ps := ["tape"]) (fun _ _ _ _ _ _ us hl => match us, hl with | [_], _ => rfl), PySem.W.mg_of X G a15,
    fa, _, fun_mk (st := s_law) l16 c16 k16, (fun_mk (st := s_law) l16 c16 k16).binds (ps := ["script"]) (fun _ _ _ _ _ _ us hl => match us, hl with | [_], _ => rfl), PySem.W.mg_of X G a16,
    PySem.W.mg_none_of X G zabs,
    PySem.W.mg_none_of X G zany,
    PySem.W.mg_none_of X G zint,
    PySem.W.mg_none_of X G zisinstance,
    PySem.W.mg_none_of X G zlen,
    PySem.W.mg_none_of X G zlist,
    PySem.W.mg_none_of X G zrange,
    PySem.W.mg_none_of X G zstr,
    PySem.W.mg_none_of X G ztuple⟩
  exact ⟨_, fun s v => .of_eq rfl, fun base _ _ => (ok_law (P := l.prog) (w := w) (base := base) T).imp (law_end law_true)⟩
theorem walk {l : PySem.W.OpenLaw} {q : Program} {loose : List Str} {XP : (Str → Option Value) → Heap → Prop} {YP : World → Heap → Prop} {d : DefRec} {K : Params → PySem.W.Frag} (hn : l.most = some 63) (hdf : d.params.defaults = [])
    (hY : ∀ (w : World) (h : Heap), YP w h → (K w.params).In h)
    (F : ∀ (w : World) (mg : Str → Option Value) (fa : Addr) (h : Heap), (K w.params).In h → h.Ns mainGlobals mg → mg d.name = some (.ref fa) →
      ∃ fd : FuncData, (∀ (s : Shared) (u : Value), BindsTo s fd ⟨[u], []⟩ [("script", u)]) ∧ ∀ base : Heap, (K w.params).In base → base.Ns mainGlobals mg → FnG l.prog w (K w.params) mg base CX0 4 fa fd ["script"] (spLaw (K w.params))) :
    PySem.W.WalkO q loose XP YP l.row.toRowW d [] (fun f vs => PySem.call f vs) :=
  walkG (n := 63) (k := 4) (x := "script") (sp := fun w => spLaw (K w.params)) hn (by decide) hdf ⟨rfl, by decide, by decide⟩ hY F (fun _ _ a ns hl hS => ⟨a, ns, rfl, hS, hl, fun _ => rfl⟩)
end K49
open PySem PySem.W PyProof.Rows in
set_option maxRecDepth 100000 in
set_option maxHeartbeats 0 in
theorem PySem.Challenge.cw_gatedpolicy_k49_headers_that_go_on_holds : PySem.Challenge.rw_gatedpolicy_k49_headers_that_go_on.Holds := by
  w_on; o_law; k_head; (case hw => w_witness2)
  k_fill
  refine K49.walk (l := PySem.Challenge.rw_gatedpolicy_k49_headers_that_go_on) rfl rfl (fun w h Y => PySem.W.kIn_of Y) ?F
  case F =>
    intro w mg fa h KX G hmg
    refine' K49.all_mk KX G hmg ?a0 ?l0 ?c0 ?k0 ?a1 ?l1 ?c1 ?k1 ?a2 ?l2 ?c2 ?k2 ?a3 ?l3 ?c3 ?k3 ?a4 ?l4 ?c4 ?k4 ?a5 ?l5 ?c5 ?k5 ?a6 ?l6 ?c6 ?k6 ?a7 ?l7 ?c7 ?k7 ?a8 ?l8 ?c8 ?k8 ?a9 ?l9 ?c9 ?k9 ?a10 ?l10 ?c10 ?k10 ?a11 ?l11 ?c11 ?k11 ?a12 ?l12 ?c12 ?k12 ?a13 ?l13 ?c13 ?k13 ?a14 ?l14 ?c14 ?k14 ?a15 ?l15 ?c15 ?k15 ?a16 ?l16 ?c16 ?k16 ?zabs ?zany ?zint ?zisinstance ?zlen ?zlist ?zrange ?zstr ?ztuple
    (case a0 => k_is)
    (case l0 => k_is)
    (case c0 => k_is)
    (case k0 => k_is)
    (case a1 => k_is)
    (case l1 => k_is)
    (case c1 => k_is)
    (case k1 => k_is)
    (case a2 => k_is)
    (case l2 => k_is)
    (case c2 => k_is)
    (case k2 => k_is)
    (case a3 => k_is)
    (case l3 => k_is)
    (case c3 => k_is)
    (case k3 => k_is)
    (case a4 => k_is)
    (case l4 => k_is)
    (case c4 => k_is)
    (case k4 => k_is)
    (case a5 => k_is)
    (case l5 => k_is)
    (case c5 => k_is)
    (case k5 => k_is)
    (case a6 => k_is)
    (case l6 => k_is)
    (case c6 => k_is)
    (case k6 => k_is)
    (case a7 => k_is)
    (case l7 => k_is)
    (case c7 => k_is)
    (case k7 => k_is)
    (case a8 => k_is)
    (case l8 => k_is)
    (case c8 => k_is)
    (case k8 => k_is)
    (case a9 => k_is)
    (case l9 => k_is)
    (case c9 => k_is)
    (case k9 => k_is)
    (case a10 => k_is)
    (case l10 => k_is)
    (case c10 => k_is)
    (case k10 => k_is)
    (case a11 => k_is)
    (case l11 => k_is)
    (case c11 => k_is)
    (case k11 => k_is)
    (case a12 => k_is)
    (case l12 => k_is)
    (case c12 => k_is)
    (case k12 => k_is)
    (case a13 => k_is)
    (case l13 => k_is)
    (case c13 => k_is)
    (case k13 => k_is)
    (case a14 => k_is)
    (case l14 => k_is)
    (case c14 => k_is)
    (case k14 => k_is)
    (case a15 => k_is)
    (case l15 => k_is)
    (case c15 => k_is)
    (case k15 => k_is)
    (case a16 => k_is)
    (case l16 => k_is)
    (case c16 => k_is)
    (case k16 => k_is)
    (case zabs => k_is)
    (case zany => k_is)
    (case zint => k_is)
    (case zisinstance => k_is)
    (case zlen => k_is)
    (case zlist => k_is)
    (case zrange => k_is)
    (case zstr => k_is)
    (case ztuple => k_is)


