import PyProof.Rows.All
import Wide.All
import OpenK.AllK
import Wide.FinOn
import KE.KStateDown
import HandS.ForMost
import HandS.ForExc
import HandS.HeadHook1
import HandS.HeadHook2
import HandS.Wide
import HandS.TupAny
import HandS.TupLe
import HandS.Deep
import HandS.IsInst
import HandS.Steps
import HandS.Conv
import HandS.Zip
import KE.GoesEnum
import HandS.Walk
import HandS.Flow
import HandS.Text
import HandS.RaiseMore
import HandS.HeadEnd
import HandS.Head0
import HandS.Head1
import HandS.Head2
import HandS.Style
import HandS.TupMul
import KE.IntTextLaws
import KE.KIntText
import HandS.Codes
import PySem.Challenge.RW_momentsfit_k11_lands_as_texts
set_option Elab.async false
set_option linter.all false
set_option maxRecDepth 100000
set_option maxHeartbeats 4000000
namespace Mi
open PySem PySem.Spec PyProof.Rows L2

/-! ### data -/
inductive D where
  | non | bl (b : Bool) | int (i : Int) | str (x : Str) | tup (l : List D) | xtp (l : List D) | lst (l : List D)
  | fls (l : List D) | dcK (ks : List Key) (l : List D) | dcT (ks : List (List Key)) (l : List D) | ref (n : Nat) | fn (n : String) | ty (n : String)

/-- whose a value's lists are: none in it; fresh ones; ones of the frame's own slots; others that nobody changes; unknown -/
inductive Md where
  | pur | own | als | frn | bad
  deriving DecidableEq

def Md.mix : Md → Md → Md
  | .pur, m => m
  | m, .pur => m
  | .own, .own => .own
  | .own, .frn => .frn
  | .frn, .own => .frn
  | .frn, .frn => .frn
  | _, _ => .bad

mutual
def noLst : D → Bool
  | .tup l => noLsts l
  | .xtp l => noLsts l
  | .fls l => noLsts l
  | .lst _ => false
  | .dcK _ _ => false
  | .dcT _ _ => false
  | _ => true
def noLsts : List D → Bool
  | [] => true
  | d :: l => noLst d && noLsts l
end

/-- a list that stands for ever: a known one, one of the module's own -/
def FzL (K : PySem.W.Frag) (H : Hp) (a : Addr) (xs : List V) : Prop := (∃ o, H a = some (.frz o (.lst xs))) ∨
  ∃ (o : Obj) (its : Array Value) (n : Nat), K.lookup a = some o ∧ o.cls = .type "list" ∧ o.dict = none ∧ o.data = .seq its n ∧ its.size ≤ sizeLine ∧ Vals xs its.toList
theorem FzL.sqL {K : PySem.W.Frag} {H : Hp} {a : Addr} {xs : List V} (h : FzL K H a xs) : SqL K H a xs := by
  rcases h with h | h
  · exact .inl (.inr h)
  · exact .inr h
/-- a tuple whose object is known -/
def XT (K : PySem.W.Frag) (H : Hp) (a : Addr) (xs : List V) : Prop := (∃ o, H a = some (.frz o (.tup xs)) ∧ o.cls = .type "tuple" ∧ o.dict = none) ∨
  ∃ (o : Obj) (its : Array Value) (n : Nat), K.lookup a = some o ∧ o.cls = .type "tuple" ∧ o.dict = none ∧ o.data = .seq its n ∧ its.size ≤ sizeLine ∧ Vals xs its.toList
theorem XT.sqT {K : PySem.W.Frag} {H : Hp} {a : Addr} {xs : List V} (h : XT K H a xs) : SqT K H a xs := by
  rcases h with ⟨o, h, _⟩ | ⟨o, its, n, h1, h2, h3, h4⟩
  · exact .inl (.inr ⟨o, h⟩)
  · exact .inr ⟨o, its, n, h1, h2, h4⟩
mutual
inductive Rep (K : PySem.W.Frag) (SA : List Addr) (H : Hp) : V → D → List Addr → Prop
  | non : Rep K SA H .non .non []
  | bl (b : Bool) : Rep K SA H (.bl b) (.bl b) []
  | int (i : Int) : Rep K SA H (.int i) (.int i) []
  | str (x : Str) : Rep K SA H (.str x) (.str x) []
  | tup {a : Addr} {vs : List V} {ds : List D} {L : List Addr} : SqT K H a vs → RepAll K SA H vs ds L → Rep K SA H (.ref a) (.tup ds) L
  | xtp {a : Addr} {vs : List V} {ds : List D} {L : List Addr} : XT K H a vs → RepAll K SA H vs ds L → Rep K SA H (.ref a) (.xtp ds) L
  | lst {a : Addr} {vs : List V} {ds : List D} {L : List Addr} : H a = some (.lst vs) → RepAll K SA H vs ds L → Rep K SA H (.ref a) (.lst ds) (a :: L)
  | fls {a : Addr} {vs : List V} {ds : List D} {L : List Addr} : FzL K H a vs → RepAll K SA H vs ds L → Rep K SA H (.ref a) (.fls ds) L
  | dcK {a : Addr} {ks : List Key} {vs : List V} {ds : List D} {L : List Addr} : H a = some (.dK (ks.zip vs)) → ks.length = vs.length → RepAll K SA H vs ds L → Rep K SA H (.ref a) (.dcK ks ds) (a :: L)
  | dcT {a : Addr} {ks : List (List Key)} {vs : List V} {ds : List D} {L : List Addr} : H a = some (.dT (ks.zip vs)) → ks.length = vs.length → RepAll K SA H vs ds L → Rep K SA H (.ref a) (.dcT ks ds) (a :: L)
  | ref {n : Nat} {a : Addr} : SA[n]? = some a → Rep K SA H (.ref a) (.ref n) []
  | fn (n : String) : Rep K SA H (.ref (He.ga K n)) (.fn n) []
  | ty (n : String) : Rep K SA H (.ty n) (.ty n) []
inductive RepAll (K : PySem.W.Frag) (SA : List Addr) (H : Hp) : List V → List D → List Addr → Prop
  | nil : RepAll K SA H [] [] []
  | cons {v : V} {d : D} {L1 : List Addr} {vs : List V} {ds : List D} {L2 : List Addr} : Rep K SA H v d L1 → RepAll K SA H vs ds L2 → RepAll K SA H (v :: vs) (d :: ds) (L1 ++ L2)
end

/-- what never changes -/
def Imm : HO → Bool
  | .tup _ => true
  | .frz _ _ => true
  | _ => false
/-- all that is tracked stays as it was, but what S tells (and there what never changes) -/
structure Keep (S : Addr → Prop) (H H' : Hp) : Prop where
  keep : ∀ a o, H a = some o → (¬ S a ∨ Imm o = true) → H' a = some o
  trk : ∀ a, H a ≠ none → H' a ≠ none
theorem Keep.refl {S : Addr → Prop} {H : Hp} : Keep S H H := ⟨fun _ _ h _ => h, fun _ h => h⟩
theorem Keep.trans {S : Addr → Prop} {H H1 H2 : Hp} (a : Keep S H H1) (b : Keep S H1 H2) : Keep S H H2 :=
  ⟨fun x o h q => b.keep x o (a.keep x o h q) q, fun x h => b.trk x (a.trk x h)⟩
theorem Keep.mono {S S' : Addr → Prop} {H H' : Hp} (a : Keep S H H') (h : ∀ x, S x → S' x) : Keep S' H H' :=
  ⟨fun x o e q => a.keep x o e (q.imp (fun n s => n (h x s)) id), a.trk⟩
/-- what was not there may be in S' -/
theorem Keep.weak {S S' : Addr → Prop} {H H' : Hp} (a : Keep S' H H') (h : ∀ x, H x ≠ none → S' x → S x) : Keep S H H' :=
  ⟨fun x o e q => a.keep x o e (q.imp (fun n s => n (h x (by rw [e]; exact fun z => nomatch z) s)) id), a.trk⟩
theorem Keep.new {S : Addr → Prop} {H : Hp} {p : Addr} {o : HO} (h : H p = none) : Keep S H (upd H p o) :=
  ⟨fun a u e _ => by rw [upd_ne (ne_of_none e h)]; exact e, fun a n => by
    by_cases e : a = p
    · subst e; exact absurd h n
    · rw [upd_ne e]; exact n⟩
theorem Keep.set {S : Addr → Prop} {H : Hp} {p : Addr} {o o' : HO} (h : H p = some o') (hi : Imm o' = false) (hs : S p) : Keep S H (upd H p o) :=
  ⟨fun a u e q => by
    by_cases ea : a = p
    · subst ea
      rw [h] at e
      cases e
      rcases q with q | q
      · exact absurd hs q
      · rw [hi] at q; cases q
    · rw [upd_ne ea]; exact e, fun a n => by
    by_cases e : a = p
    · subst e; rw [upd_same]; exact fun z => nomatch z
    · rw [upd_ne e]; exact n⟩

section
variable {K : PySem.W.Frag} {SA SA' : List Addr} {H H' : Hp}
theorem Keep.sqT {S : Addr → Prop} {a : Addr} {xs : List V} (k : Keep S H H') (h : SqT K H a xs) : SqT K H' a xs := by
  rcases h with (h | ⟨o, h⟩) | h
  · exact .inl (.inl (k.keep _ _ h (.inr rfl)))
  · exact .inl (.inr ⟨o, k.keep _ _ h (.inr rfl)⟩)
  · exact .inr h
theorem Keep.xt {S : Addr → Prop} {a : Addr} {xs : List V} (k : Keep S H H') (h : XT K H a xs) : XT K H' a xs := by
  rcases h with ⟨o, h, q⟩ | h
  · exact .inl ⟨o, k.keep _ _ h (.inr rfl), q⟩
  · exact .inr h
theorem Keep.fzL {S : Addr → Prop} {a : Addr} {xs : List V} (k : Keep S H H') (h : FzL K H a xs) : FzL K H' a xs := by
  rcases h with ⟨o, h⟩ | h
  · exact .inl ⟨o, k.keep _ _ h (.inr rfl)⟩
  · exact .inr h
mutual
theorem Rep.keep {S : Addr → Prop} (k : Keep S H H') : ∀ (d : D) (v : V) (L : List Addr), Rep K SA H v d L → (∀ a ∈ L, ¬ S a) → Rep K SA H' v d L
  | .non, _, _, h, _ => by cases h; exact .non
  | .bl b, _, _, h, _ => by cases h; exact .bl b
  | .int b, _, _, h, _ => by cases h; exact .int b
  | .str b, _, _, h, _ => by cases h; exact .str b
  | .tup l, _, _, h, hs => by
    cases h with
    | tup h1 h2 => exact .tup (k.sqT h1) (RepAll.keep k l _ _ h2 hs)
  | .xtp l, _, _, h, hs => by
    cases h with
    | xtp h1 h2 => exact .xtp (k.xt h1) (RepAll.keep k l _ _ h2 hs)
  | .lst l, _, _, h, hs => by
    cases h with
    | lst h1 h2 => exact .lst (k.keep _ _ h1 (.inl (hs _ List.mem_cons_self))) (RepAll.keep k l _ _ h2 fun a ha => hs a (List.mem_cons_of_mem _ ha))
  | .fls l, _, _, h, hs => by
    cases h with
    | fls h1 h2 => exact .fls (k.fzL h1) (RepAll.keep k l _ _ h2 hs)
  | .dcK ks l, _, _, h, hs => by
    cases h with
    | dcK h1 h2 h3 => exact .dcK (k.keep _ _ h1 (.inl (hs _ List.mem_cons_self))) h2 (RepAll.keep k l _ _ h3 fun a ha => hs a (List.mem_cons_of_mem _ ha))
  | .dcT ks l, _, _, h, hs => by
    cases h with
    | dcT h1 h2 h3 => exact .dcT (k.keep _ _ h1 (.inl (hs _ List.mem_cons_self))) h2 (RepAll.keep k l _ _ h3 fun a ha => hs a (List.mem_cons_of_mem _ ha))
  | .ref n, _, _, h, _ => by
    cases h with
    | ref h => exact .ref h
  | .fn a, _, _, h, _ => by cases h; exact .fn a
  | .ty a, _, _, h, _ => by cases h; exact .ty a
theorem RepAll.keep {S : Addr → Prop} (k : Keep S H H') : ∀ (ds : List D) (vs : List V) (L : List Addr), RepAll K SA H vs ds L → (∀ a ∈ L, ¬ S a) → RepAll K SA H' vs ds L
  | [], _, _, h, _ => by cases h; exact .nil
  | d :: ds, _, _, h, hs => by
    cases h with
    | cons h1 h2 => exact .cons (Rep.keep k d _ _ h1 fun a ha => hs a (List.mem_append_left _ ha)) (RepAll.keep k ds _ _ h2 fun a ha => hs a (List.mem_append_right _ ha))
end
mutual
theorem Rep.sa (k : ∀ (n : Nat) (a : Addr), SA[n]? = some a → SA'[n]? = some a) : ∀ (d : D) (v : V) (L : List Addr), Rep K SA H v d L → Rep K SA' H v d L
  | .non, _, _, h => by cases h; exact .non
  | .bl b, _, _, h => by cases h; exact .bl b
  | .int b, _, _, h => by cases h; exact .int b
  | .str b, _, _, h => by cases h; exact .str b
  | .tup l, _, _, h => by
    cases h with
    | tup h1 h2 => exact .tup h1 (RepAll.sa k l _ _ h2)
  | .xtp l, _, _, h => by
    cases h with
    | xtp h1 h2 => exact .xtp h1 (RepAll.sa k l _ _ h2)
  | .lst l, _, _, h => by
    cases h with
    | lst h1 h2 => exact .lst h1 (RepAll.sa k l _ _ h2)
  | .fls l, _, _, h => by
    cases h with
    | fls h1 h2 => exact .fls h1 (RepAll.sa k l _ _ h2)
  | .dcK ks l, _, _, h => by
    cases h with
    | dcK h1 h2 h3 => exact .dcK h1 h2 (RepAll.sa k l _ _ h3)
  | .dcT ks l, _, _, h => by
    cases h with
    | dcT h1 h2 h3 => exact .dcT h1 h2 (RepAll.sa k l _ _ h3)
  | .ref n, _, _, h => by
    cases h with
    | ref h => exact .ref (k _ _ h)
  | .fn a, _, _, h => by cases h; exact .fn a
  | .ty a, _, _, h => by cases h; exact .ty a
theorem RepAll.sa (k : ∀ (n : Nat) (a : Addr), SA[n]? = some a → SA'[n]? = some a) : ∀ (ds : List D) (vs : List V) (L : List Addr), RepAll K SA H vs ds L → RepAll K SA' H vs ds L
  | [], _, _, h => by cases h; exact .nil
  | d :: ds, _, _, h => by
    cases h with
    | cons h1 h2 => exact .cons (Rep.sa k d _ _ h1) (RepAll.sa k ds _ _ h2)
end
mutual
theorem Rep.trk : ∀ (d : D) (v : V) (L : List Addr), Rep K SA H v d L → ∀ a ∈ L, H a ≠ none
  | .non, _, _, h => by cases h; exact fun _ z => nomatch z
  | .bl b, _, _, h => by cases h; exact fun _ z => nomatch z
  | .int b, _, _, h => by cases h; exact fun _ z => nomatch z
  | .str b, _, _, h => by cases h; exact fun _ z => nomatch z
  | .tup l, _, _, h => by
    cases h with
    | tup h1 h2 => exact RepAll.trk l _ _ h2
  | .xtp l, _, _, h => by
    cases h with
    | xtp h1 h2 => exact RepAll.trk l _ _ h2
  | .lst l, _, _, h => by
    cases h with
    | lst h1 h2 =>
      intro a ha
      rcases List.mem_cons.mp ha with e | ha
      · subst e; rw [h1]; exact fun z => nomatch z
      · exact RepAll.trk l _ _ h2 a ha
  | .fls l, _, _, h => by
    cases h with
    | fls h1 h2 => exact RepAll.trk l _ _ h2
  | .dcK ks l, _, _, h => by
    cases h with
    | dcK h1 h2 h3 =>
      intro a ha
      rcases List.mem_cons.mp ha with e | ha
      · subst e; rw [h1]; exact fun z => nomatch z
      · exact RepAll.trk l _ _ h3 a ha
  | .dcT ks l, _, _, h => by
    cases h with
    | dcT h1 h2 h3 =>
      intro a ha
      rcases List.mem_cons.mp ha with e | ha
      · subst e; rw [h1]; exact fun z => nomatch z
      · exact RepAll.trk l _ _ h3 a ha
  | .ref n, _, _, h => by
    cases h with
    | ref h => exact fun _ z => nomatch z
  | .fn a, _, _, h => by cases h; exact fun _ z => nomatch z
  | .ty a, _, _, h => by cases h; exact fun _ z => nomatch z
theorem RepAll.trk : ∀ (ds : List D) (vs : List V) (L : List Addr), RepAll K SA H vs ds L → ∀ a ∈ L, H a ≠ none
  | [], _, _, h => by cases h; exact fun _ z => nomatch z
  | d :: ds, _, _, h => by
    cases h with
    | cons h1 h2 =>
      intro a ha
      rcases List.mem_append.mp ha with ha | ha
      · exact Rep.trk d _ _ h1 a ha
      · exact RepAll.trk ds _ _ h2 a ha
end
mutual
theorem Rep.noL : ∀ (d : D) (v : V) (L : List Addr), Rep K SA H v d L → noLst d = true → L = []
  | .non, _, _, h, _ => by cases h; rfl
  | .bl b, _, _, h, _ => by cases h; rfl
  | .int b, _, _, h, _ => by cases h; rfl
  | .str b, _, _, h, _ => by cases h; rfl
  | .tup l, _, _, h, hs => by
    cases h with
    | tup h1 h2 => exact RepAll.noL l _ _ h2 (by simpa [noLst] using hs)
  | .xtp l, _, _, h, hs => by
    cases h with
    | xtp h1 h2 => exact RepAll.noL l _ _ h2 (by simpa [noLst] using hs)
  | .fls l, _, _, h, hs => by
    cases h with
    | fls h1 h2 => exact RepAll.noL l _ _ h2 (by simpa [noLst] using hs)
  | .lst l, _, _, h, hs => by simp [noLst] at hs
  | .dcK ks l, _, _, h, hs => by simp [noLst] at hs
  | .dcT ks l, _, _, h, hs => by simp [noLst] at hs
  | .ref n, _, _, h, _ => by
    cases h with
    | ref h => rfl
  | .fn a, _, _, h, _ => by cases h; rfl
  | .ty a, _, _, h, _ => by cases h; rfl
theorem RepAll.noL : ∀ (ds : List D) (vs : List V) (L : List Addr), RepAll K SA H vs ds L → noLsts ds = true → L = []
  | [], _, _, h, _ => by cases h; rfl
  | d :: ds, _, _, h, hs => by
    have hs2 : noLst d = true ∧ noLsts ds = true := by simpa [noLsts] using hs
    cases h with
    | cons h1 h2 => rw [Rep.noL d _ _ h1 hs2.1, RepAll.noL ds _ _ h2 hs2.2]; rfl
end
theorem RepAll.length : ∀ {ds : List D} {vs : List V} {L : List Addr}, RepAll K SA H vs ds L → vs.length = ds.length
  | [], _, _, h => by cases h; rfl
  | d :: ds, _, _, h => by
    cases h with
    | cons h1 h2 => rw [List.length_cons, List.length_cons, RepAll.length h2]
theorem RepAll.get : ∀ {ds : List D} {vs : List V} {L : List Addr} {i : Nat} {d : D}, RepAll K SA H vs ds L → ds[i]? = some d → ∃ v L', vs[i]? = some v ∧ Rep K SA H v d L' ∧ L'.Sublist L
  | [], _, _, _, _, _, e => by simp at e
  | d :: ds, _, _, i, d', h, e => by
    cases h with
    | cons h1 h2 =>
      cases i with
      | zero =>
        have e2 : d = d' := by simpa using e
        subst e2
        exact ⟨_, _, rfl, h1, List.sublist_append_left ..⟩
      | succ i =>
        obtain ⟨v, L', e1, r, s⟩ := RepAll.get (i := i) h2 (by simpa using e)
        exact ⟨v, L', by simpa using e1, r, s.trans (List.sublist_append_right ..)⟩
theorem RepAll.getV {ds : List D} {vs : List V} {L : List Addr} {i : Nat} {v : V} (h : RepAll K SA H vs ds L) (e : vs[i]? = some v) : ∃ d L', ds[i]? = some d ∧ Rep K SA H v d L' ∧ L'.Sublist L := by
  have hl := h.length
  have hi : i < ds.length := by
    have := (List.getElem?_eq_some_iff.mp e).1
    omega
  obtain ⟨v', L', e1, r, s⟩ := RepAll.get (i := i) h (List.getElem?_eq_getElem hi)
  rw [e1] at e
  cases e
  exact ⟨_, L', List.getElem?_eq_getElem hi, r, s⟩
theorem RepAll.append : ∀ {ds es : List D} {vs ws : List V} {L M : List Addr}, RepAll K SA H vs ds L → RepAll K SA H ws es M → RepAll K SA H (vs ++ ws) (ds ++ es) (L ++ M)
  | [], _, _, _, _, _, h, g => by cases h; exact g
  | d :: ds, _, _, _, _, _, h, g => by
    cases h with
    | cons h1 h2 => rw [List.append_assoc]; exact .cons h1 (RepAll.append h2 g)
theorem RepAll.drop : ∀ {ds : List D} {vs : List V} {L : List Addr} (n : Nat), RepAll K SA H vs ds L → ∃ L', RepAll K SA H (vs.drop n) (ds.drop n) L' ∧ L'.Sublist L
  | _, _, L, 0, h => ⟨L, h, List.Sublist.refl _⟩
  | [], _, _, n + 1, h => by cases h; exact ⟨[], .nil, List.Sublist.refl _⟩
  | d :: ds, _, _, n + 1, h => by
    cases h with
    | cons h1 h2 =>
      obtain ⟨L', r, s⟩ := RepAll.drop n h2
      exact ⟨L', r, s.trans (List.sublist_append_right ..)⟩
theorem RepAll.take : ∀ {ds : List D} {vs : List V} {L : List Addr} (n : Nat), RepAll K SA H vs ds L → ∃ L', RepAll K SA H (vs.take n) (ds.take n) L' ∧ L'.Sublist L
  | _, _, _, 0, h => ⟨[], .nil, List.nil_sublist _⟩
  | [], _, _, n + 1, h => by cases h; exact ⟨[], .nil, List.Sublist.refl _⟩
  | d :: ds, _, _, n + 1, h => by
    cases h with
    | cons h1 h2 =>
      obtain ⟨L', r, s⟩ := RepAll.take n h2
      exact ⟨_, .cons h1 r, List.Sublist.append_left s _⟩
end
/-! ### sequences -/
def D.tupOf? : D → Option (List D)
  | .tup l => some l
  | .xtp l => some l
  | _ => none
def D.lstOf? : D → Option (List D)
  | .lst l => some l
  | .fls l => some l
  | _ => none
def D.seqOf? : D → Option (List D)
  | .tup l => some l
  | .xtp l => some l
  | .lst l => some l
  | .fls l => some l
  | _ => none
section
variable {K : PySem.W.Frag} {SA : List Addr} {H : Hp}
theorem Rep.tupOf {d : D} {v : V} {L : List Addr} {l : List D} (r : Rep K SA H v d L) (e : d.tupOf? = some l) : ∃ a vs, v = .ref a ∧ SqT K H a vs ∧ RepAll K SA H vs l L := by
  cases r with
  | tup h1 h2 => cases e; exact ⟨_, _, rfl, h1, h2⟩
  | xtp h1 h2 => cases e; exact ⟨_, _, rfl, h1.sqT, h2⟩
  | _ => cases e
theorem Rep.lstOf {d : D} {v : V} {L : List Addr} {l : List D} (r : Rep K SA H v d L) (e : d.lstOf? = some l) : ∃ a vs L', v = .ref a ∧ SqL K H a vs ∧ RepAll K SA H vs l L' ∧ L'.Sublist L := by
  cases r with
  | lst h1 h2 => cases e; exact ⟨_, _, _, rfl, SqL.of h1, h2, List.sublist_cons_self ..⟩
  | fls h1 h2 => cases e; exact ⟨_, _, _, rfl, h1.sqL, h2, List.Sublist.refl _⟩
  | _ => cases e
theorem Rep.seqOf {d : D} {v : V} {L : List Addr} {l : List D} (r : Rep K SA H v d L) (e : d.seqOf? = some l) : ∃ a vs L', v = .ref a ∧ (SqL K H a vs ∨ SqT K H a vs) ∧ RepAll K SA H vs l L' ∧ L'.Sublist L := by
  cases r with
  | lst h1 h2 => cases e; exact ⟨_, _, _, rfl, .inl (SqL.of h1), h2, List.sublist_cons_self ..⟩
  | fls h1 h2 => cases e; exact ⟨_, _, _, rfl, .inl h1.sqL, h2, List.Sublist.refl _⟩
  | tup h1 h2 => cases e; exact ⟨_, _, _, rfl, .inr h1, h2, List.Sublist.refl _⟩
  | xtp h1 h2 => cases e; exact ⟨_, _, _, rfl, .inr h1.sqT, h2, List.Sublist.refl _⟩
  | _ => cases e
/-! ### data for == and repr -/
mutual
def D.toPy : D → Option PyData
  | .non => some .none
  | .bl b => some (.bool b)
  | .int i => some (.int i)
  | .str x => some (.str x)
  | .tup l => (toPys l).map .tuple
  | .xtp l => (toPys l).map .tuple
  | .lst l => (toPys l).map .list
  | .fls l => (toPys l).map .list
  | _ => none
def toPys : List D → Option (List PyData)
  | [] => some []
  | d :: l => d.toPy.bind fun p => (toPys l).map (p :: ·)
end
mutual
theorem Rep.dp : ∀ (d : D) (v : V) (L : List Addr) (p : PyData), Rep K SA H v d L → d.toPy = some p → Dp K H v p
  | .non, _, _, _, h, e => by cases h; simp only [D.toPy, Option.some.injEq] at e; subst e; exact .non
  | .bl b, _, _, _, h, e => by cases h; simp only [D.toPy, Option.some.injEq] at e; subst e; exact .bl b
  | .int b, _, _, _, h, e => by cases h; simp only [D.toPy, Option.some.injEq] at e; subst e; exact .int b
  | .str b, _, _, _, h, e => by cases h; simp only [D.toPy, Option.some.injEq] at e; subst e; exact .str b
  | .tup l, _, _, _, h, e => by
    simp only [D.toPy, Option.map_eq_some_iff] at e
    obtain ⟨ps, e, rfl⟩ := e
    cases h with
    | tup h1 h2 => exact .tup h1 (RepAll.dp l _ _ ps h2 e)
  | .xtp l, _, _, _, h, e => by
    simp only [D.toPy, Option.map_eq_some_iff] at e
    obtain ⟨ps, e, rfl⟩ := e
    cases h with
    | xtp h1 h2 => exact .tup h1.sqT (RepAll.dp l _ _ ps h2 e)
  | .lst l, _, _, _, h, e => by
    simp only [D.toPy, Option.map_eq_some_iff] at e
    obtain ⟨ps, e, rfl⟩ := e
    cases h with
    | lst h1 h2 => exact .lst (SqL.of h1) (RepAll.dp l _ _ ps h2 e)
  | .fls l, _, _, _, h, e => by
    simp only [D.toPy, Option.map_eq_some_iff] at e
    obtain ⟨ps, e, rfl⟩ := e
    cases h with
    | fls h1 h2 => exact .lst h1.sqL (RepAll.dp l _ _ ps h2 e)
  | .dcK _ _, _, _, _, _, e => by simp [D.toPy] at e
  | .dcT _ _, _, _, _, _, e => by simp [D.toPy] at e
  | .ref _, _, _, _, _, e => by simp [D.toPy] at e
  | .fn _, _, _, _, _, e => by simp [D.toPy] at e
  | .ty _, _, _, _, _, e => by simp [D.toPy] at e
theorem RepAll.dp : ∀ (ds : List D) (vs : List V) (L : List Addr) (ps : List PyData), RepAll K SA H vs ds L → toPys ds = some ps → DpAll K H vs ps
  | [], _, _, _, h, e => by cases h; simp only [toPys, Option.some.injEq] at e; subst e; exact .nil
  | d :: ds, _, _, _, h, e => by
    simp only [toPys, Option.bind_eq_some_iff, Option.map_eq_some_iff] at e
    obtain ⟨p, e1, ps, e2, rfl⟩ := e
    cases h with
    | cons h1 h2 => exact .cons (Rep.dp d _ _ p h1 e1) (RepAll.dp ds _ _ ps h2 e2)
end
end
end Mi

set_option Elab.async false
set_option linter.all false
set_option maxRecDepth 100000
set_option maxHeartbeats 4000000
namespace Mi
open PySem PySem.Spec PyProof.Rows L2

/-! ### slots, the store, answers -/
abbrev Sto := List (List D)
abbrev Env := List (Option (D × Md))

inductive EnvRep (K : PySem.W.Frag) (SA : List Addr) (H : Hp) : L2.St → Env → List Addr → List Addr → Prop
  | nil (R : List Addr) : (∀ a ∈ R, H a ≠ none) → EnvRep K SA H [] [] R []
  | none {x : Option V} {σ : L2.St} {env : Env} {OL FL : List Addr} : EnvRep K SA H σ env OL FL → EnvRep K SA H (x :: σ) (none :: env) OL FL
  | pur {v : V} {d : D} {σ : L2.St} {env : Env} {OL FL : List Addr} : Rep K SA H v d [] → EnvRep K SA H σ env OL FL → EnvRep K SA H (some v :: σ) (some (d, .pur) :: env) OL FL
  | own {v : V} {d : D} {L : List Addr} {σ : L2.St} {env : Env} {OL FL : List Addr} : Rep K SA H v d L → EnvRep K SA H σ env OL FL → EnvRep K SA H (some v :: σ) (some (d, .own) :: env) (L ++ OL) FL
  | frn {v : V} {d : D} {L : List Addr} {σ : L2.St} {env : Env} {OL FL : List Addr} : Rep K SA H v d L → EnvRep K SA H σ env OL FL → EnvRep K SA H (some v :: σ) (some (d, .frn) :: env) OL (L ++ FL)

structure EnvOk (K : PySem.W.Frag) (SA OL : List Addr) (H : Hp) (σ : L2.St) (env : Env) : Prop where
  rep : ∃ FL, EnvRep K SA H σ env OL FL ∧ ∀ a ∈ FL, a ∉ OL ∧ a ∉ SA
  nd : OL.Nodup
  sa : ∀ a ∈ OL, a ∉ SA

structure StoOk (K : PySem.W.Frag) (SA OL : List Addr) (H : Hp) (S : Sto) : Prop where
  len : SA.length = S.length
  nd : SA.Nodup
  obj : ∀ (n : Nat) (a : Addr) (ds : List D), SA[n]? = some a → S[n]? = some ds → ∃ vs, H a = some (.lst vs) ∧ RepAll K SA H vs ds []

/-- what the lists of an answer are; H0: the heap ahead of it -/
def MdOk (OL : List Addr) (H0 : Hp) : Md → List Addr → Prop
  | .pur, L => L = []
  | .own, L => L.Nodup ∧ ∀ a ∈ L, H0 a = none
  | .als, L => L.Nodup ∧ ∀ a ∈ L, a ∈ OL
  | .frn, L => ∀ a ∈ L, a ∉ OL
  | .bad, _ => True

inductive Res (α : Type) where
  | ok (a : α) (S : Sto) | err (c : Str) (S : Sto) | no
def Res.bind {α β : Type} (r : Res α) (k : α → Sto → Res β) : Res β := match r with
  | .ok a S => k a S
  | .err c S => .err c S
  | .no => .no
@[simp] theorem Res.bind_ok {α β : Type} (a : α) (S : Sto) (k : α → Sto → Res β) : (Res.ok a S).bind k = k a S := rfl
@[simp] theorem Res.bind_err {α β : Type} (c : Str) (S : Sto) (k : α → Sto → Res β) : (Res.err c S : Res α).bind k = .err c S := rfl
@[simp] theorem Res.bind_no {α β : Type} (k : α → Sto → Res β) : (Res.no : Res α).bind k = .no := rfl

abbrev FE := Env → Sto → Res (D × Md)
abbrev FT := Env → Sto → Res Bool
abbrev FA := Env → Sto → Res (List D × Md)

section
variable {K : PySem.W.Frag} {SA SA' OL : List Addr} {H H' H0 H1 H2 : Hp} {σ : L2.St} {env : Env} {S S' S1 S2 : Sto}

theorem EnvRep.keep {R : Addr → Prop} (k : Keep R H H') : ∀ {σ : L2.St} {env : Env} {OL FL : List Addr}, EnvRep K SA H σ env OL FL → (∀ a ∈ OL, ¬ R a) → (∀ a ∈ FL, ¬ R a) → EnvRep K SA H' σ env OL FL
  | _, _, _, _, .nil R h, _, _ => .nil R fun a ha => k.trk a (h a ha)
  | _, _, _, _, .none h, ho, hf => .none (EnvRep.keep k h ho hf)
  | _, _, _, _, .pur r h, ho, hf => .pur (Rep.keep k _ _ _ r fun _ z => nomatch z) (EnvRep.keep k h ho hf)
  | _, _, _, _, .own r h, ho, hf => .own (Rep.keep k _ _ _ r fun a ha => ho a (List.mem_append_left _ ha)) (EnvRep.keep k h (fun a ha => ho a (List.mem_append_right _ ha)) hf)
  | _, _, _, _, .frn r h, ho, hf => .frn (Rep.keep k _ _ _ r fun a ha => hf a (List.mem_append_left _ ha)) (EnvRep.keep k h ho (fun a ha => hf a (List.mem_append_right _ ha)))
theorem EnvRep.sa (k : ∀ (n : Nat) (a : Addr), SA[n]? = some a → SA'[n]? = some a) : ∀ {σ : L2.St} {env : Env} {OL FL : List Addr}, EnvRep K SA H σ env OL FL → EnvRep K SA' H σ env OL FL
  | _, _, _, _, .nil R h => .nil R h
  | _, _, _, _, .none h => .none (EnvRep.sa k h)
  | _, _, _, _, .pur r h => .pur (Rep.sa k _ _ _ r) (EnvRep.sa k h)
  | _, _, _, _, .own r h => .own (Rep.sa k _ _ _ r) (EnvRep.sa k h)
  | _, _, _, _, .frn r h => .frn (Rep.sa k _ _ _ r) (EnvRep.sa k h)
theorem EnvRep.trk : ∀ {σ : L2.St} {env : Env} {OL FL : List Addr}, EnvRep K SA H σ env OL FL → (∀ a ∈ OL, H a ≠ Option.none) ∧ ∀ a ∈ FL, H a ≠ Option.none
  | _, _, _, _, .nil R h => ⟨h, (fun _ z => nomatch z)⟩
  | _, _, _, _, .none h => EnvRep.trk h
  | _, _, _, _, .pur r h => EnvRep.trk h
  | _, _, _, _, .own r h => ⟨fun a ha => (List.mem_append.mp ha).elim (Rep.trk _ _ _ r a) ((EnvRep.trk h).1 a), (EnvRep.trk h).2⟩
  | _, _, _, _, .frn r h => ⟨(EnvRep.trk h).1, fun a ha => (List.mem_append.mp ha).elim (Rep.trk _ _ _ r a) ((EnvRep.trk h).2 a)⟩
theorem EnvRep.length : ∀ {σ : L2.St} {env : Env} {OL FL : List Addr}, EnvRep K SA H σ env OL FL → σ.length = env.length
  | _, _, _, _, .nil _ _ => rfl
  | _, _, _, _, .none h => congrArg (· + 1) (EnvRep.length h)
  | _, _, _, _, .pur r h => congrArg (· + 1) (EnvRep.length h)
  | _, _, _, _, .own r h => congrArg (· + 1) (EnvRep.length h)
  | _, _, _, _, .frn r h => congrArg (· + 1) (EnvRep.length h)
/-- what a slot holds -/
theorem EnvRep.get : ∀ {σ : L2.St} {env : Env} {OL FL : List Addr} {i : Nat} {d : D} {m : Md}, EnvRep K SA H σ env OL FL → env[i]? = some (some (d, m)) →
    ∃ v L, σ[i]? = some (some v) ∧ Rep K SA H v d L ∧ ((m = .pur ∧ L = []) ∨ (m = .own ∧ L.Sublist OL) ∨ (m = .frn ∧ L.Sublist FL))
  | _, _, _, _, _, _, _, .nil _ _, e => by simp at e
  | _, _, _, _, 0, _, _, .none h, e => by simp at e
  | _, _, _, _, 0, _, _, .pur r h, e => by
    simp only [List.getElem?_cons_zero, Option.some.injEq, Prod.mk.injEq] at e
    obtain ⟨rfl, rfl⟩ := e
    exact ⟨_, [], rfl, r, .inl ⟨rfl, rfl⟩⟩
  | _, _, _, _, 0, _, _, .own r h, e => by
    simp only [List.getElem?_cons_zero, Option.some.injEq, Prod.mk.injEq] at e
    obtain ⟨rfl, rfl⟩ := e
    exact ⟨_, _, rfl, r, .inr (.inl ⟨rfl, List.sublist_append_left ..⟩)⟩
  | _, _, _, _, 0, _, _, .frn r h, e => by
    simp only [List.getElem?_cons_zero, Option.some.injEq, Prod.mk.injEq] at e
    obtain ⟨rfl, rfl⟩ := e
    exact ⟨_, _, rfl, r, .inr (.inr ⟨rfl, List.sublist_append_left ..⟩)⟩
  | _, _, _, _, i + 1, _, _, .none h, e => by
    obtain ⟨v, L, e1, r, q⟩ := EnvRep.get (i := i) h (by simpa using e)
    exact ⟨v, L, by simpa using e1, r, q⟩
  | _, _, _, _, i + 1, _, _, .pur _ h, e => by
    obtain ⟨v, L, e1, r, q⟩ := EnvRep.get (i := i) h (by simpa using e)
    exact ⟨v, L, by simpa using e1, r, q⟩
  | _, _, _, _, i + 1, _, _, .own _ h, e => by
    obtain ⟨v, L, e1, r, q⟩ := EnvRep.get (i := i) h (by simpa using e)
    exact ⟨v, L, by simpa using e1, r, q.imp id (Or.imp (fun z => ⟨z.1, z.2.trans (List.sublist_append_right ..)⟩) id)⟩
  | _, _, _, _, i + 1, _, _, .frn _ h, e => by
    obtain ⟨v, L, e1, r, q⟩ := EnvRep.get (i := i) h (by simpa using e)
    exact ⟨v, L, by simpa using e1, r, q.imp id (Or.imp id fun z => ⟨z.1, z.2.trans (List.sublist_append_right ..)⟩)⟩

/-! the store beside a step -/
theorem StoOk.ol {OL' : List Addr} (so : StoOk K SA OL H S) : StoOk K SA OL' H S := ⟨so.len, so.nd, so.obj⟩
theorem StoOk.trk (so : StoOk K SA OL H S) : ∀ a ∈ SA, H a ≠ none := fun a ha => by
  obtain ⟨n, hn, e⟩ := List.mem_iff_getElem.mp ha
  have e1 : SA[n]? = some a := by rw [List.getElem?_eq_getElem hn, e]
  have hn' : n < S.length := by rw [← so.len]; exact hn
  obtain ⟨vs, h1, _⟩ := so.obj n a _ e1 (List.getElem?_eq_getElem hn')
  rw [h1]; exact fun z => nomatch z
/-- nothing of the store is touched -/
theorem StoOk.keep {R : Addr → Prop} (so : StoOk K SA OL H S) (k : Keep R H H') (hs : ∀ a ∈ SA, ¬ R a) : StoOk K SA OL H' S :=
  ⟨so.len, so.nd, fun n a ds e1 e2 => by
    obtain ⟨vs, h1, h2⟩ := so.obj n a ds e1 e2
    exact ⟨vs, k.keep _ _ h1 (.inl (hs a (List.mem_of_getElem? e1))), RepAll.keep k _ _ _ h2 fun _ z => nomatch z⟩⟩
theorem EnvOk.keep {R : Addr → Prop} (eo : EnvOk K SA OL H σ env) (k : Keep R H H') (hr : ∀ a, R a → a ∈ SA) : EnvOk K SA OL H' σ env := by
  obtain ⟨⟨FL, r, hf⟩, nd, sa⟩ := eo
  exact ⟨⟨FL, r.keep k (fun a ha z => sa a ha (hr a z)) (fun a ha z => (hf a ha).2 (hr a z)), hf⟩, nd, sa⟩
theorem EnvOk.trk (eo : EnvOk K SA OL H σ env) : ∀ a ∈ OL, H a ≠ none := by
  obtain ⟨⟨FL, r, hf⟩, nd, sa⟩ := eo
  exact r.trk.1

theorem MdOk.own_frn {m : Md} {L : List Addr} (eo : ∀ a ∈ OL, H a ≠ none) (h : L.Nodup ∧ ∀ a ∈ L, H a = none) : ∀ a ∈ L, a ∉ OL := fun a ha z => eo a z (h.2 a ha)
theorem MdOk.pur_any {m : Md} : MdOk OL H m [] := by
  cases m with
  | pur => rfl
  | own => exact ⟨List.nodup_nil, fun _ z => nomatch z⟩
  | als => exact ⟨List.nodup_nil, fun _ z => nomatch z⟩
  | frn => exact fun _ z => nomatch z
  | bad => trivial
theorem MdOk.sub {m : Md} {L L' : List Addr} (h : MdOk OL H m L) (s : L'.Sublist L) : MdOk OL H m L' := by
  cases m with
  | pur => have h' : L = [] := h; subst h'; exact List.sublist_nil.mp s
  | own => exact ⟨h.1.sublist s, fun a ha => h.2 a (s.subset ha)⟩
  | als => exact ⟨h.1.sublist s, fun a ha => h.2 a (s.subset ha)⟩
  | frn => exact fun a ha => h a (s.subset ha)
  | bad => trivial
/-- two answers, the second behind the first -/
theorem MdOk.mix {m1 m2 : Md} {L1 L2 : List Addr} (eo : ∀ a ∈ OL, H a ≠ none) (h1 : MdOk OL H m1 L1) (h2 : MdOk OL H1 m2 L2) (t1 : ∀ a ∈ L1, H1 a ≠ none) (k : ∀ a, H a ≠ none → H1 a ≠ none) : MdOk OL H (m1.mix m2) (L1 ++ L2) := by
  have fresh : ∀ a, H1 a = none → H a = none := fun a e => by
    cases q : H a with
    | none => rfl
    | some o => exact absurd e (k a (by rw [q]; exact fun z => nomatch z))
  have up2 : MdOk OL H m2 L2 := by
    cases m2 with
    | own => exact ⟨h2.1, fun a ha => fresh a (h2.2 a ha)⟩
    | pur => exact h2
    | als => exact h2
    | frn => exact h2
    | bad => trivial
  cases m1 with
  | pur =>
    have e : L1 = [] := h1
    subst e
    exact up2
  | own =>
    cases m2 with
    | pur =>
      have e : L2 = [] := h2
      subst e
      rw [List.append_nil]
      exact h1
    | own => exact ⟨List.nodup_append.mpr ⟨h1.1, h2.1, fun a ha b hb e => t1 a ha (by rw [e]; exact h2.2 b hb)⟩, fun a ha => (List.mem_append.mp ha).elim (h1.2 a) fun z => fresh a (h2.2 a z)⟩
    | frn => exact fun a ha => (List.mem_append.mp ha).elim (fun z q => eo a q (h1.2 a z)) (h2 a)
    | als => trivial
    | bad => trivial
  | frn =>
    cases m2 with
    | pur =>
      have e : L2 = [] := h2
      subst e
      rw [List.append_nil]
      exact h1
    | own => exact fun a ha => (List.mem_append.mp ha).elim (h1 a) fun z q => eo a q (fresh a (h2.2 a z))
    | frn => exact fun a ha => (List.mem_append.mp ha).elim (h1 a) (h2 a)
    | als => trivial
    | bad => trivial
  | als =>
    cases m2 with
    | pur =>
      have e : L2 = [] := h2
      subst e
      rw [List.append_nil]
      exact h1
    | own => trivial
    | frn => trivial
    | als => trivial
    | bad => trivial
  | bad =>
    cases m2 with
    | pur => trivial
    | own => trivial
    | frn => trivial
    | als => trivial
    | bad => trivial
end

/-- a step of an expression: the store alone may turn -/
structure Stp (K : PySem.W.Frag) (SA OL : List Addr) (H : Hp) (S' : Sto) (H' : Hp) : Prop where
  k : Keep (· ∈ SA) H H'
  so : StoOk K SA OL H' S'
theorem Stp.here {K : PySem.W.Frag} {SA OL : List Addr} {H : Hp} {S : Sto} (so : StoOk K SA OL H S) : Stp K SA OL H S H := ⟨.refl, so⟩
theorem Stp.trans {K : PySem.W.Frag} {SA OL : List Addr} {H H1 H2 : Hp} {S1 S2 : Sto} (a : Stp K SA OL H S1 H1) (b : Stp K SA OL H1 S2 H2) : Stp K SA OL H S2 H2 := ⟨a.k.trans b.k, b.so⟩
/-- a new object -/
theorem Stp.new {K : PySem.W.Frag} {SA OL : List Addr} {H H1 : Hp} {S1 : Sto} {p : Addr} {o : HO} (a : Stp K SA OL H S1 H1) (hp : H1 p = none) : Stp K SA OL H S1 (upd H1 p o) :=
  ⟨a.k.trans (.new hp), a.so.keep (R := fun x => False) (.new hp) (fun _ _ z => z)⟩
theorem Stp.fresh {K : PySem.W.Frag} {SA OL : List Addr} {H H1 : Hp} {S1 : Sto} {p : Addr} (a : Stp K SA OL H S1 H1) (hp : H1 p = none) : H p = none := by
  cases q : H p with
  | none => rfl
  | some o => exact absurd hp (a.k.trk p (by rw [q]; exact fun z => nomatch z))

/-- what an answer is worth: the value v, of d, in the heap H' -/
structure Val (K : PySem.W.Frag) (SA OL : List Addr) (H H' : Hp) (v : V) (d : D) (m : Md) (L : List Addr) : Prop where
  rep : Rep K SA H' v d L
  sa : ∀ a ∈ L, a ∉ SA
  md : MdOk OL H m L
structure Vls (K : PySem.W.Frag) (SA OL : List Addr) (H H' : Hp) (vs : List V) (ds : List D) (m : Md) (L : List Addr) : Prop where
  rep : RepAll K SA H' vs ds L
  sa : ∀ a ∈ L, a ∉ SA
  md : MdOk OL H m L

def After {α : Type} (K : PySem.W.Frag) (E : XK) (SA OL : List Addr) (H : Hp) (r : Res α) (k : α → Sto → Hp → Prop) : Prop := match r with
  | .ok a S' => ∀ H', Stp K SA OL H S' H' → k a S' H'
  | .err c S' => ∀ H', Stp K SA OL H S' H' → E (.ref (He.ga K c)) none H'
  | .no => False

def EvF (K : PySem.W.Frag) (E : XK) (t : TE) (f : FE) : Prop := ∀ (σ : L2.St) (H : Hp) (env : Env) (SA OL : List Addr) (S : Sto), EnvOk K SA OL H σ env → StoOk K SA OL H S →
  ∀ Q : VK, After K E SA OL H (f env S) (fun dm _ H' => ∀ v L, Val K SA OL H H' v dm.1 dm.2 L → Q v H') → t σ H Q
def EtF (K : PySem.W.Frag) (E : XK) (t : TT) (f : FT) : Prop := ∀ (σ : L2.St) (H : Hp) (env : Env) (SA OL : List Addr) (S : Sto), EnvOk K SA OL H σ env → StoOk K SA OL H S →
  ∀ Q : Bool → Hp → Prop, After K E SA OL H (f env S) (fun b _ H' => Q b H') → t σ H Q
def EaF (K : PySem.W.Frag) (E : XK) (t : TA) (f : FA) : Prop := ∀ (σ : L2.St) (H : Hp) (env : Env) (SA OL : List Addr) (S : Sto), EnvOk K SA OL H σ env → StoOk K SA OL H S →
  ∀ Q : List V → Hp → Prop, After K E SA OL H (f env S) (fun dm _ H' => ∀ vs L, Vls K SA OL H H' vs dm.1 dm.2 L → Q vs H') → t σ H Q

section
variable {K : PySem.W.Frag} {E : XK} {SA OL : List Addr} {H H1 H2 : Hp} {σ : L2.St} {env : Env} {S S1 : Sto}
theorem Stp.envOk {S' : Sto} (a : Stp K SA OL H S' H1) (eo : EnvOk K SA OL H σ env) : EnvOk K SA OL H1 σ env := eo.keep a.k fun _ z => z
theorem Val.keep {v : V} {d : D} {m : Md} {L : List Addr} {S' : Sto} (x : Val K SA OL H H1 v d m L) (b : Stp K SA OL H1 S' H2) : Val K SA OL H H2 v d m L := ⟨x.rep.keep b.k _ _ _ x.sa, x.sa, x.md⟩
theorem Vls.keep {v : List V} {d : List D} {m : Md} {L : List Addr} {S' : Sto} (x : Vls K SA OL H H1 v d m L) (b : Stp K SA OL H1 S' H2) : Vls K SA OL H H2 v d m L := ⟨x.rep.keep b.k _ _ _ x.sa, x.sa, x.md⟩
/-- an answer behind a first step, seen from ahead of it -/
theorem MdOk.back {m : Md} {L : List Addr} {S' : Sto} (a : Stp K SA OL H S' H1) (h : MdOk OL H1 m L) : MdOk OL H m L := by
  cases m with
  | own => exact ⟨h.1, fun x hx => a.fresh (h.2 x hx)⟩
  | pur => exact h
  | als => exact h
  | frn => exact h
  | bad => trivial
theorem Val.back {v : V} {d : D} {m : Md} {L : List Addr} {S' : Sto} (a : Stp K SA OL H S' H1) (x : Val K SA OL H1 H2 v d m L) : Val K SA OL H H2 v d m L := ⟨x.rep, x.sa, x.md.back a⟩
theorem Vls.back {v : List V} {d : List D} {m : Md} {L : List Addr} {S' : Sto} (a : Stp K SA OL H S' H1) (x : Vls K SA OL H1 H2 v d m L) : Vls K SA OL H H2 v d m L := ⟨x.rep, x.sa, x.md.back a⟩
/-- the answer that a step behind a step gives -/
theorem After.back {α : Type} {r : Res α} {k : α → Sto → Hp → Prop} {S' : Sto} (a : Stp K SA OL H S' H1) (h : After K E SA OL H r k) : After K E SA OL H1 r k := by
  cases r with
  | ok x S2 => exact fun H' s => h H' (a.trans s)
  | err c S2 => exact fun H' s => h H' (a.trans s)
  | no => exact h
theorem After.imp {α : Type} {r : Res α} {k k' : α → Sto → Hp → Prop} (h : After K E SA OL H r k) (i : ∀ a S' H', r = .ok a S' → Stp K SA OL H S' H' → k a S' H' → k' a S' H') : After K E SA OL H r k' := by
  cases r with
  | ok x S2 => exact fun H' s => i _ _ _ rfl s (h H' s)
  | err c S2 => exact h
  | no => exact h
/-- bind: from what is wanted behind both to what is wanted behind the first -/
theorem After.seq {α β : Type} {r : Res α} {g : α → Sto → Res β} {k : β → Sto → Hp → Prop} (h : After K E SA OL H (r.bind g) k) :
    After K E SA OL H r (fun a S' H' => After K E SA OL H' (g a S') k) := by
  cases r with
  | ok x S2 =>
    intro H' s
    exact After.back s h
  | err c S2 => exact h
  | no => exact h
end
end Mi

set_option Elab.async false
set_option linter.all false
set_option maxRecDepth 100000
set_option maxHeartbeats 4000000
namespace Mi
open PySem PySem.Spec PyProof.Rows L2

/-! ### two values, the second behind the first -/
structure Two (K : PySem.W.Frag) (SA OL : List Addr) (H0 H1 H : Hp) (v1 : V) (d1 : D) (m1 : Md) (L1 : List Addr) (v2 : V) (d2 : D) (m2 : Md) (L2 : List Addr) : Prop where
  eo : ∀ a ∈ OL, H0 a ≠ none
  k0 : ∀ a, H0 a ≠ none → H1 a ≠ none
  k1 : ∀ a, H1 a ≠ none → H a ≠ none
  a : Val K SA OL H0 H v1 d1 m1 L1
  b : Val K SA OL H1 H v2 d2 m2 L2
  t : ∀ x ∈ L1, H1 x ≠ none
theorem Two.mix {K : PySem.W.Frag} {SA OL : List Addr} {H0 H1 H : Hp} {v1 v2 : V} {d1 d2 : D} {m1 m2 : Md} {L1 L2 : List Addr} (w : Two K SA OL H0 H1 H v1 d1 m1 L1 v2 d2 m2 L2) : MdOk OL H0 (m1.mix m2) (L1 ++ L2) :=
  MdOk.mix w.eo w.a.md w.b.md w.t w.k0
theorem Two.mixS {K : PySem.W.Frag} {SA OL : List Addr} {H0 H1 H : Hp} {v1 v2 : V} {d1 d2 : D} {m1 m2 : Md} {L1 L2 L1' L2' : List Addr} (w : Two K SA OL H0 H1 H v1 d1 m1 L1 v2 d2 m2 L2) (s1 : L1'.Sublist L1) (s2 : L2'.Sublist L2) : MdOk OL H0 (m1.mix m2) (L1' ++ L2') :=
  MdOk.mix w.eo (w.a.md.sub s1) (w.b.md.sub s2) (fun a ha => w.t a (s1.subset ha)) w.k0
theorem val_pur {K : PySem.W.Frag} {SA OL : List Addr} {H H' : Hp} {v : V} {d : D} (r : Rep K SA H' v d []) : Val K SA OL H H' v d .pur [] := ⟨r, (fun _ z => nomatch z), rfl⟩

abbrev G2 := D × Md → D × Md → Sto → Res (D × Md)
abbrev G1 := D × Md → Sto → Res (D × Md)
abbrev GL := List D × Md → Sto → Res (D × Md)
/-- a two-place reading by values, and its function -/
def R2F (K : PySem.W.Frag) (E : XK) (r : R2) (g : G2) : Prop := ∀ (SA OL : List Addr) (H0 H1 H : Hp) (S : Sto) (v1 : V) (d1 : D) (m1 : Md) (L1 : List Addr) (v2 : V) (d2 : D) (m2 : Md) (L2 : List Addr), StoOk K SA OL H S → Two K SA OL H0 H1 H v1 d1 m1 L1 v2 d2 m2 L2 →
  ∀ Q : VK, After K E SA OL H (g (d1, m1) (d2, m2) S) (fun dm _ H' => ∀ v L, Val K SA OL H0 H' v dm.1 dm.2 L → Q v H') → r v1 v2 H Q
def R1F (K : PySem.W.Frag) (E : XK) (r : V → Hp → VK → Prop) (g : G1) : Prop := ∀ (SA OL : List Addr) (H0 H : Hp) (S : Sto) (v1 : V) (d1 : D) (m1 : Md) (L1 : List Addr), StoOk K SA OL H S → (∀ a ∈ OL, H0 a ≠ none) → (∀ a, H0 a ≠ none → H a ≠ none) → Val K SA OL H0 H v1 d1 m1 L1 →
  ∀ Q : VK, After K E SA OL H (g (d1, m1) S) (fun dm _ H' => ∀ v L, Val K SA OL H0 H' v dm.1 dm.2 L → Q v H') → r v1 H Q
/-- a call by values, and its function -/
def RlF (K : PySem.W.Frag) (E : XK) (r : List V → Hp → VK → Prop) (g : GL) : Prop := ∀ (SA OL : List Addr) (H0 H : Hp) (S : Sto) (vs : List V) (ds : List D) (m : Md) (L : List Addr), StoOk K SA OL H S → (∀ a ∈ OL, H0 a ≠ none) → (∀ a, H0 a ≠ none → H a ≠ none) → Vls K SA OL H0 H vs ds m L →
  ∀ Q : VK, After K E SA OL H (g (ds, m) S) (fun dm _ H' => ∀ v L, Val K SA OL H0 H' v dm.1 dm.2 L → Q v H') → r vs H Q

def fOp2 (g : G2) (fa fb : FE) : FE := fun env S => (fa env S).bind fun x S1 => (fb env S1).bind fun y S2 => g x y S2
def fOp1 (g : G1) (fa : FE) : FE := fun env S => (fa env S).bind fun x S1 => g x S1
def fCB (g : GL) (fa : FA) : FE := fun env S => (fa env S).bind fun x S1 => g x S1
def fNil : FA := fun _ S => .ok ([], .pur) S
def fCons (fa : FE) (fr : FA) : FA := fun env S => (fa env S).bind fun x S1 => (fr env S1).bind fun y S2 => .ok (x.1 :: y.1, x.2.mix y.2) S2
def rdMd (d : D) : Md → Md
  | .own => if noLst d then .pur else .als
  | m => m
def fVar (i : Nat) : FE := fun env S => match env[i]? with
  | some (some (d, m)) => .ok (d, rdMd d m) S
  | _ => .no
def fC (d : D) : FE := fun _ S => .ok (d, .pur) S

section
variable {K : PySem.W.Frag} {E : XK} {ta tb tc te : TE} {fa fb fc fe : FE} {tr : TA} {fr : FA} {tt tu : TT} {ft fu : FT}
theorem evf_op {r : R2} {g : G2} (hr : R2F K E r g) (ha : EvF K E ta fa) (hb : EvF K E tb fb) : EvF K E (tOp r ta tb) (fOp2 g fa fb) := by
  intro σ H env SA OL S eo so Q h
  refine ha σ H env SA OL S eo so _ ((After.seq h).imp fun x S1 H1 _ s1 h1 v1 L1 x1 => ?_)
  have eo1 := s1.envOk eo
  refine hb σ H1 env SA OL S1 eo1 s1.so _ ((After.seq h1).imp fun y S2 H2 _ s2 h2 v2 L2 x2 => ?_)
  exact hr SA OL H H1 H2 S2 v1 _ _ L1 v2 _ _ L2 s2.so ⟨eo.trk, s1.k.trk, s2.k.trk, x1.keep s2, x2, Rep.trk _ _ _ x1.rep⟩ Q h2
theorem evf_un {r : V → Hp → VK → Prop} {g : G1} (hr : R1F K E r g) (ha : EvF K E ta fa) : EvF K E (tUn r ta) (fOp1 g fa) := by
  intro σ H env SA OL S eo so Q h
  refine ha σ H env SA OL S eo so _ ((After.seq h).imp fun x S1 H1 _ s1 h1 v1 L1 x1 => ?_)
  exact hr SA OL H H1 S1 v1 _ _ L1 s1.so eo.trk s1.k.trk x1 Q h1
theorem evf_cb {r : List V → Hp → VK → Prop} {g : GL} (hr : RlF K E r g) (ha : EaF K E tr fr) : EvF K E (tCB r tr) (fCB g fr) := by
  intro σ H env SA OL S eo so Q h
  refine ha σ H env SA OL S eo so _ ((After.seq h).imp fun x S1 H1 _ s1 h1 v1 L1 x1 => ?_)
  exact hr SA OL H H1 S1 v1 _ _ L1 s1.so eo.trk s1.k.trk x1 Q h1
theorem eaf_nil : EaF K E tNil fNil := fun σ H env SA OL S eo so Q h => h H (.here so) [] [] ⟨.nil, (fun _ z => nomatch z), rfl⟩
theorem eaf_cons (ha : EvF K E ta fa) (hr : EaF K E tr fr) : EaF K E (tCons ta tr) (fCons fa fr) := by
  intro σ H env SA OL S eo so Q h
  refine ha σ H env SA OL S eo so _ ((After.seq h).imp fun x S1 H1 _ s1 h1 v1 L1 x1 => ?_)
  have eo1 := s1.envOk eo
  refine hr σ H1 env SA OL S1 eo1 s1.so _ ((After.seq h1).imp fun y S2 H2 _ s2 h2 v2 L2 x2 => ?_)
  have x1' := x1.keep s2
  exact h2 H2 (.here s2.so) (v1 :: v2) (L1 ++ L2) ⟨.cons x1'.rep x2.rep, fun a ha => (List.mem_append.mp ha).elim (x1.sa a) (x2.sa a), MdOk.mix eo.trk x1.md x2.md (Rep.trk _ _ _ x1.rep) s1.k.trk⟩
theorem evf_var {i : Nat} : EvF K E (tVar i) (fVar i) := by
  intro σ H env SA OL S eo so Q h
  unfold fVar at h
  split at h
  · rename_i d m e
    obtain ⟨⟨FL, r, hf⟩, nd, sa⟩ := eo
    obtain ⟨v, L, e1, rep, q⟩ := r.get e
    refine ⟨v, e1, h H (.here so) v L ⟨rep, ?_, ?_⟩⟩
    · rcases q with ⟨_, rfl⟩ | ⟨_, s⟩ | ⟨_, s⟩
      · exact fun _ z => nomatch z
      · exact fun a ha => sa a (s.subset ha)
      · exact fun a ha => (hf a (s.subset ha)).2
    · rcases q with ⟨rfl, rfl⟩ | ⟨rfl, s⟩ | ⟨rfl, s⟩
      · rfl
      · show MdOk OL H (if noLst d then Md.pur else Md.als) L
        split
        · rename_i hn
          exact Rep.noL _ _ _ rep hn
        · exact ⟨nd.sublist s, fun a ha => s.subset ha⟩
      · exact fun a ha => (hf a (s.subset ha)).1
  · exact h.elim
theorem evf_c {v : V} {d : D} (r : ∀ SA H, Rep K SA H v d []) : EvF K E (tC v) (fC d) := fun σ H env SA OL S eo so Q h => h H (.here so) v [] (val_pur (r SA H))
theorem evf_int {i : Int} : EvF K E (tC (.int i)) (fC (.int i)) := evf_c fun _ _ => .int i
theorem evf_bl {i : Bool} : EvF K E (tC (.bl i)) (fC (.bl i)) := evf_c fun _ _ => .bl i
theorem evf_str {i : Str} : EvF K E (tC (.str i)) (fC (.str i)) := evf_c fun _ _ => .str i
theorem evf_non : EvF K E (tC .non) (fC .non) := evf_c fun _ _ => .non

/-! ### displays -/
def fTup (fa : FA) : FE := fun env S => (fa env S).bind fun x S1 => if x.1.length ≤ sizeLine then .ok (.tup x.1, x.2) S1 else .no
def fLst (fa : FA) : FE := fun env S => (fa env S).bind fun x S1 => if x.1.length ≤ sizeLine then .ok (.lst x.1, x.2.mix .own) S1 else .no
/-- a new object's address: fresh ahead, in no list before -/
theorem md_new {OL : List Addr} {H H1 : Hp} {m : Md} {L : List Addr} {p : Addr} (eo : ∀ a ∈ OL, H a ≠ none) (h : MdOk OL H m L) (hp : H p = none) (t : p ∉ L) : MdOk OL H (m.mix .own) (p :: L) := by
  cases m with
  | pur =>
    have e : L = [] := h
    subst e
    exact ⟨by simp, fun a ha => by simp at ha; rw [ha]; exact hp⟩
  | own => exact ⟨List.nodup_cons.mpr ⟨t, h.1⟩, fun a ha => (List.mem_cons.mp ha).elim (fun z => by rw [z]; exact hp) (h.2 a)⟩
  | frn => exact fun a ha => (List.mem_cons.mp ha).elim (fun z q => eo a q (by rw [z]; exact hp)) (h a)
  | als => trivial
  | bad => trivial
theorem evf_tup (ha : EaF K E tr fr) : EvF K E (tTup tr) (fTup fr) := by
  intro σ H env SA OL S eo so Q h
  refine ha σ H env SA OL S eo so _ ((After.seq h).imp fun x S1 H1 _ s1 h1 v1 L1 x1 => ?_)
  by_cases hz : x.1.length ≤ sizeLine
  · rw [if_pos hz] at h1
    refine ⟨by rw [x1.rep.length]; exact hz, fun p hp => ?_⟩
    have s2 : Stp K SA OL H1 S1 (upd H1 p (.tup v1)) := (Stp.here s1.so).new hp
    exact h1 _ s2 (.ref p) L1 ⟨.tup (SqT.of upd_same) (x1.keep s2).rep, x1.sa, x1.md⟩
  · rw [if_neg hz] at h1
    exact h1.elim
theorem evf_lst (ha : EaF K E tr fr) : EvF K E (tLst tr) (fLst fr) := by
  intro σ H env SA OL S eo so Q h
  refine ha σ H env SA OL S eo so _ ((After.seq h).imp fun x S1 H1 _ s1 h1 v1 L1 x1 => ?_)
  by_cases hz : x.1.length ≤ sizeLine
  · rw [if_pos hz] at h1
    refine ⟨by rw [x1.rep.length]; exact hz, fun p hp => ?_⟩
    have s2 : Stp K SA OL H1 S1 (upd H1 p (.lst v1)) := (Stp.here s1.so).new hp
    have np : p ∉ L1 := fun z => RepAll.trk _ _ _ x1.rep p z hp
    exact h1 _ s2 (.ref p) (p :: L1) ⟨.lst upd_same (x1.keep s2).rep, fun a ha => (List.mem_cons.mp ha).elim (fun z q => s1.so.trk a q (by rw [z]; exact hp)) (x1.sa a), md_new (H1 := H1) eo.trk x1.md (s1.fresh hp) np⟩
  · rw [if_neg hz] at h1
    exact h1.elim

/-! ### tests -/
def fTest (fe : FE) : FT := fun env S => (fe env S).bind fun x S1 => match x.1 with
  | .bl b => .ok b S1
  | _ => .no
def fAnd (ft fu : FT) : FT := fun env S => (ft env S).bind fun c S1 => if c then fu env S1 else .ok false S1
def fOr (ft fu : FT) : FT := fun env S => (ft env S).bind fun c S1 => if c then .ok true S1 else fu env S1
def fNot (ft : FT) : FT := fun env S => (ft env S).bind fun c S1 => .ok (!c) S1
theorem bl_of {K : PySem.W.Frag} {SA OL : List Addr} {H H' : Hp} {v : V} {b : Bool} {m : Md} {L : List Addr} (x : Val K SA OL H H' v (.bl b) m L) : v = .bl b := by
  cases x.rep
  rfl
theorem etf_test (ha : EvF K E te fe) : EtF K E (tTest te) (fTest fe) := by
  intro σ H env SA OL S eo so Q h
  refine ha σ H env SA OL S eo so _ ((After.seq h).imp fun x S1 H1 _ s1 h1 v1 L1 x1 => ?_)
  obtain ⟨d, m⟩ := x
  cases d with
  | bl b => exact ⟨b, bl_of x1, h1 H1 (.here s1.so)⟩
  | _ => exact h1.elim
theorem etf_B (ha : EvF K E te fe) : EtF K E (tB te) (fTest fe) := by
  intro σ H env SA OL S eo so Q h
  refine ha σ H env SA OL S eo so _ ((After.seq h).imp fun x S1 H1 _ s1 h1 v1 L1 x1 => ?_)
  obtain ⟨d, m⟩ := x
  cases d with
  | bl b => exact ⟨b, bl_of x1, h1 H1 (.here s1.so)⟩
  | _ => exact h1.elim
theorem etf_and (ha : EtF K E tt ft) (hb : EtF K E tu fu) : EtF K E (tAnd tt tu) (fAnd ft fu) := by
  intro σ H env SA OL S eo so Q h
  refine ha σ H env SA OL S eo so _ ((After.seq h).imp fun c S1 H1 _ s1 h1 => ?_)
  cases c with
  | true => exact hb σ H1 env SA OL S1 (s1.envOk eo) s1.so Q h1
  | false => exact h1 H1 (.here s1.so)
theorem etf_or (ha : EtF K E tt ft) (hb : EtF K E tu fu) : EtF K E (tOr tt tu) (fOr ft fu) := by
  intro σ H env SA OL S eo so Q h
  refine ha σ H env SA OL S eo so _ ((After.seq h).imp fun c S1 H1 _ s1 h1 => ?_)
  cases c with
  | false => exact hb σ H1 env SA OL S1 (s1.envOk eo) s1.so Q h1
  | true => exact h1 H1 (.here s1.so)
theorem etf_not (ha : EtF K E tt ft) : EtF K E (tNot tt) (fNot ft) := by
  intro σ H env SA OL S eo so Q h
  refine ha σ H env SA OL S eo so _ ((After.seq h).imp fun c S1 H1 _ s1 h1 => ?_)
  exact h1 H1 (.here s1.so)
def fIf (ft : FT) (fa fb : FE) : FE := fun env S => (ft env S).bind fun c S1 => if c then fa env S1 else fb env S1
theorem After.backV {K : PySem.W.Frag} {E : XK} {SA OL : List Addr} {H H1 : Hp} {S1 : Sto} {r : Res (D × Md)} {Q : VK} (s : Stp K SA OL H S1 H1) (h : After K E SA OL H1 r (fun dm _ H' => ∀ v L, Val K SA OL H H' v dm.1 dm.2 L → Q v H')) :
    After K E SA OL H1 r (fun dm _ H' => ∀ v L, Val K SA OL H1 H' v dm.1 dm.2 L → Q v H') := h.imp fun _ _ _ _ _ q v L x => q v L (x.back s)
theorem evf_if (hc : EtF K E tt ft) (ha : EvF K E ta fa) (hb : EvF K E tb fb) : EvF K E (tIf tt ta tb) (fIf ft fa fb) := by
  intro σ H env SA OL S eo so Q h
  refine hc σ H env SA OL S eo so _ ((After.seq h).imp fun c S1 H1 _ s1 h1 => ?_)
  cases c with
  | true => exact ha σ H1 env SA OL S1 (s1.envOk eo) s1.so Q (After.backV s1 h1)
  | false => exact hb σ H1 env SA OL S1 (s1.envOk eo) s1.so Q (After.backV s1 h1)
/-- and, or, not as values, the first a bool -/
def fAndV (fa fb : FE) : FE := fun env S => (fa env S).bind fun x S1 => match x.1 with
  | .bl c => if c then fb env S1 else .ok (.bl false, .pur) S1
  | _ => .no
def fOrV (fa fb : FE) : FE := fun env S => (fa env S).bind fun x S1 => match x.1 with
  | .bl c => if c then .ok (.bl true, .pur) S1 else fb env S1
  | _ => .no
def fNotV (fa : FE) : FE := fun env S => (fa env S).bind fun x S1 => match x.1 with
  | .bl c => .ok (.bl (!c), .pur) S1
  | _ => .no
theorem evf_andV (ha : EvF K E ta fa) (hb : EvF K E tb fb) : EvF K E (tAndV ta tb) (fAndV fa fb) := by
  intro σ H env SA OL S eo so Q h
  refine ha σ H env SA OL S eo so _ ((After.seq h).imp fun x S1 H1 _ s1 h1 v1 L1 x1 => ?_)
  obtain ⟨d, m⟩ := x
  cases d with
  | bl c =>
    refine ⟨c, bl_of x1, ?_⟩
    cases c with
    | true => exact hb σ H1 env SA OL S1 (s1.envOk eo) s1.so Q (After.backV s1 h1)
    | false => exact h1 H1 (.here s1.so) (.bl false) [] (val_pur (.bl _))
  | _ => exact h1.elim
theorem evf_orV (ha : EvF K E ta fa) (hb : EvF K E tb fb) : EvF K E (tOrV ta tb) (fOrV fa fb) := by
  intro σ H env SA OL S eo so Q h
  refine ha σ H env SA OL S eo so _ ((After.seq h).imp fun x S1 H1 _ s1 h1 v1 L1 x1 => ?_)
  obtain ⟨d, m⟩ := x
  cases d with
  | bl c =>
    refine ⟨c, bl_of x1, ?_⟩
    cases c with
    | false => exact hb σ H1 env SA OL S1 (s1.envOk eo) s1.so Q (After.backV s1 h1)
    | true => exact h1 H1 (.here s1.so) (.bl true) [] (val_pur (.bl _))
  | _ => exact h1.elim
theorem evf_notV (ha : EvF K E ta fa) : EvF K E (tNotV ta) (fNotV fa) := by
  intro σ H env SA OL S eo so Q h
  refine ha σ H env SA OL S eo so _ ((After.seq h).imp fun x S1 H1 _ s1 h1 v1 L1 x1 => ?_)
  obtain ⟨d, m⟩ := x
  cases d with
  | bl c => exact ⟨c, bl_of x1, h1 H1 (.here s1.so) (.bl (!c)) [] (val_pur (.bl _))⟩
  | _ => exact h1.elim
/-- a < b < c -/
def fChain (g g' : G2) (fa fb fc : FE) : FT := fun env S => (fa env S).bind fun x S1 => (fb env S1).bind fun y S2 => (g x y S2).bind fun z S3 => match z.1 with
  | .bl c => if c then (fc env S3).bind fun u S4 => (g' y u S4).bind fun z' S5 => (match z'.1 with | .bl c' => .ok c' S5 | _ => .no) else .ok false S3
  | _ => .no
end
end Mi

set_option Elab.async false
set_option linter.all false
set_option maxRecDepth 100000
set_option maxHeartbeats 4000000
namespace Mi
open PySem PySem.Spec PyProof.Rows L2

section
variable {K : PySem.W.Frag} {E : XK} {ta tb tc te : TE} {fa fb fc fe : FE} {tr : TA} {fr : FA} {tt tu : TT} {ft fu : FT}
def fChainV (g g' : G2) (fa fb fc : FE) : FE := fun env S => (fa env S).bind fun x S1 => (fb env S1).bind fun y S2 => (g x y S2).bind fun z S3 => match z.1 with
  | .bl c => if c then (fc env S3).bind fun u S4 => g' y u S4 else .ok (.bl false, .pur) S3
  | _ => .no
theorem evf_chain {r r' : R2} {g g' : G2} (hr : R2F K E r g) (hr' : R2F K E r' g') (ha : EvF K E ta fa) (hb : EvF K E tb fb) (hc : EvF K E tc fc) : EvF K E (tChain r r' ta tb tc) (fChainV g g' fa fb fc) := by
  intro σ H env SA OL S eo so Q h
  refine ha σ H env SA OL S eo so _ ((After.seq h).imp fun x S1 H1 _ s1 h1 v1 L1 x1 => ?_)
  have eo1 := s1.envOk eo
  refine hb σ H1 env SA OL S1 eo1 s1.so _ ((After.seq h1).imp fun y S2 H2 _ s2 h2 v2 L2 x2 => ?_)
  refine hr SA OL H H1 H2 S2 v1 _ _ L1 v2 _ _ L2 s2.so ⟨eo.trk, s1.k.trk, s2.k.trk, x1.keep s2, x2, Rep.trk _ _ _ x1.rep⟩ _ ((After.seq h2).imp fun z S3 H3 _ s3 h3 v3 L3 x3 => ?_)
  obtain ⟨d, m⟩ := z
  have s12 := s1.trans s2
  cases d with
  | bl c =>
    refine ⟨c, bl_of x3, ?_⟩
    cases c with
    | false => exact h3 H3 (.here s3.so) (.bl false) [] (val_pur (.bl _))
    | true =>
      show tc σ H3 _
      have eo3 := (s12.trans s3).envOk eo
      have h3' : After K E SA OL H3 ((fc env S3).bind fun u S4 => g' y u S4) (fun dm _ H' => ∀ v L, Val K SA OL H H' v dm.1 dm.2 L → Q v H') := h3
      refine hc σ H3 env SA OL S3 eo3 s3.so _ ((After.seq h3').imp fun u S4 H4 _ s4 h4 v4 L4 x4 => ?_)
      exact hr' SA OL H1 H3 H4 S4 v2 _ _ L2 v4 _ _ L4 s4.so ⟨eo1.trk, (s2.trans s3).k.trk, s4.k.trk, (x2.keep s3).keep s4, x4, Rep.trk _ _ _ (x2.keep s3).rep⟩ Q (h4.imp fun _ _ _ _ _ q v L x => q v L (x.back s1))
  | _ => exact h3.elim

/-! ### ints -/
def kI (C : Int → Int → Prop) [∀ i j, Decidable (C i j)] (f : Int → Int → D) : G2 := fun x y S => match x.1, y.1 with
  | .int i, .int j => if C i j then .ok (f i j, .pur) S else .no
  | _, _ => .no
def kI0 (f : Int → Int → D) : G2 := fun x y S => match x.1, y.1 with
  | .int i, .int j => .ok (f i j, .pur) S
  | _, _ => .no
theorem int_of {SA OL : List Addr} {H H' : Hp} {v : V} {b : Int} {m : Md} {L : List Addr} (x : Val K SA OL H H' v (.int b) m L) : v = .int b := by
  cases x.rep
  rfl
theorem r2_int {C : Int → Int → Prop} [∀ i j, Decidable (C i j)] {gv : Int → Int → V} {f : Int → Int → D} (hv : ∀ SA H i j, Rep K SA H (gv i j) (f i j) []) : R2F K E (rI C gv) (kI C f) := by
  intro SA OL H0 H1 H S v1 d1 m1 L1 v2 d2 m2 L2 so w Q h
  cases d1 with
  | int i =>
    cases d2 with
    | int j =>
      have h' : After K E SA OL H (if C i j then .ok (f i j, .pur) S else .no) (fun dm _ H' => ∀ v L, Val K SA OL H0 H' v dm.1 dm.2 L → Q v H') := h
      by_cases hc : C i j
      · rw [if_pos hc] at h'
        exact ⟨i, j, int_of w.a, int_of w.b, hc, h' H (.here so) _ [] (val_pur (hv _ _ _ _))⟩
      · rw [if_neg hc] at h'
        exact h'.elim
    | _ => exact h.elim
  | _ => exact h.elim
theorem r2_int0 {gv : Int → Int → V} {f : Int → Int → D} (hv : ∀ SA H i j, Rep K SA H (gv i j) (f i j) []) : R2F K E (rI0 gv) (kI0 f) := by
  intro SA OL H0 H1 H S v1 d1 m1 L1 v2 d2 m2 L2 so w Q h
  cases d1 with
  | int i =>
    cases d2 with
    | int j => exact ⟨i, j, int_of w.a, int_of w.b, h H (.here so) _ [] (val_pur (hv _ _ _ _))⟩
    | _ => exact h.elim
  | _ => exact h.elim
instance (i j : Int) : Decidable (CMulW i j) := inferInstanceAs (Decidable (_ < _))
instance (i j : Int) : Decidable (CDivW i j) := inferInstanceAs (Decidable (_ ∧ _))
instance (i j : Int) : Decidable (CPow i j) := inferInstanceAs (Decidable (_ ∧ _))
abbrev kSub : G2 := kI0 fun i j => .int (i - j)
abbrev kDiv : G2 := kI CDivW fun i j => .int (i / j)
abbrev kMod : G2 := kI (fun _ j => 0 < j) fun i j => .int (i % j)
abbrev kPow : G2 := kI CPow fun i j => .int (i ^ j.toNat)
abbrev kLt : G2 := kI0 fun i j => .bl (decide (i < j))
abbrev kLe : G2 := kI0 fun i j => .bl (decide (i ≤ j))
abbrev kGt : G2 := kI0 fun i j => .bl (decide (j < i))
abbrev kGe : G2 := kI0 fun i j => .bl (decide (j ≤ i))
theorem r2_sub : R2F K E (rI0 fun i j => .int (i - j)) kSub := r2_int0 fun _ _ _ _ => .int _
theorem r2_div : R2F K E (rI CDivW fun i j => .int (i / j)) kDiv := r2_int fun _ _ _ _ => .int _
theorem r2_mod : R2F K E (rI (fun _ j => 0 < j) fun i j => .int (i % j)) kMod := r2_int fun _ _ _ _ => .int _
theorem r2_pow : R2F K E (rI CPow fun i j => .int (i ^ j.toNat)) kPow := r2_int fun _ _ _ _ => .int _
theorem r2_lt : R2F K E (rI0 fun i j => .bl (decide (i < j))) kLt := r2_int0 fun _ _ _ _ => .bl _
theorem r2_le : R2F K E (rI0 fun i j => .bl (decide (i ≤ j))) kLe := r2_int0 fun _ _ _ _ => .bl _
theorem r2_gt : R2F K E (rI0 fun i j => .bl (decide (j < i))) kGt := r2_int0 fun _ _ _ _ => .bl _
theorem r2_ge : R2F K E (rI0 fun i j => .bl (decide (j ≤ i))) kGe := r2_int0 fun _ _ _ _ => .bl _

/-! ### one rule of two -/
def rOr (r r' : R2) : R2 := fun x y H Q => r x y H Q ∨ r' x y H Q
theorem opr_or {X : Cx} {f : Value → Value → Sem Value} {r r' : R2} (a : OpR X f r) (b : OpR X f r') : OpR X f (rOr r r') := fun pins s σ H x y v u Q I rx ry h => h.elim (a pins s σ H x y v u Q I rx ry) (b pins s σ H x y v u Q I rx ry)
/-- the first function, where it gives nothing the second -/
def kOr (g g' : G2) : G2 := fun x y S => match g x y S with
  | .no => g' x y S
  | r => r
theorem r2_or {r r' : R2} {g g' : G2} (a : R2F K E r g) (b : R2F K E r' g') : R2F K E (rOr r r') (kOr g g') := by
  intro SA OL H0 H1 H S v1 d1 m1 L1 v2 d2 m2 L2 so w Q h
  unfold kOr at h
  cases e : g (d1, m1) (d2, m2) S with
  | no =>
    rw [e] at h
    exact .inr (b SA OL H0 H1 H S v1 d1 m1 L1 v2 d2 m2 L2 so w Q h)
  | ok x S' =>
    rw [e] at h
    exact .inl (a SA OL H0 H1 H S v1 d1 m1 L1 v2 d2 m2 L2 so w Q (by rw [e]; exact h))
  | err c S' =>
    rw [e] at h
    exact .inl (a SA OL H0 H1 H S v1 d1 m1 L1 v2 d2 m2 L2 so w Q (by rw [e]; exact h))

/-! ### + -/
theorem str_of {SA OL : List Addr} {H H' : Hp} {v : V} {b : Str} {m : Md} {L : List Addr} (x : Val K SA OL H H' v (.str b) m L) : v = .str b := by
  cases x.rep
  rfl
def rAddStr : R2 := fun x y H Q => ∃ i j, x = .str i ∧ y = .str j ∧ i.length + j.length ≤ sizeLine ∧ Q (.str (i ++ j)) H
theorem op_addStr {X : Cx} : OpR X (binaryOp .Add) rAddStr := op_add_str
def kAddStr : G2 := fun x y S => match x.1, y.1 with
  | .str i, .str j => if i.length + j.length ≤ sizeLine then .ok (.str (i ++ j), .pur) S else .no
  | _, _ => .no
theorem r2_addStr : R2F K E rAddStr kAddStr := by
  intro SA OL H0 H1 H S v1 d1 m1 L1 v2 d2 m2 L2 so w Q h
  cases d1 with
  | str i =>
    cases d2 with
    | str j =>
      have h' : After K E SA OL H (if i.length + j.length ≤ sizeLine then .ok (.str (i ++ j), .pur) S else .no) (fun dm _ H' => ∀ v L, Val K SA OL H0 H' v dm.1 dm.2 L → Q v H') := h
      by_cases hc : i.length + j.length ≤ sizeLine
      · rw [if_pos hc] at h'
        exact ⟨i, j, str_of w.a, str_of w.b, hc, h' H (.here so) _ [] (val_pur (.str _))⟩
      · rw [if_neg hc] at h'
        exact h'.elim
    | _ => exact h.elim
  | _ => exact h.elim
/-- tuples: what is made is a tuple; where one is empty the other one itself -/
def kCatT : G2 := fun x y S => match x.1.tupOf?, y.1.tupOf? with
  | some xs, some ys => if xs.length + ys.length ≤ sizeLine then (if xs = [] then .ok (y.1, x.2.mix y.2) S else if ys = [] then .ok (x.1, x.2.mix y.2) S else .ok (.tup (xs ++ ys), x.2.mix y.2) S) else .no
  | _, _ => .no
theorem nil_of {SA : List Addr} {H : Hp} {vs : List V} {ds : List D} {L : List Addr} (r : RepAll K SA H vs ds L) : vs = [] ↔ ds = [] := by
  have e := r.length
  constructor
  · intro z
    rw [z] at e
    exact List.length_eq_zero_iff.mp e.symm
  · intro z
    rw [z] at e
    exact List.length_eq_zero_iff.mp e
instance decNil {α : Type} (l : List α) : Decidable (l = []) := match l with
  | [] => isTrue rfl
  | _ :: _ => isFalse (fun z => nomatch z)
theorem r2_catT : R2F K E (rCatA K) kCatT := by
  intro SA OL H0 H1 H S v1 d1 m1 L1 v2 d2 m2 L2 so w Q h
  unfold kCatT at h
  split at h
  · rename_i xs ys e1 e2
    obtain ⟨a, vs, rfl, h1, r1⟩ := w.a.rep.tupOf e1
    obtain ⟨b, ws, rfl, h2, r2⟩ := w.b.rep.tupOf e2
    split at h
    · rename_i hz
      refine ⟨a, b, vs, ws, rfl, rfl, h1, h2, by rw [r1.length, r2.length]; exact hz, fun z => ?_, fun z z' => ?_, fun z z' p hp => ?_⟩
      · have zx := (nil_of r1).mp z
        rw [if_pos zx] at h
        exact h H (.here so) _ L2 ⟨w.b.rep, w.b.sa, by
          have := w.mixS (L1' := []) (L2' := L2) (List.nil_sublist _) (List.Sublist.refl _)
          simpa using this⟩
      · have zx : ¬ xs = [] := fun q => z ((nil_of r1).mpr q)
        have zy := (nil_of r2).mp z'
        rw [if_neg zx, if_pos zy] at h
        exact h H (.here so) _ L1 ⟨w.a.rep, w.a.sa, by
          have := w.mixS (L1' := L1) (L2' := []) (List.Sublist.refl _) (List.nil_sublist _)
          simpa using this⟩
      · have zx : ¬ xs = [] := fun q => z ((nil_of r1).mpr q)
        have zy : ¬ ys = [] := fun q => z' ((nil_of r2).mpr q)
        rw [if_neg zx, if_neg zy] at h
        have s2 : Stp K SA OL H S (upd H p (.tup (vs ++ ws))) := (Stp.here so).new hp
        have k : Keep (· ∈ SA) H (upd H p (.tup (vs ++ ws))) := s2.k
        exact h _ s2 _ (L1 ++ L2) ⟨.tup (SqT.of upd_same) ((r1.append r2).keep k _ _ _ fun x hx => (List.mem_append.mp hx).elim (w.a.sa x) (w.b.sa x)), fun x hx => (List.mem_append.mp hx).elim (w.a.sa x) (w.b.sa x), w.mix⟩
    · exact h.elim
  · exact h.elim
/-- lists -/
def kCatL : G2 := fun x y S => match x.1, y.1 with
  | .lst xs, .lst ys => if xs.length + ys.length ≤ sizeLine then .ok (.lst (xs ++ ys), (x.2.mix y.2).mix .own) S else .no
  | _, _ => .no
theorem r2_catL : R2F K E rCat kCatL := by
  intro SA OL H0 H1 H S v1 d1 m1 L1 v2 d2 m2 L2 so w Q h
  cases d1 with
  | lst xs =>
    cases d2 with
    | lst ys =>
      have h' : After K E SA OL H (if xs.length + ys.length ≤ sizeLine then .ok (.lst (xs ++ ys), (m1.mix m2).mix .own) S else .no) (fun dm _ H' => ∀ v L, Val K SA OL H0 H' v dm.1 dm.2 L → Q v H') := h
      obtain ⟨ar, as_, am⟩ := w.a
      obtain ⟨br, bs, bm⟩ := w.b
      have hmix := w.mix
      have w' := w
      cases ar with
      | @lst a vs _ La ha1 ha2 =>
        cases br with
        | @lst b ws _ Lb hb1 hb2 =>
          by_cases hc : xs.length + ys.length ≤ sizeLine
          · rw [if_pos hc] at h'
            refine ⟨a, b, vs, ws, rfl, rfl, ha1, hb1, by rw [ha2.length, hb2.length]; exact hc, fun p hp => ?_⟩
            have s2 : Stp K SA OL H S (upd H p (.lst (vs ++ ws))) := (Stp.here so).new hp
            have sa : ∀ x ∈ La ++ Lb, x ∉ SA := fun x hx => (List.mem_append.mp hx).elim (fun z => as_ x (List.mem_cons_of_mem _ z)) (fun z => bs x (List.mem_cons_of_mem _ z))
            have np : p ∉ La ++ Lb := fun z => RepAll.trk _ _ _ (ha2.append hb2) p z hp
            have hp0 : H0 p = none := by
              cases q : H0 p with
              | none => rfl
              | some o => exact absurd hp (w.k1 p (w.k0 p (by rw [q]; exact fun z => nomatch z)))
            exact h' _ s2 _ (p :: (La ++ Lb)) ⟨.lst upd_same ((ha2.append hb2).keep s2.k _ _ _ sa), fun x hx => (List.mem_cons.mp hx).elim (fun z q => so.trk x q (by rw [z]; exact hp)) (sa x),
              md_new (H1 := H) w.eo (w.mixS (List.sublist_cons_self ..) (List.sublist_cons_self ..)) hp0 np⟩
          · rw [if_neg hc] at h'
            exact h'.elim
    | _ => exact h.elim
  | _ => exact h.elim
def rAddAll (K : PySem.W.Frag) : R2 := rOr (rI0 fun i j => .int (i + j)) (rOr rAddStr (rOr (rCatA K) rCat))
def kAdd : G2 := kOr (kI0 fun i j => .int (i + j)) (kOr kAddStr (kOr kCatT kCatL))
theorem op_addAll {X : Cx} : OpR X (binaryOp .Add) (rAddAll X.K) := opr_or op_add (opr_or op_addStr (opr_or op_catA op_cat))
theorem r2_add : R2F K E (rAddAll K) kAdd := r2_or (r2_int0 fun _ _ _ _ => .int _) (r2_or r2_addStr (r2_or r2_catT r2_catL))

/-! ### items -/
def elMd (d : D) (m : Md) : Md := if m = .pur then .pur else if noLst d then .pur else m
theorem atI_rep {SA : List Addr} {H : Hp} {vs : List V} {ds : List D} {L : List Addr} {i : Int} {d : D} (r : RepAll K SA H vs ds L) (e : atI ds i = some d) : ∃ v L', atI vs i = some v ∧ Rep K SA H v d L' ∧ L'.Sublist L := by
  unfold atI at e ⊢
  rw [Option.bind_eq_some_iff] at e
  obtain ⟨j, e1, e2⟩ := e
  obtain ⟨v, L', e3, r', s⟩ := r.get e2
  refine ⟨v, L', ?_, r', s⟩
  rw [r.length, e1]
  exact e3
/-- an item of a value's list -/
theorem el_val {SA OL : List Addr} {H0 H : Hp} {v : V} {d : D} {m : Md} {L L' : List Addr} (r : Rep K SA H v d L') (s : L'.Sublist L) (sa : ∀ a ∈ L, a ∉ SA) (md : MdOk OL H0 m L) : Val K SA OL H0 H v d (elMd d m) L' := by
  refine ⟨r, fun a ha => sa a (s.subset ha), ?_⟩
  unfold elMd
  split
  · rename_i e
    subst e
    have e2 : L = [] := md
    subst e2
    exact List.sublist_nil.mp s
  · split
    · rename_i hn
      exact Rep.noL _ _ _ r hn
    · exact md.sub s
def kIx : G2 := fun x y S => match x.1 with
  | .str z => (match y.1 with
    | .int i => if z.length ≤ sizeLine then (match atI z.cps.toList i with | some c => .ok (.str ⟨#[c]⟩, .pur) S | none => .no) else .no
    | _ => .no)
  | .ref n => (match y.1, S[n]? with
    | .int i, some l => (match atI l i with | some d => .ok (d, .pur) S | none => .no)
    | _, _ => .no)
  | _ => (match x.1.seqOf?, y.1 with
    | some l, .int i => (match atI l i with | some d => .ok (d, elMd d x.2) S | none => .no)
    | _, _ => .no)
theorem ref_of {SA OL : List Addr} {H H' : Hp} {v : V} {n : Nat} {m : Md} {L : List Addr} (x : Val K SA OL H H' v (.ref n) m L) : ∃ a, v = .ref a ∧ SA[n]? = some a := by
  cases x.rep with
  | ref e => exact ⟨_, rfl, e⟩
theorem r2_ix : R2F K E (rIx K) kIx := by
  intro SA OL H0 H1 H S v1 d1 m1 L1 v2 d2 m2 L2 so w Q h
  have seq : ∀ l, d1.seqOf? = some l → After K E SA OL H (match d1.seqOf?, d2 with
    | some l, .int i => (match atI l i with | some d => .ok (d, elMd d m1) S | none => .no)
    | _, _ => .no) (fun dm _ H' => ∀ v L, Val K SA OL H0 H' v dm.1 dm.2 L → Q v H') → rIx K v1 v2 H Q := by
    intro l el h
    rw [el] at h
    cases d2 with
    | int i =>
      have h' : After K E SA OL H (match atI l i with | some d => .ok (d, elMd d m1) S | none => .no) (fun dm _ H' => ∀ v L, Val K SA OL H0 H' v dm.1 dm.2 L → Q v H') := h
      have e2 := int_of w.b
      obtain ⟨a, vs, L', rfl, hs, r, sl⟩ := w.a.rep.seqOf el
      cases e : atI l i with
      | none => rw [e] at h'; exact h'.elim
      | some d =>
        rw [e] at h'
        obtain ⟨v, L'', ev, rv, s⟩ := atI_rep r e
        have q := h' H (.here so) v L'' (el_val rv (s.trans sl) w.a.sa w.a.md)
        rcases hs with hs | hs
        · exact .inl ⟨a, vs, i, v, rfl, e2, hs, ev, q⟩
        · exact .inr (.inl ⟨a, vs, i, v, rfl, e2, hs, ev, q⟩)
    | _ => exact h.elim
  cases d1 with
  | str z =>
    cases d2 with
    | int i =>
      have h' : After K E SA OL H (if z.length ≤ sizeLine then (match atI z.cps.toList i with | some c => .ok (.str ⟨#[c]⟩, .pur) S | none => .no) else .no) (fun dm _ H' => ∀ v L, Val K SA OL H0 H' v dm.1 dm.2 L → Q v H') := h
      by_cases hz : z.length ≤ sizeLine
      · rw [if_pos hz] at h'
        cases e : atI z.cps.toList i with
        | none => rw [e] at h'; exact h'.elim
        | some c =>
          rw [e] at h'
          exact .inr (.inr ⟨z, i, c, str_of w.a, int_of w.b, hz, e, h' H (.here so) _ [] (val_pur (.str _))⟩)
      · rw [if_neg hz] at h'
        exact h'.elim
    | _ => exact h.elim
  | ref n =>
    cases d2 with
    | int i =>
      have h' : After K E SA OL H (match (D.int i), S[n]? with
          | .int i, some l => (match atI l i with | some d => .ok (d, .pur) S | none => .no)
          | _, _ => .no) (fun dm _ H' => ∀ v L, Val K SA OL H0 H' v dm.1 dm.2 L → Q v H') := h
      obtain ⟨a, rfl, ea⟩ := ref_of w.a
      cases es : S[n]? with
      | none => rw [es] at h'; exact h'.elim
      | some l =>
        rw [es] at h'
        obtain ⟨vs, e1, r⟩ := so.obj n a l ea es
        have h'' : After K E SA OL H (match atI l i with | some d => .ok (d, .pur) S | none => .no) (fun dm _ H' => ∀ v L, Val K SA OL H0 H' v dm.1 dm.2 L → Q v H') := h'
        cases e : atI l i with
        | none => rw [e] at h''; exact h''.elim
        | some d =>
          rw [e] at h''
          obtain ⟨v, L'', ev, rv, s⟩ := atI_rep r e
          exact .inl ⟨a, vs, i, v, rfl, int_of w.b, SqL.of e1, ev, h'' H (.here so) v [] (val_pur (by rw [List.sublist_nil.mp s] at rv; exact rv))⟩
    | _ => exact h.elim
  | tup l => exact seq l rfl h
  | xtp l => exact seq l rfl h
  | lst l => exact seq l rfl h
  | fls l => exact seq l rfl h
  | _ => exact h.elim
end
end Mi

set_option Elab.async false
set_option linter.all false
set_option maxRecDepth 100000
set_option maxHeartbeats 4000000
namespace Mi
open PySem PySem.Spec PyProof.Rows L2

section
variable {K : PySem.W.Frag} {E : XK} {ta tb tc te : TE} {fa fb fc fe : FE} {tr : TA} {fr : FA} {tt tu : TT} {ft fu : FT}
theorem non_of {SA OL : List Addr} {H H' : Hp} {v : V} {m : Md} {L : List Addr} (x : Val K SA OL H H' v .non m L) : v = .non := by
  cases x.rep
  rfl
/-! ### == -/
/-- scalars -/
def scEq : D → D → Option Bool
  | .non, .non => some true
  | .non, .int _ => some false
  | .int _, .non => some false
  | .non, .bl _ => some false
  | .bl _, .non => some false
  | .non, .str _ => some false
  | .str _, .non => some false
  | .int i, .int j => some (decide (i = j))
  | .bl i, .bl j => some (decide (i = j))
  | .str i, .str j => some (decide (i = j))
  | .int _, .str _ => some false
  | .str _, .int _ => some false
  | .bl _, .str _ => some false
  | .str _, .bl _ => some false
  | _, _ => none
theorem scEq_ok {SA : List Addr} {H : Hp} {v1 v2 : V} {d1 d2 : D} {L1 L2 : List Addr} {b : Bool} (r1 : Rep K SA H v1 d1 L1) (r2 : Rep K SA H v2 d2 L2) (e : scEq d1 d2 = some b) : scal v1 v2 = true ∧ decide (v1 = v2) = b := by
  cases r1 <;> cases r2 <;> simp only [scEq, Option.some.injEq, reduceCtorEq] at e <;> subst e <;> first
    | exact ⟨rfl, rfl⟩
    | exact ⟨rfl, by simp⟩
def kEqS (neg : Bool) : G2 := fun x y S => match scEq x.1 y.1 with
  | some b => .ok (.bl (if neg then !b else b), .pur) S
  | none => .no
def kEqD (neg : Bool) : G2 := fun x y S => match x.1.toPy, y.1.toPy with
  | some p, some q => if SeqAt.shaped p && SeqAt.shaped q then .ok (.bl (if neg then !PyData.eqv p q else PyData.eqv p q), .pur) S else .no
  | _, _ => .no
theorem r2_eqS : R2F K E rEq (kEqS false) := by
  intro SA OL H0 H1 H S v1 d1 m1 L1 v2 d2 m2 L2 so w Q h
  cases e : scEq d1 d2 with
  | none => simp only [kEqS, e] at h; exact h.elim
  | some b =>
    simp only [kEqS, e] at h
    obtain ⟨h1, h2⟩ := scEq_ok w.a.rep w.b.rep e
    refine ⟨h1, ?_⟩
    rw [h2]
    exact h H (.here so) _ [] (val_pur (.bl _))
theorem r2_neS : R2F K E rNe (kEqS true) := by
  intro SA OL H0 H1 H S v1 d1 m1 L1 v2 d2 m2 L2 so w Q h
  cases e : scEq d1 d2 with
  | none => simp only [kEqS, e] at h; exact h.elim
  | some b =>
    simp only [kEqS, e] at h
    obtain ⟨h1, h2⟩ := scEq_ok w.a.rep w.b.rep e
    refine ⟨h1, ?_⟩
    rw [h2]
    exact h H (.here so) _ [] (val_pur (.bl _))
theorem r2_eqD : R2F K E (rEqD K) (kEqD false) := by
  intro SA OL H0 H1 H S v1 d1 m1 L1 v2 d2 m2 L2 so w Q h
  cases e1 : d1.toPy with
  | none => simp only [kEqD, e1] at h; exact h.elim
  | some p =>
    cases e2 : d2.toPy with
    | none => simp only [kEqD, e1, e2] at h; exact h.elim
    | some q =>
      simp only [kEqD, e1, e2] at h
      split at h
      · rename_i hs
        rw [Bool.and_eq_true] at hs
        exact ⟨p, q, Rep.dp _ _ _ _ w.a.rep e1, Rep.dp _ _ _ _ w.b.rep e2, hs.1, hs.2, h H (.here so) _ [] (val_pur (.bl _))⟩
      · exact h.elim
theorem r2_neD : R2F K E (rNeD K) (kEqD true) := by
  intro SA OL H0 H1 H S v1 d1 m1 L1 v2 d2 m2 L2 so w Q h
  cases e1 : d1.toPy with
  | none => simp only [kEqD, e1] at h; exact h.elim
  | some p =>
    cases e2 : d2.toPy with
    | none => simp only [kEqD, e1, e2] at h; exact h.elim
    | some q =>
      simp only [kEqD, e1, e2] at h
      split at h
      · rename_i hs
        rw [Bool.and_eq_true] at hs
        exact ⟨p, q, Rep.dp _ _ _ _ w.a.rep e1, Rep.dp _ _ _ _ w.b.rep e2, hs.1, hs.2, h H (.here so) _ [] (val_pur (.bl _))⟩
      · exact h.elim
abbrev rEqAll (K : PySem.W.Frag) : R2 := rOr rEq (rEqD K)
abbrev rNeAll (K : PySem.W.Frag) : R2 := rOr rNe (rNeD K)
def kEq : G2 := kOr (kEqS false) (kEqD false)
def kNe : G2 := kOr (kEqS true) (kEqD true)
theorem op_eqAll {X : Cx} (hu : X.A.units + 64 < cLine) : OpR X (compareOp .Eq) (rEqAll X.K) := opr_or op_eq (op_eqD hu)
theorem op_neAll {X : Cx} (hu : X.A.units + 64 < cLine) : OpR X (compareOp .NotEq) (rNeAll X.K) := opr_or op_ne (op_neD hu)
theorem r2_eq : R2F K E (rEqAll K) kEq := r2_or r2_eqS r2_eqD
theorem r2_ne : R2F K E (rNeAll K) kNe := r2_or r2_neS r2_neD

/-! ### is None -/
def isNon : D → Bool
  | .non => true
  | _ => false
theorem isNon_ok {SA : List Addr} {H : Hp} {v : V} {d : D} {L : List Addr} (r : Rep K SA H v d L) : decide (v = .non) = isNon d := by
  cases r <;> first
    | rfl
    | exact decide_eq_false (fun z => nomatch z)
def kIsN (neg : Bool) : G2 := fun x y S => match y.1 with
  | .non => .ok (.bl (if neg then !isNon x.1 else isNon x.1), .pur) S
  | _ => .no
theorem r2_isN : R2F K E rIsN (kIsN false) := by
  intro SA OL H0 H1 H S v1 d1 m1 L1 v2 d2 m2 L2 so w Q h
  cases d2 with
  | non =>
    refine ⟨non_of w.b, ?_⟩
    rw [isNon_ok w.a.rep]
    exact h H (.here so) _ [] (val_pur (.bl _))
  | _ => exact h.elim
theorem r2_notN : R2F K E rNotN (kIsN true) := by
  intro SA OL H0 H1 H S v1 d1 m1 L1 v2 d2 m2 L2 so w Q h
  cases d2 with
  | non =>
    refine ⟨non_of w.b, ?_⟩
    rw [isNon_ok w.a.rep]
    exact h H (.here so) _ [] (val_pur (.bl _))
  | _ => exact h.elim

/-! ### in -/
def flatD : D → Bool
  | .non => true
  | .bl _ => true
  | .int _ => true
  | .str _ => true
  | _ => false
def eqF : D → D → Bool
  | .non, .non => true
  | .bl a, .bl b => a == b
  | .bl a, .int b => (if a then 1 else 0) == b
  | .int a, .bl b => a == (if b then 1 else 0)
  | .int a, .int b => a == b
  | .str a, .str b => a == b
  | _, _ => false
theorem flat_ok {SA : List Addr} {H : Hp} {v : V} {d : D} {L : List Addr} (r : Rep K SA H v d L) (e : flatD d = true) : flatV v = true := by
  cases r <;> first
    | rfl
    | cases e
theorem eqF_ok {SA : List Addr} {H : Hp} {v1 v2 : V} {d1 d2 : D} {L1 L2 : List Addr} (r1 : Rep K SA H v1 d1 L1) (r2 : Rep K SA H v2 d2 L2) (f1 : flatD d1 = true) (f2 : flatD d2 = true) : eqV v1 v2 = eqF d1 d2 := by
  cases r1 <;> first
    | (cases f1; done)
    | (cases r2 <;> first
        | (cases f2; done)
        | rfl)
theorem allF_ok {SA : List Addr} {H : Hp} {d : D} {v : V} {L0 : List Addr} (r0 : Rep K SA H v d L0) (f0 : flatD d = true) : ∀ {vs : List V} {ds : List D} {L : List Addr}, RepAll K SA H vs ds L → ds.all flatD = true → vs.all flatV = true ∧ inV v vs = ds.any fun y => eqF y d
  | _, [], _, h, _ => by cases h; exact ⟨rfl, rfl⟩
  | _, x :: ds, _, h, e => by
    cases h with
    | cons h1 h2 =>
      rw [List.all_cons, Bool.and_eq_true] at e
      obtain ⟨q1, q2⟩ := allF_ok r0 f0 h2 e.2
      refine ⟨by rw [List.all_cons, flat_ok h1 e.1, q1]; rfl, ?_⟩
      unfold inV at q2 ⊢
      rw [List.any_cons, List.any_cons, eqF_ok h1 r0 e.1 f0, q2]
def kInF (neg : Bool) : G2 := fun x y S => match y.1.seqOf? with
  | some l => if flatD x.1 && l.all flatD then .ok (.bl (if neg then !(l.any fun z => eqF z x.1) else l.any fun z => eqF z x.1), .pur) S else .no
  | none => .no
theorem r2_inF (neg : Bool) : R2F K E (rIn K neg) (kInF neg) := by
  intro SA OL H0 H1 H S v1 d1 m1 L1 v2 d2 m2 L2 so w Q h
  cases e : d2.seqOf? with
  | none => simp only [kInF, e] at h; exact h.elim
  | some l =>
    simp only [kInF, e] at h
    split at h
    · rename_i hs
      rw [Bool.and_eq_true] at hs
      obtain ⟨a, vs, L', rfl, hq, r, sl⟩ := w.b.rep.seqOf e
      obtain ⟨q1, q2⟩ := allF_ok w.a.rep hs.1 r hs.2
      refine ⟨a, vs, rfl, hq, flat_ok w.a.rep hs.1, q1, ?_⟩
      rw [q2]
      exact h H (.here so) _ [] (val_pur (.bl _))
    · exact h.elim
/-- one sign in a text -/
def kInS (neg : Bool) : G2 := fun x y S => match x.1, y.1 with
  | .str a, .str z => (match a.cps.toList with
    | [c] => .ok (.bl (if neg then !decide (c ∈ z.cps.toList) else decide (c ∈ z.cps.toList)), .pur) S
    | _ => .no)
  | _, _ => .no
theorem one_sign {a : Str} {c : Nat} (e : a.cps.toList = [c]) : a = ⟨#[c]⟩ := by
  obtain ⟨cps⟩ := a
  have e2 : cps.toList = [c] := e
  have e3 : cps = #[c] := by
    have := congrArg List.toArray e2
    simpa using this
  rw [e3]
theorem r2_inS : R2F K E rInS (kInS false) := by
  intro SA OL H0 H1 H S v1 d1 m1 L1 v2 d2 m2 L2 so w Q h
  cases d1 with
  | str a =>
    cases d2 with
    | str z =>
      unfold kInS at h
      simp only at h
      split at h
      · rename_i c e
        have ea := one_sign e
        subst ea
        exact ⟨c, z, str_of w.a, str_of w.b, h H (.here so) _ [] (val_pur (.bl _))⟩
      · exact h.elim
    | _ => exact h.elim
  | _ => exact h.elim
theorem r2_notInS : R2F K E rNotInS (kInS true) := by
  intro SA OL H0 H1 H S v1 d1 m1 L1 v2 d2 m2 L2 so w Q h
  cases d1 with
  | str a =>
    cases d2 with
    | str z =>
      unfold kInS at h
      simp only at h
      split at h
      · rename_i c e
        have ea := one_sign e
        subst ea
        exact ⟨c, z, str_of w.a, str_of w.b, h H (.here so) _ [] (val_pur (.bl _))⟩
      · exact h.elim
    | _ => exact h.elim
  | _ => exact h.elim
/-- data in a list of data -/
def kInD (neg : Bool) : G2 := fun x y S => match x.1.toPy, y.1.toPy with
  | some p, some (.list ps) => if SeqAt.shaped p && SeqAt.shaped (.list ps) then .ok (.bl (if neg then !(ps.any fun z => PyData.eqv z p) else ps.any fun z => PyData.eqv z p), .pur) S else .no
  | _, _ => .no
theorem r2_inD : R2F K E (rInD K) (kInD false) := by
  intro SA OL H0 H1 H S v1 d1 m1 L1 v2 d2 m2 L2 so w Q h
  unfold kInD at h
  simp only at h
  split at h
  · rename_i p ps e1 e2
    split at h
    · rename_i hs
      rw [Bool.and_eq_true] at hs
      exact ⟨p, ps, Rep.dp _ _ _ _ w.a.rep e1, Rep.dp _ _ _ _ w.b.rep e2, hs.1, hs.2, h H (.here so) _ [] (val_pur (.bl _))⟩
    · exact h.elim
  · exact h.elim
theorem r2_notInD : R2F K E (rNotInD K) (kInD true) := by
  intro SA OL H0 H1 H S v1 d1 m1 L1 v2 d2 m2 L2 so w Q h
  unfold kInD at h
  simp only at h
  split at h
  · rename_i p ps e1 e2
    split at h
    · rename_i hs
      rw [Bool.and_eq_true] at hs
      exact ⟨p, ps, Rep.dp _ _ _ _ w.a.rep e1, Rep.dp _ _ _ _ w.b.rep e2, hs.1, hs.2, h H (.here so) _ [] (val_pur (.bl _))⟩
    · exact h.elim
  · exact h.elim
abbrev rInAll (K : PySem.W.Frag) : R2 := rOr (rIn K false) (rOr rInS (rInD K))
abbrev rNotInAll (K : PySem.W.Frag) : R2 := rOr (rIn K true) (rOr rNotInS (rNotInD K))
def kIn : G2 := kOr (kInF false) (kOr (kInS false) (kInD false))
def kNotIn : G2 := kOr (kInF true) (kOr (kInS true) (kInD true))
theorem op_inAll {X : Cx} (hu : X.A.units + 65 < cLine) : OpR X (compareOp .In) (rInAll X.K) := opr_or op_in_seq (opr_or op_inS (op_inD hu))
theorem op_notInAll {X : Cx} (hu : X.A.units + 65 < cLine) : OpR X (compareOp .NotIn) (rNotInAll X.K) := opr_or op_notIn_seq (opr_or op_notInS (op_notInD hu))
theorem r2_in : R2F K E (rInAll K) kIn := r2_or (r2_inF false) (r2_or r2_inS r2_inD)
theorem r2_notIn : R2F K E (rNotInAll K) kNotIn := r2_or (r2_inF true) (r2_or r2_notInS r2_notInD)

/-! ### - a -/
def kNeg : G1 := fun x S => match x.1 with
  | .int i => .ok (.int (-i), .pur) S
  | _ => .no
theorem r1_neg : R1F K E (rU fun i => .int (-i)) kNeg := by
  intro SA OL H0 H S v1 d1 m1 L1 so eo k w Q h
  cases d1 with
  | int i => exact ⟨i, int_of w, h H (.here so) _ [] (val_pur (.int _))⟩
  | _ => exact h.elim

/-! ### tuples of ints: <= -/
def intsOf : List D → Option (List Int)
  | [] => some []
  | .int i :: l => (intsOf l).map (i :: ·)
  | _ => none
theorem intsOf_ok {SA : List Addr} {H : Hp} : ∀ {vs : List V} {ds : List D} {L : List Addr} {ns : List Int}, RepAll K SA H vs ds L → intsOf ds = some ns → vs = ns.map V.int
  | _, [], _, _, h, e => by cases h; simp only [intsOf, Option.some.injEq] at e; subst e; rfl
  | _, d :: ds, _, _, h, e => by
    cases h with
    | cons h1 h2 =>
      cases h1 with
      | int i =>
        simp only [intsOf, Option.map_eq_some_iff] at e
        obtain ⟨ns, e, rfl⟩ := e
        rw [intsOf_ok h2 e]
        rfl
      | _ => simp only [intsOf, reduceCtorEq] at e
def leT (ns ms : List Int) : Bool := Ob.lexAt (fun j => decide (ns.getD j 0 = ms.getD j 0)) (fun j => decide (ns.getD j 0 ≤ ms.getD j 0)) (decide (ns.length ≤ ms.length)) 0 (min ns.length ms.length)
def kLeT : G2 := fun x y S => match x.1.tupOf?, y.1.tupOf? with
  | some xs, some ys => (match intsOf xs, intsOf ys with
    | some ns, some ms => .ok (.bl (leT ns ms), .pur) S
    | _, _ => .no)
  | _, _ => .no
theorem r2_leT : R2F K E (rLeT K) kLeT := by
  intro SA OL H0 H1 H S v1 d1 m1 L1 v2 d2 m2 L2 so w Q h
  unfold kLeT at h
  simp only at h
  split at h
  · rename_i xs ys e1 e2
    split at h
    · rename_i ns ms e3 e4
      obtain ⟨a, vs, rfl, h1, r1⟩ := w.a.rep.tupOf e1
      obtain ⟨b, ws, rfl, h2, r2⟩ := w.b.rep.tupOf e2
      have q1 := intsOf_ok r1 e3
      have q2 := intsOf_ok r2 e4
      subst q1 q2
      exact ⟨a, b, ns, ms, rfl, rfl, h1, h2, h H (.here so) _ [] (val_pur (.bl _))⟩
    · exact h.elim
  · exact h.elim
abbrev rLeAll (K : PySem.W.Frag) : R2 := rOr (rI0 fun i j => .bl (decide (i ≤ j))) (rLeT K)
def kLeA : G2 := kOr kLe kLeT
theorem op_leAll {X : Cx} (hu : X.A.units < cLine) : OpR X (compareOp .LtE) (rLeAll X.K) := opr_or op_le (op_leT hu)
theorem r2_leA : R2F K E (rLeAll K) kLeA := r2_or r2_le r2_leT
end
end Mi

set_option Elab.async false
set_option linter.all false
set_option maxRecDepth 100000
set_option maxHeartbeats 4000000
namespace Mi
open PySem PySem.Spec PyProof.Rows L2

/-! ### tuples whose object is known: displays, slices, sums -/
section
variable {X : Cx}
def tTupX (t : TA) : TE := fun σ H Q => t σ H fun zs H1 => zs.length ≤ sizeLine ∧ ∀ p o, H1 p = none → o.cls = Value.type "tuple" → o.dict = none → Q (.ref p) (upd H1 p (.frz o (.tup zs)))
theorem pe_tupX {es : List Expr} {t : TA} {k : Nat} {pos : Pos} (hpa : PA X es t) : PE X (.Tuple es k pos) (tTupX t) := by
  constructor
  intro pins s σ H Q I0 hq
  refine wpAny_Tuple_spliced (thn (hpa.run pos pins s σ H _ I0 hq) fun us s1 hx => ?_)
  obtain ⟨zs, H1, I1, rv, hz, hq1⟩ := hx
  refine ⟨by rw [← rv.length]; exact hz, ?_⟩
  have free := I1.hok.fresh (Nat.le_refl s1.heap.objs.size)
  have inv := I1.laid (t' := s1.toks) (o := .frz { cls := .type "tuple", data := .seq us.toArray } (.tup zs)) (fun b u e => Heap.get?_push_of_some _ e) (Nat.le_refl _)
    ⟨Heap.get?_push_size _ rfl, hz, us, rv, ⟨_, Heap.get?_push_size _ rfl, rfl, _, rfl⟩⟩
  exact ⟨.ref s1.heap.objs.size, _, inv, rfl, hq1 s1.heap.objs.size _ free rfl rfl⟩
def rSlX (K : PySem.W.Frag) : V → Option Int → Option Int → Hp → VK → Prop := fun x lo hi H Q => ∃ p zs, x = .ref p ∧ SqT K H p zs ∧
  (HT.sIx zs.length 0 lo = 0 ∧ HT.sIx zs.length zs.length hi = zs.length → Q (.ref p) H) ∧
  (¬ (HT.sIx zs.length 0 lo = 0 ∧ HT.sIx zs.length zs.length hi = zs.length) → ∀ q o, H q = none → o.cls = Value.type "tuple" → o.dict = none → Q (.ref q) (upd H q (.frz o (.tup (cutV zs lo hi)))))
theorem sl_tupX : SlR X (rSlX X.K) := by
  intro pins s σ H x v vl vu lo hi sl Q I0 rx hs pl pu hr
  obtain ⟨p, zs, e, hT, same, new⟩ := hr
  subst e
  cases rx
  obtain ⟨us, rv, ht, hz⟩ := I0.tuple hT
  have hsz : us.toArray.size = zs.length := by rw [List.size_toArray]; exact rv.length.symm
  refine ⟨"tuple", _, PyProof.Rows.slot_tuple_getitem.lookup, ht.typeIs, ?_⟩
  by_cases hw : HT.sIx zs.length 0 lo = 0 ∧ HT.sIx zs.length zs.length hi = zs.length
  · exact getItem_tuple_whole ht hs pl pu (by rw [hsz]; exact hw) ⟨.ref p, H, I0, rfl, same hw⟩
  · refine HT.getItem_tuple_cut ht hs pl pu (by rw [hsz]; exact hw) ?_ (by rw [hsz]; exact hz)
    rw [hsz]
    have cut := (rv.drop (HT.sIx zs.length 0 lo)).take (HT.sIx zs.length zs.length hi - HT.sIx zs.length 0 lo)
    have inv := I0.laid (t' := s.toks) (o := .frz { cls := .type "tuple", data := .seq ((us.drop (HT.sIx zs.length 0 lo)).take (HT.sIx zs.length zs.length hi - HT.sIx zs.length 0 lo)).toArray } (.tup (cutV zs lo hi)))
      (fun b ob q => Heap.get?_push_of_some _ q) (Nat.le_refl _) ⟨Heap.get?_push_size _ rfl, Nat.le_trans (cutV_length zs lo hi) hz, _, cut, IsTup.new _ _⟩
    exact ⟨.ref s.heap.objs.size, _, inv, rfl, new hw _ _ (I0.hok.fresh (Nat.le_refl _)) rfl rfl⟩
def rCatX (K : PySem.W.Frag) : R2 := fun x y H Q => ∃ p q zs ws, x = .ref p ∧ y = .ref q ∧ SqT K H p zs ∧ SqT K H q ws ∧ zs ≠ [] ∧ zs.length + ws.length ≤ sizeLine ∧
  (ws = [] → Q (.ref p) H) ∧ (ws ≠ [] → ∀ r o, H r = none → o.cls = Value.type "tuple" → o.dict = none → Q (.ref r) (upd H r (.frz o (.tup (zs ++ ws)))))
theorem op_catX : OpR X (binaryOp .Add) (rCatX X.K) := by
  intro pins s σ H x y v u Q I0 rx ry hr
  obtain ⟨p, q, zs, ws, e1, e2, hp, hq, hn, hz, same, new⟩ := hr
  subst e1 e2
  cases rx
  cases ry
  obtain ⟨us1, rv1, t1, _⟩ := I0.tuple hp
  obtain ⟨us2, rv2, t2, _⟩ := I0.tuple hq
  refine HT.cat_tup t1 t2 (fun z => hn (rv1.nil_iff.mp z)) (fun z => ⟨.ref p, H, I0, rfl, same (rv2.nil_iff.mp z)⟩) (fun z => ?_) (by rw [← rv1.length, ← rv2.length]; exact hz)
  have inv := I0.laid (t' := s.toks) (o := .frz { cls := .type "tuple", data := .seq (us1 ++ us2).toArray } (.tup (zs ++ ws))) (fun b ob q => Heap.get?_push_of_some _ q) (Nat.le_refl _)
    ⟨Heap.get?_push_size _ rfl, by rw [List.length_append]; exact hz, _, rv1.append rv2, IsTup.new _ _⟩
  exact ⟨.ref s.heap.objs.size, _, inv, rfl, new (fun z2 => z (rv2.nil_iff.mpr z2)) _ _ (I0.hok.fresh (Nat.le_refl _)) rfl rfl⟩
end

section
variable {K : PySem.W.Frag} {E : XK} {ta tb tc te : TE} {fa fb fc fe : FE} {tr : TA} {fr : FA} {tt tu : TT} {ft fu : FT}
def fTupX (fa : FA) : FE := fun env S => (fa env S).bind fun x S1 => if x.1.length ≤ sizeLine then .ok (.xtp x.1, x.2) S1 else .no
theorem XT.new {H : Hp} {p : Addr} {o : Obj} {zs : List V} (hc : o.cls = .type "tuple") (hd : o.dict = none) : XT K (upd H p (.frz o (.tup zs))) p zs := .inl ⟨o, upd_same, hc, hd⟩
theorem evf_tupX (ha : EaF K E tr fr) : EvF K E (tTupX tr) (fTupX fr) := by
  intro σ H env SA OL S eo so Q h
  refine ha σ H env SA OL S eo so _ ((After.seq h).imp fun x S1 H1 _ s1 h1 v1 L1 x1 => ?_)
  by_cases hz : x.1.length ≤ sizeLine
  · rw [if_pos hz] at h1
    refine ⟨by rw [x1.rep.length]; exact hz, fun p o hp hc hd => ?_⟩
    have s2 : Stp K SA OL H1 S1 (upd H1 p (.frz o (.tup v1))) := (Stp.here s1.so).new hp
    exact h1 _ s2 (.ref p) L1 ⟨.xtp (XT.new hc hd) (x1.keep s2).rep, x1.sa, x1.md⟩
  · rw [if_neg hz] at h1
    exact h1.elim
def kCatX : G2 := fun x y S => match x.1, y.1.tupOf? with
  | .xtp xs, some ys => if xs.length + ys.length ≤ sizeLine ∧ xs ≠ [] then .ok (.xtp (xs ++ ys), x.2.mix y.2) S else .no
  | _, _ => .no
theorem r2_catX : R2F K E (rCatX K) kCatX := by
  intro SA OL H0 H1 H S v1 d1 m1 L1 v2 d2 m2 L2 so w Q h
  cases d1 with
  | xtp xs =>
    cases e2 : d2.tupOf? with
    | none => simp only [kCatX, e2] at h; exact h.elim
    | some ys =>
      simp only [kCatX, e2] at h
      split at h
      · rename_i hz
        obtain ⟨ar, asa, am⟩ := w.a
        have hmix := w.mix
        have hb := w.b
        cases ar with
        | @xtp a vs _ La hx r1 =>
          obtain ⟨b, ws, eb, h2, r2⟩ := hb.rep.tupOf e2
          subst eb
          refine ⟨a, b, vs, ws, rfl, rfl, hx.sqT, h2, fun z => hz.2 ((nil_of r1).mp z), by rw [r1.length, r2.length]; exact hz.1, fun z => ?_, fun z p o hp hc hd => ?_⟩
          · have zy := (nil_of r2).mp z
            subst zy
            cases r2
            rw [List.append_nil] at h
            exact h H (.here so) _ _ ⟨.xtp hx r1, asa, by simpa using hmix⟩
          · have s2 : Stp K SA OL H S (upd H p (.frz o (.tup (vs ++ ws)))) := (Stp.here so).new hp
            exact h _ s2 _ _ ⟨.xtp (XT.new hc hd) ((r1.append r2).keep s2.k _ _ _ fun x hx => (List.mem_append.mp hx).elim (asa x) (hb.sa x)), fun x hx => (List.mem_append.mp hx).elim (asa x) (hb.sa x), hmix⟩
      · exact h.elim
  | _ => exact h.elim
/-- + of what may be a known tuple -/
abbrev rAddX (K : PySem.W.Frag) : R2 := rOr (rCatX K) (rAddAll K)
def kAddX : G2 := kOr kCatX kAdd
theorem op_addX {X : Cx} : OpR X (binaryOp .Add) (rAddX X.K) := opr_or op_catX op_addAll
theorem r2_addX : R2F K E (rAddX K) kAddX := r2_or r2_catX r2_add

/-! ### slices -/
abbrev FO := Env → Sto → Res (Option Int)
def EoF (K : PySem.W.Frag) (E : XK) (t : TO) (f : FO) : Prop := ∀ (σ : L2.St) (H : Hp) (env : Env) (SA OL : List Addr) (S : Sto), EnvOk K SA OL H σ env → StoOk K SA OL H S →
  ∀ Q : Option Int → Hp → Prop, After K E SA OL H (f env S) (fun o _ H' => Q o H') → t σ H Q
def fNoPart : FO := fun _ S => .ok none S
def fPart (fe : FE) : FO := fun env S => (fe env S).bind fun x S1 => match x.1 with
  | .int i => .ok (some i) S1
  | _ => .no
theorem eof_none : EoF K E tNoPart fNoPart := fun σ H env SA OL S eo so Q h => h H (.here so)
theorem eof_some (ha : EvF K E te fe) : EoF K E (tPart te) (fPart fe) := by
  intro σ H env SA OL S eo so Q h
  refine ha σ H env SA OL S eo so _ ((After.seq h).imp fun x S1 H1 _ s1 h1 v1 L1 x1 => ?_)
  obtain ⟨d, m⟩ := x
  cases d with
  | int i => exact ⟨i, int_of x1, h1 H1 (.here s1.so)⟩
  | _ => exact h1.elim
abbrev GS := D × Md → Option Int → Option Int → Sto → Res (D × Md)
def SlF (K : PySem.W.Frag) (E : XK) (r : V → Option Int → Option Int → Hp → VK → Prop) (g : GS) : Prop := ∀ (SA OL : List Addr) (H0 H : Hp) (S : Sto) (v : V) (d : D) (m : Md) (L : List Addr) (lo hi : Option Int), StoOk K SA OL H S → (∀ a ∈ OL, H0 a ≠ none) → (∀ a, H0 a ≠ none → H a ≠ none) → Val K SA OL H0 H v d m L →
  ∀ Q : VK, After K E SA OL H (g (d, m) lo hi S) (fun dm _ H' => ∀ v L, Val K SA OL H0 H' v dm.1 dm.2 L → Q v H') → r v lo hi H Q
def fSl (g : GS) (fe : FE) (fl fh : FO) : FE := fun env S => (fe env S).bind fun x S1 => (fl env S1).bind fun l S2 => (fh env S2).bind fun u S3 => g x l u S3
theorem evf_sl {r : V → Option Int → Option Int → Hp → VK → Prop} {g : GS} {tl th : TO} {fl fh : FO} (hr : SlF K E r g) (ha : EvF K E te fe) (hl : EoF K E tl fl) (hh : EoF K E th fh) : EvF K E (tSl r te tl th) (fSl g fe fl fh) := by
  intro σ H env SA OL S eo so Q h
  refine ha σ H env SA OL S eo so _ ((After.seq h).imp fun x S1 H1 _ s1 h1 v1 L1 x1 => ?_)
  refine hl σ H1 env SA OL S1 (s1.envOk eo) s1.so _ ((After.seq h1).imp fun l S2 H2 _ s2 h2 => ?_)
  refine hh σ H2 env SA OL S2 ((s1.trans s2).envOk eo) s2.so _ ((After.seq h2).imp fun u S3 H3 _ s3 h3 => ?_)
  exact hr SA OL H H3 S3 v1 _ _ L1 l u s3.so eo.trk ((s1.trans s2).trans s3).k.trk ((x1.keep s2).keep s3) Q h3
def cutD (xs : List D) (lo hi : Option Int) : List D := (xs.drop (HT.sIx xs.length 0 lo)).take (HT.sIx xs.length xs.length hi - HT.sIx xs.length 0 lo)
theorem cut_rep {SA : List Addr} {H : Hp} {vs : List V} {ds : List D} {L : List Addr} (lo hi : Option Int) (r : RepAll K SA H vs ds L) : ∃ L', RepAll K SA H (cutV vs lo hi) (cutD ds lo hi) L' ∧ L'.Sublist L := by
  obtain ⟨L1, r1, s1⟩ := r.drop (HT.sIx ds.length 0 lo)
  obtain ⟨L2, r2, s2⟩ := r1.take (HT.sIx ds.length ds.length hi - HT.sIx ds.length 0 lo)
  refine ⟨L2, ?_, s2.trans s1⟩
  unfold cutV cutD
  rw [r.length]
  exact r2
theorem cutD_whole {ds : List D} {lo hi : Option Int} (h : HT.sIx ds.length 0 lo = 0 ∧ HT.sIx ds.length ds.length hi = ds.length) : cutD ds lo hi = ds := by
  unfold cutD
  rw [h.1, h.2]
  simp
/-- a new list's mode: its items' -/
def newMd (l : List D) (m : Md) : Md := if m = .pur then .own else if noLsts l then .own else m.mix .own
def tupMd (l : List D) (m : Md) : Md := if m = .pur then .pur else if noLsts l then .pur else m
theorem md_newL {OL SA : List Addr} {H0 H : Hp} {vs : List V} {ds : List D} {m : Md} {L : List Addr} {p : Addr} (eo : ∀ a ∈ OL, H0 a ≠ none) (k : ∀ a, H0 a ≠ none → H a ≠ none) (r : RepAll K SA H vs ds L) (md : MdOk OL H0 m L) (hp : H p = none) : MdOk OL H0 (newMd ds m) (p :: L) := by
  have hp0 : H0 p = none := by
    cases q : H0 p with
    | none => rfl
    | some o => exact absurd hp (k p (by rw [q]; exact fun z => nomatch z))
  have np : p ∉ L := fun z => RepAll.trk _ _ _ r p z hp
  unfold newMd
  split
  · rename_i e
    subst e
    exact md_new (H1 := H) eo md hp0 np
  · split
    · rename_i hn
      have e2 : L = [] := RepAll.noL _ _ _ r hn
      subst e2
      exact md_new (m := .pur) (H1 := H) eo rfl hp0 np
    · exact md_new (H1 := H) eo md hp0 np
theorem md_tupL {OL SA : List Addr} {H0 H : Hp} {vs : List V} {ds : List D} {m : Md} {L : List Addr} (r : RepAll K SA H vs ds L) (md : MdOk OL H0 m L) : MdOk OL H0 (tupMd ds m) L := by
  unfold tupMd
  split
  · rename_i e
    subst e
    exact md
  · split
    · rename_i hn
      exact RepAll.noL _ _ _ r hn
    · exact md
def kSlT : GS := fun x lo hi S => match x.1 with
  | .tup l => .ok (.tup (cutD l lo hi), tupMd (cutD l lo hi) x.2) S
  | _ => .no
def kSlX : GS := fun x lo hi S => match x.1 with
  | .xtp l => .ok (.xtp (cutD l lo hi), tupMd (cutD l lo hi) x.2) S
  | _ => .no
def kSlL : GS := fun x lo hi S => match x.1.lstOf? with
  | some l => .ok (.lst (cutD l lo hi), newMd (cutD l lo hi) x.2) S
  | none => .no
def kSlR : GS := fun x lo hi S => match x.1 with
  | .ref n => (match S[n]? with
    | some l => .ok (.lst (cutD l lo hi), .own) S
    | none => .no)
  | _ => .no
def kSlS : GS := fun x lo hi S => match x.1 with
  | .str z => if z.length ≤ sizeLine then .ok (.str (cutS z lo hi), .pur) S else .no
  | _ => .no
theorem slf_tup : SlF K E (rSlA K) kSlT := by
  intro SA OL H0 H S v d m L lo hi so eo k w Q h
  cases d with
  | tup l =>
    have h' : After K E SA OL H (.ok (.tup (cutD l lo hi), tupMd (cutD l lo hi) m) S) (fun dm _ H' => ∀ v L, Val K SA OL H0 H' v dm.1 dm.2 L → Q v H') := h
    obtain ⟨ar, asa, am⟩ := w
    cases ar with
    | @tup a vs _ _ hT r =>
      obtain ⟨L', r', s⟩ := cut_rep lo hi r
      refine ⟨a, vs, rfl, hT, fun z => ?_, fun z p hp => ?_⟩
      · rw [r.length] at z
        rw [cutD_whole z] at h'
        exact h' H (.here so) _ L ⟨.tup hT r, asa, md_tupL r am⟩
      · have s2 : Stp K SA OL H S (upd H p (.tup (cutV vs lo hi))) := (Stp.here so).new hp
        exact h' _ s2 _ L' ⟨.tup (SqT.of upd_same) (r'.keep s2.k _ _ _ fun x hx => asa x (s.subset hx)), fun x hx => asa x (s.subset hx), md_tupL r' (am.sub s)⟩
  | _ => exact h.elim
theorem slf_tupX : SlF K E (rSlX K) kSlX := by
  intro SA OL H0 H S v d m L lo hi so eo k w Q h
  cases d with
  | xtp l =>
    have h' : After K E SA OL H (.ok (.xtp (cutD l lo hi), tupMd (cutD l lo hi) m) S) (fun dm _ H' => ∀ v L, Val K SA OL H0 H' v dm.1 dm.2 L → Q v H') := h
    obtain ⟨ar, asa, am⟩ := w
    cases ar with
    | @xtp a vs _ _ hT r =>
      obtain ⟨L', r', s⟩ := cut_rep lo hi r
      refine ⟨a, vs, rfl, hT.sqT, fun z => ?_, fun z p o hp hc hd => ?_⟩
      · rw [r.length] at z
        rw [cutD_whole z] at h'
        exact h' H (.here so) _ L ⟨.xtp hT r, asa, md_tupL r am⟩
      · have s2 : Stp K SA OL H S (upd H p (.frz o (.tup (cutV vs lo hi)))) := (Stp.here so).new hp
        exact h' _ s2 _ L' ⟨.xtp (XT.new hc hd) (r'.keep s2.k _ _ _ fun x hx => asa x (s.subset hx)), fun x hx => asa x (s.subset hx), md_tupL r' (am.sub s)⟩
  | _ => exact h.elim
theorem slf_lst : SlF K E (rSlL K) kSlL := by
  intro SA OL H0 H S v d m L lo hi so eo k w Q h
  cases e : d.lstOf? with
  | none => simp only [kSlL, e] at h; exact h.elim
  | some l =>
    simp only [kSlL, e] at h
    obtain ⟨a, vs, L0, ea, hS, r, s0⟩ := w.rep.lstOf e
    subst ea
    obtain ⟨L', r', s⟩ := cut_rep lo hi r
    refine ⟨a, vs, rfl, hS, fun p hp => ?_⟩
    have s2 : Stp K SA OL H S (upd H p (.lst (cutV vs lo hi))) := (Stp.here so).new hp
    have sa : ∀ x ∈ L', x ∉ SA := fun x hx => w.sa x ((s.trans s0).subset hx)
    exact h _ s2 _ (p :: L') ⟨.lst upd_same (r'.keep s2.k _ _ _ sa), fun x hx => (List.mem_cons.mp hx).elim (fun z q => so.trk x q (by rw [z]; exact hp)) (sa x), md_newL eo k r' (w.md.sub (s.trans s0)) hp⟩
theorem slf_ref : SlF K E (rSlL K) kSlR := by
  intro SA OL H0 H S v d m L lo hi so eo k w Q h
  cases d with
  | ref n =>
    obtain ⟨a, ev, ea⟩ := ref_of w
    subst ev
    cases es : S[n]? with
    | none => simp only [kSlR, es] at h; exact h.elim
    | some l =>
      simp only [kSlR, es] at h
      obtain ⟨vs, e1, r⟩ := so.obj n a l ea es
      obtain ⟨L', r', s⟩ := cut_rep lo hi r
      have e0 : L' = [] := List.sublist_nil.mp s
      subst e0
      refine ⟨a, vs, rfl, SqL.of e1, fun p hp => ?_⟩
      have s2 : Stp K SA OL H S (upd H p (.lst (cutV vs lo hi))) := (Stp.here so).new hp
      have hp0 : H0 p = none := by
        cases q : H0 p with
        | none => rfl
        | some o => exact absurd hp (k p (by rw [q]; exact fun z => nomatch z))
      exact h _ s2 _ [p] ⟨.lst upd_same (r'.keep s2.k _ _ _ fun _ z => nomatch z), fun x hx q => so.trk x q (by rw [List.mem_singleton.mp hx]; exact hp), by simp, fun x hx => by rw [List.mem_singleton.mp hx]; exact hp0⟩
  | _ => exact h.elim
theorem slf_str : SlF K E rSlS kSlS := by
  intro SA OL H0 H S v d m L lo hi so eo k w Q h
  cases d with
  | str z =>
    have h' : After K E SA OL H (if z.length ≤ sizeLine then .ok (.str (cutS z lo hi), .pur) S else .no) (fun dm _ H' => ∀ v L, Val K SA OL H0 H' v dm.1 dm.2 L → Q v H') := h
    by_cases hz : z.length ≤ sizeLine
    · rw [if_pos hz] at h'
      exact ⟨z, str_of w, hz, h' H (.here so) _ [] (val_pur (.str _))⟩
    · rw [if_neg hz] at h'
      exact h'.elim
  | _ => exact h.elim
def sOr (r r' : V → Option Int → Option Int → Hp → VK → Prop) : V → Option Int → Option Int → Hp → VK → Prop := fun x lo hi H Q => r x lo hi H Q ∨ r' x lo hi H Q
def gOr (g g' : GS) : GS := fun x lo hi S => match g x lo hi S with
  | .no => g' x lo hi S
  | r => r
theorem slf_or {r r' : V → Option Int → Option Int → Hp → VK → Prop} {g g' : GS} (a : SlF K E r g) (b : SlF K E r' g') : SlF K E (sOr r r') (gOr g g') := by
  intro SA OL H0 H S v d m L lo hi so eo k w Q h
  unfold gOr at h
  cases e : g (d, m) lo hi S with
  | no =>
    rw [e] at h
    exact .inr (b SA OL H0 H S v d m L lo hi so eo k w Q h)
  | ok x S' =>
    rw [e] at h
    exact .inl (a SA OL H0 H S v d m L lo hi so eo k w Q (by rw [e]; exact h))
  | err c S' =>
    rw [e] at h
    exact .inl (a SA OL H0 H S v d m L lo hi so eo k w Q (by rw [e]; exact h))
abbrev rSlAll (K : PySem.W.Frag) := sOr (rSlA K) (sOr (rSlX K) (sOr (rSlL K) (sOr (rSlL K) rSlS)))
def kSl : GS := gOr kSlT (gOr kSlX (gOr kSlL (gOr kSlR kSlS)))
theorem sl_all {X : Cx} : SlR X (rSlAll X.K) := SlR.or sl_tupA (SlR.or sl_tupX (SlR.or sl_list (SlR.or sl_list sl_str)))
theorem slf_all : SlF K E (rSlAll K) kSl := slf_or slf_tup (slf_or slf_tupX (slf_or slf_lst (slf_or slf_ref slf_str)))
end
end Mi

set_option Elab.async false
set_option linter.all false
set_option maxRecDepth 100000
set_option maxHeartbeats 4000000
namespace Mi
open PySem PySem.Spec PyProof.Rows L2

section
variable {K : PySem.W.Frag} {E : XK} {ta tb tc te : TE} {fa fb fc fe : FE} {tr : TA} {fr : FA} {tt tu : TT} {ft fu : FT}
/-! ### calls by values -/
def lOr (r r' : List V → Hp → VK → Prop) : List V → Hp → VK → Prop := fun xs H Q => r xs H Q ∨ r' xs H Q
theorem callr_or {X : Cx} {f : Value} {r r' : List V → Hp → VK → Prop} (a : CallR X f r) (b : CallR X f r') : CallR X f (lOr r r') := fun pins s σ H xs us Q I rr h => h.elim (a pins s σ H xs us Q I rr) (b pins s σ H xs us Q I rr)
def glOr (g g' : GL) : GL := fun x S => match g x S with
  | .no => g' x S
  | r => r
theorem rl_or {r r' : List V → Hp → VK → Prop} {g g' : GL} (a : RlF K E r g) (b : RlF K E r' g') : RlF K E (lOr r r') (glOr g g') := by
  intro SA OL H0 H S vs ds m L so eo k w Q h
  unfold glOr at h
  cases e : g (ds, m) S with
  | no =>
    rw [e] at h
    exact .inr (b SA OL H0 H S vs ds m L so eo k w Q h)
  | ok x S' =>
    rw [e] at h
    exact .inl (a SA OL H0 H S vs ds m L so eo k w Q (by rw [e]; exact h))
  | err c S' =>
    rw [e] at h
    exact .inl (a SA OL H0 H S vs ds m L so eo k w Q (by rw [e]; exact h))
theorem one_of {SA OL : List Addr} {H0 H : Hp} {vs : List V} {d : D} {m : Md} {L : List Addr} (w : Vls K SA OL H0 H vs [d] m L) : ∃ v, vs = [v] ∧ Val K SA OL H0 H v d m L := by
  obtain ⟨r, sa, md⟩ := w
  cases r with
  | cons r1 r2 =>
    cases r2
    rw [List.append_nil] at sa md ⊢
    exact ⟨_, rfl, ‹_›, sa, md⟩
theorem two_of {SA : List Addr} {H : Hp} {vs : List V} {d e : D} {L : List Addr} (r : RepAll K SA H vs [d, e] L) : ∃ v u L1 L2, vs = [v, u] ∧ Rep K SA H v d L1 ∧ Rep K SA H u e L2 := by
  cases r with
  | cons r1 r2 =>
    cases r2 with
    | cons r2 r3 =>
      cases r3
      exact ⟨_, _, _, _, rfl, r1, r2⟩
abbrev rLen (K : PySem.W.Frag) : List V → Hp → VK → Prop := fun xs H Q => ∃ x n, xs = [x] ∧ LenV K x H n ∧ Q (.int n) H
def kLen : GL := fun x S => match x.1 with
  | [.str z] => if z.length ≤ sizeLine then .ok (.int z.length, .pur) S else .no
  | [d] => (match d.seqOf? with
    | some l => .ok (.int l.length, .pur) S
    | none => .no)
  | _ => .no
theorem rl_len : RlF K E (rLen K) kLen := by
  intro SA OL H0 H S vs ds m L so eo k w Q h
  unfold kLen at h
  simp only at h
  split at h
  · rename_i z
    obtain ⟨v, rfl, w1⟩ := one_of w
    have ev := str_of w1
    subst ev
    split at h
    · rename_i hz
      exact ⟨_, z.length, rfl, ⟨hz, rfl⟩, h H (.here so) _ [] (val_pur (.int _))⟩
    · exact h.elim
  · rename_i d _
    split at h
    · rename_i l e
      obtain ⟨v, rfl, w1⟩ := one_of w
      obtain ⟨a, vs, L', rfl, hs, r, sl⟩ := w1.rep.seqOf e
      refine ⟨_, l.length, rfl, ?_, h H (.here so) _ [] (val_pur (.int _))⟩
      rcases hs with hs | hs
      · exact .inl ⟨vs, hs, r.length.symm⟩
      · exact .inr ⟨vs, hs, r.length.symm⟩
    · exact h.elim
  · exact h.elim
abbrev rInt : List V → Hp → VK → Prop := fun xs H Q => (∃ i, xs = [.int i] ∧ Q (.int i) H) ∨ ∃ k, xs = [.bl k] ∧ Q (.int (if k then 1 else 0)) H
def kInt : GL := fun x S => match x.1 with
  | [.int i] => .ok (.int i, .pur) S
  | [.bl b] => .ok (.int (if b then 1 else 0), .pur) S
  | _ => .no
theorem rl_int : RlF K E rInt kInt := by
  intro SA OL H0 H S vs ds m L so eo k w Q h
  unfold kInt at h
  simp only at h
  split at h
  · obtain ⟨v, rfl, w1⟩ := one_of w
    have ev := int_of w1
    subst ev
    exact .inl ⟨_, rfl, h H (.here so) _ [] (val_pur (.int _))⟩
  · obtain ⟨v, rfl, w1⟩ := one_of w
    have ev := bl_of w1
    subst ev
    exact .inr ⟨_, rfl, h H (.here so) _ [] (val_pur (.int _))⟩
  · exact h.elim
abbrev rAbs : List V → Hp → VK → Prop := fun xs H Q => ∃ i, xs = [.int i] ∧ Q (.int (if i < 0 then -i else i)) H
def kAbs : GL := fun x S => match x.1 with
  | [.int i] => .ok (.int (if i < 0 then -i else i), .pur) S
  | _ => .no
theorem rl_abs : RlF K E rAbs kAbs := by
  intro SA OL H0 H S vs ds m L so eo k w Q h
  unfold kAbs at h
  simp only at h
  split at h
  · obtain ⟨v, rfl, w1⟩ := one_of w
    have ev := int_of w1
    subst ev
    exact ⟨_, rfl, h H (.here so) _ [] (val_pur (.int _))⟩
  · exact h.elim
abbrev rStrI : List V → Hp → VK → Prop := fun xs H Q => ∃ i, xs = [.int i] ∧ i.natAbs.log2 < 1920 ∧ Q (.str (toString i)) H
def kStrI : GL := fun x S => match x.1 with
  | [.int i] => if i.natAbs.log2 < 1920 then .ok (.str (toString i), .pur) S else .no
  | _ => .no
theorem rl_strI : RlF K E rStrI kStrI := by
  intro SA OL H0 H S vs ds m L so eo k w Q h
  unfold kStrI at h
  simp only at h
  split at h
  · obtain ⟨v, rfl, w1⟩ := one_of w
    have ev := int_of w1
    subst ev
    split at h
    · rename_i hz
      exact ⟨_, rfl, hz, h H (.here so) _ [] (val_pur (.str _))⟩
    · exact h.elim
  · exact h.elim
/-- max, min -/
abbrev rMax2 : List V → Hp → VK → Prop := fun xs H Q => ∃ i j, xs = [.int i, .int j] ∧ Q (.int (if j > i then j else i)) H
abbrev rMin2 : List V → Hp → VK → Prop := fun xs H Q => ∃ i j, xs = [.int i, .int j] ∧ Q (.int (if j < i then j else i)) H
def kMax2 : GL := fun x S => match x.1 with
  | [.int i, .int j] => .ok (.int (if j > i then j else i), .pur) S
  | _ => .no
def kMin2 : GL := fun x S => match x.1 with
  | [.int i, .int j] => .ok (.int (if j < i then j else i), .pur) S
  | _ => .no
theorem rl_max2 : RlF K E rMax2 kMax2 := by
  intro SA OL H0 H S vs ds m L so eo k w Q h
  unfold kMax2 at h
  simp only at h
  split at h
  · obtain ⟨v, u, _, _, rfl, r1, r2⟩ := two_of w.rep
    cases r1
    cases r2
    exact ⟨_, _, rfl, h H (.here so) _ [] (val_pur (.int _))⟩
  · exact h.elim
theorem rl_min2 : RlF K E rMin2 kMin2 := by
  intro SA OL H0 H S vs ds m L so eo k w Q h
  unfold kMin2 at h
  simp only at h
  split at h
  · obtain ⟨v, u, _, _, rfl, r1, r2⟩ := two_of w.rep
    cases r1
    cases r2
    exact ⟨_, _, rfl, h H (.here so) _ [] (val_pur (.int _))⟩
  · exact h.elim
def maxI : List Int → Int
  | [] => 0
  | [i] => i
  | i :: j :: l => max i (maxI (j :: l))
def minI : List Int → Int
  | [] => 0
  | [i] => i
  | i :: j :: l => min i (minI (j :: l))
theorem maxI_ge : ∀ {l : List Int} {x : Int}, x ∈ l → x ≤ maxI l
  | [i], x, h => by simp at h; subst h; exact Int.le_refl _
  | i :: j :: l, x, h => by
    rcases List.mem_cons.mp h with e | h
    · subst e; exact Int.le_max_left _ _
    · exact Int.le_trans (maxI_ge h) (Int.le_max_right _ _)
theorem maxI_mem : ∀ {l : List Int}, l ≠ [] → maxI l ∈ l
  | [i], _ => by simp [maxI]
  | i :: j :: l, _ => by
    unfold maxI
    by_cases h : i ≤ maxI (j :: l)
    · rw [Int.max_eq_right h]
      exact List.mem_cons_of_mem _ (maxI_mem (by simp))
    · rw [Int.max_eq_left (by omega)]
      exact List.mem_cons_self
theorem minI_le : ∀ {l : List Int} {x : Int}, x ∈ l → minI l ≤ x
  | [i], x, h => by simp at h; subst h; exact Int.le_refl _
  | i :: j :: l, x, h => by
    rcases List.mem_cons.mp h with e | h
    · subst e; exact Int.min_le_left _ _
    · exact Int.le_trans (Int.min_le_right _ _) (minI_le h)
theorem minI_mem : ∀ {l : List Int}, l ≠ [] → minI l ∈ l
  | [i], _ => by simp [minI]
  | i :: j :: l, _ => by
    unfold minI
    by_cases h : i ≤ minI (j :: l)
    · rw [Int.min_eq_left h]
      exact List.mem_cons_self
    · rw [Int.min_eq_right (by omega)]
      exact List.mem_cons_of_mem _ (minI_mem (by simp))
def kMaxL : GL := fun x S => match x.1 with
  | [d] => (match d.lstOf? with
    | some l => (match intsOf l with
      | some ns => if ns = [] then .no else .ok (.int (maxI ns), .pur) S
      | none => .no)
    | none => .no)
  | _ => .no
def kMinL : GL := fun x S => match x.1 with
  | [d] => (match d.lstOf? with
    | some l => (match intsOf l with
      | some ns => if ns = [] then .no else .ok (.int (minI ns), .pur) S
      | none => .no)
    | none => .no)
  | _ => .no
theorem rl_maxL : RlF K E (rMax K) kMaxL := by
  intro SA OL H0 H S vs ds m L so eo k w Q h
  unfold kMaxL at h
  simp only at h
  split at h
  · split at h
    · split at h
      · split at h
        · exact h.elim
        · rename_i d _ l e1 _ ns e2 hne
          obtain ⟨v, rfl, w1⟩ := one_of w
          obtain ⟨a, vs, L', rfl, hs, r, sl⟩ := w1.rep.lstOf e1
          have q1 := intsOf_ok r e2
          subst q1
          refine ⟨a, ns, rfl, hs, List.length_pos_iff.mpr hne, fun z hz hg => ?_⟩
          have ez : z = maxI ns := Int.le_antisymm (maxI_ge hz) (hg _ (maxI_mem hne))
          subst ez
          exact h H (.here so) _ [] (val_pur (.int _))
      · exact h.elim
    · exact h.elim
  · exact h.elim
theorem rl_minL : RlF K E (rMin K) kMinL := by
  intro SA OL H0 H S vs ds m L so eo k w Q h
  unfold kMinL at h
  simp only at h
  split at h
  · split at h
    · split at h
      · split at h
        · exact h.elim
        · rename_i d _ l e1 _ ns e2 hne
          obtain ⟨v, rfl, w1⟩ := one_of w
          obtain ⟨a, vs, L', rfl, hs, r, sl⟩ := w1.rep.lstOf e1
          have q1 := intsOf_ok r e2
          subst q1
          refine ⟨a, ns, rfl, hs, List.length_pos_iff.mpr hne, fun z hz hg => ?_⟩
          have ez : z = minI ns := Int.le_antisymm (hg _ (minI_mem hne)) (minI_le hz)
          subst ez
          exact h H (.here so) _ [] (val_pur (.int _))
      · exact h.elim
    · exact h.elim
  · exact h.elim
abbrev rMaxAll (K : PySem.W.Frag) := lOr rMax2 (rMax K)
abbrev rMinAll (K : PySem.W.Frag) := lOr rMin2 (rMin K)
def kMax : GL := glOr kMax2 kMaxL
def kMin : GL := glOr kMin2 kMinL
theorem call_maxAll {X : Cx} (hc : X.calm = true) : CallR X (.builtin "max") (rMaxAll X.K) := callr_or (call_max2 hc) (cr_max hc)
theorem call_minAll {X : Cx} (hc : X.calm = true) : CallR X (.builtin "min") (rMinAll X.K) := callr_or (call_min2 hc) (cr_min hc)
theorem rl_max : RlF K E (rMaxAll K) kMax := rl_or rl_max2 rl_maxL
theorem rl_min : RlF K E (rMinAll K) kMin := rl_or rl_min2 rl_minL
def kSum : GL := fun x S => match x.1 with
  | [d] => (match d.lstOf? with
    | some l => (match intsOf l with
      | some ns => .ok (.int ns.sum, .pur) S
      | none => .no)
    | none => .no)
  | _ => .no
theorem rl_sum : RlF K E (rSum K) kSum := by
  intro SA OL H0 H S vs ds m L so eo k w Q h
  unfold kSum at h
  simp only at h
  split at h
  · split at h
    · split at h
      · rename_i d _ l e1 _ ns e2
        obtain ⟨v, rfl, w1⟩ := one_of w
        obtain ⟨a, vs, L', rfl, hs, r, sl⟩ := w1.rep.lstOf e1
        have q1 := intsOf_ok r e2
        subst q1
        exact ⟨a, ns, rfl, hs, h H (.here so) _ [] (val_pur (.int _))⟩
      · exact h.elim
    · exact h.elim
  · exact h.elim
def blsOf : List D → Option (List Bool)
  | [] => some []
  | .bl i :: l => (blsOf l).map (i :: ·)
  | _ => none
theorem blsOf_ok {SA : List Addr} {H : Hp} : ∀ {vs : List V} {ds : List D} {L : List Addr} {ns : List Bool}, RepAll K SA H vs ds L → blsOf ds = some ns → vs = ns.map V.bl
  | _, [], _, _, h, e => by cases h; simp only [blsOf, Option.some.injEq] at e; subst e; rfl
  | _, d :: ds, _, _, h, e => by
    cases h with
    | cons h1 h2 =>
      cases h1 with
      | bl i =>
        simp only [blsOf, Option.map_eq_some_iff] at e
        obtain ⟨ns, e, rfl⟩ := e
        rw [blsOf_ok h2 e]
        rfl
      | _ => simp only [blsOf, reduceCtorEq] at e
def kAny : GL := fun x S => match x.1 with
  | [d] => (match d.lstOf? with
    | some l => (match blsOf l with
      | some ns => .ok (.bl (ns.any id), .pur) S
      | none => .no)
    | none => .no)
  | _ => .no
def kAll : GL := fun x S => match x.1 with
  | [d] => (match d.lstOf? with
    | some l => (match blsOf l with
      | some ns => .ok (.bl (ns.all id), .pur) S
      | none => .no)
    | none => .no)
  | _ => .no
theorem rl_any : RlF K E (rAny K) kAny := by
  intro SA OL H0 H S vs ds m L so eo k w Q h
  unfold kAny at h
  simp only at h
  split at h
  · split at h
    · split at h
      · rename_i d _ l e1 _ ns e2
        obtain ⟨v, rfl, w1⟩ := one_of w
        obtain ⟨a, vs, L', rfl, hs, r, sl⟩ := w1.rep.lstOf e1
        have q1 := blsOf_ok r e2
        subst q1
        exact ⟨a, ns, rfl, hs, h H (.here so) _ [] (val_pur (.bl _))⟩
      · exact h.elim
    · exact h.elim
  · exact h.elim
theorem rl_all : RlF K E (rAll K) kAll := by
  intro SA OL H0 H S vs ds m L so eo k w Q h
  unfold kAll at h
  simp only at h
  split at h
  · split at h
    · split at h
      · rename_i d _ l e1 _ ns e2
        obtain ⟨v, rfl, w1⟩ := one_of w
        obtain ⟨a, vs, L', rfl, hs, r, sl⟩ := w1.rep.lstOf e1
        have q1 := blsOf_ok r e2
        subst q1
        exact ⟨a, ns, rfl, hs, h H (.here so) _ [] (val_pur (.bl _))⟩
      · exact h.elim
    · exact h.elim
  · exact h.elim

/-! ### tuple(..), list(..) -/
theorem evf_then {k : V → Hp → VK → Prop} {g : G1} (hr : R1F K E k g) (ha : EvF K E ta fa) : EvF K E (tThen ta k) (fOp1 g fa) := evf_un hr ha
def kTupOf : G1 := fun x S => match x.1.lstOf? with
  | some l => .ok (.tup l, tupMd l x.2) S
  | none => (match x.1.tupOf? with
    | some _ => .ok x S
    | none => .no)
theorem r1_tuple : R1F K E (kTup K) kTupOf := by
  intro SA OL H0 H S v1 d1 m1 L1 so eo k w Q h
  unfold kTupOf at h
  simp only at h
  split at h
  · rename_i l e
    obtain ⟨a, vs, L', rfl, hs, r, sl⟩ := w.rep.lstOf e
    refine .inl ⟨a, vs, rfl, hs, fun p hp => ?_⟩
    have s2 : Stp K SA OL H S (upd H p (.tup vs)) := (Stp.here so).new hp
    have sa : ∀ x ∈ L', x ∉ SA := fun x hx => w.sa x (sl.subset hx)
    exact h _ s2 _ L' ⟨.tup (SqT.of upd_same) (r.keep s2.k _ _ _ sa), sa, md_tupL r (w.md.sub sl)⟩
  · split at h
    · rename_i l e
      obtain ⟨a, vs, rfl, hs, r⟩ := w.rep.tupOf e
      exact .inr ⟨a, vs, rfl, hs, h H (.here so) _ L1 w⟩
    · exact h.elim
abbrev rListOf (K : PySem.W.Frag) : List V → Hp → VK → Prop := fun xs H Q => ∃ p ys, xs = [.ref p] ∧ (SqL K H p ys ∨ SqT K H p ys) ∧ ∀ l, H l = none → Q (.ref l) (upd H l (.lst ys))
def kListOf : GL := fun x S => match x.1 with
  | [d] => (match d.seqOf? with
    | some l => .ok (.lst l, newMd l x.2) S
    | none => .no)
  | _ => .no
theorem rl_listOf : RlF K E (rListOf K) kListOf := by
  intro SA OL H0 H S vs ds m L so eo k w Q h
  unfold kListOf at h
  simp only at h
  split at h
  · split at h
    · rename_i d l e
      obtain ⟨v, rfl, w1⟩ := one_of w
      obtain ⟨a, vs, L', rfl, hs, r, sl⟩ := w1.rep.seqOf e
      refine ⟨a, vs, rfl, hs, fun p hp => ?_⟩
      have s2 : Stp K SA OL H S (upd H p (.lst vs)) := (Stp.here so).new hp
      have sa : ∀ x ∈ L', x ∉ SA := fun x hx => w1.sa x (sl.subset hx)
      exact h _ s2 _ (p :: L') ⟨.lst upd_same (r.keep s2.k _ _ _ sa), fun x hx => (List.mem_cons.mp hx).elim (fun z q => so.trk x q (by rw [z]; exact hp)) (sa x), md_newL eo k r (w1.md.sub sl) hp⟩
    · exact h.elim
  · exact h.elim
/-- tuple(range(..)) -/
theorem rg_rep {SA : List Addr} {H : Hp} (a : Int) : ∀ (n k : Nat), RepAll K SA H ((List.range' k n).map fun i => V.int (a + (i : Nat))) ((List.range' k n).map fun i => D.int (a + (i : Nat))) []
  | 0, _ => .nil
  | n + 1, k => by
    rw [List.range'_succ]
    exact .cons (L1 := []) (L2 := []) (.int _) (rg_rep a n (k + 1))
def rgD (a b : Int) : List D := (List.range (b - a).toNat).map fun i => D.int (a + (i : Nat))
theorem rgV_rep {SA : List Addr} {H : Hp} (a b : Int) : RepAll K SA H (rgV a b) (rgD a b) [] := by
  unfold rgV rgD
  rw [List.range_eq_range']
  exact rg_rep a _ 0
instance (a b : Int) : Decidable (RgOk a b) := inferInstanceAs (Decidable (_ ∧ _))
def fTupRg1 (fa : FE) : FE := fun env S => (fa env S).bind fun x S1 => match x.1 with
  | .int n => if RgOk 0 n then .ok (.tup (rgD 0 n), .pur) S1 else .no
  | _ => .no
theorem evf_tupRg1 (ha : EvF K E ta fa) : EvF K E (tTupRg (tRg1 ta)) (fTupRg1 fa) := by
  intro σ H env SA OL S eo so Q h
  refine ha σ H env SA OL S eo so _ ((After.seq h).imp fun x S1 H1 _ s1 h1 v1 L1 x1 => ?_)
  obtain ⟨d, m⟩ := x
  cases d with
  | int n =>
    have h' : After K E SA OL H1 (if RgOk 0 n then .ok (.tup (rgD 0 n), .pur) S1 else .no) (fun dm _ H' => ∀ v L, Val K SA OL H H' v dm.1 dm.2 L → Q v H') := h1
    refine ⟨n, int_of x1, ?_⟩
    by_cases hz : RgOk 0 n
    · rw [if_pos hz] at h'
      refine ⟨hz, fun p hp => ?_⟩
      have s2 : Stp K SA OL H1 S1 (upd H1 p (.tup (rgV 0 n))) := (Stp.here s1.so).new hp
      exact h' _ s2 _ [] (val_pur (.tup (SqT.of upd_same) (rgV_rep 0 n)))
    · rw [if_neg hz] at h'
      exact h'.elim
  | _ => exact h1.elim

/-! ### isinstance -/
def tyName : D → Option String
  | .non => some "NoneType"
  | .bl _ => some "bool"
  | .int _ => some "int"
  | .str _ => some "str"
  | .tup _ => some "tuple"
  | .xtp _ => some "tuple"
  | .lst _ => some "list"
  | .fls _ => some "list"
  | .dcK _ _ => some "dict"
  | .dcT _ _ => some "dict"
  | _ => none
theorem tyName_ok {SA : List Addr} {H : Hp} {v : V} {d : D} {L : List Addr} {n : String} (r : Rep K SA H v d L) (e : tyName d = some n) : TyX K H v (.type n) := by
  cases r with
  | non => cases e; exact .base .non
  | bl b => cases e; exact .base (.bl b)
  | int i => cases e; exact .base (.int i)
  | str x => cases e; exact .base (.str x)
  | tup h1 h2 =>
    cases e
    rcases h1 with (h | ⟨o, h⟩) | ⟨o, its, n, h, hc, _⟩
    · exact .base (.tup h)
    · exact .fTuple h
    · exact .kTuple h hc
  | xtp h1 h2 =>
    cases e
    rcases h1 with ⟨o, h, _⟩ | ⟨o, its, n, h, hc, _⟩
    · exact .fTuple h
    · exact .kTuple h hc
  | lst h1 h2 => cases e; exact .base (.lst h1)
  | fls h1 h2 =>
    cases e
    rcases h1 with ⟨o, h⟩ | ⟨o, its, n, h, hc, _⟩
    · exact .base (.frz h)
    · exact .kList h hc
  | dcK h1 h2 h3 => cases e; exact .base (.dK h1)
  | dcT h1 h2 h3 => cases e; exact .base (.dT h1)
  | ref _ => cases e
  | fn _ => cases e
  | ty _ => cases e
def kIsi : GL := fun x S => match x.1 with
  | [d, .ty T] => (match tyName d with
    | some n => (match kitB n T with
      | some b => .ok (.bl b, .pur) S
      | none => .no)
    | none => .no)
  | _ => .no
theorem rl_isi : RlF K E (rIsi K) kIsi := by
  intro SA OL H0 H S vs ds m L so eo k w Q h
  unfold kIsi at h
  simp only at h
  split at h
  · split at h
    · split at h
      · rename_i d T _ n e1 _ b e2
        obtain ⟨v, u, _, _, rfl, r1, r2⟩ := two_of w.rep
        cases r2
        exact ⟨v, .ty T, .type n, .type T, b, rfl, .ty T, tyName_ok r1 e1, kit_ty e2, h H (.here so) _ [] (val_pur (.bl _))⟩
      · exact h.elim
    · exact h.elim
  · exact h.elim
theorem evf_ty {n : String} : EvF K E (tC (.ty n)) (fC (.ty n)) := evf_c fun _ _ => .ty n
end
end Mi

set_option Elab.async false
set_option linter.all false
set_option maxRecDepth 100000
set_option maxHeartbeats 4000000
namespace Mi
open PySem PySem.Spec PyProof.Rows L2

/-! ### walking a list, a tuple, a text: one rule -/
section
variable {X : Cx} {tg : Expr}
def iSeq (K : PySem.W.Frag) (tl : TE) : TI := fun σ H R => tl σ H fun x H1 =>
  (∃ p, x = .ref p ∧ (∃ zs, SqL K H1 p zs) ∧ R (Itl K p) H1) ∨ (∃ p, x = .ref p ∧ (∃ zs, SqT K H1 p zs) ∧ R (Itt K p) H1) ∨ ∃ z, x = .str z ∧ R (Its z) H1
theorem pi_seq {l : Expr} {tl : TE} (hpe : PE X l tl) : PI X tg l (iSeq X.K tl) := by
  constructor
  intro pins s σ H R I0 hr
  refine thn (hpe.run pins s σ H _ I0 hr) fun v s1 hx => ?_
  obtain ⟨x, H1, I1, rx, hx⟩ := hx
  have own : ∀ (o : Obj), Inv X pins σ H1 { s1 with heap := s1.heap.push o } := fun o => I1.kept (t' := s1.toks) fun b u e => Heap.get?_push_of_some _ e
  have fps : ∀ b ∈ [s1.heap.objs.size], FpOk X pins H1 b := fun b hb => by
    have e : b = s1.heap.objs.size := List.mem_singleton.mp hb
    rw [e]
    exact I1.fpOk (Nat.le_refl _) (I1.hok.fresh (Nat.le_refl _))
  rcases hx with ⟨p, ex, ⟨zs, hq⟩, q⟩ | ⟨p, ex, ⟨zs, hq⟩, q⟩ | ⟨z, ex, q⟩
  · subst ex
    cases rx
    obtain ⟨us, rv, pl, _⟩ := I1.list hq
    exact wpAny_pyIter_list pl.isList ⟨_, _, _, _, H1, rfl, own _, turn_list p _, ⟨_, Heap.get?_push_size _ rfl, rfl, rfl⟩, fps, q⟩
  · subst ex
    cases rx
    obtain ⟨us, rv, pt, _⟩ := I1.tuple hq
    exact wpAny_pyIter_tuple (show s1.heap.IsTuple p us.toArray from pt) ⟨_, _, _, _, H1, rfl, own _, turn_tuple p _, ⟨_, Heap.get?_push_size _ rfl, rfl, rfl⟩, fps, q⟩
  · subst ex
    obtain ⟨t, ev⟩ := (show ∃ t, v = Value.str z t from rx)
    subst ev
    by_cases hz : z.cps.all (· < 128) = true
    · exact wpAny_pyIter_ascii hz (pi_one (tk := s1.toks) I1 _ (turn_str _ z t "str_ascii_iterator" (Or.inl rfl)) ⟨_, Heap.get?_push_size _ rfl, rfl, rfl⟩ q)
    · have hz' : z.cps.all (· < 128) = false := by simpa using hz
      exact wpAny_pyIter_wide hz' (pi_one (tk := s1.toks) I1 _ (turn_str _ z t "str_iterator" (Or.inr rfl)) ⟨_, Heap.get?_push_size _ rfl, rfl, rfl⟩ q)
end

/-! ### enumerate of a tuple -/
set_option maxHeartbeats 1000000 in
theorem meets_enum1 {v : Value} {o : Obj} {G : Heap → Prop} (B : Begins v o G) :
    Meets (Builtin.«enumerate.__new__» ⟨[.type "enumerate", v], []⟩) (fun _ R s => G s.heap ∧
      R (.ok (.ret (.ref (s.heap.push o).objs.size))) { s with heap := (s.heap.push o).push { cls := .type "enumerate", data := .fields #[.none, .bool false, .ref s.heap.objs.size, rawInt 0, .none, .none] } }) :=
  .of_wp fun prog w A R s h => by
    obtain ⟨hp, ge, dr, tk, os⟩ := s
    obtain ⟨g1, h⟩ := h
    have hsub := sub_enumerate
    have q1 : ∀ {A' : Around} {E : Value → Shared → Prop} {Q : Value → Shared → Prop}, Q (.ref hp.objs.size) ⟨hp.push o, ge, dr, tk, os⟩ → wpAny (model prog w) A' (pyIter v) Q E ⟨hp, ge, dr, tk, os⟩ :=
      fun q => B.iter prog w _ _ ⟨hp, ge, dr, tk, os⟩ _ g1 q
    wp_walk using q1
    refine wpAny_stack_any fun st => wpAny_pure ?_
    split
    · rename_i c _ _ _ _ _
      cases (c == Value.type "enumerate") <;> (wp_walk using q1; exact ⟨_, rfl, h⟩)
    · wp_walk using q1
      exact ⟨_, rfl, h⟩
end Mi

set_option Elab.async false
set_option linter.all false
set_option maxRecDepth 100000
set_option maxHeartbeats 4000000
namespace Mi
open PySem PySem.Spec PyProof.Rows L2
section
variable {prog : Program} {w : World} {A : Around} {E : Value → Shared → Prop} {s : Shared}
theorem call_enum1 {v : Value} {o : Obj} {G : Heap → Prop} {Q : Value → Shared → Prop} (B : Begins v o G) (g1 : G s.heap)
    (h : ∀ h', IsEnum h' (s.heap.objs.size + 1) s.heap.objs.size 0 .none → h'.get? s.heap.objs.size = some o →
      (∀ b o, s.heap.get? b = some o → h'.get? b = some o) → Q (.ref (s.heap.objs.size + 1)) { s with heap := h' }) :
    wpAny (model prog w) A (call (.type "enumerate") [v]) Q E s := by
  refine callType_new F.called_enumerate (by decide) (F.typeCall_enumerate_1 _) (F.newCall_enumerate_1 _) (fun obj => F.args_object_init_2 obj _) F.entry_enumerate_new (meets_enum1 B) ⟨g1, ?_⟩
  have sz : (s.heap.push o).objs.size = s.heap.objs.size + 1 := Heap.size_push ..
  have en : IsEnum ((s.heap.push o).push { cls := .type "enumerate", data := .fields #[.none, .bool false, .ref s.heap.objs.size, rawInt 0, .none, .none] }) (s.heap.objs.size + 1) s.heap.objs.size 0 .none := by
    have q := Heap.get?_push_size (s.heap.push o) (o := { cls := .type "enumerate", data := .fields #[.none, .bool false, .ref s.heap.objs.size, rawInt 0, .none, .none] }) rfl
    rw [sz] at q
    exact q
  show _ ∧ _
  rw [sz]
  exact ⟨⟨_, en, rfl⟩, h _ en (Heap.get?_push_of_some _ (Heap.get?_push_size _ B.free)) fun b u x => Heap.get?_push_of_some _ (Heap.get?_push_of_some _ x)⟩
end
/-- the tuple at p, each item in a new pair with its number -/
def EnT (K : PySem.W.Frag) (p : Addr) : It :=
  ⟨fun i H => ∃ (zs : List V) (x : V), SqT K H p zs ∧ zs[i]? = some x,
   fun i H v H' => ∃ T x, v = .ref T ∧ H T = none ∧ H' = upd H T (.tup [.int (i : Nat), x]) ∧ ∀ zs, SqT K H p zs → zs[i]? = some x,
   fun i H => ∃ zs : List V, SqT K H p zs ∧ zs.length = i⟩
/-- an iterator's own record is not the tuple that is walked -/
theorem apart_of {X : Cx} {pins : List (Addr × Obj)} {σ : L2.St} {H : Hp} {s : Shared} {p b : Addr} {zs : List V} (I0 : L2.Inv X pins σ H s) (hb : FpOk X pins H b) (hq : SqT X.K H p zs) : p ≠ b := fun z => by
  rcases hq with (q | ⟨o, q⟩) | ⟨o, its, n, q, _⟩
  · rw [z, hb.1] at q; cases q
  · rw [z, hb.1] at q; cases q
  · have h1 := I0.ok.mod.kin p o q
    rcases hb.2.2.2.1 with z2 | z2
    · exact I0.ok.noex p o h1 (z ▸ z2)
    · have := Heap.lt_size (I0.ok.bs p o h1).1
      rw [z] at this
      exact absurd (Nat.lt_of_lt_of_le this z2) (Nat.lt_irrefl _)
theorem turn_enumT {P : Program} {w : World} {K : PySem.W.Frag} {elts : List Expr} {kk : Nat} {tpos : Pos} (p e it : Addr) (hei : e ≠ it) :
    Turn P w K (.Tuple elts kk tpos) (EnT K p) [e, it] e (fun i h => (∃ old, IsEnum h e it ((i : Nat) : Int) old) ∧ h.IsTupleIter it p i) := by
  refine ⟨List.mem_cons_self, fun i h st b hb => ?_, fun i h h' st k => ?_, ?_, ?_, fun A i s Q E st h => ?_⟩
  · obtain ⟨⟨old, he⟩, o, ho, hc, hd⟩ := st
    rcases List.mem_cons.mp hb with z | z
    · rw [z]; exact ⟨_, he, (fun v q => nomatch q)⟩
    · rw [List.mem_singleton.mp z]; exact ⟨o, ho, fun v q => by rw [hd] at q; cases q⟩
  · obtain ⟨⟨old, he⟩, hi⟩ := st
    exact ⟨⟨old, k e List.mem_cons_self _ he⟩, hi.at fun o q => k it (by simp) o q⟩
  · intro X hP hw hK hc i pins s σ H E I0 hf st hg
    subst hP hw hK
    obtain ⟨⟨old, he⟩, hit⟩ := st
    obtain ⟨zs, x, hq, hx⟩ := hg
    obtain ⟨us, rv, pt, _⟩ := I0.tuple hq
    obtain ⟨u, hu, ru⟩ := rv.get hx
    have hpit : p ≠ it := apart_of I0 (hf it (by simp)) hq
    have hpe : p ≠ e := apart_of I0 (hf e List.mem_cons_self) hq
    have hef : e ∉ [it, p] := fun z => (List.mem_cons.mp z).elim hei fun z => hpe (List.mem_singleton.mp z).symm
    have T := WalksT.enumFrom (prog := X.prog) (w := X.w) (A := X.A) 0 (Draws.tuple (prog := X.prog) (w := X.w) (A := X.A.in1) (I0.ok.hd hc) it p hpit us.toArray) e hei hef (by simp)
    · have hi : i < us.toArray.size := by
        have := (List.getElem?_eq_some_iff.mp hu).1
        simpa using this
      have st0 : (∃ old, IsEnum s.heap e it (0 + (i : Int)) old) ∧ (s.heap.IsTupleIter it p i ∧ s.heap.IsTuple p us.toArray) := ⟨⟨old, by rw [Int.zero_add]; exact he⟩, hit, pt⟩
      refine T.item i s _ _ hi st0 fun Ta vals h' tk hPt hsz hTu hMid hk => ?_
      obtain ⟨t, y, hy, ev⟩ := hPt
      subst ev
      have ey : y = u := by
        have : us.toArray[i]? = some u := by simpa using hu
        rw [this] at hy
        exact (Option.some.inj hy).symm
      subst ey
      have apart := T.apart _ _ _ hMid
      refine ⟨_, rfl, T.go elts kk tpos i Ta { s with heap := h', toks := tk } _ _ hMid fun h'' hst hk2 => ?_⟩
      have hTu2 : IsTup h'' Ta #[.int (0 + (i : Int)) t, y] := by
        obtain ⟨o, ho, hc, hd⟩ := hTu
        exact ⟨o, hk2 _ _ apart ho, hc, hd⟩
      have new : ObjOk X.prog X.w (upd H Ta (.tup [.int (i : Nat), x])) h'' Ta (.tup [.int (i : Nat), x]) :=
        ⟨by show 2 ≤ sizeLine; decide, [.int (0 + (i : Int)) t, y], .cons ⟨t, by rw [Int.zero_add]⟩ (.cons ru .nil), hTu2⟩
      have I1 : L2.Inv X pins σ (upd H Ta (.tup [.int (i : Nat), x])) { s with heap := h'', toks := tk } :=
        I0.turnedNew (ch := [e, it]) (fun b ob hb q => hk2 b ob hb (hk b ob hb q)) hf hsz new
      refine ⟨.ref Ta, _, I1, rfl, ⟨Ta, x, rfl, I0.hok.fresh hsz, rfl, fun ys hy => by rw [I0.tuple_inj hy hq]; exact hx⟩, ⟨?_, hst.2.1⟩, fun b hb => ?_⟩
      · obtain ⟨o2, q⟩ := hst.1
        exact ⟨o2, by rw [Int.zero_add] at q; exact q⟩
      · have : b ≠ Ta := fun z => apart (by rw [← z]; exact hb)
        rw [upd_ne this]
        exact (hf b hb).1
  · intro X hP hw hK hc i pins s σ H E I0 hf st hg
    subst hP hw hK
    obtain ⟨⟨old, he⟩, hit⟩ := st
    obtain ⟨zs, hq, hx⟩ := hg
    obtain ⟨us, rv, pt, _⟩ := I0.tuple hq
    have hpit : p ≠ it := apart_of I0 (hf it (by simp)) hq
    have hpe : p ≠ e := apart_of I0 (hf e List.mem_cons_self) hq
    have hef : e ∉ [it, p] := fun z => (List.mem_cons.mp z).elim hei fun z => hpe (List.mem_singleton.mp z).symm
    have T := WalksT.enumFrom (prog := X.prog) (w := X.w) (A := X.A) 0 (Draws.tuple (prog := X.prog) (w := X.w) (A := X.A.in1) (I0.ok.hd hc) it p hpit us.toArray) e hei hef (by simp)
    have en : us.toArray.size = i := by
      have := rv.length
      simp only [List.size_toArray]
      omega
    have st0 : (∃ old, IsEnum s.heap e it (0 + ((us.toArray.size : Nat) : Int)) old) ∧ (s.heap.IsTupleIter it p us.toArray.size ∧ s.heap.IsTuple p us.toArray) := by
      rw [en]
      exact ⟨⟨old, by rw [Int.zero_add]; exact he⟩, hit, pt⟩
    exact T.done s _ _ st0 fun h' tk hk => ⟨rfl, I0.turnedL (t' := tk) (ch := [e, it]) (fun b o hb q => hk b o hb q) hf⟩
  · obtain ⟨⟨_, he⟩, _⟩ := st
    exact wpAny_pyIter_enum he h

section
variable {X : Cx}
/-- enumerate of a list, of a tuple -/
def iEnumA (K : PySem.W.Frag) (ta : TA) : TI := fun σ H R => ta σ H fun vs H1 => (∃ p zs, vs = [.ref p] ∧ SqL K H1 p zs ∧ R (Ite K p) H1) ∨ ∃ p zs, vs = [.ref p] ∧ SqT K H1 p zs ∧ R (EnT K p) H1
theorem pi_enumA {e : Expr} {ta : TA} {q pos tpos : Pos} {elts : List Expr} {kk : Nat} (hg : Gl X "enumerate") (hm : X.mg "enumerate" = none) (hpa : PA X [e] ta) (hst : starEach [e] X.env = [(false, eval e X.env)] := by rfl) :
    PI X (.Tuple elts kk tpos) (.Call (.Name "enumerate" q) [e] [] pos) (iEnumA X.K ta) := by
  constructor
  intro pins s σ H R I0 hr
  refine Call_ (ld_blt I0 hg hm boot_enumerate (PyProof.Rows.callWith_type1 (thn (hpa.run pos pins s σ H _ I0 hr) fun us s1 hx => ?_) hst rfl))
  obtain ⟨vs, H1, I1, rv, hx⟩ := hx
  have low : ∀ b ∈ [s1.heap.objs.size + 1, s1.heap.objs.size], FpOk X pins H1 b := fun b hb => by
    have hle : s1.heap.objs.size ≤ b := by
      rcases List.mem_cons.mp hb with z | z
      · rw [z]; exact Nat.le_succ _
      · rw [List.mem_singleton.mp z]; exact Nat.le_refl _
    exact I1.fpOk hle (I1.hok.fresh hle)
  rcases hx with ⟨p, zs, ev, hq, k⟩ | ⟨p, zs, ev, hq, k⟩
  · subst ev
    obtain ⟨u, eu, ru⟩ := vals1 rv
    subst eu
    cases ru
    obtain ⟨its, rz, pl, _⟩ := I1.list hq
    refine call_enumerate_list pl.isList fun h' he hit hsz hk => wpAny_pyIter_enum he ?_
    exact ⟨_, _, _, _, H1, rfl, I1.kept (t' := s1.toks) hk, turn_enum p (s1.heap.objs.size + 1) s1.heap.objs.size, ⟨⟨.none, he⟩, hit, Nat.succ_ne_self _⟩, low, k⟩
  · subst ev
    obtain ⟨u, eu, ru⟩ := vals1 rv
    subst eu
    cases ru
    obtain ⟨its, rz, pt, _⟩ := I1.tuple hq
    refine call_enum1 (begins_tuple p its.toArray) pt fun h' he hit hk => wpAny_pyIter_enum he ?_
    exact ⟨_, _, _, _, H1, rfl, I1.kept (t' := s1.toks) hk, turn_enumT p (s1.heap.objs.size + 1) s1.heap.objs.size (Nat.succ_ne_self _), ⟨⟨.none, he⟩, ⟨_, hit, rfl, rfl⟩⟩, low, k⟩
end
end Mi

set_option Elab.async false
set_option linter.all false
set_option maxRecDepth 100000
set_option maxHeartbeats 4000000
namespace Mi
open PySem PySem.Spec PyProof.Rows L2

/-! ### what is walked, and its items -/
structure ItOk (K : PySem.W.Frag) (SA OL : List Addr) (H0 H1 : Hp) (J : It) (its : List D) (m : Md) (P : List Addr) : Prop where
  sa : ∀ a ∈ P, a ∉ SA
  md : MdOk OL H0 m P
  trk : ∀ a ∈ P, H1 a ≠ none
  go : ∀ (R : Addr → Prop) (H2 : Hp), Keep R H1 H2 → (∀ a ∈ P, ¬ R a) → (∀ i, i < its.length → J.go i H2) ∧ J.stop its.length H2 ∧
    ∀ (i : Nat) (x : V) (H3 : Hp), i < its.length → J.yld i H2 x H3 → Keep (fun _ => False) H2 H3 ∧ ∃ d L, its[i]? = some d ∧ Rep K SA H3 x d L ∧ ∀ a ∈ L, a ∈ P
abbrev FI := Env → Sto → Res (List D × Md)
def EiF (K : PySem.W.Frag) (E : XK) (ti : TI) (fi : FI) : Prop := ∀ (σ : L2.St) (H : Hp) (env : Env) (SA OL : List Addr) (S : Sto), EnvOk K SA OL H σ env → StoOk K SA OL H S →
  ∀ R : It → Hp → Prop, After K E SA OL H (fi env S) (fun x _ H' => ∀ J P, ItOk K SA OL H H' J x.1 x.2 P → R J H') → ti σ H R
def chars (z : Str) : List D := z.cps.toList.map fun c => D.str ⟨#[c]⟩
def fiSeq (fe : FE) : FI := fun env S => (fe env S).bind fun x S1 => match x.1 with
  | .str z => .ok (chars z, .pur) S1
  | _ => (match x.1.seqOf? with
    | some l => .ok (l, x.2) S1
    | none => .no)
section
variable {K : PySem.W.Frag} {E : XK} {ta tb tc te : TE} {fa fb fc fe : FE} {tr : TA} {fr : FA} {tt tu : TT} {ft fu : FT} {SA OL : List Addr} {H0 H H1 H2 : Hp}
theorem Keep.none {R : Addr → Prop} : Keep R H H := Keep.refl
/-- a list at p, its lists at P -/
theorem it_list {p : Addr} {vs : List V} {ds : List D} {m : Md} {P L : List Addr} (hq : (H1 p = some (.lst vs) ∧ p ∈ P) ∨ FzL K H1 p vs) (r : RepAll K SA H1 vs ds L) (hL : ∀ a ∈ L, a ∈ P) (sa : ∀ a ∈ P, a ∉ SA) (trk : ∀ a ∈ P, H1 a ≠ Option.none) (md : MdOk OL H0 m P) :
    ItOk K SA OL H0 H1 (Itl K p) ds m P := by
  refine ⟨sa, md, trk, fun R H2 k hP => ?_⟩
  have hs : SqL K H2 p vs := by
    rcases hq with ⟨h, hp⟩ | h
    · exact SqL.of (k.keep _ _ h (.inl (hP p hp)))
    · exact (k.fzL h).sqL
  have r2 := r.keep k _ _ _ fun a ha => hP a (hL a ha)
  have w := walk_list (K := K) (a := p) (xs := vs)
  rw [r.length] at w
  refine ⟨fun i hi => w.goes i H2 hi hs, w.stops H2 hs, fun i x H3 hi y => ?_⟩
  obtain ⟨e1, e2⟩ := w.yields i H2 x H3 hi hs y
  subst e1
  obtain ⟨d, L', h1, h2, h3⟩ := r2.getV e2
  exact ⟨.refl, d, L', h1, h2, fun a ha => hL a (h3.subset ha)⟩
theorem it_tup {p : Addr} {vs : List V} {ds : List D} {m : Md} {P L : List Addr} (hq : SqT K H1 p vs) (r : RepAll K SA H1 vs ds L) (hL : ∀ a ∈ L, a ∈ P) (sa : ∀ a ∈ P, a ∉ SA) (trk : ∀ a ∈ P, H1 a ≠ Option.none) (md : MdOk OL H0 m P) :
    ItOk K SA OL H0 H1 (Itt K p) ds m P := by
  refine ⟨sa, md, trk, fun R H2 k hP => ?_⟩
  have hs : SqT K H2 p vs := k.sqT hq
  have r2 := r.keep k _ _ _ fun a ha => hP a (hL a ha)
  have w := walk_tup (K := K) (a := p) (xs := vs)
  rw [r.length] at w
  refine ⟨fun i hi => w.goes i H2 hi hs, w.stops H2 hs, fun i x H3 hi y => ?_⟩
  obtain ⟨e1, e2⟩ := w.yields i H2 x H3 hi hs y
  subst e1
  obtain ⟨d, L', h1, h2, h3⟩ := r2.getV e2
  exact ⟨.refl, d, L', h1, h2, fun a ha => hL a (h3.subset ha)⟩
/-- ways of a value that is a list or a tuple -/
theorem it_of {v : V} {d : D} {m : Md} {L : List Addr} {l : List D} {R : It → Hp → Prop} (x : Val K SA OL H0 H1 v d m L) (e : d.seqOf? = some l) (h : ∀ J P, ItOk K SA OL H0 H1 J l m P → R J H1) :
    (∃ p zs, v = .ref p ∧ SqL K H1 p zs ∧ R (Itl K p) H1) ∨ (∃ p zs, v = .ref p ∧ SqT K H1 p zs ∧ R (Itt K p) H1) := by
  have tr := Rep.trk _ _ _ x.rep
  obtain ⟨rep, sa, md⟩ := x
  cases rep with
  | lst h1 h2 => cases e; exact .inl ⟨_, _, rfl, SqL.of h1, h _ _ (it_list (.inl ⟨h1, List.mem_cons_self⟩) h2 (fun a ha => List.mem_cons_of_mem _ ha) sa tr md)⟩
  | fls h1 h2 => cases e; exact .inl ⟨_, _, rfl, h1.sqL, h _ _ (it_list (.inr h1) h2 (fun a ha => ha) sa tr md)⟩
  | tup h1 h2 => cases e; exact .inr ⟨_, _, rfl, h1, h _ _ (it_tup h1 h2 (fun a ha => ha) sa tr md)⟩
  | xtp h1 h2 => cases e; exact .inr ⟨_, _, rfl, h1.sqT, h _ _ (it_tup h1.sqT h2 (fun a ha => ha) sa tr md)⟩
  | _ => cases e
theorem it_str {z : Str} {OL : List Addr} {H0 : Hp} : ItOk K SA OL H0 H1 (Its z) (chars z) .pur [] := by
  refine ⟨(fun _ q => nomatch q), rfl, (fun _ q => nomatch q), fun R H2 k hP => ?_⟩
  have w := walk_str (z := z)
  have hl : (chars z).length = z.cps.size := by unfold chars; simp
  rw [hl]
  refine ⟨fun i hi => w.goes i H2 hi trivial, w.stops H2 trivial, fun i x H3 hi y => ?_⟩
  obtain ⟨e1, c, e2, e3⟩ := w.yields i H2 x H3 hi trivial y
  subst e1 e3
  refine ⟨.refl, .str ⟨#[c]⟩, [], ?_, .str _, fun _ q => nomatch q⟩
  unfold chars
  rw [List.getElem?_map]
  have : z.cps.toList[i]? = some c := by simpa using e2
  rw [this]
  rfl
theorem eif_seq (ha : EvF K E te fe) : EiF K E (iSeq K te) (fiSeq fe) := by
  intro σ H env SA OL S eo so R h
  refine ha σ H env SA OL S eo so _ ((After.seq h).imp fun x S1 H1 _ s1 h1 v1 L1 x1 => ?_)
  obtain ⟨d, m⟩ := x
  have seq : ∀ l, d.seqOf? = some l → After K E SA OL H1 (.ok (l, m) S1) (fun x _ H' => ∀ J P, ItOk K SA OL H H' J x.1 x.2 P → R J H') →
      (∃ p, v1 = .ref p ∧ (∃ zs, SqL K H1 p zs) ∧ R (Itl K p) H1) ∨ (∃ p, v1 = .ref p ∧ (∃ zs, SqT K H1 p zs) ∧ R (Itt K p) H1) ∨ ∃ z, v1 = .str z ∧ R (Its z) H1 := by
    intro l e h2
    rcases it_of x1 e (h2 H1 (.here s1.so)) with ⟨p, zs, ev, hq, k⟩ | ⟨p, zs, ev, hq, k⟩
    · exact .inl ⟨p, ev, ⟨zs, hq⟩, k⟩
    · exact .inr (.inl ⟨p, ev, ⟨zs, hq⟩, k⟩)
  cases d with
  | str z => exact .inr (.inr ⟨z, str_of x1, h1 H1 (.here s1.so) _ [] it_str⟩)
  | tup l => exact seq l rfl h1
  | xtp l => exact seq l rfl h1
  | lst l => exact seq l rfl h1
  | fls l => exact seq l rfl h1
  | _ => exact h1.elim
/-! range -/
def rgL (a : Int) (n : Nat) : List D := (List.range n).map fun i => D.int (a + (i : Nat))
theorem it_range {lo : Int} {n : Nat} {OL : List Addr} {H0 : Hp} : ItOk K SA OL H0 H1 (Itr lo n) (rgL lo n) .pur [] := by
  refine ⟨(fun _ q => nomatch q), rfl, (fun _ q => nomatch q), fun R H2 k hP => ?_⟩
  have w := walk_range (lo := lo) (n := n)
  have hl : (rgL lo n).length = n := by unfold rgL; simp
  rw [hl]
  refine ⟨fun i hi => w.goes i H2 hi trivial, w.stops H2 trivial, fun i x H3 hi y => ?_⟩
  obtain ⟨e1, e2⟩ := w.yields i H2 x H3 hi trivial y
  subst e1 e2
  refine ⟨.refl, .int (lo + (i : Nat)), [], ?_, .int _, fun _ q => nomatch q⟩
  unfold rgL
  rw [List.getElem?_map, List.getElem?_range hi]
  rfl
def fiRng1 (fa : FA) : FI := fun env S => (fa env S).bind fun x S1 => match x.1 with
  | [.int j] => if -(2 ^ 62) ≤ j ∧ j < 2 ^ 62 then .ok (rgL 0 j.toNat, .pur) S1 else .no
  | _ => .no
theorem eif_rng1 (ha : EaF K E tr fr) : EiF K E (iRng1 tr) (fiRng1 fr) := by
  intro σ H env SA OL S eo so R h
  refine ha σ H env SA OL S eo so _ ((After.seq h).imp fun x S1 H1 _ s1 h1 v1 L1 x1 => ?_)
  obtain ⟨ds, m⟩ := x
  simp only at h1
  split at h1
  · rename_i j _
    split at h1
    · rename_i hb
      obtain ⟨v, rfl, w1⟩ := one_of x1
      have ev := int_of w1
      subst ev
      exact ⟨j, rfl, hb.1, hb.2, h1 H1 (.here s1.so) _ [] it_range⟩
    · exact h1.elim
  · exact h1.elim
def fiRng2 (fa : FA) : FI := fun env S => (fa env S).bind fun x S1 => match x.1 with
  | [.int i, .int j] => if -(2 ^ 62) ≤ i ∧ i < 2 ^ 62 ∧ -(2 ^ 62) ≤ j ∧ j < 2 ^ 62 then .ok (rgL i (j - i).toNat, .pur) S1 else .no
  | _ => .no
theorem eif_rng2 (ha : EaF K E tr fr) : EiF K E (iRng2 tr) (fiRng2 fr) := by
  intro σ H env SA OL S eo so R h
  refine ha σ H env SA OL S eo so _ ((After.seq h).imp fun x S1 H1 _ s1 h1 v1 L1 x1 => ?_)
  obtain ⟨ds, m⟩ := x
  simp only at h1
  split at h1
  · rename_i i j _
    split at h1
    · rename_i hb
      obtain ⟨v, u, _, _, rfl, r1, r2⟩ := two_of x1.rep
      cases r1
      cases r2
      exact ⟨i, j, rfl, hb, h1 H1 (.here s1.so) _ [] it_range⟩
    · exact h1.elim
  · exact h1.elim
/-! enumerate, zip -/
def enumFrom (k : Nat) : List D → List D
  | [] => []
  | d :: l => .tup [.int (k : Nat), d] :: enumFrom (k + 1) l
theorem enumFrom_length : ∀ (l : List D) (k : Nat), (enumFrom k l).length = l.length
  | [], _ => rfl
  | d :: l, k => congrArg (· + 1) (enumFrom_length l (k + 1))
theorem enumFrom_get : ∀ (l : List D) (k i : Nat) (d : D), l[i]? = some d → (enumFrom k l)[i]? = some (.tup [.int ((k + i : Nat) : Int), d])
  | [], _, _, _, h => by simp at h
  | d :: l, k, 0, d', h => by
    simp at h
    subst h
    rfl
  | d :: l, k, i + 1, d', h => by
    have := enumFrom_get l (k + 1) i d' (by simpa using h)
    rw [show k + 1 + i = k + (i + 1) by omega] at this
    simpa [enumFrom] using this
/-- pairs that a walk makes -/
theorem pair_rep {p : Addr} {H : Hp} {v u : V} {d e : D} {L M : List Addr} (hp : H p = Option.none) (r1 : Rep K SA H v d L) (r2 : Rep K SA H u e M) : Keep (fun _ => False) H (upd H p (.tup [v, u])) ∧ Rep K SA (upd H p (.tup [v, u])) (.ref p) (.tup [d, e]) (L ++ (M ++ [])) := by
  have k : Keep (fun _ => False) H (upd H p (.tup [v, u])) := .new hp
  exact ⟨k, .tup (SqT.of upd_same) (.cons (r1.keep k _ _ _ fun _ _ z => z) (.cons (r2.keep k _ _ _ fun _ _ z => z) .nil))⟩
def fiEnum (fa : FA) : FI := fun env S => (fa env S).bind fun x S1 => match x.1 with
  | [d] => (match d.seqOf? with
    | some l => .ok (enumFrom 0 l, x.2) S1
    | none => .no)
  | _ => .no
theorem eif_enum (ha : EaF K E tr fr) : EiF K E (iEnumA K tr) (fiEnum fr) := by
  intro σ H env SA OL S eo so R h
  refine ha σ H env SA OL S eo so _ ((After.seq h).imp fun x S1 H1 _ s1 h1 v1 L1 x1 => ?_)
  obtain ⟨ds, m⟩ := x
  simp only at h1
  split at h1
  · rename_i d
    split at h1
    · rename_i l e
      obtain ⟨v, rfl, w1⟩ := one_of x1
      have h2 := h1 H1 (.here s1.so)
      have tr := Rep.trk _ _ _ w1.rep
      obtain ⟨rep, sa, md⟩ := w1
      have lists : ∀ (p : Addr) (vs : List V) (L P : List Addr), (H1 p = some (.lst vs) ∧ p ∈ P) ∨ FzL K H1 p vs → RepAll K SA H1 vs l L → (∀ a ∈ L, a ∈ P) → (∀ a ∈ P, a ∉ SA) → (∀ a ∈ P, H1 a ≠ Option.none) → MdOk OL H m P →
          ItOk K SA OL H H1 (Ite K p) (enumFrom 0 l) m P := by
        intro p vs L P hq r hL sa trk md
        refine ⟨sa, md, trk, fun R H2 k hP => ?_⟩
        have hs : SqL K H2 p vs := by
          rcases hq with ⟨h, hp⟩ | h
          · exact SqL.of (k.keep _ _ h (.inl (hP p hp)))
          · exact (k.fzL h).sqL
        have r2 := r.keep k _ _ _ fun a ha => hP a (hL a ha)
        have w := walk_enum (K := K) (a := p) (xs := vs)
        rw [r.length] at w
        rw [enumFrom_length]
        refine ⟨fun i hi => w.goes i H2 hi hs, w.stops H2 hs, fun i x H3 hi y => ?_⟩
        obtain ⟨T, a, b, e1, e2, e3, e4, e5⟩ := w.yields i H2 x H3 hi hs y
        have e4' : a = .int (i : Nat) := (Option.some.inj e4).symm
        subst e1 e3 e4'
        obtain ⟨d', L', g1, g2, g3⟩ := r2.getV e5
        obtain ⟨k2, rp⟩ := pair_rep (K := K) (SA := SA) e2 (.int (i : Nat)) g2
        refine ⟨k2, _, _, by simpa using enumFrom_get l 0 i d' g1, rp, fun a ha => hL a (g3.subset ?_)⟩
        simpa using ha
      have tups : ∀ (p : Addr) (vs : List V) (L : List Addr), SqT K H1 p vs → RepAll K SA H1 vs l L → (∀ a ∈ L, a ∉ SA) → (∀ a ∈ L, H1 a ≠ Option.none) → MdOk OL H m L → ItOk K SA OL H H1 (EnT K p) (enumFrom 0 l) m L := by
        intro p vs L hq r sa trk md
        refine ⟨sa, md, trk, fun R H2 k hP => ?_⟩
        have hs : SqT K H2 p vs := k.sqT hq
        have r2 := r.keep k _ _ _ fun a ha => hP a ha
        rw [enumFrom_length, ← r.length]
        refine ⟨fun i hi => ⟨vs, vs[i], hs, by simp [hi]⟩, ⟨vs, hs, rfl⟩, fun i x H3 hi y => ?_⟩
        obtain ⟨T, b, e1, e2, e3, e5⟩ := y
        subst e1 e3
        obtain ⟨d', L', g1, g2, g3⟩ := r2.getV (e5 vs hs)
        obtain ⟨k2, rp⟩ := pair_rep (K := K) (SA := SA) e2 (.int (i : Nat)) g2
        refine ⟨k2, _, _, by simpa using enumFrom_get l 0 i d' g1, rp, fun a ha => g3.subset ?_⟩
        simpa using ha
      cases rep with
      | lst q1 q2 => cases e; exact .inl ⟨_, _, rfl, SqL.of q1, h2 _ _ (lists _ _ _ _ (.inl ⟨q1, List.mem_cons_self⟩) q2 (fun a ha => List.mem_cons_of_mem _ ha) sa tr md)⟩
      | fls q1 q2 => cases e; exact .inl ⟨_, _, rfl, q1.sqL, h2 _ _ (lists _ _ _ _ (.inr q1) q2 (fun a ha => ha) sa tr md)⟩
      | tup q1 q2 => cases e; exact .inr ⟨_, _, rfl, q1, h2 _ _ (tups _ _ _ q1 q2 sa tr md)⟩
      | xtp q1 q2 => cases e; exact .inr ⟨_, _, rfl, q1.sqT, h2 _ _ (tups _ _ _ q1.sqT q2 sa tr md)⟩
      | _ => cases e
    · exact h1.elim
  · exact h1.elim
def zipD : List D → List D → List D
  | a :: l, b :: k => .tup [a, b] :: zipD l k
  | _, _ => []
theorem zipD_length : ∀ (l k : List D), (zipD l k).length = min l.length k.length
  | [], _ => by simp [zipD]
  | _ :: _, [] => by simp [zipD]
  | a :: l, b :: k => by
    show (zipD l k).length + 1 = _
    rw [zipD_length l k]
    simp only [List.length_cons]
    omega
theorem zipD_get : ∀ (l k : List D) (i : Nat) (d e : D), l[i]? = some d → k[i]? = some e → (zipD l k)[i]? = some (.tup [d, e])
  | [], _, _, _, _, h, _ => by simp at h
  | _ :: _, [], _, _, _, _, h => by simp at h
  | a :: l, b :: k, 0, d, e, h, g => by
    simp at h g
    subst h g
    rfl
  | a :: l, b :: k, i + 1, d, e, h, g => by
    simpa [zipD] using zipD_get l k i d e (by simpa using h) (by simpa using g)
def fiZip (fa : FA) : FI := fun env S => (fa env S).bind fun x S1 => match x.1 with
  | [d, e] => (match d.tupOf?, e.tupOf? with
    | some l, some k => .ok (zipD l k, x.2) S1
    | _, _ => (match d.lstOf?, e.lstOf? with
      | some l, some k => .ok (zipD l k, x.2) S1
      | _, _ => .no))
  | _ => .no
theorem Rep.lstWay {d : D} {v : V} {L : List Addr} {l : List D} (r : Rep K SA H v d L) (e : d.lstOf? = some l) : ∃ a vs L', v = .ref a ∧ ((H a = some (.lst vs) ∧ a ∈ L) ∨ FzL K H a vs) ∧ RepAll K SA H vs l L' ∧ ∀ x ∈ L', x ∈ L := by
  cases r with
  | lst h1 h2 => cases e; exact ⟨_, _, _, rfl, .inl ⟨h1, List.mem_cons_self⟩, h2, fun a ha => List.mem_cons_of_mem _ ha⟩
  | fls h1 h2 => cases e; exact ⟨_, _, _, rfl, .inr h1, h2, fun a ha => ha⟩
  | _ => cases e
theorem eif_zip (ha : EaF K E tr fr) : EiF K E (RZ.iZipA K tr) (fiZip fr) := by
  intro σ H env SA OL S eo so R h
  refine ha σ H env SA OL S eo so _ ((After.seq h).imp fun x S1 H1 _ s1 h1 v1 L1 x1 => ?_)
  obtain ⟨ds, m⟩ := x
  simp only at h1
  split at h1
  · rename_i d e
    have tr := RepAll.trk _ _ _ x1.rep
    obtain ⟨rep, sa, md⟩ := x1
    cases rep with
    | @cons va _ La _ _ _ ra rest =>
      cases rest with
      | @cons vb _ Lb _ _ _ rb nl =>
        cases nl
        split at h1
        · rename_i l k e1 e2
          have h2 := h1 H1 (.here s1.so)
          obtain ⟨a, vs, rfl, hq, r⟩ := ra.tupOf e1
          obtain ⟨b, ws, rfl, hq2, r'⟩ := rb.tupOf e2
          refine ⟨a, b, vs, ws, rfl, .inr ⟨hq, hq2, h2 _ _ ⟨sa, md, tr, fun R H2 k hP => ?_⟩⟩⟩
          have z1 := k.sqT hq
          have z2 := k.sqT hq2
          have r2 := r.keep k _ _ _ fun a ha => hP a (List.mem_append_left _ ha)
          have r2' := r'.keep k _ _ _ fun a ha => hP a (List.mem_append_right _ (List.mem_append_left _ ha))
          rw [zipD_length, ← r.length, ← r'.length]
          refine ⟨fun i hi => ⟨vs, ws, vs[i]'(by omega), ws[i]'(by omega), z1, z2, by simp [show i < vs.length by omega], by simp [show i < ws.length by omega]⟩, ⟨vs, ws, z1, z2, by omega⟩, fun i x H3 hi y => ?_⟩
          obtain ⟨T, x1, x2, e1, e2, e3, e4, e5⟩ := y
          subst e1 e3
          obtain ⟨d1, M1, g1, g2, g3⟩ := r2.getV (e4 vs z1)
          obtain ⟨d2, M2, f1, f2, f3⟩ := r2'.getV (e5 ws z2)
          obtain ⟨k2, rp⟩ := pair_rep (K := K) (SA := SA) e2 g2 f2
          refine ⟨k2, _, _, zipD_get _ _ i _ _ g1 f1, rp, fun a ha => ?_⟩
          rw [List.append_nil] at ha ⊢
          exact (List.mem_append.mp ha).elim (fun q => List.mem_append_left _ (g3.subset q)) fun q => List.mem_append_right _ (f3.subset q)
        · split at h1
          · rename_i l k e1 e2
            have h2 := h1 H1 (.here s1.so)
            obtain ⟨a, vs, L', rfl, hq, r, sl⟩ := ra.lstWay e1
            obtain ⟨b, ws, M', rfl, hq2, r', sl'⟩ := rb.lstWay e2
            have way : ∀ {p : Addr} {xs : List V} {Lx : List Addr}, (H1 p = some (.lst xs) ∧ p ∈ Lx) ∨ FzL K H1 p xs → SqL K H1 p xs := fun q => q.elim (fun z => SqL.of z.1) fun z => z.sqL
            refine ⟨a, b, vs, ws, rfl, .inl ⟨way hq, way hq2, h2 _ _ ⟨sa, md, tr, fun R H2 k hP => ?_⟩⟩⟩
            have wayk : ∀ {p : Addr} {xs : List V} {Lx : List Addr}, (H1 p = some (.lst xs) ∧ p ∈ Lx) ∨ FzL K H1 p xs → (∀ x ∈ Lx, x ∈ La ++ (Lb ++ [])) → SqL K H2 p xs := fun q hx => q.elim (fun z => SqL.of (k.keep _ _ z.1 (.inl (hP _ (hx _ z.2))))) fun z => (k.fzL z).sqL
            have z1 := wayk hq fun x hx => List.mem_append_left _ hx
            have z2 := wayk hq2 fun x hx => List.mem_append_right _ (List.mem_append_left _ hx)
            have r2 := r.keep k _ _ _ fun a ha => hP a (List.mem_append_left _ (sl a ha))
            have r2' := r'.keep k _ _ _ fun a ha => hP a (List.mem_append_right _ (List.mem_append_left _ (sl' a ha)))
            rw [zipD_length, ← r.length, ← r'.length]
            refine ⟨fun i hi => ⟨vs, ws, vs[i]'(by omega), ws[i]'(by omega), z1, z2, by simp [show i < vs.length by omega], by simp [show i < ws.length by omega]⟩, ⟨vs, ws, z1, z2, by omega⟩, fun i x H3 hi y => ?_⟩
            obtain ⟨T, x1, x2, e1, e2, e3, e4, e5⟩ := y
            subst e1 e3
            obtain ⟨d1, M1, g1, g2, g3⟩ := r2.getV (e4 vs z1)
            obtain ⟨d2, M2, f1, f2, f3⟩ := r2'.getV (e5 ws z2)
            obtain ⟨k2, rp⟩ := pair_rep (K := K) (SA := SA) e2 g2 f2
            refine ⟨k2, _, _, zipD_get _ _ i _ _ g1 f1, rp, fun a ha => ?_⟩
            rw [List.append_nil] at ha ⊢
            exact (List.mem_append.mp ha).elim (fun q => List.mem_append_left _ (sl _ (g3.subset q))) fun q => List.mem_append_right _ (sl' _ (f3.subset q))
          · exact h1.elim
  · exact h1.elim
end
end Mi

set_option Elab.async false
set_option linter.all false
set_option maxRecDepth 100000
set_option maxHeartbeats 4000000
namespace Mi
open PySem PySem.Spec PyProof.Rows L2

/-! ### slots set and wiped -/
theorem wipe_get (σ : L2.St) : ∀ (vs : List Nat) (j : Nat), (wipe σ vs)[j]? = if j ∈ vs then (σ[j]?).map (fun _ => none) else σ[j]?
  | [], j => by simp [wipe]
  | v :: vs, j => by
    have ih := wipe_get σ vs j
    unfold wipe
    by_cases h : v = j
    · subst h
      rw [List.getElem?_set, if_pos rfl, if_pos List.mem_cons_self]
      by_cases hl : v < (wipe σ vs).length
      · rw [if_pos hl]
        have hl' : v < σ.length := by rw [wipe_length] at hl; exact hl
        rw [List.getElem?_eq_getElem hl']
        rfl
      · rw [if_neg hl]
        have hl' : ¬ v < σ.length := by rw [wipe_length] at hl; exact hl
        rw [List.getElem?_eq_none (by omega)]
        rfl
    · rw [List.getElem?_set_ne h, ih]
      by_cases hj : j ∈ vs
      · rw [if_pos hj, if_pos (List.mem_cons_of_mem _ hj)]
      · rw [if_neg hj, if_neg (fun z => (List.mem_cons.mp z).elim (fun q => h q.symm) hj)]
theorem wipe_set {σ : L2.St} {vs : List Nat} {i : Nat} {x : Option V} (hi : i ∈ vs) : wipe (σ.set i x) vs = wipe σ vs := by
  apply List.ext_getElem?
  intro j
  rw [wipe_get, wipe_get]
  by_cases hj : j ∈ vs
  · rw [if_pos hj, if_pos hj]
    by_cases e : i = j
    · subst e
      rw [List.getElem?_set, if_pos rfl]
      split
      · rename_i hl
        rw [List.getElem?_eq_getElem hl]
        rfl
      · rename_i hl
        rw [List.getElem?_eq_none (by omega)]
    · rw [List.getElem?_set_ne e]
  · rw [if_neg hj, if_neg hj]
    by_cases e : i = j
    · subst e
      exact absurd hi hj
    · rw [List.getElem?_set_ne e]
theorem wipe_wipe (σ : L2.St) (vs : List Nat) : wipe (wipe σ vs) vs = wipe σ vs := by
  apply List.ext_getElem?
  intro j
  rw [wipe_get, wipe_get]
  by_cases hj : j ∈ vs
  · rw [if_pos hj, if_pos hj]
    cases σ[j]? <;> rfl
  · rw [if_neg hj, if_neg hj]
def wipeE (env : Env) : List Nat → Env
  | [] => env
  | v :: vs => (wipeE env vs).set v none
/-- within a comprehension nobody changes a list: all is as foreign -/
def demote (env : Env) : Env := env.map fun s => match s with
  | some (d, .own) => some (d, .frn)
  | s => s
section
variable {K : PySem.W.Frag} {SA OL FL : List Addr} {H : Hp} {σ : L2.St} {env : Env}
theorem EnvRep.clear : ∀ {σ : L2.St} {env : Env} {OL FL : List Addr} (i : Nat) (x : Option V), EnvRep K SA H σ env OL FL → ∃ OL' FL', EnvRep K SA H (σ.set i x) (env.set i Option.none) OL' FL' ∧ OL'.Sublist OL ∧ FL'.Sublist FL
  | _, _, _, _, i, x, .nil R h => ⟨R, [], .nil R h, .refl _, .refl _⟩
  | _, _, OL, FL, 0, x, .none h => ⟨OL, FL, .none h, .refl _, .refl _⟩
  | _, _, OL, FL, 0, x, .pur _ h => ⟨OL, FL, .none h, .refl _, .refl _⟩
  | _, _, _, FL, 0, x, .own (OL := OL) _ h => ⟨OL, FL, .none h, List.sublist_append_right .., .refl _⟩
  | _, _, OL, _, 0, x, .frn (FL := FL) _ h => ⟨OL, FL, .none h, .refl _, List.sublist_append_right ..⟩
  | _, _, _, _, i + 1, x, .none h => let ⟨A, B, r, s, t⟩ := EnvRep.clear i x h; ⟨A, B, .none r, s, t⟩
  | _, _, _, _, i + 1, x, .pur q h => let ⟨A, B, r, s, t⟩ := EnvRep.clear i x h; ⟨A, B, .pur q r, s, t⟩
  | _, _, _, _, i + 1, x, .own q h => let ⟨A, B, r, s, t⟩ := EnvRep.clear i x h; ⟨_, B, .own q r, List.Sublist.append_left s _, t⟩
  | _, _, _, _, i + 1, x, .frn q h => let ⟨A, B, r, s, t⟩ := EnvRep.clear i x h; ⟨A, _, .frn q r, s, List.Sublist.append_left t _⟩
theorem EnvRep.putP : ∀ {σ : L2.St} {env : Env} {OL FL : List Addr} {i : Nat} {v : V} {d : D}, EnvRep K SA H σ env OL FL → env[i]? = some Option.none → Rep K SA H v d [] → EnvRep K SA H (σ.set i (some v)) (env.set i (some (d, .pur))) OL FL
  | _, _, _, _, 0, _, _, .none h, _, r => .pur r h
  | _, _, _, _, i + 1, _, _, .none h, e, r => .none (EnvRep.putP h (by simpa using e) r)
  | _, _, _, _, i + 1, _, _, .pur q h, e, r => .pur q (EnvRep.putP h (by simpa using e) r)
  | _, _, _, _, i + 1, _, _, .own q h, e, r => .own q (EnvRep.putP h (by simpa using e) r)
  | _, _, _, _, i + 1, _, _, .frn q h, e, r => .frn q (EnvRep.putP h (by simpa using e) r)
  | _, _, _, _, 0, _, _, .pur _ _, e, _ => by simp at e
  | _, _, _, _, 0, _, _, .own _ _, e, _ => by simp at e
  | _, _, _, _, 0, _, _, .frn _ _, e, _ => by simp at e
  | _, _, _, _, _, _, _, .nil _ _, e, _ => by simp at e
theorem EnvRep.putO : ∀ {σ : L2.St} {env : Env} {OL FL : List Addr} {i : Nat} {v : V} {d : D} {L : List Addr}, EnvRep K SA H σ env OL FL → env[i]? = some Option.none → Rep K SA H v d L → ∃ A B, OL = A ++ B ∧ EnvRep K SA H (σ.set i (some v)) (env.set i (some (d, .own))) (A ++ (L ++ B)) FL
  | _, _, OL, _, 0, _, _, L, .none h, _, r => ⟨[], OL, rfl, EnvRep.own (L := L) (OL := OL) r h⟩
  | _, _, _, _, i + 1, _, _, _, .none h, e, r => let ⟨A, B, z, q⟩ := EnvRep.putO h (by simpa using e) r; ⟨A, B, z, .none q⟩
  | _, _, _, _, i + 1, _, _, _, .pur p h, e, r => let ⟨A, B, z, q⟩ := EnvRep.putO h (by simpa using e) r; ⟨A, B, z, .pur p q⟩
  | _, _, _, _, i + 1, _, _, _, .own (L := L0) p h, e, r => by
    obtain ⟨A, B, z, q⟩ := EnvRep.putO (i := i) h (by simpa using e) r
    exact ⟨L0 ++ A, B, by rw [z, List.append_assoc], by rw [List.append_assoc]; exact .own p q⟩
  | _, _, _, _, i + 1, _, _, _, .frn p h, e, r => let ⟨A, B, z, q⟩ := EnvRep.putO h (by simpa using e) r; ⟨A, B, z, .frn p q⟩
  | _, _, _, _, 0, _, _, _, .pur _ _, e, _ => by simp at e
  | _, _, _, _, 0, _, _, _, .own _ _, e, _ => by simp at e
  | _, _, _, _, 0, _, _, _, .frn _ _, e, _ => by simp at e
  | _, _, _, _, _, _, _, _, .nil _ _, e, _ => by simp at e
theorem EnvRep.putF : ∀ {σ : L2.St} {env : Env} {OL FL : List Addr} {i : Nat} {v : V} {d : D} {L : List Addr}, EnvRep K SA H σ env OL FL → env[i]? = some Option.none → Rep K SA H v d L → ∃ A B, FL = A ++ B ∧ EnvRep K SA H (σ.set i (some v)) (env.set i (some (d, .frn))) OL (A ++ (L ++ B))
  | _, _, _, FL, 0, _, _, L, .none h, _, r => ⟨[], FL, rfl, EnvRep.frn (L := L) (FL := FL) r h⟩
  | _, _, _, _, i + 1, _, _, _, .none h, e, r => let ⟨A, B, z, q⟩ := EnvRep.putF h (by simpa using e) r; ⟨A, B, z, .none q⟩
  | _, _, _, _, i + 1, _, _, _, .pur p h, e, r => let ⟨A, B, z, q⟩ := EnvRep.putF h (by simpa using e) r; ⟨A, B, z, .pur p q⟩
  | _, _, _, _, i + 1, _, _, _, .frn (L := L0) p h, e, r => by
    obtain ⟨A, B, z, q⟩ := EnvRep.putF (i := i) h (by simpa using e) r
    exact ⟨L0 ++ A, B, by rw [z, List.append_assoc], by rw [List.append_assoc]; exact .frn p q⟩
  | _, _, _, _, i + 1, _, _, _, .own p h, e, r => let ⟨A, B, z, q⟩ := EnvRep.putF h (by simpa using e) r; ⟨A, B, z, .own p q⟩
  | _, _, _, _, 0, _, _, _, .pur _ _, e, _ => by simp at e
  | _, _, _, _, 0, _, _, _, .own _ _, e, _ => by simp at e
  | _, _, _, _, 0, _, _, _, .frn _ _, e, _ => by simp at e
  | _, _, _, _, _, _, _, _, .nil _ _, e, _ => by simp at e
theorem EnvRep.demote : ∀ {σ : L2.St} {env : Env} {OL FL : List Addr}, EnvRep K SA H σ env OL FL → ∃ FL', EnvRep K SA H σ (demote env) [] FL' ∧ ∀ a ∈ FL', a ∈ OL ∨ a ∈ FL
  | _, _, _, _, .nil _ _ => ⟨[], .nil [] (fun _ z => nomatch z), fun _ z => nomatch z⟩
  | _, _, _, _, .none h => let ⟨F, r, s⟩ := EnvRep.demote h; ⟨F, .none r, s⟩
  | _, _, _, _, .pur q h => let ⟨F, r, s⟩ := EnvRep.demote h; ⟨F, .pur q r, s⟩
  | _, _, _, _, .own q h => let ⟨F, r, s⟩ := EnvRep.demote h; ⟨_, .frn q r, fun a ha => (List.mem_append.mp ha).elim (fun z => .inl (List.mem_append_left _ z)) fun z => (s a z).imp (List.mem_append_right _) id⟩
  | _, _, _, _, .frn q h => let ⟨F, r, s⟩ := EnvRep.demote h; ⟨_, .frn q r, fun a ha => (List.mem_append.mp ha).elim (fun z => .inr (List.mem_append_left _ z)) fun z => (s a z).imp id (List.mem_append_right _)⟩
theorem EnvOk.demote (eo : EnvOk K SA OL H σ env) : EnvOk K SA [] H σ (demote env) := by
  obtain ⟨⟨FL, r, hf⟩, nd, sa⟩ := eo
  obtain ⟨F, r', s⟩ := r.demote
  exact ⟨⟨F, r', fun a ha => ⟨(fun z => nomatch z), (s a ha).elim (sa a) fun z => (hf a z).2⟩⟩, List.nodup_nil, fun _ z => nomatch z⟩
theorem EnvOk.clear (i : Nat) (x : Option V) (eo : EnvOk K SA OL H σ env) : ∃ OL', EnvOk K SA OL' H (σ.set i x) (env.set i none) ∧ ∀ a ∈ OL', a ∈ OL := by
  obtain ⟨⟨FL, r, hf⟩, nd, sa⟩ := eo
  obtain ⟨A, B, r', s, t⟩ := r.clear i x
  exact ⟨A, ⟨⟨B, r', fun a ha => ⟨fun z => (hf a (t.subset ha)).1 (s.subset z), (hf a (t.subset ha)).2⟩⟩, nd.sublist s, fun a ha => sa a (s.subset ha)⟩, fun a ha => s.subset ha⟩
theorem EnvOk.wipe (eo : EnvOk K SA [] H σ env) : ∀ vs : List Nat, EnvOk K SA [] H (wipe σ vs) (wipeE env vs)
  | [] => eo
  | v :: vs => by
    obtain ⟨OL', e, s⟩ := (EnvOk.wipe eo vs).clear v none
    have : OL' = [] := List.eq_nil_iff_forall_not_mem.mpr fun a ha => nomatch s a ha
    subst this
    exact e
/-- the same, all its lists being taken (T) -/
structure EnvB (K : PySem.W.Frag) (SA OL : List Addr) (T : Addr → Prop) (H : Hp) (σ : L2.St) (env : Env) : Prop where
  rep : ∃ FL, EnvRep K SA H σ env OL FL ∧ ∀ a ∈ FL, a ∉ OL ∧ a ∉ SA ∧ T a
  nd : OL.Nodup
  sa : ∀ a ∈ OL, a ∉ SA
  tk : ∀ a ∈ OL, T a
theorem EnvB.ok {T : Addr → Prop} (eb : EnvB K SA OL T H σ env) : EnvOk K SA OL H σ env := by
  obtain ⟨⟨FL, r, hf⟩, nd, sa, _⟩ := eb
  exact ⟨⟨FL, r, fun a ha => ⟨(hf a ha).1, (hf a ha).2.1⟩⟩, nd, sa⟩
theorem EnvOk.b (eo : EnvOk K SA OL H σ env) : EnvB K SA OL (fun a => H a ≠ none) H σ env := by
  obtain ⟨⟨FL, r, hf⟩, nd, sa⟩ := eo
  exact ⟨⟨FL, r, fun a ha => ⟨(hf a ha).1, (hf a ha).2, r.trk.2 a ha⟩⟩, nd, sa, r.trk.1⟩
theorem EnvB.keep {T R : Addr → Prop} {H' : Hp} (eb : EnvB K SA OL T H σ env) (k : Keep R H H') (hr : ∀ a, R a → a ∈ SA) : EnvB K SA OL T H' σ env := by
  obtain ⟨⟨FL, r, hf⟩, nd, sa, tk⟩ := eb
  exact ⟨⟨FL, r.keep k (fun a ha z => sa a ha (hr a z)) (fun a ha z => (hf a ha).2.1 (hr a z)), hf⟩, nd, sa, tk⟩
/-- how a value may be stored -/
def Sm (OL : List Addr) (T : Addr → Prop) : Md → List Addr → Prop
  | .pur, L => L = []
  | .own, L => L.Nodup ∧ ∀ a ∈ L, ¬ T a
  | .frn, L => ∀ a ∈ L, a ∉ OL
  | _, _ => True
theorem EnvOk.length (eo : EnvOk K SA OL H σ env) : σ.length = env.length := by
  obtain ⟨⟨FL, r, hf⟩, nd, sa⟩ := eo
  exact r.length
theorem EnvB.put {T : Addr → Prop} {i : Nat} {v : V} {d : D} {m : Md} {L : List Addr} (eo : EnvB K SA OL T H σ env) (hi : i < env.length) (r : Rep K SA H v d L) (sL : ∀ a ∈ L, a ∉ SA) (sm : Sm OL T m L) (hm : m = .pur ∨ m = .own ∨ m = .frn) :
    ∃ OL', EnvB K SA OL' (fun a => T a ∨ a ∈ L) H (σ.set i (some v)) (env.set i (some (d, m))) ∧ ∀ a ∈ OL', a ∈ OL ∨ (m = .own ∧ a ∈ L) := by
  obtain ⟨⟨FL, er, hf⟩, nd, sa, tk⟩ := eo
  obtain ⟨A, B, r', s, t⟩ := er.clear i none
  have e0 : (env.set i none)[i]? = some none := by rw [List.getElem?_set, if_pos rfl, if_pos hi]
  have es : (σ.set i none).set i (some v) = σ.set i (some v) := List.set_set ..
  have ee : ∀ z : Option (D × Md), (env.set i none).set i z = env.set i z := fun z => List.set_set ..
  rcases hm with rfl | rfl | rfl
  · have e : L = [] := sm
    subst e
    have q := r'.putP e0 r
    rw [es, ee] at q
    exact ⟨A, ⟨⟨B, q, fun a ha => ⟨fun z => (hf a (t.subset ha)).1 (s.subset z), (hf a (t.subset ha)).2.1, .inl (hf a (t.subset ha)).2.2⟩⟩, nd.sublist s, fun a ha => sa a (s.subset ha), fun a ha => .inl (tk a (s.subset ha))⟩, fun a ha => .inl (s.subset ha)⟩
  · obtain ⟨A1, B1, ea, q⟩ := r'.putO e0 r
    rw [es, ee] at q
    subst ea
    have ndA := nd.sublist s
    have mem : ∀ a, a ∈ A1 ++ (L ++ B1) → a ∈ A1 ++ B1 ∨ a ∈ L := fun a ha => by
      rcases List.mem_append.mp ha with z | z
      · exact .inl (List.mem_append_left _ z)
      · rcases List.mem_append.mp z with z | z
        · exact .inr z
        · exact .inl (List.mem_append_right _ z)
    have tA : ∀ a ∈ A1 ++ B1, T a := fun a ha => tk a (s.subset ha)
    refine ⟨_, ⟨⟨B, q, fun a ha => ⟨fun z => ?_, (hf a (t.subset ha)).2.1, .inl (hf a (t.subset ha)).2.2⟩⟩, ?_, fun a ha => ?_, fun a ha => (mem a ha).imp (tA a) id⟩, fun a ha => (mem a ha).imp (fun z => s.subset z) fun z => ⟨rfl, z⟩⟩
    · rcases mem a z with z | z
      · exact (hf a (t.subset ha)).1 (s.subset z)
      · exact sm.2 a z (hf a (t.subset ha)).2.2
    · obtain ⟨n1, n2, n3⟩ := List.nodup_append.mp ndA
      refine List.nodup_append.mpr ⟨n1, List.nodup_append.mpr ⟨sm.1, n2, fun a ha b hb e => sm.2 a ha (tA a (List.mem_append_right _ (e ▸ hb)))⟩, fun a ha b hb e => ?_⟩
      rcases List.mem_append.mp hb with z | z
      · exact sm.2 b z (tA b (List.mem_append_left _ (e ▸ ha)))
      · exact n3 a ha b z e
    · rcases mem a ha with z | z
      · exact sa a (s.subset z)
      · exact sL a z
  · obtain ⟨A1, B1, ea, q⟩ := r'.putF e0 r
    rw [es, ee] at q
    subst ea
    have mem : ∀ a, a ∈ A1 ++ (L ++ B1) → a ∈ A1 ++ B1 ∨ a ∈ L := fun a ha => by
      rcases List.mem_append.mp ha with z | z
      · exact .inl (List.mem_append_left _ z)
      · rcases List.mem_append.mp z with z | z
        · exact .inr z
        · exact .inl (List.mem_append_right _ z)
    refine ⟨A, ⟨⟨_, q, fun a ha => ?_⟩, nd.sublist s, fun a ha => sa a (s.subset ha), fun a ha => .inl (tk a (s.subset ha))⟩, fun a ha => .inl (s.subset ha)⟩
    rcases mem a ha with z | z
    · exact ⟨fun w => (hf a (t.subset z)).1 (s.subset w), (hf a (t.subset z)).2.1, .inl (hf a (t.subset z)).2.2⟩
    · exact ⟨fun w => sm a z (s.subset w), sL a z, .inr z⟩
end

/-! ### targets -/
abbrev FG := D × Md → Env → Sto → Res Env
/-- slots ss alone are changed -/
def Wi (ss : List Nat) (σ σ' : L2.St) : Prop := ∀ vs : List Nat, (∀ i ∈ ss, i ∈ vs) → wipe σ' vs = wipe σ vs
structure TgP (K : PySem.W.Frag) (SA OL : List Addr) (T : Addr → Prop) (H : Hp) (σ : L2.St) (m : Md) (L : List Addr) (ss : List Nat) (env' : Env) (S' : Sto) (σ' : L2.St) (H' : Hp) (OL' : List Addr) : Prop where
  k : Keep (fun a => a ∈ SA ∨ a ∈ OL ∨ (m = .own ∧ a ∈ L)) H H'
  eb : EnvB K SA OL' (fun a => T a ∨ a ∈ L) H' σ' env'
  ol : ∀ a ∈ OL', a ∈ OL ∨ (m = .own ∧ a ∈ L)
  so : StoOk K SA OL' H' S'
  wi : Wi ss σ σ'
def GoG (K : PySem.W.Frag) (SA OL : List Addr) (T : Addr → Prop) (H : Hp) (σ : L2.St) (m : Md) (L : List Addr) (ss : List Nat) (r : Res Env) (Q : L2.St → Hp → Prop) : Prop := match r with
  | .ok env' S' => ∀ σ' H' OL', TgP K SA OL T H σ m L ss env' S' σ' H' OL' → Q σ' H'
  | _ => False
def EgF (K : PySem.W.Frag) (g : TG) (fg : FG) (ss : List Nat) : Prop := ∀ (σ : L2.St) (H : Hp) (env : Env) (SA OL : List Addr) (T : Addr → Prop) (S : Sto) (v : V) (d : D) (m : Md) (L : List Addr), EnvB K SA OL T H σ env → StoOk K SA OL H S →
  Rep K SA H v d L → (∀ a ∈ L, a ∉ SA) → Sm OL T m L → ∀ Q : L2.St → Hp → Prop, GoG K SA OL T H σ m L ss (fg (d, m) env S) Q → g v σ H Q
abbrev FGs := List D × Md → Env → Sto → Res Env
def EgsF (K : PySem.W.Frag) (g : TGs) (fg : FGs) (ss : List Nat) : Prop := ∀ (σ : L2.St) (H : Hp) (env : Env) (SA OL : List Addr) (T : Addr → Prop) (S : Sto) (vs : List V) (ds : List D) (m : Md) (L : List Addr), EnvB K SA OL T H σ env → StoOk K SA OL H S →
  RepAll K SA H vs ds L → (∀ a ∈ L, a ∉ SA) → Sm OL T m L → (m = .pur ∨ m = .own ∨ m = .frn) → ∀ Q : L2.St → Hp → Prop, GoG K SA OL T H σ m L ss (fg (ds, m) env S) Q → g vs σ H Q
def fgName (i : Nat) : FG := fun x env S => if i < env.length then (match x.2 with
    | .pur => .ok (env.set i (some x)) S
    | .own => .ok (env.set i (some x)) S
    | .frn => .ok (env.set i (some x)) S
    | _ => if noLst x.1 then .ok (env.set i (some (x.1, .pur))) S else .no) else .no
section
variable {K : PySem.W.Frag} {g : TG} {fg : FG} {gs : TGs} {fgs : FGs} {ss ss' : List Nat}
theorem egf_name {i : Nat} : EgF K (gName i) (fgName i) [i] := by
  intro σ H env SA OL T S v d m L eb so r sL sm Q h
  unfold fgName at h
  simp only at h
  split at h
  · rename_i hi
    have wi : Wi [i] σ (σ.set i (some v)) := fun vs hvs => wipe_set (hvs i List.mem_cons_self)
    have fin : ∀ (m' : Md), m' = .pur ∨ m' = .own ∨ m' = .frn → Sm OL T m' L → (m' = .own → m = .own) → (∀ σ' H' OL', TgP K SA OL T H σ m L [i] (env.set i (some (d, m'))) S σ' H' OL' → Q σ' H') → Q (σ.set i (some v)) H := by
      intro m' hm sm' hmm h2
      obtain ⟨OL', eb', s⟩ := eb.put hi r sL sm' hm
      exact h2 _ H OL' ⟨.refl, eb', fun a ha => (s a ha).imp id fun z => ⟨hmm z.1, z.2⟩, so.ol, wi⟩
    cases m with
    | pur => exact fin .pur (.inl rfl) sm id h
    | own => exact fin .own (.inr (.inl rfl)) sm id h
    | frn => exact fin .frn (.inr (.inr rfl)) sm id h
    | als =>
      simp only at h
      split at h
      · rename_i hn
        exact fin .pur (.inl rfl) (Rep.noL _ _ _ r hn) (fun z => nomatch z) h
      · exact h.elim
    | bad =>
      simp only at h
      split at h
      · rename_i hn
        exact fin .pur (.inl rfl) (Rep.noL _ _ _ r hn) (fun z => nomatch z) h
      · exact h.elim
  · exact h.elim
def fgNil : FGs := fun x env S => match x.1 with
  | [] => .ok env S
  | _ => .no
def fgCons (fg : FG) (fgs : FGs) : FGs := fun x env S => match x.1 with
  | d :: r => (fg (d, elMd d x.2) env S).bind fun env1 S1 => fgs (r, x.2) env1 S1
  | [] => .no
theorem egsf_nil : EgsF K gNil fgNil [] := by
  intro σ H env SA OL T S vs ds m L eb so r sL sm hmm Q h
  cases ds with
  | nil =>
    cases r
    obtain ⟨⟨FL, er, hf⟩, nd, sa, tk⟩ := eb
    exact ⟨rfl, h σ H OL ⟨.refl, ⟨⟨FL, er, fun a ha => ⟨(hf a ha).1, (hf a ha).2.1, .inl (hf a ha).2.2⟩⟩, nd, sa, fun a ha => .inl (tk a ha)⟩, fun a ha => .inl ha, so, fun _ _ => rfl⟩⟩
  | cons d r => exact h.elim
theorem Sm.el {OL : List Addr} {T : Addr → Prop} {m : Md} {L L1 : List Addr} {SA : List Addr} {H : Hp} {v : V} {d : D} (sm : Sm OL T m L) (s : L1.Sublist L) (r : Rep K SA H v d L1) : Sm OL T (elMd d m) L1 := by
  unfold elMd
  split
  · rename_i e
    subst e
    have e2 : L = [] := sm
    subst e2
    exact List.sublist_nil.mp s
  · split
    · rename_i hn
      exact Rep.noL _ _ _ r hn
    · cases m with
      | pur => have e2 : L = [] := sm; subst e2; exact List.sublist_nil.mp s
      | own => exact ⟨sm.1.sublist s, fun a ha => sm.2 a (s.subset ha)⟩
      | frn => exact fun a ha => sm a (s.subset ha)
      | als => trivial
      | bad => trivial
theorem elMd_own {d : D} {m : Md} (h : elMd d m = .own) : m = .own := by
  unfold elMd at h
  split at h
  · cases h
  · split at h
    · cases h
    · exact h
theorem egsf_cons (h1 : EgF K g fg ss) (h2 : EgsF K gs fgs ss') : EgsF K (gCons g gs) (fgCons fg fgs) (ss ++ ss') := by
  intro σ H env SA OL T S vs ds m L eb so r sL sm hmm Q h
  cases ds with
  | nil => exact h.elim
  | cons d rest =>
    cases r with
    | @cons v _ L1 vr _ L2 r1 r2 =>
      have h' : GoG K SA OL T H σ m (L1 ++ L2) (ss ++ ss') ((fg (d, elMd d m) env S).bind fun env1 S1 => fgs (rest, m) env1 S1) Q := h
      have sL1 : ∀ a ∈ L1, a ∉ SA := fun a ha => sL a (List.mem_append_left _ ha)
      have sL2 : ∀ a ∈ L2, a ∉ SA := fun a ha => sL a (List.mem_append_right _ ha)
      refine ⟨v, vr, rfl, h1 σ H env SA OL T S v d _ L1 eb so r1 sL1 (sm.el (List.sublist_append_left ..) r1) _ ?_⟩
      cases e1 : fg (d, elMd d m) env S with
      | no => rw [e1] at h'; exact h'.elim
      | err c S1 => rw [e1] at h'; exact h'.elim
      | ok env1 S1 =>
        rw [e1] at h'
        intro σ1 H1 OL1 t1
        have notK : ∀ a ∈ L2, ¬ (a ∈ SA ∨ a ∈ OL ∨ (elMd d m = .own ∧ a ∈ L1)) := by
          intro a ha z
          rcases z with z | z | ⟨z1, z2⟩
          · exact sL2 a ha z
          · rcases hmm with rfl | rfl | rfl
            · have e2 : L1 ++ L2 = [] := sm
              rw [(List.append_eq_nil_iff.mp e2).2] at ha
              cases ha
            · exact sm.2 a (List.mem_append_right _ ha) (eb.tk a z)
            · exact sm a (List.mem_append_right _ ha) z
          · have hm := elMd_own z1
            subst hm
            exact (List.nodup_append.mp sm.1).2.2 a z2 a ha rfl
        have r2' := r2.keep t1.k _ _ _ notK
        have sm2 : Sm OL1 (fun a => T a ∨ a ∈ L1) m L2 := by
          rcases hmm with rfl | rfl | rfl
          · have e2 : L1 ++ L2 = [] := sm
            exact (List.append_eq_nil_iff.mp e2).2
          · obtain ⟨n1, n2, n3⟩ := List.nodup_append.mp sm.1
            exact ⟨n2, fun a ha z => z.elim (sm.2 a (List.mem_append_right _ ha)) fun z => n3 a z a ha rfl⟩
          · intro a ha z
            rcases t1.ol a z with z | ⟨z1, z2⟩
            · exact sm a (List.mem_append_right _ ha) z
            · exact absurd (elMd_own z1) (fun q => nomatch q)
        refine h2 σ1 H1 env1 SA OL1 _ S1 vr rest m L2 t1.eb t1.so r2' sL2 sm2 hmm Q ?_
        have h3 : GoG K SA OL T H σ m (L1 ++ L2) (ss ++ ss') (fgs (rest, m) env1 S1) Q := h'
        cases e2 : fgs (rest, m) env1 S1 with
        | no => rw [e2] at h3; exact h3.elim
        | err c S2 => rw [e2] at h3; exact h3.elim
        | ok env2 S2 =>
          rw [e2] at h3
          intro σ2 H2 OL2 t2
          have ol1 : ∀ a ∈ OL1, a ∈ OL ∨ (m = .own ∧ a ∈ L1 ++ L2) := fun a ha => (t1.ol a ha).imp id fun z => ⟨elMd_own z.1, List.mem_append_left _ z.2⟩
          refine h3 σ2 H2 OL2 ⟨?_, ?_, fun a ha => ?_, t2.so, fun vs hvs => ?_⟩
          · refine (t1.k.mono fun x z => ?_).trans (t2.k.mono fun x z => ?_)
            · exact z.imp id (Or.imp id fun w => ⟨elMd_own w.1, List.mem_append_left _ w.2⟩)
            · rcases z with z | z | z
              · exact .inl z
              · exact .inr (ol1 x z)
              · exact .inr (.inr ⟨z.1, List.mem_append_right _ z.2⟩)
          · obtain ⟨⟨FL, er, hf⟩, nd, sa, tk⟩ := t2.eb
            have up : ∀ a, ((T a ∨ a ∈ L1) ∨ a ∈ L2) → T a ∨ a ∈ L1 ++ L2 := fun a z => by
              rcases z with (z | z) | z
              · exact .inl z
              · exact .inr (List.mem_append_left _ z)
              · exact .inr (List.mem_append_right _ z)
            exact ⟨⟨FL, er, fun a ha => ⟨(hf a ha).1, (hf a ha).2.1, up a (hf a ha).2.2⟩⟩, nd, sa, fun a ha => up a (tk a ha)⟩
          · rcases t2.ol a ha with z | z
            · exact ol1 a z
            · exact .inr ⟨z.1, List.mem_append_right _ z.2⟩
          · rw [t2.wi vs fun i hi => hvs i (List.mem_append_right _ hi), t1.wi vs fun i hi => hvs i (List.mem_append_left _ hi)]
/-- a, b = .. -/
def fgTup (n : Nat) (fgs : FGs) : FG := fun x env S => match x.1.tupOf? with
  | some l => if l.length = n then (match x.2 with
    | .als => if noLst x.1 then fgs (l, .pur) env S else .no
    | .bad => if noLst x.1 then fgs (l, .pur) env S else .no
    | m => fgs (l, m) env S) else .no
  | none => .no
theorem egf_tup {n : Nat} (h1 : EgsF K gs fgs ss) : EgF K (gTup K n gs) (fgTup n fgs) ss := by
  intro σ H env SA OL T S v d m L eb so r sL sm Q h
  unfold fgTup at h
  simp only at h
  split at h
  · rename_i l e
    split at h
    · rename_i hn
      obtain ⟨a, vs, rfl, hT, ra⟩ := r.tupOf e
      refine ⟨a, vs, rfl, hT, by rw [ra.length]; exact hn, ?_⟩
      have fin : ∀ (m' : Md), m' = .pur ∨ m' = .own ∨ m' = .frn → Sm OL T m' L → (m' = .own → m = .own) → GoG K SA OL T H σ m L ss (fgs (l, m') env S) Q → gs vs σ H Q := by
        intro m' hm sm' hmo h2
        refine h1 σ H env SA OL T S vs l m' L eb so ra sL sm' hm Q ?_
        cases e1 : fgs (l, m') env S with
        | no => rw [e1] at h2; exact h2.elim
        | err c S2 => rw [e1] at h2; exact h2.elim
        | ok env2 S2 =>
          rw [e1] at h2
          intro σ2 H2 OL2 t
          exact h2 σ2 H2 OL2 ⟨t.k.mono fun x z => z.imp id (Or.imp id fun w => ⟨hmo w.1, w.2⟩), t.eb, fun x hx => (t.ol x hx).imp id fun w => ⟨hmo w.1, w.2⟩, t.so, t.wi⟩
      cases m with
      | pur => exact fin .pur (.inl rfl) sm id h
      | own => exact fin .own (.inr (.inl rfl)) sm id h
      | frn => exact fin .frn (.inr (.inr rfl)) sm id h
      | als =>
        simp only at h
        split at h
        · rename_i hn2
          exact fin .pur (.inl rfl) (Rep.noL _ _ _ r hn2) (fun z => nomatch z) h
        · exact h.elim
      | bad =>
        simp only at h
        split at h
        · rename_i hn2
          exact fin .pur (.inl rfl) (Rep.noL _ _ _ r hn2) (fun z => nomatch z) h
        · exact h.elim
    · exact h.elim
  · exact h.elim
end
end Mi

set_option Elab.async false
set_option linter.all false
set_option maxRecDepth 100000
set_option maxHeartbeats 4000000
namespace Mi
open PySem PySem.Spec PyProof.Rows L2

/-! ### comprehensions -/
/-- an error is nothing here -/
def Res.ne {α : Type} (r : Res α) : Res α := match r with
  | .err _ _ => .no
  | r => r
@[simp] theorem Res.ne_ok {α : Type} (a : α) (S : Sto) : (Res.ok a S).ne = .ok a S := rfl
@[simp] theorem Res.ne_err {α : Type} (c : Str) (S : Sto) : (Res.err c S : Res α).ne = .no := rfl
@[simp] theorem Res.ne_no {α : Type} : (Res.no : Res α).ne = .no := rfl
def cmMd (d : D) (m : Md) : Md := if m = .pur then .pur else if noLst d then .pur else .frn
def upO (y : D × Md) : Option Md := match y.2 with
  | .pur => some .pur
  | .own => some .own
  | _ => if noLst y.1 then some .pur else none
def lcLoop (fg : FG) (ft : FT) (fe : FE) (m : Md) (env : Env) : List D → Sto → Res (List D)
  | [], S => .ok [] S
  | d :: ds, S => (fg (d, cmMd d m) env S).ne.bind fun env1 S1 => (ft env1 S1).ne.bind fun b S2 =>
      if b then (fe env1 S2).ne.bind fun y S3 => (match upO y with
        | some _ => (lcLoop fg ft fe m env ds S3).bind fun ys S4 => .ok (y.1 :: ys) S4
        | none => .no)
      else lcLoop fg ft fe m env ds S2
def fLc (fi : FI) (fg : FG) (ft : FT) (fe : FE) (vs : List Nat) : FE := fun env S => (fi env S).bind fun x S1 => if x.1.length ≤ sizeLine then (lcLoop fg ft fe x.2 (wipeE (demote env) vs) x.1 S1).bind fun ys S2 => .ok (.lst ys, .own) S2 else .no
def fYes : FT := fun _ S => .ok true S

section
variable {K : PySem.W.Frag} {E : XK} {SA OL : List Addr} {H H' H0 H1 H2 : Hp} {σ : L2.St} {env : Env} {S S' S1 S2 : Sto}
theorem After.ne {α : Type} {r : Res α} {k : α → Sto → Hp → Prop} (h : After K E SA OL H r.ne k) : After K E0 SA OL H r k := by
  cases r with
  | ok a S => exact h
  | err c S => exact h.elim
  | no => exact h
theorem etf_yes : EtF K E tYes fYes := fun σ H env SA OL S eo so Q h => h H (.here so)
/-- with nothing of one's own the frame's lists don't matter -/
theorem Stp.ol' {OL' : List Addr} (s : Stp K SA OL H S H') : Stp K SA OL' H S H' := ⟨s.k, s.so.ol⟩
/-- a bind that is something -/
theorem bind_ok {α β : Type} {r : Res α} {g : α → Sto → Res β} {b : β} {S : Sto} (h : r.bind g = .ok b S) : ∃ a S1, r = .ok a S1 ∧ g a S1 = .ok b S := by
  cases r with
  | ok a S1 => exact ⟨a, S1, rfl, h⟩
  | err c S1 => cases h
  | no => cases h
theorem ne_ok {α : Type} {r : Res α} {a : α} {S : Sto} (h : r.ne = .ok a S) : r = .ok a S := by
  cases r with
  | ok a S1 => exact h
  | err c S1 => cases h
  | no => cases h
theorem lcLoop_noerr (fg : FG) (ft : FT) (fe : FE) (m : Md) (env : Env) : ∀ (ds : List D) (S : Sto) (c : Str) (S' : Sto), lcLoop fg ft fe m env ds S ≠ .err c S'
  | [], _, _, _, h => by cases h
  | d :: ds, S, c, S', h => by
    unfold lcLoop at h
    cases e1 : fg (d, cmMd d m) env S with
    | no => rw [e1] at h; cases h
    | err _ _ => rw [e1] at h; cases h
    | ok env1 S1 =>
      rw [e1] at h
      simp only [Res.ne_ok, Res.bind_ok] at h
      cases e2 : ft env1 S1 with
      | no => rw [e2] at h; cases h
      | err _ _ => rw [e2] at h; cases h
      | ok b S2 =>
        rw [e2] at h
        simp only [Res.ne_ok, Res.bind_ok] at h
        cases b with
        | false => exact lcLoop_noerr fg ft fe m env ds S2 c S' h
        | true =>
          simp only [if_true] at h
          cases e3 : fe env1 S2 with
          | no => rw [e3] at h; cases h
          | err _ _ => rw [e3] at h; cases h
          | ok y S3 =>
            rw [e3] at h
            simp only [Res.ne_ok, Res.bind_ok] at h
            cases e4 : upO y with
            | none => rw [e4] at h; cases h
            | some m' =>
              rw [e4] at h
              simp only at h
              cases e5 : lcLoop fg ft fe m env ds S3 with
              | no => rw [e5] at h; cases h
              | err c2 S2 => exact lcLoop_noerr fg ft fe m env ds S3 c2 S2 e5
              | ok ys S4 => rw [e5] at h; cases h
/-- one answer more of one's own -/
theorem own_app {H1 H2 H3 : Hp} {La Ly : List Addr} {m : Md} (hm : m = .pur ∨ m = .own) (ha : La.Nodup ∧ ∀ a ∈ La, H1 a = none) (t : ∀ a ∈ La, H2 a ≠ none) (k : ∀ a, H1 a ≠ none → H2 a ≠ none) (hy : MdOk [] H2 m Ly) : (La ++ Ly).Nodup ∧ ∀ a ∈ La ++ Ly, H1 a = none := by
  rcases hm with rfl | rfl
  · have e : Ly = [] := hy
    rw [e, List.append_nil]
    exact ha
  · refine ⟨List.nodup_append.mpr ⟨ha.1, hy.1, fun a h1 b h2 e => t a h1 (by rw [e]; exact hy.2 b h2)⟩, fun a h => ?_⟩
    rcases List.mem_append.mp h with z | z
    · exact ha.2 a z
    · cases q : H1 a with
      | none => rfl
      | some o => exact absurd (hy.2 a z) (k a (by rw [q]; exact fun z => nomatch z))
theorem upO_val {OL : List Addr} {v : V} {y : D × Md} {m : Md} {L : List Addr} (h : upO y = some m) (x : Val K SA OL H H' v y.1 y.2 L) : (m = .pur ∨ m = .own) ∧ MdOk OL H m L := by
  obtain ⟨d, my⟩ := y
  unfold upO at h
  cases my with
  | pur => cases h; exact ⟨.inl rfl, x.md⟩
  | own => cases h; exact ⟨.inr rfl, x.md⟩
  | als =>
    simp only at h
    split at h
    · rename_i hn; cases h; exact ⟨.inl rfl, Rep.noL _ _ _ x.rep hn⟩
    · cases h
  | frn =>
    simp only at h
    split at h
    · rename_i hn; cases h; exact ⟨.inl rfl, Rep.noL _ _ _ x.rep hn⟩
    · cases h
  | bad =>
    simp only at h
    split at h
    · rename_i hn; cases h; exact ⟨.inl rfl, Rep.noL _ _ _ x.rep hn⟩
    · cases h
theorem evf_lc {ti : TI} {fi : FI} {g : TG} {fg : FG} {tt : TT} {ft : FT} {te : TE} {fe : FE} {vs ss : List Nat} (hi : EiF K E ti fi) (hg : EgF K g fg ss) (ht : EtF K E0 tt ft) (he : EvF K E0 te fe) (hss : ∀ i ∈ ss, i ∈ vs) :
    EvF K E (tLc ti g tt te vs) (fLc fi fg ft fe vs) := by
  intro σ H env SA OL S eo so Q h
  refine hi σ H env SA OL S eo so _ ((After.seq h).imp fun x S1 H1 _ s1 h1 J P io => ?_)
  obtain ⟨its, m⟩ := x
  simp only at h1 io
  split at h1
  · rename_i hlen
    cases eL : lcLoop fg ft fe m (wipeE (demote env) vs) its S1 with
    | no => rw [eL] at h1; exact h1.elim
    | err c S2 => exact absurd eL (lcLoop_noerr _ _ _ _ _ _ _ _ _)
    | ok ys S2 =>
      rw [eL] at h1
      have h1' : After K E SA OL H1 (.ok (.lst ys, .own) S2) (fun dm _ H' => ∀ v L, Val K SA OL H H' v dm.1 dm.2 L → Q v H') := h1
      intro Dd hD
      have eo1 : EnvOk K SA [] H1 (wipe σ vs) (wipeE (demote env) vs) := ((s1.envOk eo).demote).wipe vs
      have hDS : Dd ∉ SA := fun z => s1.so.trk Dd z hD
      have hDP : Dd ∉ P := fun z => io.trk Dd z hD
      have hH0 : H Dd = none := s1.fresh hD
      -- what holds between two turns
      let R : Addr → Prop := fun a => a ∈ SA ∨ a = Dd
      refine ⟨fun i n Hc => n = its.length - i ∧ i ≤ its.length ∧ ∃ (accV : List V) (acc rest : List D) (La : List Addr) (Sc : Sto), Hc Dd = some (.lst accV) ∧ Keep R H1 Hc ∧ StoOk K SA [] Hc Sc ∧ RepAll K SA Hc accV acc La ∧ (∀ a ∈ La, a ∉ SA ∧ a ≠ Dd) ∧
        (La.Nodup ∧ ∀ a ∈ La, H1 a = none) ∧ acc.length ≤ i ∧ lcLoop fg ft fe m (wipeE (demote env) vs) (its.drop i) Sc = .ok rest S2 ∧ ys = acc ++ rest, ?_, ?_⟩
      · refine ⟨its.length, by simp, Nat.zero_le _, [], [], ys, [], S1, upd_same, .new hD, s1.so.ol.keep (R := fun _ => False) (.new hD) (fun _ _ z => z), .nil, (fun _ z => nomatch z), ⟨List.nodup_nil, fun _ z => nomatch z⟩, Nat.le_refl _, eL, rfl⟩
      · rintro i n Hc ⟨rfl, hin, accV, acc, rest, La, Sc, hc1, hc2, hc3, hc4, hc5, hc6, hc7, hc8, hc9⟩
        have iw := io.go R Hc hc2 (fun a ha z => z.elim (io.sa a ha) fun q => hDP (q ▸ ha))
        by_cases hlt : i < its.length
        · have hdrop : its.drop i = its[i] :: its.drop (i + 1) := List.drop_eq_getElem_cons hlt
          rw [hdrop] at hc8
          unfold lcLoop at hc8
          obtain ⟨env1, Sa, q1, hc8⟩ := bind_ok hc8
          obtain ⟨b, Sb, q2, hc8⟩ := bind_ok hc8
          have q1' := ne_ok q1
          have q2' := ne_ok q2
          refine .inr ⟨iw.1 i hlt, fun Hn => i + 1 ≤ its.length ∧ ∃ (accV : List V) (acc rest : List D) (La : List Addr) (Sc : Sto), Hn Dd = some (.lst accV) ∧ Keep R H1 Hn ∧ StoOk K SA [] Hn Sc ∧ RepAll K SA Hn accV acc La ∧ (∀ a ∈ La, a ∉ SA ∧ a ≠ Dd) ∧
            (La.Nodup ∧ ∀ a ∈ La, H1 a = none) ∧ acc.length ≤ i + 1 ∧ lcLoop fg ft fe m (wipeE (demote env) vs) (its.drop (i + 1)) Sc = .ok rest S2 ∧ ys = acc ++ rest, fun Hn hn => ⟨its.length - (i + 1), by omega, rfl, hn⟩, fun x H3 hy => ?_⟩
          obtain ⟨k3, d, L, ed, rd, hLP⟩ := iw.2.2 i x H3 hlt hy
          have ed' : d = its[i] := by
            rw [List.getElem?_eq_getElem hlt] at ed
            exact (Option.some.inj ed).symm
          subst ed'
          have kR3 : Keep R H1 H3 := hc2.trans (k3.mono fun _ z => z.elim)
          have so3 : StoOk K SA [] H3 Sc := hc3.keep k3 fun _ _ z => z
          have eo3 : EnvOk K SA [] H3 (wipe σ vs) (wipeE (demote env) vs) := by
            obtain ⟨⟨FL, er, hf⟩, nd, sa⟩ := eo1
            exact ⟨⟨FL, er.keep kR3 (fun a ha => nomatch ha) (fun a ha z => z.elim (hf a ha).2 fun q => er.trk.2 a ha (q ▸ hD)), hf⟩, nd, sa⟩
          have sLx : ∀ a ∈ L, a ∉ SA := fun a ha => io.sa a (hLP a ha)
          have smx : Sm [] (fun a => H3 a ≠ none) (cmMd its[i] m) L := by
            unfold cmMd
            split
            · rename_i e
              have e2 : P = [] := by rw [e] at io; exact io.md
              exact List.eq_nil_iff_forall_not_mem.mpr fun a ha => by
                have := hLP a ha
                rw [e2] at this
                cases this
            · split
              · rename_i hn
                exact Rep.noL _ _ _ rd hn
              · exact fun a _ z => nomatch z
          have nown : cmMd its[i] m ≠ .own := by
            unfold cmMd
            split
            · exact fun z => nomatch z
            · split
              · exact fun z => nomatch z
              · exact fun z => nomatch z
          refine hg (wipe σ vs) H3 _ SA [] _ Sc x its[i] (cmMd its[i] m) L eo3.b so3 rd sLx smx _ ?_
          rw [q1']
          intro σ4 H4 OL4 t4
          have e4 : OL4 = [] := List.eq_nil_iff_forall_not_mem.mpr fun a ha => (t4.ol a ha).elim (fun z => nomatch z) fun z => nown z.1
          subst e4
          have k4 : Keep (· ∈ SA) H3 H4 := t4.k.mono fun a z => z.elim id fun z => z.elim (fun q => nomatch q) fun q => absurd q.1 nown
          refine ⟨by rw [t4.wi vs hss, wipe_wipe], ?_⟩
          refine ht σ4 H4 env1 SA [] Sa t4.eb.ok t4.so _ ?_
          rw [q2']
          intro H5 s5
          have hD3 : H3 Dd = some (.lst accV) := k3.keep _ _ hc1 (.inl fun z => z)
          have hD4 : H4 Dd = some (.lst accV) := k4.keep _ _ hD3 (.inl hDS)
          have hD5 : H5 Dd = some (.lst accV) := s5.k.keep _ _ hD4 (.inl hDS)
          have k35 : Keep (· ∈ SA) H3 H5 := k4.trans s5.k
          have rep5 : RepAll K SA H5 accV acc La := (hc4.keep k3 _ _ _ fun _ _ z => z).keep k35 _ _ _ fun a ha => (hc5 a ha).1
          have kR5 : Keep R H1 H5 := kR3.trans (k35.mono fun _ z => .inl z)
          cases b with
          | false =>
            show i + 1 ≤ its.length ∧ _
            exact ⟨hlt, accV, acc, rest, La, Sb, hD5, kR5, s5.so, rep5, hc5, hc6, Nat.le_succ_of_le hc7, hc8, hc9⟩
          | true =>
            have hc8' : ((fe env1 Sb).ne.bind fun y S3 => (match upO y with
              | some _ => (lcLoop fg ft fe m (wipeE (demote env) vs) (its.drop (i + 1)) S3).bind fun ys S4 => .ok (y.1 :: ys) S4
              | none => .no)) = .ok rest S2 := hc8
            obtain ⟨y, Sy, q3, hc8'⟩ := bind_ok hc8'
            have q3' := ne_ok q3
            cases e6 : upO y with
            | none => rw [e6] at hc8'; cases hc8'
            | some my =>
              rw [e6] at hc8'
              obtain ⟨rest', Sr, q4, hc8'⟩ := bind_ok hc8'
              cases hc8'
              show te σ4 H5 _
              refine he σ4 H5 env1 SA [] Sb (s5.envOk t4.eb.ok) s5.so _ ?_
              rw [q3']
              intro H6 s6 vy Ly xy
              obtain ⟨hmy, mdy⟩ := upO_val e6 xy
              have hD6 : H6 Dd = some (.lst accV) := s6.k.keep _ _ hD5 (.inl hDS)
              have rep6 : RepAll K SA H6 accV acc La := rep5.keep s6.k _ _ _ fun a ha => (hc5 a ha).1
              have nDy : Dd ∉ Ly := fun z => by
                rcases hmy with rfl | rfl
                · have : Ly = [] := mdy
                  rw [this] at z
                  cases z
                · have := mdy.2 Dd z
                  rw [hD5] at this
                  cases this
              refine ⟨accV, hD6, ?_, ?_⟩
              · rw [hc4.length]
                omega
              · have kD : Keep (fun a => a = Dd) H6 (upd H6 Dd (.lst (accV ++ [vy]))) := .set hD6 rfl rfl
                refine ⟨hlt, accV ++ [vy], acc ++ [y.1], rest', La ++ Ly, Sy, upd_same, (kR5.trans (s6.k.mono fun _ z => .inl z)).trans (kD.mono fun _ z => .inr z), s6.so.keep kD fun a ha z => hDS (z ▸ ha), ?_, fun a ha => ?_, ?_, ?_, q4, ?_⟩
                · have q := (rep6.append (.cons xy.rep .nil)).keep kD _ _ _ (fun a ha z => ?_)
                  · rw [List.append_nil] at q
                    exact q
                  · subst z
                    rcases List.mem_append.mp ha with z | z
                    · exact (hc5 a z).2 rfl
                    · rw [List.append_nil] at z
                      exact nDy z
                · rcases List.mem_append.mp ha with z | z
                  · exact hc5 a z
                  · exact ⟨xy.sa a z, fun q => nDy (q ▸ z)⟩
                · exact own_app (H3 := H6) hmy hc6 (RepAll.trk _ _ _ rep5) kR5.trk mdy
                · rw [List.length_append]
                  exact Nat.succ_le_succ hc7
                · rw [hc9, List.append_assoc]
                  rfl
        · have ei : i = its.length := by omega
          subst ei
          rw [List.drop_length] at hc8
          cases hc8
          rw [List.append_nil] at hc9
          subst hc9
          refine .inl ⟨iw.2.1, ?_⟩
          have kS : Keep (· ∈ SA) H1 Hc := ⟨fun a o e q => by
            by_cases ea : a = Dd
            · subst ea; rw [hD] at e; cases e
            · exact hc2.keep a o e (q.imp (fun n z => z.elim n ea) id), hc2.trk⟩
          have st : Stp K SA OL H1 S2 Hc := ⟨kS, hc3.ol⟩
          have np : Dd ∉ La := fun z => (hc5 Dd z).2 rfl
          refine h1' Hc st (.ref Dd) (Dd :: La) ⟨.lst hc1 hc4, fun a ha => (List.mem_cons.mp ha).elim (fun z => by rw [z]; exact hDS) fun z => (hc5 a z).1, List.nodup_cons.mpr ⟨np, hc6.1⟩, fun a ha => (List.mem_cons.mp ha).elim (fun z => by rw [z]; exact hH0) fun z => s1.fresh (hc6.2 a z)⟩
  · exact h1.elim
end
end Mi

set_option Elab.async false
set_option linter.all false
set_option maxRecDepth 100000
set_option maxHeartbeats 4000000
namespace Mi
open PySem PySem.Spec PyProof.Rows L2

/-! ### statements -/
inductive Out where
  | nx (e : Env) | rt (d : D) (m : Md) | bk (e : Env) | ct (e : Env)
abbrev FS := Env → Sto → Res Out
structure SStp (K : PySem.W.Frag) (SA OL : List Addr) (H : Hp) (S' : Sto) (H' : Hp) (SA' OL' : List Addr) : Prop where
  k : Keep (fun a => a ∈ SA ∨ a ∈ OL) H H'
  sa : ∃ more, SA' = SA ++ more ∧ ∀ a ∈ more, H a = none
  ol : ∀ a ∈ OL', a ∈ OL ∨ H a = none
  so : StoOk K SA' OL' H' S'
def RtMd (OL : List Addr) (H : Hp) : Md → List Addr → Prop
  | .pur, L => L = []
  | .own, L => L.Nodup ∧ ∀ a ∈ L, a ∈ OL ∨ H a = none
  | _, _ => False
def AftS (K : PySem.W.Frag) (E : XK) (SA OL : List Addr) (H : Hp) (D : Ends) (r : Res Out) : Prop := match r with
  | .ok (.nx env') S' => ∀ σ' H' SA' OL', SStp K SA OL H S' H' SA' OL' → EnvOk K SA' OL' H' σ' env' → D.nx σ' H'
  | .ok (.bk env') S' => ∀ σ' H' SA' OL', SStp K SA OL H S' H' SA' OL' → EnvOk K SA' OL' H' σ' env' → D.bk σ' H'
  | .ok (.ct env') S' => ∀ σ' H' SA' OL', SStp K SA OL H S' H' SA' OL' → EnvOk K SA' OL' H' σ' env' → D.ct σ' H'
  | .ok (.rt d m) S' => ∀ v H' SA' L, SStp K SA OL H S' H' SA' [] → Rep K SA' H' v d L → (∀ a ∈ L, a ∉ SA') → RtMd OL H m L → D.rt v H'
  | .err c S' => ∀ H' SA', SStp K SA OL H S' H' SA' [] → E (.ref (He.ga K c)) none H'
  | .no => False
def EsF (K : PySem.W.Frag) (E : XK) (t : TS) (fs : FS) : Prop := ∀ (σ : L2.St) (H : Hp) (env : Env) (SA OL : List Addr) (S : Sto), EnvOk K SA OL H σ env → StoOk K SA OL H S → ∀ D : Ends, AftS K E SA OL H D (fs env S) → t D σ H

section
variable {K : PySem.W.Frag} {E : XK} {SA SA1 SA2 OL OL1 OL2 : List Addr} {H H1 H2 : Hp} {σ : L2.St} {env : Env} {S S1 S2 : Sto} {Z : Ends}
theorem fresh_back {H H1 : Hp} {R : Addr → Prop} (k : Keep R H H1) {a : Addr} (h : H1 a = none) : H a = none := by
  cases q : H a with
  | none => rfl
  | some o => exact absurd h (k.trk a (by rw [q]; exact fun z => nomatch z))
theorem SStp.here (so : StoOk K SA OL H S) : SStp K SA OL H S H SA OL := ⟨.refl, ⟨[], by simp, fun _ z => nomatch z⟩, fun _ h => .inl h, so⟩
theorem Keep.comp {R R1 : Addr → Prop} (a : Keep R H H1) (b : Keep R1 H1 H2) (h : ∀ x, H x ≠ Option.none → R1 x → R x) : Keep R H H2 :=
  ⟨fun x o e q => b.keep x o (a.keep x o e q) (q.imp (fun n z => n (h x (by rw [e]; exact fun z => nomatch z) z)) id), fun x n => b.trk x (a.trk x n)⟩
theorem SStp.sets (a : SStp K SA OL H S1 H1 SA1 OL1) : ∀ x, H x ≠ none → (x ∈ SA1 ∨ x ∈ OL1) → (x ∈ SA ∨ x ∈ OL) := fun x hx z => by
  obtain ⟨m1, e1, f1⟩ := a.sa
  rcases z with z | z
  · rw [e1] at z
    exact (List.mem_append.mp z).elim .inl fun q => absurd (f1 x q) hx
  · exact (a.ol x z).elim .inr fun q => absurd q hx
theorem SStp.trans (a : SStp K SA OL H S1 H1 SA1 OL1) (b : SStp K SA1 OL1 H1 S2 H2 SA2 OL2) : SStp K SA OL H S2 H2 SA2 OL2 := by
  obtain ⟨m1, e1, f1⟩ := a.sa
  obtain ⟨m2, e2, f2⟩ := b.sa
  refine ⟨a.k.comp b.k a.sets, ⟨m1 ++ m2, by rw [e2, e1, List.append_assoc], fun x hx => ?_⟩, fun x hx => ?_, b.so⟩
  · exact (List.mem_append.mp hx).elim (f1 x) fun z => fresh_back a.k (f2 x z)
  · rcases b.ol x hx with z | z
    · exact a.ol x z
    · exact .inr (fresh_back a.k z)
theorem SStp.saK (a : SStp K SA OL H S1 H1 SA1 OL1) : ∀ (n : Nat) (x : Addr), SA[n]? = some x → SA1[n]? = some x := fun n x e => by
  obtain ⟨m1, e1, f1⟩ := a.sa
  rw [e1, List.getElem?_append_left (List.getElem?_eq_some_iff.mp e).1]
  exact e
theorem RtMd.back {m : Md} {L : List Addr} (a : SStp K SA OL H S1 H1 SA1 OL1) (h : RtMd OL1 H1 m L) : RtMd OL H m L := by
  cases m with
  | pur => exact h
  | own => exact ⟨h.1, fun x hx => (h.2 x hx).elim (a.ol x) fun z => .inr (fresh_back a.k z)⟩
  | als => exact h.elim
  | frn => exact h.elim
  | bad => exact h.elim
theorem AftS.back {r : Res Out} (a : SStp K SA OL H S1 H1 SA1 OL1) (h : AftS K E SA OL H Z r) : AftS K E SA1 OL1 H1 Z r := by
  cases r with
  | no => exact h
  | err c S => exact fun H' SA' s => h H' SA' (a.trans s)
  | ok o S =>
    cases o with
    | nx e => exact fun σ' H' SA' OL' s eo => h σ' H' SA' OL' (a.trans s) eo
    | bk e => exact fun σ' H' SA' OL' s eo => h σ' H' SA' OL' (a.trans s) eo
    | ct e => exact fun σ' H' SA' OL' s eo => h σ' H' SA' OL' (a.trans s) eo
    | rt d m => exact fun v H' SA' L s r sL md => h v H' SA' L (a.trans s) r sL (md.back a)
theorem Stp.s (a : Stp K SA OL H S1 H1) : SStp K SA OL H S1 H1 SA OL := ⟨a.k.mono fun _ z => .inl z, ⟨[], by simp, fun _ z => nomatch z⟩, fun _ h => .inl h, a.so⟩
theorem Stp.s0 (a : Stp K SA OL H S1 H1) : SStp K SA OL H S1 H1 SA [] := ⟨a.k.mono fun _ z => .inl z, ⟨[], by simp, fun _ z => nomatch z⟩, (fun _ h => nomatch h), a.so.ol⟩
/-- from an expression to a statement's end -/
theorem AftS.expr {α : Type} {r : Res α} {g : α → Sto → Res Out} (h : AftS K E SA OL H Z (r.bind g)) :
    After K E SA OL H r (fun a S1 H1 => AftS K E SA OL H1 Z (g a S1)) := by
  cases r with
  | no => exact h
  | err c S => exact fun H' s => h H' SA s.s0
  | ok a S => exact fun H' s => AftS.back s.s h

variable {t u : TS} {f g : FS} {te : TE} {fe : FE} {tt : TT} {ft : FT}
def fSeq (f g : FS) : FS := fun env S => (f env S).bind fun o S1 => match o with
  | .nx e => g e S1
  | o => .ok o S1
theorem esf_seq (hf : EsF K E t f) (hg : EsF K E u g) : EsF K E (tSeq t u) (fSeq f g) := by
  intro σ H env SA OL S eo so D h
  refine hf σ H env SA OL S eo so { D with nx := u D } ?_
  unfold fSeq at h
  cases e : f env S with
  | no => rw [e] at h; exact h.elim
  | err c S1 => rw [e] at h; exact h
  | ok o S1 =>
    rw [e] at h
    cases o with
    | nx e2 => exact fun σ' H' SA' OL' s eo' => hg σ' H' e2 SA' OL' S1 eo' s.so D (AftS.back s h)
    | bk e => exact h
    | ct e => exact h
    | rt d m => exact h
def fNext : FS := fun env S => .ok (.nx env) S
def fBreak : FS := fun env S => .ok (.bk env) S
def fCont : FS := fun env S => .ok (.ct env) S
def fNever : FS := fun _ _ => .no
theorem esf_next : EsF K E tNext fNext := fun σ H env SA OL S eo so D h => h σ H SA OL (.here so) eo
theorem esf_break : EsF K E tBreak fBreak := fun σ H env SA OL S eo so D h => h σ H SA OL (.here so) eo
theorem esf_cont : EsF K E tCont fCont := fun σ H env SA OL S eo so D h => h σ H SA OL (.here so) eo
theorem esf_never : EsF K E tNever fNever := fun σ H env SA OL S eo so D h => h
def fDrop (fe : FE) : FS := fun env S => (fe env S).bind fun _ S1 => .ok (.nx env) S1
theorem esf_drop (he : EvF K E te fe) : EsF K E (tDrop te) (fDrop fe) := by
  intro σ H env SA OL S eo so D h
  refine he σ H env SA OL S eo so _ ((AftS.expr h).imp fun x S1 H1 _ s1 h1 v L x1 => ?_)
  exact h1 σ H1 SA OL (.here s1.so) (s1.envOk eo)
def fAsg (fe : FE) (fg : FG) : FS := fun env S => (fe env S).bind fun x S1 => (fg x env S1).ne.bind fun e S2 => .ok (.nx e) S2
/-- a value that has just been reckoned may be stored -/
theorem sm_of {m : Md} {L : List Addr} (md : MdOk OL H m L) : Sm OL (fun a => H a ≠ none) m L := by
  cases m with
  | pur => exact md
  | own => exact ⟨md.1, fun a ha z => z (md.2 a ha)⟩
  | frn => exact md
  | als => trivial
  | bad => trivial
theorem esf_asg {tg : TG} {fg : FG} {ss : List Nat} (he : EvF K E te fe) (hg : EgF K tg fg ss) : EsF K E (tAsg te tg) (fAsg fe fg) := by
  intro σ H env SA OL S eo so D h
  refine he σ H env SA OL S eo so _ ?_
  unfold fAsg at h
  cases e1 : fe env S with
  | no => rw [e1] at h; exact h.elim
  | err c S1 => rw [e1] at h; exact fun H' s => h H' SA s.s0
  | ok x S1 =>
    rw [e1] at h
    intro H1 s1 v L x1
    have eb1 : EnvB K SA OL (fun a => H a ≠ none) H1 σ env := eo.b.keep s1.k fun _ z => z
    refine hg σ H1 env SA OL _ S1 v x.1 x.2 L eb1 s1.so x1.rep x1.sa (sm_of x1.md) _ ?_
    have h' : AftS K E SA OL H D ((fg x env S1).ne.bind fun e S2 => .ok (.nx e) S2) := h
    cases e2 : fg (x.1, x.2) env S1 with
    | no => rw [e2] at h'; exact h'.elim
    | err c S2 => rw [e2] at h'; exact h'.elim
    | ok env2 S2 =>
      rw [e2] at h'
      intro σ2 H2 OL2 t2
      have own : ∀ a, (x.2 = .own ∧ a ∈ L) → H a = none := fun a z => by
        have q := x1.md
        rw [z.1] at q
        exact q.2 a z.2
      refine h' σ2 H2 SA OL2 ⟨(s1.k.mono fun _ z => Or.inl z).comp t2.k fun a ha z => ?_, ⟨[], by simp, fun _ z => nomatch z⟩, fun a ha => (t2.ol a ha).imp id (own a), t2.so⟩ t2.eb.ok
      rcases z with z | z | z
      · exact .inl z
      · exact .inr z
      · exact absurd (own a z) ha
def fRet (fe : FE) : FS := fun env S => (fe env S).bind fun x S1 => match x.2 with
  | .pur => .ok (.rt x.1 .pur) S1
  | .own => .ok (.rt x.1 .own) S1
  | .als => .ok (.rt x.1 .own) S1
  | _ => if noLst x.1 then .ok (.rt x.1 .pur) S1 else .no
theorem esf_ret (he : EvF K E te fe) : EsF K E (tRet te) (fRet fe) := by
  intro σ H env SA OL S eo so D h
  refine he σ H env SA OL S eo so _ ?_
  unfold fRet at h
  cases e1 : fe env S with
  | no => rw [e1] at h; exact h.elim
  | err c S1 => rw [e1] at h; exact fun H' s => h H' SA s.s0
  | ok x S1 =>
    rw [e1] at h
    intro H1 s1 v L x1
    obtain ⟨d, m⟩ := x
    cases m with
    | pur => exact h v H1 SA L s1.s0 x1.rep x1.sa x1.md
    | own => exact h v H1 SA L s1.s0 x1.rep x1.sa ⟨x1.md.1, fun a ha => .inr (x1.md.2 a ha)⟩
    | als => exact h v H1 SA L s1.s0 x1.rep x1.sa ⟨x1.md.1, fun a ha => .inl (x1.md.2 a ha)⟩
    | frn =>
      have h' : AftS K E SA OL H D (if noLst d then .ok (.rt d .pur) S1 else .no) := h
      split at h'
      · rename_i hn
        exact h' v H1 SA L s1.s0 x1.rep x1.sa (Rep.noL _ _ _ x1.rep hn)
      · exact h'.elim
    | bad =>
      have h' : AftS K E SA OL H D (if noLst d then .ok (.rt d .pur) S1 else .no) := h
      split at h'
      · rename_i hn
        exact h' v H1 SA L s1.s0 x1.rep x1.sa (Rep.noL _ _ _ x1.rep hn)
      · exact h'.elim
def fRetN : FS := fun _ S => .ok (.rt .non .pur) S
theorem esf_retN : EsF K E tRetN fRetN := fun σ H env SA OL S eo so D h => h .non H SA [] (Stp.here so).s0 .non (fun _ z => nomatch z) rfl
def fIfS (ft : FT) (f g : FS) : FS := fun env S => (ft env S).bind fun b S1 => if b then f env S1 else g env S1
theorem esf_if (hc : EtF K E tt ft) (hf : EsF K E t f) (hg : EsF K E u g) : EsF K E (tIfS tt t u) (fIfS ft f g) := by
  intro σ H env SA OL S eo so D h
  refine hc σ H env SA OL S eo so _ ((AftS.expr h).imp fun b S1 H1 _ s1 h1 => ?_)
  cases b with
  | true => exact hf σ H1 env SA OL S1 (s1.envOk eo) s1.so D h1
  | false => exact hg σ H1 env SA OL S1 (s1.envOk eo) s1.so D h1

/-! ### for -/
def fForLoop (fg : FG) (f : FS) (m : Md) : List D → Env → Sto → Res Out
  | [], env, S => .ok (.nx env) S
  | d :: ds, env, S => (fg (d, cmMd d m) env S).ne.bind fun env1 S1 => (f env1 S1).bind fun o S2 => match o with
    | .nx e => fForLoop fg f m ds e S2
    | .ct e => fForLoop fg f m ds e S2
    | .bk e => .ok (.nx e) S2
    | .rt d m => .ok (.rt d m) S2
def forMd : Md → Bool
  | .pur => true
  | .own => true
  | .frn => true
  | _ => false
def fFor (fi : FI) (fg : FG) (f : FS) : FS := fun env S => (fi env S).bind fun x S1 => if forMd x.2 then fForLoop fg f x.2 x.1 env S1 else .no
theorem cmMd_ne {d : D} {m : Md} : cmMd d m ≠ .own := by
  unfold cmMd
  split
  · exact fun z => nomatch z
  · split
    · exact fun z => nomatch z
    · exact fun z => nomatch z
theorem esf_for {ti : TI} {fi : FI} {tg : TG} {fg : FG} {ss : List Nat} (hi : EiF K E ti fi) (hg : EgF K tg fg ss) (hf : EsF K E t f) : EsF K E (tFor ti tg t) (fFor fi fg f) := by
  intro σ H env SA OL S eo so D h
  refine hi σ H env SA OL S eo so _ ?_
  unfold fFor at h
  cases e1 : fi env S with
  | no => rw [e1] at h; exact h.elim
  | err c S1 => rw [e1] at h; exact fun H' s => h H' SA s.s0
  | ok x S1 =>
    rw [e1] at h
    intro H1 s1 J P io
    obtain ⟨its, m⟩ := x
    have h' : AftS K E SA OL H D (if forMd m then fForLoop fg f m its env S1 else .no) := h
    split at h'
    · rename_i hm
      have eo1 := s1.envOk eo
      have h1 : AftS K E SA OL H1 D (fForLoop fg f m its env S1) := AftS.back s1.s h'
      -- no slot's list is among those that are walked
      have pol : ∀ a ∈ P, a ∉ OL := by
        cases m with
        | pur => have e : P = [] := io.md; rw [e]; exact fun _ z => nomatch z
        | own => exact fun a ha z => eo.trk a z (io.md.2 a ha)
        | frn => exact io.md
        | als => cases hm
        | bad => cases hm
      refine ⟨fun i n σc Hc => n = its.length - i ∧ i ≤ its.length ∧ ∃ (envc : Env) (Sc : Sto) (SAc OLc : List Addr), SStp K SA OL H1 Sc Hc SAc OLc ∧ EnvOk K SAc OLc Hc σc envc ∧ AftS K E SA OL H1 D (fForLoop fg f m (its.drop i) envc Sc), ?_, ?_⟩
      · exact ⟨its.length, by simp, Nat.zero_le _, env, S1, SA, OL, .here s1.so, eo1, h1⟩
      · rintro i n σc Hc ⟨rfl, hin, envc, Sc, SAc, OLc, q1, q2, q3⟩
        have pk : ∀ a ∈ P, ¬ (a ∈ SA ∨ a ∈ OL) := fun a ha z => z.elim (io.sa a ha) (pol a ha)
        have pkc : ∀ a ∈ P, ¬ (a ∈ SAc ∨ a ∈ OLc) := fun a ha z => pk a ha (q1.sets a (io.trk a ha) z)
        have iw := io.go _ Hc q1.k pk
        by_cases hlt : i < its.length
        · have hdrop : its.drop i = its[i] :: its.drop (i + 1) := List.drop_eq_getElem_cons hlt
          rw [hdrop] at q3
          have q4 : AftS K E SA OL H1 D ((fg (its[i], cmMd its[i] m) envc Sc).ne.bind fun env1 S1 => (f env1 S1).bind fun o S2 => match o with
            | .nx e => fForLoop fg f m (its.drop (i + 1)) e S2
            | .ct e => fForLoop fg f m (its.drop (i + 1)) e S2
            | .bk e => .ok (.nx e) S2
            | .rt d m => .ok (.rt d m) S2) := q3
          refine .inr ⟨iw.1 i hlt, fun σn Hn => i + 1 ≤ its.length ∧ ∃ (envc : Env) (Sc : Sto) (SAc OLc : List Addr), SStp K SA OL H1 Sc Hn SAc OLc ∧ EnvOk K SAc OLc Hn σn envc ∧ AftS K E SA OL H1 D (fForLoop fg f m (its.drop (i + 1)) envc Sc), fun σn Hn hn => ⟨its.length - (i + 1), by omega, rfl, hn⟩, fun x H3 hy => ?_⟩
          obtain ⟨k3, d, L, ed, rd, hLP⟩ := iw.2.2 i x H3 hlt hy
          have ed' : d = its[i] := by
            rw [List.getElem?_eq_getElem hlt] at ed
            exact (Option.some.inj ed).symm
          subst ed'
          have s3 : SStp K SAc OLc Hc Sc H3 SAc OLc := ⟨k3.mono fun _ z => z.elim, ⟨[], by simp, fun _ z => nomatch z⟩, fun _ z => .inl z, q1.so.keep k3 fun _ _ z => z⟩
          have eo3 : EnvOk K SAc OLc H3 σc envc := q2.keep k3 fun _ z => z.elim
          have q13 := q1.trans s3
          have sLx : ∀ a ∈ L, a ∉ SAc := fun a ha z => pkc a (hLP a ha) (.inl z)
          have smx : Sm OLc (fun a => H3 a ≠ none) (cmMd its[i] m) L := by
            unfold cmMd
            split
            · rename_i e
              have e2 : P = [] := by rw [e] at io; exact io.md
              exact List.eq_nil_iff_forall_not_mem.mpr fun a ha => by
                have := hLP a ha
                rw [e2] at this
                cases this
            · split
              · rename_i hn
                exact Rep.noL _ _ _ rd hn
              · exact fun a ha z => pkc a (hLP a ha) (.inr z)
          refine hg σc H3 envc SAc OLc _ Sc x its[i] (cmMd its[i] m) L eo3.b s3.so (Rep.sa q1.saK _ _ _ rd) sLx smx _ ?_
          cases e4 : fg (its[i], cmMd its[i] m) envc Sc with
          | no => rw [e4] at q4; exact q4.elim
          | err c S4 => rw [e4] at q4; exact q4.elim
          | ok env4 S4 =>
            rw [e4] at q4
            intro σ4 H4 OL4 t4
            have s4 : SStp K SAc OLc H3 S4 H4 SAc OL4 := ⟨t4.k.mono fun a z => z.imp id fun z => z.elim id fun z => absurd z.1 cmMd_ne, ⟨[], by simp, fun _ z => nomatch z⟩, fun a ha => (t4.ol a ha).elim .inl fun z => absurd z.1 cmMd_ne, t4.so⟩
            have q14 := q13.trans s4
            refine hf σ4 H4 env4 SAc OL4 S4 t4.eb.ok t4.so _ ?_
            have q5 : AftS K E SA OL H1 D ((f env4 S4).bind fun o S2 => match o with
              | .nx e => fForLoop fg f m (its.drop (i + 1)) e S2
              | .ct e => fForLoop fg f m (its.drop (i + 1)) e S2
              | .bk e => .ok (.nx e) S2
              | .rt d m => .ok (.rt d m) S2) := q4
            cases e5 : f env4 S4 with
            | no => rw [e5] at q5; exact q5.elim
            | err c S5 =>
              rw [e5] at q5
              exact fun H' SA' s => q5 H' SA' (q14.trans s)
            | ok o S5 =>
              rw [e5] at q5
              cases o with
              | nx e => exact fun σ' H' SA' OL' s eo' => ⟨hlt, e, S5, SA', OL', q14.trans s, eo', q5⟩
              | ct e => exact fun σ' H' SA' OL' s eo' => ⟨hlt, e, S5, SA', OL', q14.trans s, eo', q5⟩
              | bk e => exact fun σ' H' SA' OL' s eo' => q5 σ' H' SA' OL' (q14.trans s) eo'
              | rt d m => exact fun v H' SA' L s r sL md => q5 v H' SA' L (q14.trans s) r sL (md.back q14)
        · have ei : i = its.length := by omega
          subst ei
          rw [List.drop_length] at q3
          exact .inl ⟨iw.2.1, q3 σc Hc SAc OLc q1 q2⟩
    · exact h'.elim

/-! ### while -/
def whileN (ft : FT) (f : FS) : Nat → Env → Sto → Res Out
  | 0, _, _ => .no
  | n + 1, env, S => (ft env S).bind fun b S1 => if b then (f env S1).bind fun o S2 => (match o with
      | .nx e => whileN ft f n e S2
      | .ct e => whileN ft f n e S2
      | .bk e => .ok (.nx e) S2
      | .rt d m => .ok (.rt d m) S2) else .ok (.nx env) S1
open Classical in
noncomputable def fWhile (ft : FT) (f : FS) : FS := fun env S => if h : ∃ n, whileN ft f n env S ≠ .no then whileN ft f (choose h) env S else .no
theorem whileN_mono (ft : FT) (f : FS) : ∀ (n : Nat) (env : Env) (S : Sto), whileN ft f n env S ≠ .no → whileN ft f (n + 1) env S = whileN ft f n env S
  | 0, _, _, h => absurd rfl h
  | n + 1, env, S, h => by
    unfold whileN at h ⊢
    cases e1 : ft env S with
    | no => rfl
    | err c S1 => rfl
    | ok b S1 =>
      rw [e1] at h
      simp only [Res.bind_ok] at h ⊢
      cases b with
      | false => rfl
      | true =>
        simp only [if_true] at h ⊢
        cases e2 : f env S1 with
        | no => rfl
        | err c S2 => rfl
        | ok o S2 =>
          rw [e2] at h
          simp only [Res.bind_ok] at h ⊢
          cases o with
          | nx e => exact whileN_mono ft f n e S2 h
          | ct e => exact whileN_mono ft f n e S2 h
          | bk e => rfl
          | rt d m => rfl
theorem whileN_le (ft : FT) (f : FS) {n k : Nat} {env : Env} {S : Sto} (h : whileN ft f n env S ≠ .no) (hk : n ≤ k) : whileN ft f k env S = whileN ft f n env S := by
  induction k with
  | zero =>
    have : n = 0 := by omega
    rw [this]
  | succ k ih =>
    by_cases e : n = k + 1
    · rw [e]
    · have q := ih (by omega)
      rw [whileN_mono ft f k env S (by rw [q]; exact h), q]
theorem fWhile_eq {ft : FT} {f : FS} {n : Nat} {env : Env} {S : Sto} {r : Res Out} (h : whileN ft f n env S = r) (hr : r ≠ .no) : fWhile ft f env S = r := by
  have hx : ∃ n, whileN ft f n env S ≠ .no := ⟨n, by rw [h]; exact hr⟩
  unfold fWhile
  rw [dif_pos hx]
  have hc := Classical.choose_spec hx
  rcases Nat.le_total n (Classical.choose hx) with z | z
  · rw [whileN_le ft f (by rw [h]; exact hr) z, h]
  · rw [← whileN_le ft f hc z, h]
theorem esf_while (hc : EtF K E tt ft) (hf : EsF K E t f) : EsF K E (tWhile tt t) (fWhile ft f) := by
  intro σ H env SA OL S eo so D h
  unfold fWhile at h
  split at h
  · rename_i hx
    generalize hn : Classical.choose hx = n0 at h
    refine ⟨fun n σc Hc => ∃ (envc : Env) (Sc : Sto) (SAc OLc : List Addr), SStp K SA OL H Sc Hc SAc OLc ∧ EnvOk K SAc OLc Hc σc envc ∧ AftS K E SA OL H D (whileN ft f n envc Sc), ⟨n0, env, S, SA, OL, .here so, eo, h⟩, ?_⟩
    rintro n σc Hc ⟨envc, Sc, SAc, OLc, q1, q2, q3⟩
    cases n with
    | zero => exact q3.elim
    | succ n =>
      refine hc σc Hc envc SAc OLc Sc q2 q1.so _ ?_
      unfold whileN at q3
      refine (AftS.expr (AftS.back q1 q3)).imp fun b S1 H1 _ s1 h1 => ?_
      have q4 := q1.trans s1.s
      have eo1 := s1.envOk q2
      cases b with
      | false =>
        have h1' : AftS K E SAc OLc H1 D (.ok (.nx envc) S1) := h1
        exact h1' σc H1 SAc OLc (.here s1.so) eo1
      | true =>
        show ∃ N : L2.St → Hp → Prop, _
        refine ⟨fun σn Hn => ∃ (envc : Env) (Sc : Sto) (SAc OLc : List Addr), SStp K SA OL H Sc Hn SAc OLc ∧ EnvOk K SAc OLc Hn σn envc ∧ AftS K E SA OL H D (whileN ft f n envc Sc), fun σn Hn hn => ⟨n, Nat.lt_succ_self n, hn⟩, ?_⟩
        refine hf σc H1 envc SAc OLc S1 eo1 s1.so _ ?_
        have q5 : AftS K E SA OL H D ((ft envc Sc).bind fun b S1 => if b then (f envc S1).bind fun o S2 => (match o with
          | .nx e => whileN ft f n e S2
          | .ct e => whileN ft f n e S2
          | .bk e => .ok (.nx e) S2
          | .rt d m => .ok (.rt d m) S2) else .ok (.nx envc) S1) := q3
        rename_i er
        rw [er] at q5
        have q6 : AftS K E SA OL H D ((f envc S1).bind fun o S2 => (match o with
          | .nx e => whileN ft f n e S2
          | .ct e => whileN ft f n e S2
          | .bk e => .ok (.nx e) S2
          | .rt d m => .ok (.rt d m) S2)) := q5
        cases e2 : f envc S1 with
        | no => rw [e2] at q6; exact q6.elim
        | err c S2 =>
          rw [e2] at q6
          exact fun H' SA' s => q6 H' SA' (q4.trans s)
        | ok o S2 =>
          rw [e2] at q6
          cases o with
          | nx e => exact fun σ' H' SA' OL' s eo' => ⟨e, S2, SA', OL', q4.trans s, eo', q6⟩
          | ct e => exact fun σ' H' SA' OL' s eo' => ⟨e, S2, SA', OL', q4.trans s, eo', q6⟩
          | bk e => exact fun σ' H' SA' OL' s eo' => q6 σ' H' SA' OL' (q4.trans s) eo'
          | rt d m => exact fun v H' SA' L s r sL md => q6 v H' SA' L (q4.trans s) r sL (md.back q4)
  · exact h.elim
end
end Mi

set_option Elab.async false
set_option linter.all false
set_option maxRecDepth 100000
set_option maxHeartbeats 4000000
namespace Mi
open PySem PySem.Spec PyProof.Rows L2

section
variable {K : PySem.W.Frag} {SA OL FL : List Addr} {H H' : Hp} {σ : L2.St} {env : Env} {T : Addr → Prop}
/-! ### a slot's own list changes -/
theorem EnvRep.mut : ∀ {σ : L2.St} {env : Env} {OL FL : List Addr} {i : Nat} {d0 : D}, EnvRep K SA H σ env OL FL → env[i]? = some (some (d0, .own)) →
    ∃ v L0 A B, σ[i]? = some (some v) ∧ Rep K SA H v d0 L0 ∧ OL = A ++ (L0 ++ B) ∧ ∀ (H3 : Hp) (R : Addr → Prop) (d' : D) (L' : List Addr), Keep R H H3 → (∀ a, R a → a ∉ A ∧ a ∉ B ∧ a ∉ FL) → Rep K SA H3 v d' L' →
      EnvRep K SA H3 σ (env.set i (some (d', .own))) (A ++ (L' ++ B)) FL
  | _, _, _, _, _, _, .nil _ _, e => by simp at e
  | _, _, _, _, 0, _, .none _, e => by simp at e
  | _, _, _, _, 0, _, .pur _ _, e => by simp at e
  | _, _, _, _, 0, _, .frn _ _, e => by simp at e
  | _, _, _, _, 0, _, .own (v := v) (L := L) (OL := OL) r h, e => by
    simp only [List.getElem?_cons_zero, Option.some.injEq, Prod.mk.injEq, and_true] at e
    subst e
    exact ⟨v, L, [], OL, rfl, r, rfl, fun H3 R d' L' k hr r' => EnvRep.own (L := L') (OL := OL) r' (h.keep k (fun a ha z => (hr a z).2.1 ha) (fun a ha z => (hr a z).2.2 ha))⟩
  | _, _, _, _, i + 1, _, .none h, e => by
    obtain ⟨v, L0, A, B, h1, h2, h3, h4⟩ := EnvRep.mut (i := i) h (by simpa using e)
    exact ⟨v, L0, A, B, by simpa using h1, h2, h3, fun H3 R d' L' k hr r' => .none (h4 H3 R d' L' k hr r')⟩
  | _, _, _, _, i + 1, _, .pur r h, e => by
    obtain ⟨v, L0, A, B, h1, h2, h3, h4⟩ := EnvRep.mut (i := i) h (by simpa using e)
    exact ⟨v, L0, A, B, by simpa using h1, h2, h3, fun H3 R d' L' k hr r' => .pur (r.keep k _ _ _ fun _ z => nomatch z) (h4 H3 R d' L' k hr r')⟩
  | _, _, _, _, i + 1, _, .own (L := L1) r h, e => by
    obtain ⟨v, L0, A, B, h1, h2, h3, h4⟩ := EnvRep.mut (i := i) h (by simpa using e)
    refine ⟨v, L0, L1 ++ A, B, by simpa using h1, h2, by rw [h3, List.append_assoc], fun H3 R d' L' k hr r' => ?_⟩
    rw [List.append_assoc]
    exact .own (r.keep k _ _ _ fun a ha z => (hr a z).1 (List.mem_append_left _ ha)) (h4 H3 R d' L' k (fun a z => ⟨fun q => (hr a z).1 (List.mem_append_right _ q), (hr a z).2⟩) r')
  | _, _, _, _, i + 1, _, .frn (L := L1) r h, e => by
    obtain ⟨v, L0, A, B, h1, h2, h3, h4⟩ := EnvRep.mut (i := i) h (by simpa using e)
    exact ⟨v, L0, A, B, by simpa using h1, h2, h3, fun H3 R d' L' k hr r' => .frn (r.keep k _ _ _ fun a ha z => (hr a z).2.2 (List.mem_append_left _ ha)) (h4 H3 R d' L' k (fun a z => ⟨(hr a z).1, (hr a z).2.1, fun q => (hr a z).2.2 (List.mem_append_right _ q)⟩) r')⟩
/-- what holds behind: the new value's lists are old ones of the slot's, or ones that were not taken -/
theorem EnvB.mut {i : Nat} {d0 : D} (eb : EnvB K SA OL T H σ env) (e : env[i]? = some (some (d0, .own))) :
    ∃ v L0, σ[i]? = some (some v) ∧ Rep K SA H v d0 L0 ∧ L0.Nodup ∧ (∀ a ∈ L0, a ∈ OL ∧ a ∉ SA) ∧ ∀ (H3 : Hp) (R : Addr → Prop) (d' : D) (L' : List Addr), Keep R H H3 → (∀ a, R a → a ∈ L0) → Rep K SA H3 v d' L' → L'.Nodup → (∀ a ∈ L', a ∈ L0 ∨ (¬ T a ∧ a ∉ SA)) →
      ∃ OL', EnvB K SA OL' (fun a => T a ∨ a ∈ L') H3 σ (env.set i (some (d', .own))) ∧ ∀ a ∈ OL', a ∈ OL ∨ a ∈ L' := by
  obtain ⟨⟨FL, er, hf⟩, nd, sa, tk⟩ := eb
  obtain ⟨v, L0, A, B, h1, h2, h3, h4⟩ := er.mut e
  subst h3
  obtain ⟨nA, nLB, dA⟩ := List.nodup_append.mp nd
  obtain ⟨nL, nB, dB⟩ := List.nodup_append.mp nLB
  have inOL : ∀ a, a ∈ L0 → a ∈ A ++ (L0 ++ B) := fun a ha => List.mem_append_right _ (List.mem_append_left _ ha)
  refine ⟨v, L0, h1, h2, nL, fun a ha => ⟨inOL a ha, sa a (inOL a ha)⟩, fun H3 R d' L' k hr r' ndL' hL' => ?_⟩
  have er3 := h4 H3 R d' L' k (fun a z => ⟨fun q => dA a q a (List.mem_append_left _ (hr a z)) rfl, fun q => dB a (hr a z) a q rfl, fun q => (hf a q).1 (inOL a (hr a z))⟩) r'
  have mem : ∀ a, a ∈ A ++ (L' ++ B) → a ∈ A ++ (L0 ++ B) ∨ a ∈ L' := fun a ha => by
    rcases List.mem_append.mp ha with z | z
    · exact .inl (List.mem_append_left _ z)
    · rcases List.mem_append.mp z with z | z
      · exact .inr z
      · exact .inl (List.mem_append_right _ (List.mem_append_right _ z))
  refine ⟨_, ⟨⟨FL, er3, fun a ha => ⟨fun z => ?_, (hf a ha).2.1, .inl (hf a ha).2.2⟩⟩, ?_, fun a ha => ?_, fun a ha => (mem a ha).imp (tk a) id⟩, mem⟩
  · rcases mem a z with z | z
    · exact (hf a ha).1 z
    · rcases hL' a z with q | q
      · exact (hf a ha).1 (inOL a q)
      · exact q.1 (hf a ha).2.2
  · refine List.nodup_append.mpr ⟨nA, List.nodup_append.mpr ⟨ndL', nB, fun a h1 b h2 e => ?_⟩, fun a h1 b h2 e => ?_⟩
    · rcases hL' a h1 with q | q
      · exact dB a q b h2 e
      · exact q.1 (tk a (by rw [e]; exact List.mem_append_right _ (List.mem_append_right _ h2)))
    · rcases List.mem_append.mp h2 with z | z
      · rcases hL' b z with q | q
        · exact dA a h1 b (List.mem_append_left _ q) e
        · exact q.1 (tk b (by rw [← e]; exact List.mem_append_left _ h1))
      · exact dA a h1 b (List.mem_append_right _ z) e
  · rcases mem a ha with z | z
    · exact sa a z
    · rcases hL' a z with q | q
      · exact sa a (inOL a q)
      · exact q.2
/-- an item that has no lists is put -/
theorem RepAll.setP : ∀ {ds : List D} {vs : List V} {L : List Addr} {j : Nat} {v : V} {d : D}, RepAll K SA H vs ds L → Rep K SA H v d [] → ∃ L', RepAll K SA H (vs.set j v) (ds.set j d) L' ∧ L'.Sublist L
  | [], _, _, _, _, _, h, _ => by cases h; exact ⟨[], .nil, .refl _⟩
  | x :: ds, _, _, 0, _, _, h, r => by
    cases h with
    | cons h1 h2 => exact ⟨_, .cons r h2, List.sublist_append_right ..⟩
  | x :: ds, _, _, j + 1, _, _, h, r => by
    cases h with
    | cons h1 h2 =>
      obtain ⟨L', r', s⟩ := RepAll.setP (j := j) h2 r
      exact ⟨_, .cons h1 r', List.Sublist.append_left s _⟩
/-- an item that is a list itself changes -/
theorem RepAll.mutAt : ∀ {ds : List D} {vs : List V} {L : List Addr} {j : Nat} {row : List D}, RepAll K SA H vs ds L → L.Nodup → ds[j]? = some (.lst row) →
    ∃ q ws Lr, vs[j]? = some (.ref q) ∧ H q = some (.lst ws) ∧ RepAll K SA H ws row Lr ∧ q ∈ L ∧ (∀ a ∈ Lr, a ∈ L ∧ a ≠ q) ∧ ∀ (H3 : Hp) (ws' : List V) (row' : List D) (L' : List Addr), Keep (fun a => a = q) H H3 → H3 q = some (.lst ws') → RepAll K SA H3 ws' row' L' → L'.Sublist Lr →
      ∃ L3, RepAll K SA H3 vs (ds.set j (.lst row')) L3 ∧ L3.Sublist L
  | [], _, _, _, _, _, _, e => by simp at e
  | x :: ds, _, _, 0, row, h, nd, e => by
    have e2 : x = .lst row := by simpa using e
    subst e2
    cases h with
    | cons h1 h2 =>
      cases h1 with
      | @lst q ws _ Lr g1 g2 =>
        have nd2 := List.nodup_append.mp nd
        have ndq := List.nodup_cons.mp nd2.1
        refine ⟨q, ws, Lr, rfl, g1, g2, List.mem_append_left _ List.mem_cons_self, fun a ha => ⟨List.mem_append_left _ (List.mem_cons_of_mem _ ha), fun z => ndq.1 (z ▸ ha)⟩, fun H3 ws' row' L' k e3 r3 s => ?_⟩
        exact ⟨_, .cons (.lst e3 r3) (h2.keep k _ _ _ fun a ha z => nd2.2.2 q List.mem_cons_self a ha z.symm), List.Sublist.append_right (List.Sublist.cons_cons q s) _⟩
  | x :: ds, _, _, j + 1, row, h, nd, e => by
    cases h with
    | @cons v _ L1 vs _ L2 h1 h2 =>
      have nd2 := List.nodup_append.mp nd
      obtain ⟨q, ws, Lr, g1, g2, g3, g4, g5, g6⟩ := RepAll.mutAt (j := j) h2 nd2.2.1 (by simpa using e)
      refine ⟨q, ws, Lr, by simpa using g1, g2, g3, List.mem_append_right _ g4, fun a ha => ⟨List.mem_append_right _ (g5 a ha).1, (g5 a ha).2⟩, fun H3 ws' row' L' k e3 r3 s => ?_⟩
      obtain ⟨L3, r', s'⟩ := g6 H3 ws' row' L' k e3 r3 s
      exact ⟨_, .cons (h1.keep k _ _ _ fun a ha z => nd2.2.2 a ha q g4 z) r', List.Sublist.append_left s' _⟩
end
section
variable {K : PySem.W.Frag} {E : XK} {SA OL : List Addr} {H : Hp} {te ta tb : TE} {fe fa fb : FE}
theorem ixN_V {SA : List Addr} {vs : List V} {ds : List D} {L : List Addr} {k : Int} {j : Nat} (r : RepAll K SA H vs ds L) (e : ixN ds.length k = some j) : ixN vs.length k = some j := by rw [r.length]; exact e
/-- o[k] = v: of the store, of a list of one's own -/
def fgSet1 (i : Nat) (fi : FE) : FG := fun x env S => (fi env S).ne.bind fun k S1 => match k.1, x.2 with
  | .int k, .pur => (match env[i]? with
    | some (some (.ref n, .pur)) => (match S1[n]? with
      | some l => (match ixN l.length k with
        | some j => .ok env (S1.set n (l.set j x.1))
        | none => .no)
      | none => .no)
    | some (some (.lst l, .own)) => (match ixN l.length k with
      | some j => .ok (env.set i (some (.lst (l.set j x.1), .own))) S1
      | none => .no)
    | _ => .no)
  | _, _ => .no
theorem EnvB.toW {T : Addr → Prop} {H H' : Hp} {σ : L2.St} {env : Env} {L : List Addr} (eb : EnvB K SA OL T H σ env) : EnvB K SA OL (fun a => T a ∨ a ∈ L) H σ env := by
  obtain ⟨⟨FL, er, hf⟩, nd, sa, tk⟩ := eb
  exact ⟨⟨FL, er, fun a ha => ⟨(hf a ha).1, (hf a ha).2.1, .inl (hf a ha).2.2⟩⟩, nd, sa, fun a ha => .inl (tk a ha)⟩
theorem StoOk.put {S : Sto} {n : Nat} {a : Addr} {l : List D} {vs : List V} (so : StoOk K SA OL H S) (ea : SA[n]? = some a) (es : ∃ l0, S[n]? = some l0) (r : RepAll K SA H vs l []) : StoOk K SA OL (upd H a (.lst vs)) (S.set n l) := by
  obtain ⟨l0, es⟩ := es
  obtain ⟨vs0, h0, _⟩ := so.obj n a l0 ea es
  have k : Keep (fun x => x = a) H (upd H a (.lst vs)) := .set h0 rfl rfl
  refine ⟨by rw [List.length_set]; exact so.len, so.nd, fun m b ds e1 e2 => ?_⟩
  by_cases hm : n = m
  · subst hm
    rw [ea] at e1
    cases e1
    rw [List.getElem?_set, if_pos rfl, if_pos (List.getElem?_eq_some_iff.mp es).1] at e2
    cases e2
    exact ⟨vs, upd_same, r.keep k _ _ _ fun _ z => nomatch z⟩
  · rw [List.getElem?_set_ne hm] at e2
    obtain ⟨ws, h1, h2⟩ := so.obj m b ds e1 e2
    have hba : b ≠ a := fun z => by
      subst z
      obtain ⟨l1, q1⟩ := List.getElem?_eq_some_iff.mp ea
      obtain ⟨l2, q2⟩ := List.getElem?_eq_some_iff.mp e1
      exact hm ((List.getElem_inj so.nd).mp (q1.trans q2.symm))
    exact ⟨ws, by rw [upd_ne hba]; exact h1, h2.keep k _ _ _ fun _ z => nomatch z⟩
theorem egf_set1 {i : Nat} {E : XK} (hi : EvF K E te fe) : EgF K (gSub (tVar i) te rSetL) (fgSet1 i fe) [] := by
  intro σ H env SA OL T S v d m L eb so r sL sm Q h
  unfold fgSet1 at h
  cases e1 : fe env S with
  | no => rw [e1] at h; exact h.elim
  | err c S1 => rw [e1] at h; exact h.elim
  | ok x S1 =>
    rw [e1] at h
    obtain ⟨kd, km⟩ := x
    cases kd with
    | int k =>
      cases m with
      | pur =>
        have eL : L = [] := sm
        subst eL
        have h' : GoG K SA OL T H σ .pur [] [] (match env[i]? with
          | some (some (.ref n, .pur)) => (match S1[n]? with
            | some l => (match ixN l.length k with
              | some j => .ok env (S1.set n (l.set j d))
              | none => .no)
            | none => .no)
          | some (some (.lst l, .own)) => (match ixN l.length k with
            | some j => .ok (env.set i (some (.lst (l.set j d), .own))) S1
            | none => .no)
          | _ => .no) Q := h
        split at h'
        · rename_i n e2
          obtain ⟨⟨FL, er, hf⟩, nd, sa, tk⟩ := id eb
          obtain ⟨vo, Lo, ev, ro, _⟩ := er.get e2
          cases ro with
          | @ref _ a ea =>
            refine ⟨.ref a, ev, ?_⟩
            refine hi σ H env SA OL S eb.ok so _ ?_
            rw [e1]
            intro H1 s1 vk Lk xk
            have evk := int_of xk
            subst evk
            split at h'
            · rename_i l e3
              split at h'
              · rename_i j e4
                obtain ⟨vs, g1, g2⟩ := s1.so.obj n a l ea e3
                refine ⟨a, vs, k, j, rfl, rfl, g1, ixN_V g2 e4, ?_⟩
                have rv : Rep K SA H1 v d [] := r.keep s1.k _ _ _ fun _ z => nomatch z
                obtain ⟨L', r', s'⟩ := g2.setP (j := j) rv
                have e0 : L' = [] := List.sublist_nil.mp s'
                subst e0
                have k2 : Keep (fun x => x = a) H1 (upd H1 a (.lst (vs.set j v))) := .set g1 rfl rfl
                have aSA : a ∈ SA := List.mem_of_getElem? ea
                have eb1 : EnvB K SA OL T H1 σ env := eb.keep s1.k fun _ z => z
                have eb2 : EnvB K SA OL T (upd H1 a (.lst (vs.set j v))) σ env := eb1.keep k2 fun x z => z ▸ aSA
                exact h' σ _ OL ⟨(s1.k.mono fun _ z => .inl z).trans (k2.mono fun x z => .inl (z ▸ aSA)), eb2.toW (H' := H1), fun a ha => .inl ha, (s1.so.put ea ⟨l, e3⟩ r').ol, fun _ _ => rfl⟩
              · exact h'.elim
            · exact h'.elim
        · rename_i l e2
          obtain ⟨vo, L0, ev, ro, ndL, hL, go⟩ := eb.mut e2
          cases ro with
          | @lst p vs _ Lp g1 g2 =>
            refine ⟨.ref p, ev, ?_⟩
            refine hi σ H env SA OL S eb.ok so _ ?_
            rw [e1]
            intro H1 s1 vk Lk xk
            have evk := int_of xk
            subst evk
            split at h'
            · rename_i j e4
              have eb1 : EnvB K SA OL T H1 σ env := eb.keep s1.k fun _ z => z
              obtain ⟨vo2, L02, ev2, ro2, ndL2, hL2, go2⟩ := eb1.mut e2
              rw [ev] at ev2
              cases ev2
              cases ro2 with
              | @lst _ vs2 _ Lp2 g12 g22 =>
                refine ⟨p, vs2, k, j, rfl, rfl, g12, ixN_V g22 e4, ?_⟩
                have rv : Rep K SA H1 v d [] := r.keep s1.k _ _ _ fun _ z => nomatch z
                obtain ⟨L', r', s'⟩ := g22.setP (j := j) rv
                have k2 : Keep (fun x => x = p) H1 (upd H1 p (.lst (vs2.set j v))) := .set g12 rfl rfl
                have ndp := List.nodup_cons.mp ndL2
                have r3 : RepAll K SA (upd H1 p (.lst (vs2.set j v))) (vs2.set j v) (l.set j d) L' := r'.keep k2 _ _ _ fun a ha z => ndp.1 (z ▸ s'.subset ha)
                have sub : ∀ a, a ∈ p :: L' → a ∈ p :: Lp2 := fun a ha => (List.mem_cons.mp ha).elim (fun z => by rw [z]; exact List.mem_cons_self) fun z => List.mem_cons_of_mem _ (s'.subset z)
                obtain ⟨OL', eb3, ol3⟩ := go2 _ _ (.lst (l.set j d)) (p :: L') k2 (fun a z => by rw [z]; exact List.mem_cons_self) (.lst upd_same r3) (List.nodup_cons.mpr ⟨fun z => ndp.1 (s'.subset z), ndp.2.sublist s'⟩) fun a ha => .inl (sub a ha)
                refine h' σ _ OL' ⟨(s1.k.mono fun _ z => .inl z).trans (k2.mono fun x z => ?_), ?_, fun a ha => ?_, (s1.so.keep k2 fun a ha z => ?_).ol, fun _ _ => rfl⟩
                · exact .inr (.inl (hL2 x (by rw [z]; exact List.mem_cons_self)).1)
                · obtain ⟨⟨FL, er, hf⟩, nd, sa, tk⟩ := eb3
                  have up : ∀ a, (T a ∨ a ∈ p :: L') → T a ∨ a ∈ ([] : List Addr) := fun a z => z.elim .inl fun q => .inl (eb1.tk a (hL2 a (sub a q)).1)
                  exact ⟨⟨FL, er, fun a ha => ⟨(hf a ha).1, (hf a ha).2.1, up a (hf a ha).2.2⟩⟩, nd, sa, fun a ha => up a (tk a ha)⟩
                · rcases ol3 a ha with z | z
                  · exact .inl z
                  · exact .inl (hL2 a (sub a z)).1
                · exact (hL2 p List.mem_cons_self).2 (z ▸ ha)
            · exact h'.elim
        · exact h'.elim
      | own => exact h.elim
      | frn => exact h.elim
      | als => exact h.elim
      | bad => exact h.elim
    | _ => exact h.elim
end
end Mi

set_option Elab.async false
set_option linter.all false
set_option maxRecDepth 100000
set_option maxHeartbeats 4000000
namespace Mi
open PySem PySem.Spec PyProof.Rows L2

section
variable {K : PySem.W.Frag} {E : XK} {SA OL : List Addr} {H H1 : Hp} {σ : L2.St} {env : Env} {S S1 : Sto} {te : TE} {fe : FE} {tr : TA} {fr : FA}
/-- a slot's own list is rewritten behind a step -/
theorem own_mut {i : Nat} {l : List D} (eo : EnvOk K SA OL H σ env) (s1 : Stp K SA OL H S1 H1) (e : env[i]? = some (some (.lst l, .own))) :
    ∃ p vs Lp, σ[i]? = some (some (.ref p)) ∧ H p ≠ none ∧ H1 p = some (.lst vs) ∧ RepAll K SA H1 vs l Lp ∧ p ∉ Lp ∧ Lp.Nodup ∧ (∀ a ∈ Lp, H a ≠ none ∧ a ∉ SA) ∧
      ∀ (ws : List V) (ds : List D) (L' : List Addr), RepAll K SA H1 ws ds L' → L'.Nodup → (∀ a ∈ L', a ∈ Lp ∨ (H a = none ∧ a ∉ SA)) →
        ∃ OL', SStp K SA OL H S1 (upd H1 p (.lst ws)) SA OL' ∧ EnvOk K SA OL' (upd H1 p (.lst ws)) σ (env.set i (some (.lst ds, .own))) := by
  have eb1 : EnvB K SA OL (fun a => H a ≠ none) H1 σ env := eo.b.keep s1.k fun _ z => z
  obtain ⟨v, L0, h1, h2, h3, h4, h5⟩ := eb1.mut e
  cases h2 with
  | @lst p vs _ Lp g1 g2 =>
    have ndp := List.nodup_cons.mp h3
    have hol : ∀ a, a ∈ p :: Lp → H a ≠ none := fun a ha => eo.trk a (h4 a ha).1
    refine ⟨p, vs, Lp, h1, hol p List.mem_cons_self, g1, g2, ndp.1, ndp.2, fun a ha => ⟨hol a (List.mem_cons_of_mem _ ha), (h4 a (List.mem_cons_of_mem _ ha)).2⟩, fun ws ds L' r nd hL' => ?_⟩
    have kp : Keep (fun x => x = p) H1 (upd H1 p (.lst ws)) := .set g1 rfl rfl
    have pL' : p ∉ L' := fun z => (hL' p z).elim ndp.1 fun q => hol p List.mem_cons_self q.1
    obtain ⟨OL', eb3, ol3⟩ := h5 _ _ (.lst ds) (p :: L') kp (fun a z => by rw [z]; exact List.mem_cons_self) (.lst upd_same (r.keep kp _ _ _ fun a ha z => pL' (z ▸ ha))) (List.nodup_cons.mpr ⟨pL', nd⟩)
      fun a ha => (List.mem_cons.mp ha).elim (fun z => .inl (by rw [z]; exact List.mem_cons_self)) fun z => (hL' a z).imp (List.mem_cons_of_mem _) fun q => ⟨fun w => w q.1, q.2⟩
    have hpSA : p ∉ SA := (h4 p List.mem_cons_self).2
    refine ⟨OL', ⟨(s1.k.mono fun _ z => .inl z).trans (kp.mono fun x z => .inr (z ▸ (h4 p List.mem_cons_self).1)), ⟨[], by simp, fun _ z => nomatch z⟩, fun a ha => ?_, (s1.so.keep kp fun a ha z => hpSA (z ▸ ha)).ol⟩, eb3.ok⟩
    rcases ol3 a ha with z | z
    · exact .inl z
    · rcases List.mem_cons.mp z with z | z
      · exact .inl (z ▸ (h4 p List.mem_cons_self).1)
      · exact (hL' a z).imp (fun q => (h4 a (List.mem_cons_of_mem _ q)).1) fun q => q.1

/-! ### x.append(e), x.extend(e), x.pop() as statements -/
def fAppend (i : Nat) (fe : FE) : FS := fun env S => match env[i]? with
  | some (some (.lst l, .own)) => (fe env S).bind fun x S1 => (match upO x with
    | some _ => if l.length < sizeLine then .ok (.nx (env.set i (some (.lst (l ++ [x.1]), .own)))) S1 else .no
    | none => .no)
  | _ => .no
/-- a fresh value behind a slot's own -/
theorem own_more {Lp L : List Addr} {m : Md} (nd : Lp.Nodup) (hLp : ∀ a ∈ Lp, H a ≠ none ∧ a ∉ SA) (hm : m = .pur ∨ m = .own) (md : MdOk OL H m L) (sL : ∀ a ∈ L, a ∉ SA) :
    (Lp ++ L).Nodup ∧ ∀ a ∈ Lp ++ L, a ∈ Lp ∨ (H a = none ∧ a ∉ SA) := by
  rcases hm with rfl | rfl
  · have e : L = [] := md
    subst e
    rw [List.append_nil]
    exact ⟨nd, fun a ha => .inl ha⟩
  · exact ⟨List.nodup_append.mpr ⟨nd, md.1, fun a h1 b h2 e => (hLp a h1).1 (e ▸ md.2 b h2)⟩, fun a ha => (List.mem_append.mp ha).imp id fun z => ⟨md.2 a z, sL a z⟩⟩
theorem esf_append {i : Nat} (he : EvF K E te fe) : EsF K E (tDrop (tBM K "list" rAppend (tVar i) (tCons te tNil))) (fAppend i fe) := by
  intro σ H env SA OL S eo so D h
  unfold fAppend at h
  split at h
  · rename_i l e
    obtain ⟨p0, vs0, Lp0, h1, _, h3, _⟩ := own_mut eo (Stp.here so) e
    refine ⟨.ref p0, h1, .inl ⟨rfl, vs0, SqL.of h3⟩, ?_⟩
    refine he σ H env SA OL S eo so _ ((AftS.expr h).imp fun x S1 H1 _ s1 h4 v L x1 => ?_)
    have h5 : AftS K E SA OL H D (match upO x with
      | some _ => if l.length < sizeLine then .ok (.nx (env.set i (some (.lst (l ++ [x.1]), .own)))) S1 else .no
      | none => .no) := by
      rename_i er
      rw [er] at h
      exact h
    split at h5
    · rename_i m em
      split at h5
      · rename_i hz
        obtain ⟨p, vs, Lp, g1, g2, g3, g4, g5, g6, g7, g8⟩ := own_mut eo s1 e
        rw [h1] at g1
        cases g1
        obtain ⟨hm, mdm⟩ := upO_val em x1
        obtain ⟨nd, hL⟩ := own_more g6 g7 hm mdm x1.sa
        have r : RepAll K SA H1 (vs ++ [v]) (l ++ [x.1]) (Lp ++ L) := by
          have q := g4.append (.cons x1.rep .nil)
          rw [List.append_nil] at q
          exact q
        obtain ⟨OL', st, eo'⟩ := g8 _ _ _ r nd hL
        exact ⟨p0, vs, v, rfl, rfl, g3, by rw [g4.length]; exact hz, h5 σ _ SA OL' st eo'⟩
      · exact h5.elim
    · exact h5.elim
  · exact h.elim
/-- x.extend(a new list), or one without lists in it -/
def fExtend (i : Nat) (fe : FE) : FS := fun env S => match env[i]? with
  | some (some (.lst l, .own)) => (fe env S).bind fun x S1 => (match x.1 with
    | .lst ys => if noLsts ys = true ∨ x.2 = .own then (if l.length + ys.length ≤ sizeLine then .ok (.nx (env.set i (some (.lst (l ++ ys), .own)))) S1 else .no) else .no
    | _ => .no)
  | _ => .no
theorem esf_extend {i : Nat} (he : EvF K E te fe) : EsF K E (tDrop (tBM K "list" rExtend (tVar i) (tCons te tNil))) (fExtend i fe) := by
  intro σ H env SA OL S eo so D h
  unfold fExtend at h
  split at h
  · rename_i l e
    obtain ⟨p0, vs0, Lp0, h1, _, h3, _⟩ := own_mut eo (Stp.here so) e
    refine ⟨.ref p0, h1, .inl ⟨rfl, vs0, SqL.of h3⟩, ?_⟩
    refine he σ H env SA OL S eo so _ ((AftS.expr h).imp fun x S1 H1 _ s1 h4 v L x1 => ?_)
    have h5 : AftS K E SA OL H D (match x.1 with
      | .lst ys => if noLsts ys = true ∨ x.2 = .own then (if l.length + ys.length ≤ sizeLine then .ok (.nx (env.set i (some (.lst (l ++ ys), .own)))) S1 else .no) else .no
      | _ => .no) := by
      rename_i er
      rw [er] at h
      exact h
    obtain ⟨d, m⟩ := x
    cases d with
    | lst ys =>
      simp only at h5
      split at h5
      · rename_i hor
        split at h5
        · rename_i hz
          obtain ⟨p, vs, Lp, g1, g2, g3, g4, g5, g6, g7, g8⟩ := own_mut eo s1 e
          rw [h1] at g1
          cases g1
          have xr := x1.rep
          cases xr with
          | @lst q zs _ Lq k1 k2 =>
            have hm : ∃ m', (m' = .pur ∨ m' = .own) ∧ MdOk OL H m' Lq := by
              rcases hor with hn | hm
              · exact ⟨.pur, .inl rfl, RepAll.noL _ _ _ k2 hn⟩
              · have hm' : m = .own := hm
                subst hm'
                exact ⟨.own, .inr rfl, (x1.md : (q :: Lq).Nodup ∧ ∀ a ∈ q :: Lq, H a = none).1.of_cons, fun a ha => x1.md.2 a (List.mem_cons_of_mem _ ha)⟩
            obtain ⟨m', hm', md'⟩ := hm
            obtain ⟨nd, hL⟩ := own_more g6 g7 hm' md' fun a ha => x1.sa a (List.mem_cons_of_mem _ ha)
            obtain ⟨OL', st, eo'⟩ := g8 _ _ _ (g4.append k2) nd hL
            exact ⟨p0, q, vs, zs, rfl, rfl, g3, k1, by rw [g4.length, k2.length]; exact hz, h5 σ _ SA OL' st eo'⟩
        · exact h5.elim
      · exact h5.elim
    | _ => exact h5.elim
  · exact h.elim

/-! ### name op= e, of ints -/
def fAug (f : Int → Int → Int) (i : Nat) (fe : FE) : FS := fun env S => match env[i]? with
  | some (some (.int a, .pur)) => (fe env S).bind fun x S1 => (match x.1 with
    | .int b => .ok (.nx (env.set i (some (.int (f a b), .pur)))) S1
    | _ => .no)
  | _ => .no
theorem esf_aug {f : Int → Int → Int} {i : Nat} (he : EvF K E te fe) : EsF K E (tAug i te (ipI f)) (fAug f i fe) := by
  intro σ H env SA OL S eo so D h
  unfold fAug at h
  split at h
  · rename_i a e
    obtain ⟨⟨FL, er, hf⟩, nd, sa⟩ := id eo
    obtain ⟨v, L, h1, h2, _⟩ := er.get e
    cases h2
    refine ⟨.int a, h1, ?_⟩
    refine he σ H env SA OL S eo so _ ((AftS.expr h).imp fun x S1 H1 _ s1 h4 v L x1 => ?_)
    obtain ⟨d, m⟩ := x
    cases d with
    | int b =>
      have ev := int_of x1
      subst ev
      have eb1 : EnvB K SA OL (fun a => H a ≠ none) H1 σ env := eo.b.keep s1.k fun _ z => z
      have hi : i < env.length := (List.getElem?_eq_some_iff.mp e).1
      obtain ⟨OL', eb', s⟩ := eb1.put (v := .int (f a b)) (d := .int (f a b)) (m := .pur) (L := []) hi (.int _) (fun _ z => nomatch z) rfl (.inl rfl)
      refine ⟨a, b, rfl, rfl, h4 _ H1 SA OL' ⟨.refl, ⟨[], by simp, fun _ z => nomatch z⟩, fun a ha => .inl ((s a ha).elim id fun z => nomatch z.1), s1.so.ol⟩ eb'.ok⟩
    | _ => exact h4.elim
  · exact h.elim
end
end Mi

set_option Elab.async false
set_option linter.all false
set_option maxRecDepth 100000
set_option maxHeartbeats 4000000
namespace Mi
open PySem PySem.Spec PyProof.Rows L2

/-! ### o[k] op= e of the store -/
def rGetL : V → V → Hp → VK → Prop := fun x y H Q => ∃ p xs i v, x = .ref p ∧ y = .int i ∧ H p = some (.lst xs) ∧ 0 ≤ i ∧ xs[i.toNat]? = some v ∧ Q v H
theorem get_list {X : Cx} : PGet X rGetL := by
  intro pins s σ H x y v u Q I rx ry h
  obtain ⟨p, xs, i, z, ex, ey, hq, h0, hz, q⟩ := h
  subst ex ey
  cases rx
  obtain ⟨t, rfl⟩ := ry
  obtain ⟨its, r, pl, hs⟩ := I.list (SqL.of hq)
  obtain ⟨w, ew, rw'⟩ := r.get hz
  have hl := (List.getElem?_eq_some_iff.mp hz).1
  have hn := line63
  exact wpAny_getItem_list pl.isList h0 (by omega) (by simpa using ew) ⟨z, H, I, rw', q⟩
section
variable {K : PySem.W.Frag} {E : XK} {SA OL : List Addr} {H H1 : Hp} {σ : L2.St} {env : Env} {S S1 : Sto} {ti te to : TE} {fi fe fo : FE} {tr : TA} {fr : FA}
def fAugSet (f : Int → Int → Int) (i : Nat) (k : Nat) (fe : FE) : FS := fun env S => match env[i]? with
  | some (some (.ref n, .pur)) => (match S[n]? with
    | some l => (match l[k]? with
      | some (.int a) => (fe env S).bind fun x S2 => (match x.1, S2[n]? with
        | .int b, some l2 => if k < l2.length then .ok (.nx env) (S2.set n (l2.set k (.int (f a b)))) else .no
        | _, _ => .no)
      | _ => .no)
    | none => .no)
  | _ => .no
theorem ixN_nat {n k : Nat} (h : k < n) : ixN n (k : Int) = some k := by
  unfold ixN
  rw [if_pos (Int.natCast_nonneg k), if_pos (Int.ofNat_lt.mpr h)]
  rfl
theorem esf_augSet {f : Int → Int → Int} {i k : Nat} (he : EvF K E te fe) : EsF K E (tAugS (tVar i) (tC (.int (k : Int))) te rGetL (ipI f) rSetL) (fAugSet f i k fe) := by
  intro σ H env SA OL S eo so D h
  unfold fAugSet at h
  split at h
  · rename_i n e
    split at h
    · rename_i l el
      split at h
      · rename_i a ea
        obtain ⟨⟨FL, er, hf⟩, nd, sa⟩ := id eo
        obtain ⟨v, L, h1, h2, _⟩ := er.get e
        cases h2 with
        | @ref _ p ep =>
          obtain ⟨vs, g1, g2⟩ := so.obj n p l ep el
          obtain ⟨va, La, ga, ra, _⟩ := g2.get ea
          cases ra
          refine ⟨.ref p, h1, p, vs, (k : Int), .int a, rfl, rfl, g1, Int.natCast_nonneg k, by simpa using ga, ?_⟩
          refine he σ H env SA OL S eo so _ ((AftS.expr h).imp fun x S2 H2 _ s2 h4 v L x1 => ?_)
          obtain ⟨d, m⟩ := x
          cases d with
          | int b =>
            have ev := int_of x1
            subst ev
            have h5 : AftS K E SA OL H2 D (match S2[n]? with
              | some l2 => if k < l2.length then .ok (.nx env) (S2.set n (l2.set k (.int (f a b)))) else .no
              | none => .no) := by
              cases q : S2[n]? with
              | none => rw [q] at h4; exact h4
              | some l2 => rw [q] at h4; exact h4
            split at h5
            · rename_i l2 e2
              split at h5
              · rename_i hk
                obtain ⟨ws, k1, k2⟩ := s2.so.obj n p l2 ep e2
                refine ⟨a, b, rfl, rfl, p, ws, (k : Int), k, rfl, rfl, k1, by rw [k2.length]; exact ixN_nat hk, ?_⟩
                obtain ⟨L', r', s'⟩ := k2.setP (j := k) (v := .int (f a b)) (d := .int (f a b)) (.int _)
                have e0 : L' = [] := List.sublist_nil.mp s'
                subst e0
                have kp : Keep (fun x => x = p) H2 (upd H2 p (.lst (ws.set k (.int (f a b))))) := .set k1 rfl rfl
                have pSA : p ∈ SA := List.mem_of_getElem? ep
                have eo2 := s2.envOk eo
                exact h5 σ _ SA OL ⟨kp.mono fun x z => .inl (z ▸ pSA), ⟨[], by simp, fun _ z => nomatch z⟩, fun a ha => .inl ha, s2.so.put ep ⟨l2, e2⟩ r'⟩ (eo2.keep kp fun x z => z ▸ pSA)
              · exact h5.elim
            · exact h5.elim
          | _ => exact h4.elim
      · exact h.elim
    · exact h.elim
  · exact h.elim

/-! ### bag = [.., .., .., [..]]: two new objects of the store -/
def fAsgSto (i : Nat) (fe : FE) : FS := fun env S => (fe env S).bind fun x S1 => match x with
  | (.lst [a, b, c, .lst cells], .own) => if noLst a && noLst b && noLst c && noLsts cells && decide (i < env.length) then
      .ok (.nx (env.set i (some (.ref S1.length, .pur)))) (S1 ++ [[a, b, c, .ref (S1.length + 1)], cells]) else .no
  | _ => .no
theorem sa_more {SA : List Addr} (more : List Addr) : ∀ (n : Nat) (a : Addr), SA[n]? = some a → (SA ++ more)[n]? = some a := fun n a e => by
  rw [List.getElem?_append_left (List.getElem?_eq_some_iff.mp e).1]
  exact e
theorem EnvOk.more {more : List Addr} (eo : EnvOk K SA OL H σ env) (hm : ∀ a ∈ more, a ∉ OL) (hf : ∀ FL, EnvRep K SA H σ env OL FL → ∀ a ∈ FL, a ∉ more) : EnvOk K (SA ++ more) OL H σ env := by
  obtain ⟨⟨FL, r, h⟩, nd, sa⟩ := eo
  refine ⟨⟨FL, r.sa (sa_more more), fun a ha => ⟨(h a ha).1, fun z => (List.mem_append.mp z).elim (h a ha).2 (hf FL r a ha)⟩⟩, nd, fun a ha z => (List.mem_append.mp z).elim (sa a ha) fun q => hm a q ha⟩
theorem esf_asgSto {i : Nat} (he : EvF K E te fe) : EsF K E (tAsg te (gName i)) (fAsgSto i fe) := by
  intro σ H env SA OL S eo so D h
  refine he σ H env SA OL S eo so _ ?_
  unfold fAsgSto at h
  cases e1 : fe env S with
  | no => rw [e1] at h; exact h.elim
  | err c S1 => rw [e1] at h; exact fun H' s => h H' SA s.s0
  | ok x S1 =>
    rw [e1] at h
    intro H1 s1 v L x1
    simp only [Res.bind_ok] at h
    split at h
    · rename_i a b c cells _
      split at h
      · rename_i hc
        simp only [Bool.and_eq_true, decide_eq_true_eq] at hc
        obtain ⟨⟨⟨⟨ha, hb⟩, hcc⟩, hcells⟩, hi⟩ := hc
        obtain ⟨xr, xsa, xmd⟩ := x1
        cases xr with
        | @lst p vs _ Lp g1 g2 =>
          cases g2 with
          | cons ra g2 =>
            cases g2 with
            | cons rb g2 =>
              cases g2 with
              | cons rc g2 =>
                cases g2 with
                | cons rd g2 =>
                  cases g2
                  cases rd with
                  | @lst q ws _ Lq k1 k2 =>
                    have ea := Rep.noL _ _ _ ra ha
                    have eb := Rep.noL _ _ _ rb hb
                    have ec := Rep.noL _ _ _ rc hcc
                    have eq := RepAll.noL _ _ _ k2 hcells
                    subst ea eb ec eq
                    simp only [List.nil_append, List.append_nil] at xsa xmd
                    obtain ⟨ndpq, fr⟩ := (xmd : List.Nodup _ ∧ ∀ a ∈ _, H a = none)
                    have hp : H p = none := fr p (by simp)
                    have hq : H q = none := fr q (by simp)
                    have pq : p ≠ q := fun z => by
                      subst z
                      simp at ndpq
                    have eo1 := s1.envOk eo
                    have eb1 : EnvB K SA OL (fun a => H a ≠ none) H1 σ env := eo.b.keep s1.k fun _ z => z
                    have fre : ∀ x ∈ [p, q], H x = none := fun x hx => by
                      simp only [List.mem_cons, List.not_mem_nil, or_false] at hx
                      rcases hx with rfl | rfl
                      · exact hp
                      · exact hq
                    have nOL : ∀ x ∈ [p, q], x ∉ OL := fun x hx z => eo.trk x z (fre x hx)
                    have sn : ∀ x ∈ [p, q], x ∉ SA := fun x hx z => so.trk x z (fre x hx)
                    -- the slots, with the store grown
                    have eb2 : EnvB K (SA ++ [p, q]) OL (fun a => H a ≠ none) H1 σ env := by
                      obtain ⟨⟨FL, r, hf⟩, nd, sa, tk⟩ := eb1
                      exact ⟨⟨FL, r.sa (sa_more _), fun x hx => ⟨(hf x hx).1, fun z => (List.mem_append.mp z).elim (hf x hx).2.1 fun w => (hf x hx).2.2 (fre x w), (hf x hx).2.2⟩⟩, nd, fun x hx z => (List.mem_append.mp z).elim (sa x hx) fun w => nOL x w hx, tk⟩
                    have idx : (SA ++ [p, q])[S1.length]? = some p := by
                      rw [← s1.so.len, List.getElem?_append_right (Nat.le_refl _), Nat.sub_self]
                      rfl
                    have idx2 : (SA ++ [p, q])[S1.length + 1]? = some q := by
                      rw [← s1.so.len, List.getElem?_append_right (by omega), Nat.add_sub_cancel_left]
                      rfl
                    obtain ⟨OL', eb', s⟩ := eb2.put (v := .ref p) (d := .ref S1.length) (m := .pur) (L := []) hi (.ref idx) (fun _ z => nomatch z) rfl (.inl rfl)
                    refine h _ H1 (SA ++ [p, q]) OL' ⟨s1.k.mono fun _ z => .inl z, ⟨[p, q], rfl, fre⟩, fun x hx => .inl ((s x hx).elim id fun z => nomatch z.1), ?_⟩ eb'.ok
                    have so1 := s1.so
                    refine ⟨by simp [so1.len], ?_, fun n x ds e1 e2 => ?_⟩
                    · refine List.nodup_append.mpr ⟨so1.nd, by simp [pq], fun x hx y hy e => sn y hy (e ▸ hx)⟩
                    · by_cases hn : n < S1.length
                      · rw [List.getElem?_append_left (by rw [so1.len]; exact hn)] at e1
                        rw [List.getElem?_append_left hn] at e2
                        obtain ⟨us, m1, m2⟩ := so1.obj n x ds e1 e2
                        exact ⟨us, m1, RepAll.sa (sa_more _) _ _ _ m2⟩
                      · rw [List.getElem?_append_right (by rw [so1.len]; omega)] at e1
                        rw [List.getElem?_append_right (by omega)] at e2
                        rw [so1.len] at e1
                        have hn2 : n - S1.length = 0 ∨ n - S1.length = 1 ∨ 2 ≤ n - S1.length := by omega
                        rcases hn2 with z | z | z
                        · rw [z] at e1 e2
                          simp only [List.getElem?_cons_zero, Option.some.injEq] at e1 e2
                          subst e1 e2
                          refine ⟨_, g1, ?_⟩
                          exact .cons (L1 := []) (L2 := []) (Rep.sa (sa_more _) _ _ _ ra) (.cons (L1 := []) (L2 := []) (Rep.sa (sa_more _) _ _ _ rb) (.cons (L1 := []) (L2 := []) (Rep.sa (sa_more _) _ _ _ rc) (.cons (L1 := []) (L2 := []) (.ref idx2) .nil)))
                        · rw [z] at e1 e2
                          simp only [List.getElem?_cons_succ, List.getElem?_cons_zero, Option.some.injEq] at e1 e2
                          subst e1 e2
                          exact ⟨ws, k1, RepAll.sa (sa_more _) _ _ _ k2⟩
                        · rw [List.getElem?_eq_none (by simpa using z)] at e2
                          cases e2
      · exact h.elim
    · exact h.elim
end
end Mi

set_option Elab.async false
set_option linter.all false
set_option maxRecDepth 100000
set_option maxHeartbeats 4000000
namespace Mi
open PySem PySem.Spec PyProof.Rows L2

/-! ### comprehensions with two fors -/
def lc2Md : Md → Bool
  | .pur => true
  | .own => true
  | .frn => true
  | _ => false
def lc2Loop (fg : FG) (ft : FT) (fi1 : FI) (fg1 : FG) (ft1 : FT) (fe : FE) (m : Md) (env : Env) (vs1 : List Nat) : List D → Sto → Res (List D)
  | [], S => .ok [] S
  | d :: ds, S => (fg (d, cmMd d m) env S).ne.bind fun env1 S1 => (ft env1 S1).ne.bind fun b S2 =>
      if b then (fi1 env1 S2).ne.bind fun x S3 => if lc2Md x.2 then
        (lcLoop fg1 ft1 fe x.2 (wipeE env1 vs1) x.1 S3).bind fun ys S4 => (lc2Loop fg ft fi1 fg1 ft1 fe m env vs1 ds S4).bind fun zs S5 => .ok (ys ++ zs) S5 else .no
      else lc2Loop fg ft fi1 fg1 ft1 fe m env vs1 ds S2
def fLc2 (fi : FI) (fg : FG) (ft : FT) (fi1 : FI) (fg1 : FG) (ft1 : FT) (fe : FE) (vs vs1 : List Nat) : FE := fun env S => (fi env S).bind fun x S1 =>
  (lc2Loop fg ft fi1 fg1 ft1 fe x.2 (wipeE (demote env) vs) vs1 x.1 S1).ne.bind fun ys S2 => if ys.length ≤ sizeLine then .ok (.lst ys, .own) S2 else .no

section
variable {K : PySem.W.Frag} {E : XK} {SA OL : List Addr} {H H' H0 H1 H2 : Hp} {σ : L2.St} {env : Env} {S S' S1 S2 : Sto}
theorem EnvRep.res {R : List Addr} (hR : ∀ a ∈ R, H a ≠ Option.none) : ∀ {σ : L2.St} {env : Env} {OL FL : List Addr}, EnvRep K SA H σ env OL FL → EnvRep K SA H σ env (OL ++ R) FL
  | _, _, _, _, .nil R0 h => .nil (R0 ++ R) fun a ha => (List.mem_append.mp ha).elim (h a) (hR a)
  | _, _, _, _, .none h => .none (EnvRep.res hR h)
  | _, _, _, _, .pur r h => .pur r (EnvRep.res hR h)
  | _, _, _, _, .own (L := L) (OL := OL) r h => by
    rw [List.append_assoc]
    exact EnvRep.own (L := L) (OL := OL ++ R) r (EnvRep.res hR h)
  | _, _, _, _, .frn r h => .frn r (EnvRep.res hR h)
/-- one turn's inner loop: what a slot env, wiped, knows -/
theorem EnvB.wipe {T : Addr → Prop} (eb : EnvB K SA [] T H σ env) : ∀ vs : List Nat, EnvB K SA [] T H (L2.wipe σ vs) (wipeE env vs)
  | [] => eb
  | v :: vs => by
    obtain ⟨⟨FL, r, hf⟩, nd, sa, tk⟩ := EnvB.wipe eb vs
    obtain ⟨A, B, r', s, t⟩ := r.clear v none
    have : A = [] := List.sublist_nil.mp s
    subst this
    exact ⟨⟨B, r', fun a ha => ⟨(fun z => nomatch z), (hf a (t.subset ha)).2⟩⟩, List.nodup_nil, (fun _ z => nomatch z), fun _ z => nomatch z⟩
/-- with one address more that is held back -/
theorem EnvB.hold {p : Addr} (eb : EnvB K SA [] (· ≠ p) H σ env) (hp : H p ≠ none) (hS : p ∉ SA) : EnvOk K SA [p] H σ env := by
  obtain ⟨⟨FL, r, hf⟩, nd, sa, tk⟩ := eb
  have r' := r.res (R := [p]) fun a ha => by simp at ha; rw [ha]; exact hp
  exact ⟨⟨FL, r', fun a ha => ⟨fun z => by simp at z; exact (hf a ha).2.2 z, (hf a ha).2.1⟩⟩, by simp, fun a ha => by simp at ha; rw [ha]; exact hS⟩
theorem lc2Loop_noerr (fg : FG) (ft : FT) (fi1 : FI) (fg1 : FG) (ft1 : FT) (fe : FE) (m : Md) (env : Env) (vs1 : List Nat) : ∀ (ds : List D) (S : Sto) (c : Str) (S' : Sto), lc2Loop fg ft fi1 fg1 ft1 fe m env vs1 ds S ≠ .err c S'
  | [], _, _, _, h => by cases h
  | d :: ds, S, c, S', h => by
    unfold lc2Loop at h
    cases e1 : fg (d, cmMd d m) env S with
    | no => rw [e1] at h; cases h
    | err _ _ => rw [e1] at h; cases h
    | ok env1 S1 =>
      rw [e1] at h
      simp only [Res.ne_ok, Res.bind_ok] at h
      cases e2 : ft env1 S1 with
      | no => rw [e2] at h; cases h
      | err _ _ => rw [e2] at h; cases h
      | ok b S2 =>
        rw [e2] at h
        simp only [Res.ne_ok, Res.bind_ok] at h
        cases b with
        | false => exact lc2Loop_noerr fg ft fi1 fg1 ft1 fe m env vs1 ds S2 c S' h
        | true =>
          simp only [if_true] at h
          cases e3 : fi1 env1 S2 with
          | no => rw [e3] at h; cases h
          | err _ _ => rw [e3] at h; cases h
          | ok y S3 =>
            rw [e3] at h
            simp only [Res.ne_ok, Res.bind_ok] at h
            split at h
            · cases e4 : lcLoop fg1 ft1 fe y.2 (wipeE env1 vs1) y.1 S3 with
              | no => rw [e4] at h; cases h
              | err c2 S2 => exact lcLoop_noerr _ _ _ _ _ _ _ _ _ e4
              | ok ys S4 =>
                rw [e4] at h
                simp only [Res.bind_ok] at h
                cases e5 : lc2Loop fg ft fi1 fg1 ft1 fe m env vs1 ds S4 with
                | no => rw [e5] at h; cases h
                | err c2 S5 => exact lc2Loop_noerr fg ft fi1 fg1 ft1 fe m env vs1 ds S4 c2 S5 e5
                | ok zs S5 => rw [e5] at h; cases h
            · cases h
/-- what a comprehension's list is, between two turns -/
structure Acc (K : PySem.W.Frag) (SA : List Addr) (Dd : Addr) (H1 Hc : Hp) (acc : List D) (Sc : Sto) : Prop where
  ex : ∃ (accV : List V) (La : List Addr), Hc Dd = some (.lst accV) ∧ RepAll K SA Hc accV acc La ∧ (∀ a ∈ La, a ∉ SA ∧ a ≠ Dd) ∧ La.Nodup ∧ ∀ a ∈ La, H1 a = none
  k : Keep (fun a => a ∈ SA ∨ a = Dd) H1 Hc
  so : StoOk K SA [] Hc Sc
theorem Acc.step {Dd : Addr} {Hc : Hp} {acc : List D} {Sc Sn : Sto} {Hn : Hp} (a : Acc K SA Dd H1 Hc acc Sc) (hDS : Dd ∉ SA) (k : Keep (· ∈ SA) Hc Hn) (so : StoOk K SA [] Hn Sn) : Acc K SA Dd H1 Hn acc Sn := by
  obtain ⟨⟨accV, La, h1, h2, h3, h4⟩, hk, hs⟩ := a
  exact ⟨⟨accV, La, k.keep _ _ h1 (.inl hDS), h2.keep k _ _ _ fun a ha => (h3 a ha).1, h3, h4⟩, hk.trans (k.mono fun _ z => .inl z), so⟩
/-- one item more -/
theorem Acc.add {Dd : Addr} {Hc Hn : Hp} {acc : List D} {Sc Sn : Sto} {y : D × Md} {my : Md} {vy : V} {Ly OLx : List Addr} (a : Acc K SA Dd H1 Hc acc Sc) (hDS : Dd ∉ SA) (s : Stp K SA OLx Hc Sn Hn) (em : upO y = some my) (x : Val K SA OLx Hc Hn vy y.1 y.2 Ly) :
    ∃ accV, Hn Dd = some (.lst accV) ∧ accV.length = acc.length ∧ Acc K SA Dd H1 (upd Hn Dd (.lst (accV ++ [vy]))) (acc ++ [y.1]) Sn := by
  obtain ⟨⟨accV, La, h1, h2, h3, h4⟩, hk, hs⟩ := a
  obtain ⟨hmy, mdy⟩ := upO_val em x
  have hDn : Hn Dd = some (.lst accV) := s.k.keep _ _ h1 (.inl hDS)
  have rep : RepAll K SA Hn accV acc La := h2.keep s.k _ _ _ fun a ha => (h3 a ha).1
  have nDy : Dd ∉ Ly := fun z => by
    rcases hmy with rfl | rfl
    · have : Ly = [] := mdy
      rw [this] at z
      cases z
    · have := mdy.2 Dd z
      rw [h1] at this
      cases this
  have kD : Keep (fun a => a = Dd) Hn (upd Hn Dd (.lst (accV ++ [vy]))) := .set hDn rfl rfl
  have mdy' : MdOk [] Hc my Ly := by
    rcases hmy with rfl | rfl
    · exact mdy
    · exact mdy
  have own := own_app (H3 := Hn) hmy h4 (RepAll.trk _ _ _ h2) hk.trk mdy'
  refine ⟨accV, hDn, h2.length, ⟨⟨accV ++ [vy], La ++ Ly, upd_same, ?_, fun a ha => ?_, own.1, own.2⟩, (hk.trans (s.k.mono fun _ z => .inl z)).trans (kD.mono fun _ z => .inr z), (s.so.ol (OL' := [])).keep kD fun a ha z => hDS (z ▸ ha)⟩⟩
  · have q := (rep.append (.cons x.rep .nil)).keep kD _ _ _ (fun a ha z => ?_)
    · rw [List.append_nil] at q
      exact q
    · subst z
      rcases List.mem_append.mp ha with z | z
      · exact (h3 a z).2 rfl
      · rw [List.append_nil] at z
        exact nDy z
  · rcases List.mem_append.mp ha with z | z
    · exact h3 a z
    · exact ⟨x.sa a z, fun q => nDy (q ▸ z)⟩
/-- a turn's target, in a comprehension: the new slots know nothing of the list -/
theorem lc_turn {SA P L : List Addr} {g : TG} {fg : FG} {ss vs : List Nat} {its1 : D} {m : Md} {Dd : Addr} {H3 : Hp} {x : V} {env env1 : Env} {Sc Sa : Sto} {Q : L2.St → Hp → Prop} (hg : EgF K g fg ss) (hss : ∀ i ∈ ss, i ∈ vs) (eb : EnvB K SA [] (· ≠ Dd) H3 (wipe σ vs) env) (so : StoOk K SA [] H3 Sc)
    (rd : Rep K SA H3 x its1 L) (hL : ∀ a ∈ L, a ∈ P) (mP : m = .pur → P = []) (sP : ∀ a ∈ P, a ∉ SA) (dP : Dd ∉ P) (e : fg (its1, cmMd its1 m) env Sc = .ok env1 Sa)
    (h : ∀ σ4 H4, Keep (· ∈ SA) H3 H4 → EnvB K SA [] (· ≠ Dd) H4 σ4 env1 → StoOk K SA [] H4 Sa → wipe σ4 vs = wipe σ vs → Q σ4 H4) : g x (wipe σ vs) H3 Q := by
  have smx : Sm [] (· ≠ Dd) (cmMd its1 m) L := by
    unfold cmMd
    split
    · rename_i e
      exact List.eq_nil_iff_forall_not_mem.mpr fun a ha => by
        have := hL a ha
        rw [mP e] at this
        cases this
    · split
      · rename_i hn
        exact Rep.noL _ _ _ rd hn
      · exact fun a _ z => nomatch z
  refine hg (wipe σ vs) H3 env SA [] _ Sc x its1 (cmMd its1 m) L eb so rd (fun a ha => sP a (hL a ha)) smx _ ?_
  rw [e]
  intro σ4 H4 OL4 t4
  have nown : cmMd its1 m ≠ .own := by
    unfold cmMd
    split
    · exact fun z => nomatch z
    · split
      · exact fun z => nomatch z
      · exact fun z => nomatch z
  have e4 : OL4 = [] := List.eq_nil_iff_forall_not_mem.mpr fun a ha => (t4.ol a ha).elim (fun z => nomatch z) fun z => nown z.1
  subst e4
  have k4 : Keep (· ∈ SA) H3 H4 := t4.k.mono fun a z => z.elim id fun z => z.elim (fun q => nomatch q) fun q => absurd q.1 nown
  refine h σ4 H4 k4 ?_ t4.so (by rw [t4.wi vs hss, wipe_wipe])
  obtain ⟨⟨FL, r, hf⟩, nd, sa, tk⟩ := t4.eb
  exact ⟨⟨FL, r, fun a ha => ⟨(hf a ha).1, (hf a ha).2.1, (hf a ha).2.2.elim id fun z q => dP (q ▸ hL a z)⟩⟩, nd, sa, fun _ z => nomatch z⟩
theorem evf_lc2 {ti ti1 : TI} {fi fi1 : FI} {g g1 : TG} {fg fg1 : FG} {tt tt1 : TT} {ft ft1 : FT} {te : TE} {fe : FE} {vs vs1 ss ss1 : List Nat} (hi : EiF K E ti fi) (hg : EgF K g fg ss) (ht : EtF K E0 tt ft) (hi1 : EiF K E0 ti1 fi1) (hg1 : EgF K g1 fg1 ss1) (ht1 : EtF K E0 tt1 ft1) (he : EvF K E0 te fe)
    (hss : ∀ i ∈ ss, i ∈ vs) (hss1 : ∀ i ∈ ss1, i ∈ vs1) : EvF K E (tLc2 ti g tt ti1 g1 tt1 te vs vs1) (fLc2 fi fg ft fi1 fg1 ft1 fe vs vs1) := by
  intro σ H env SA OL S eo so Q h
  refine hi σ H env SA OL S eo so _ ((After.seq h).imp fun x S1 H1 _ s1 h1 J P io => ?_)
  obtain ⟨its, m⟩ := x
  simp only at h1 io
  cases eL : lc2Loop fg ft fi1 fg1 ft1 fe m (wipeE (demote env) vs) vs1 its S1 with
  | no => rw [eL] at h1; exact h1.elim
  | err c S2 => exact absurd eL (lc2Loop_noerr _ _ _ _ _ _ _ _ _ _ _ _ _)
  | ok ys S2 =>
    rw [eL] at h1
    have h1' : After K E SA OL H1 (if ys.length ≤ sizeLine then .ok (.lst ys, .own) S2 else .no) (fun dm _ H' => ∀ v L, Val K SA OL H H' v dm.1 dm.2 L → Q v H') := h1
    split at h1'
    · rename_i hlen
      intro Dd hD
      have hDS : Dd ∉ SA := fun z => s1.so.trk Dd z hD
      have hDP : Dd ∉ P := fun z => io.trk Dd z hD
      have hH0 : H Dd = none := s1.fresh hD
      have eb0 : EnvB K SA [] (· ≠ Dd) H1 (wipe σ vs) (wipeE (demote env) vs) := by
        obtain ⟨⟨FL, r, hf⟩, nd, sa⟩ := ((s1.envOk eo).demote).wipe vs
        exact ⟨⟨FL, r, fun a ha => ⟨(hf a ha).1, (hf a ha).2, fun z => r.trk.2 a ha (z ▸ hD)⟩⟩, nd, sa, fun _ z => nomatch z⟩
      -- the slots at any later time
      have ebAt : ∀ {Hc : Hp}, Keep (fun a => a ∈ SA ∨ a = Dd) H1 Hc → EnvB K SA [] (· ≠ Dd) Hc (wipe σ vs) (wipeE (demote env) vs) := fun k => by
        obtain ⟨⟨FL, r, hf⟩, nd, sa, tk⟩ := eb0
        exact ⟨⟨FL, r.keep k (fun a ha => nomatch ha) (fun a ha z => z.elim (hf a ha).2.1 (hf a ha).2.2), hf⟩, nd, sa, tk⟩
      refine ⟨fun i n Hc => n = its.length - i ∧ i ≤ its.length ∧ ∃ (acc rest : List D) (Sc : Sto), Acc K SA Dd H1 Hc acc Sc ∧ lc2Loop fg ft fi1 fg1 ft1 fe m (wipeE (demote env) vs) vs1 (its.drop i) Sc = .ok rest S2 ∧ ys = acc ++ rest, ?_, ?_⟩
      · exact ⟨its.length, by simp, Nat.zero_le _, [], ys, S1, ⟨⟨[], [], upd_same, .nil, (fun _ z => nomatch z), List.nodup_nil, fun _ z => nomatch z⟩, .new hD, s1.so.ol.keep (R := fun _ => False) (.new hD) fun _ _ z => z⟩, eL, rfl⟩
      · rintro i n Hc ⟨rfl, hin, acc, rest, Sc, hc1, hc8, hc9⟩
        have iw := io.go _ Hc hc1.k (fun a ha z => z.elim (io.sa a ha) fun q => hDP (q ▸ ha))
        by_cases hlt : i < its.length
        · have hdrop : its.drop i = its[i] :: its.drop (i + 1) := List.drop_eq_getElem_cons hlt
          rw [hdrop] at hc8
          unfold lc2Loop at hc8
          obtain ⟨env1, Sa, q1, hc8⟩ := bind_ok hc8
          obtain ⟨b, Sb, q2, hc8⟩ := bind_ok hc8
          have q1' := ne_ok q1
          have q2' := ne_ok q2
          refine .inr ⟨iw.1 i hlt, fun Hn => i + 1 ≤ its.length ∧ ∃ (acc rest : List D) (Sc : Sto), Acc K SA Dd H1 Hn acc Sc ∧ lc2Loop fg ft fi1 fg1 ft1 fe m (wipeE (demote env) vs) vs1 (its.drop (i + 1)) Sc = .ok rest S2 ∧ ys = acc ++ rest, fun Hn hn => ⟨its.length - (i + 1), by omega, rfl, hn⟩, fun x H3 hy => ?_⟩
          obtain ⟨k3, d, L, ed, rd, hLP⟩ := iw.2.2 i x H3 hlt hy
          have ed' : d = its[i] := by
            rw [List.getElem?_eq_getElem hlt] at ed
            exact (Option.some.inj ed).symm
          subst ed'
          have a3 : Acc K SA Dd H1 H3 acc Sc := hc1.step hDS (k3.mono fun _ z => z.elim) (hc1.so.keep k3 fun _ _ z => z)
          refine lc_turn hg hss (ebAt a3.k) a3.so rd hLP (fun e => by subst e; exact io.md) io.sa hDP q1' fun σ4 H4 k4 eb4 so4 w4 => ⟨w4, ?_⟩
          have a4 := a3.step hDS k4 so4
          refine ht σ4 H4 env1 SA [] Sa eb4.ok so4 _ ?_
          rw [q2']
          intro H5 s5
          have a5 := a4.step hDS s5.k s5.so.ol
          have eb5 : EnvB K SA [] (· ≠ Dd) H5 σ4 env1 := eb4.keep s5.k fun _ z => z
          cases b with
          | false =>
            show i + 1 ≤ its.length ∧ _
            exact ⟨hlt, acc, rest, Sb, a5, hc8, hc9⟩
          | true =>
            have hc8' : ((fi1 env1 Sb).ne.bind fun x S3 => if lc2Md x.2 then
              (lcLoop fg1 ft1 fe x.2 (wipeE env1 vs1) x.1 S3).bind fun ys S4 => (lc2Loop fg ft fi1 fg1 ft1 fe m (wipeE (demote env) vs) vs1 (its.drop (i + 1)) S4).bind fun zs S5 => .ok (ys ++ zs) S5 else .no) = .ok rest S2 := hc8
            obtain ⟨x1, S3, q3, hc8'⟩ := bind_ok hc8'
            have q3' := ne_ok q3
            split at hc8'
            · rename_i hm1
              obtain ⟨zin, S4, q4, hc8'⟩ := bind_ok hc8'
              obtain ⟨zout, S5, q5, hc8'⟩ := bind_ok hc8'
              cases hc8'
              obtain ⟨its1, m1⟩ := x1
              simp only at hm1 q4
              have hD5 : H5 Dd ≠ none := by
                obtain ⟨⟨av, La, z, _⟩, _⟩ := a5
                rw [z]; exact fun z => nomatch z
              show ti1 σ4 H5 _
              refine hi1 σ4 H5 env1 SA [Dd] Sb (eb5.hold hD5 hDS) s5.so.ol _ ?_
              rw [q3']
              intro H6 s6 J1 P1 io1
              have a6 := a5.step hDS s6.k s6.so.ol
              have eb6 : EnvB K SA [] (· ≠ Dd) H6 (wipe σ4 vs1) (wipeE env1 vs1) := (eb5.keep s6.k fun _ z => z).wipe vs1
              have hDP1 : Dd ∉ P1 := by
                have md := io1.md
                cases m1 with
                | pur => have e2 : P1 = [] := md; rw [e2]; exact fun z => nomatch z
                | own => exact fun z => hD5 (md.2 Dd z)
                | frn => exact fun z => md Dd z (by simp)
                | als => cases hm1
                | bad => cases hm1
              refine ⟨fun j k Hd => k = its1.length - j ∧ j ≤ its1.length ∧ ∃ (acc1 rest1 : List D) (Sd : Sto), Acc K SA Dd H1 Hd acc1 Sd ∧ Keep (fun a => a ∈ SA ∨ a = Dd) H6 Hd ∧ lcLoop fg1 ft1 fe m1 (wipeE env1 vs1) (its1.drop j) Sd = .ok rest1 S4 ∧ acc ++ zin = acc1 ++ rest1, ?_, ?_⟩
              · exact ⟨its1.length, by simp, Nat.zero_le _, acc, zin, S3, a6, .refl, q4, rfl⟩
              · rintro j k Hd ⟨rfl, hjn, acc1, rest1, Sd, d1, d2, d8, d9⟩
                have iw1 := io1.go _ Hd d2 (fun a ha z => z.elim (io1.sa a ha) fun q => hDP1 (q ▸ ha))
                by_cases hlt1 : j < its1.length
                · have hdrop1 : its1.drop j = its1[j] :: its1.drop (j + 1) := List.drop_eq_getElem_cons hlt1
                  rw [hdrop1] at d8
                  unfold lcLoop at d8
                  obtain ⟨env2, Se, p1, d8⟩ := bind_ok d8
                  obtain ⟨b1, Sf, p2, d8⟩ := bind_ok d8
                  have p1' := ne_ok p1
                  have p2' := ne_ok p2
                  refine .inr ⟨iw1.1 j hlt1, fun Hn => j + 1 ≤ its1.length ∧ ∃ (acc1 rest1 : List D) (Sd : Sto), Acc K SA Dd H1 Hn acc1 Sd ∧ Keep (fun a => a ∈ SA ∨ a = Dd) H6 Hn ∧ lcLoop fg1 ft1 fe m1 (wipeE env1 vs1) (its1.drop (j + 1)) Sd = .ok rest1 S4 ∧ acc ++ zin = acc1 ++ rest1, fun Hn hn => ⟨its1.length - (j + 1), by omega, rfl, hn⟩, fun x1 H7 hy1 => ?_⟩
                  obtain ⟨k7, d', L', ed1, rd1, hLP1⟩ := iw1.2.2 j x1 H7 hlt1 hy1
                  have ed1' : d' = its1[j] := by
                    rw [List.getElem?_eq_getElem hlt1] at ed1
                    exact (Option.some.inj ed1).symm
                  subst ed1'
                  have a7 : Acc K SA Dd H1 H7 acc1 Sd := d1.step hDS (k7.mono fun _ z => z.elim) (d1.so.keep k7 fun _ _ z => z)
                  have k67 : Keep (fun a => a ∈ SA ∨ a = Dd) H6 H7 := d2.trans (k7.mono fun _ z => z.elim)
                  have eb7 : EnvB K SA [] (· ≠ Dd) H7 (wipe σ4 vs1) (wipeE env1 vs1) := by
                    obtain ⟨⟨FL, r, hf⟩, nd, sa, tk⟩ := eb6
                    exact ⟨⟨FL, r.keep k67 (fun a ha => nomatch ha) (fun a ha z => z.elim (hf a ha).2.1 (hf a ha).2.2), hf⟩, nd, sa, tk⟩
                  refine lc_turn hg1 hss1 eb7 a7.so rd1 hLP1 (fun e => by subst e; exact io1.md) io1.sa hDP1 p1' fun σ8 H8 k8 eb8 so8 w8 => ⟨w8, ?_⟩
                  have a8 := a7.step hDS k8 so8
                  refine ht1 σ8 H8 env2 SA [] Se eb8.ok so8 _ ?_
                  rw [p2']
                  intro H9 s9
                  have a9 := a8.step hDS s9.k s9.so.ol
                  have eb9 : EnvB K SA [] (· ≠ Dd) H9 σ8 env2 := eb8.keep s9.k fun _ z => z
                  have k69 : Keep (fun a => a ∈ SA ∨ a = Dd) H6 H9 := (k67.trans (k8.mono fun _ z => .inl z)).trans (s9.k.mono fun _ z => .inl z)
                  cases b1 with
                  | false =>
                    show j + 1 ≤ its1.length ∧ _
                    exact ⟨hlt1, acc1, rest1, Sf, a9, k69, d8, d9⟩
                  | true =>
                    have d8' : ((fe env2 Sf).ne.bind fun y S3 => (match upO y with
                      | some _ => (lcLoop fg1 ft1 fe m1 (wipeE env1 vs1) (its1.drop (j + 1)) S3).bind fun ys S4 => .ok (y.1 :: ys) S4
                      | none => .no)) = .ok rest1 S4 := d8
                    obtain ⟨y, Sy, p3, d8'⟩ := bind_ok d8'
                    have p3' := ne_ok p3
                    cases e6 : upO y with
                    | none => rw [e6] at d8'; cases d8'
                    | some my =>
                      rw [e6] at d8'
                      obtain ⟨rest', Sr, p4, d8'⟩ := bind_ok d8'
                      cases d8'
                      show te σ8 H9 _
                      refine he σ8 H9 env2 SA [] Sf eb9.ok s9.so _ ?_
                      rw [p3']
                      intro H10 s10 vy Ly xy
                      obtain ⟨accV, hD10, hln, a11⟩ := a9.add hDS s10 e6 xy
                      refine ⟨accV, hD10, ?_, hlt1, acc1 ++ [y.1], rest', Sy, a11, (k69.trans (s10.k.mono fun _ z => .inl z)).trans ((Keep.set (S := fun x => x = Dd) hD10 rfl rfl).mono fun _ z => .inr z), p4, by rw [d9, List.append_assoc]; rfl⟩
                      have e7 : (acc ++ zin).length = (acc1 ++ y.1 :: rest').length := by rw [d9]
                      have e8 : ys.length = (acc ++ (zin ++ zout)).length := by rw [hc9]
                      simp only [List.length_append, List.length_cons] at e7 e8
                      omega
                · have ej : j = its1.length := by omega
                  subst ej
                  rw [List.drop_length] at d8
                  cases d8
                  rw [List.append_nil] at d9
                  refine .inl ⟨iw1.2.1, hlt, acc1, zout, _, d1, q5, ?_⟩
                  rw [hc9, ← d9, List.append_assoc]
            · cases hc8'
        · have ei : i = its.length := by omega
          subst ei
          rw [List.drop_length] at hc8
          cases hc8
          rw [List.append_nil] at hc9
          subst hc9
          refine .inl ⟨iw.2.1, ?_⟩
          obtain ⟨⟨accV, La, c1, c2, c3, c4, c5⟩, c6, c7⟩ := hc1
          have kS : Keep (· ∈ SA) H1 Hc := ⟨fun a o e q => by
            by_cases ea : a = Dd
            · subst ea; rw [hD] at e; cases e
            · exact c6.keep a o e (q.imp (fun n z => z.elim n ea) id), c6.trk⟩
          have st : Stp K SA OL H1 S2 Hc := ⟨kS, c7.ol⟩
          have np : Dd ∉ La := fun z => (c3 Dd z).2 rfl
          exact h1' Hc st (.ref Dd) (Dd :: La) ⟨.lst c1 c2, fun a ha => (List.mem_cons.mp ha).elim (fun z => by rw [z]; exact hDS) fun z => (c3 a z).1, List.nodup_cons.mpr ⟨np, c4⟩, fun a ha => (List.mem_cons.mp ha).elim (fun z => by rw [z]; exact hH0) fun z => s1.fresh (c5 a z)⟩
    · exact h1'.elim
end
end Mi

set_option Elab.async false
set_option linter.all false
set_option maxRecDepth 100000
set_option maxHeartbeats 4000000
namespace Mi
open PySem PySem.Spec PyProof.Rows L2

section
variable {K : PySem.W.Frag} {E : XK} {SA OL : List Addr} {H H1 : Hp} {σ : L2.St} {env : Env} {S S1 : Sto} {te to : TE} {fe fo : FE} {tr : TA} {fr : FA}
/-! ### methods of a text -/
def fM1 (g : G2) (fo fe : FE) : FE := fun env S => (fo env S).bind fun x S1 => match x.1 with
  | .str _ => (fe env S1).bind fun y S2 => g x y S2
  | _ => .no
theorem evf_m1 {r : V → List V → Hp → VK → Prop} {g : G2} (hr : R2F K E (fun x y => r x [y]) g) (ho : EvF K E to fo) (he : EvF K E te fe) : EvF K E (tM1 r to te) (fM1 g fo fe) := by
  intro σ H env SA OL S eo so Q h
  refine ho σ H env SA OL S eo so _ ((After.seq h).imp fun x S1 H1 _ s1 h1 v1 L1 x1 => ?_)
  obtain ⟨d, m⟩ := x
  cases d with
  | str z =>
    refine ⟨⟨z, str_of x1⟩, ?_⟩
    have eo1 := s1.envOk eo
    refine he σ H1 env SA OL S1 eo1 s1.so _ ((After.seq h1).imp fun y S2 H2 _ s2 h2 v2 L2 x2 => ?_)
    exact hr SA OL H H1 H2 S2 v1 _ _ L1 v2 _ _ L2 s2.so ⟨eo.trk, s1.k.trk, s2.k.trk, x1.keep s2, x2, Rep.trk _ _ _ x1.rep⟩ Q h2
  | _ => exact h1.elim
abbrev rSplit : V → List V → Hp → VK → Prop := fun x xs H Q => ∃ a b, x = .str a ∧ xs = [.str b] ∧ (b.length == 0) = false ∧ a.length + 2 ≤ sizeLine ∧ rNewStrs (Txt.split a b) H Q
def dStrs (l : List Str) : List D := l.map D.str
theorem rep_strs {SA : List Addr} : ∀ l : List Str, RepAll K SA H (l.map V.str) (dStrs l) []
  | [] => .nil
  | x :: l => .cons (L1 := []) (L2 := []) (.str x) (rep_strs l)
def kSplit : G2 := fun x y S => match x.1, y.1 with
  | .str a, .str b => if (b.length == 0) = false ∧ a.length + 2 ≤ sizeLine then .ok (.lst (dStrs (Txt.split a b)), .own) S else .no
  | _, _ => .no
theorem r2_split : R2F K E (fun x y => rSplit x [y]) kSplit := by
  intro SA OL H0 H1 H S v1 d1 m1 L1 v2 d2 m2 L2 so w Q h
  unfold kSplit at h
  simp only at h
  split at h
  · rename_i a b
    split at h
    · rename_i hz
      have e1 := str_of w.a
      have e2 := str_of w.b
      subst e1 e2
      refine ⟨a, b, rfl, rfl, hz.1, hz.2, fun p hp => ?_⟩
      have s2 : Stp K SA OL H S (upd H p (.lst ((Txt.split a b).map V.str))) := (Stp.here so).new hp
      have h0 : H0 p = none := by
        cases q : H0 p with
        | none => rfl
        | some o => exact absurd hp (w.k1 p (w.k0 p (by rw [q]; exact fun z => nomatch z)))
      exact h _ s2 (.ref p) [p] ⟨.lst upd_same (rep_strs _), fun x hx => by simp at hx; rw [hx]; exact fun z => so.trk p z hp, by simp, fun x hx => by simp at hx; rw [hx]; exact h0⟩
    · exact h.elim
  · exact h.elim
abbrev rJoin (K : PySem.W.Frag) : V → List V → Hp → VK → Prop := fun x xs H Q => ∃ a p, ∃ ys : List Str, x = .str a ∧ xs = [.ref p] ∧ (SqL K H p (ys.map V.str) ∨ SqT K H p (ys.map V.str)) ∧
  (ys.map (·.length)).sum + ys.length * a.length ≤ 16777216 ∧ Q (.str (Txt.join a ys)) H
def unstrs : List D → Option (List Str)
  | [] => some []
  | .str x :: l => (unstrs l).map (x :: ·)
  | _ :: _ => none
theorem unstrs_rep {SA : List Addr} : ∀ {l : List D} {vs : List V} {L : List Addr} {ys : List Str}, RepAll K SA H vs l L → unstrs l = some ys → vs = ys.map V.str
  | [], _, _, _, h, e => by cases h; cases e; rfl
  | d :: l, _, _, ys, h, e => by
    cases h with
    | cons h1 h2 =>
      cases d with
      | str x =>
        simp only [unstrs, Option.map_eq_some_iff] at e
        obtain ⟨r, e1, rfl⟩ := e
        cases h1
        rw [unstrs_rep h2 e1]
        rfl
      | _ => cases e
@[simp] theorem unstrs_dStrs (l : List Str) : unstrs (dStrs l) = some l := by
  induction l with
  | nil => rfl
  | cons x l ih =>
    show (unstrs (dStrs l)).map (x :: ·) = _
    rw [ih]
    rfl
def kJoin : G2 := fun x y S => match x.1, y.1.seqOf?.bind unstrs with
  | .str a, some ys => if (ys.map (·.length)).sum + ys.length * a.length ≤ 16777216 then .ok (.str (Txt.join a ys), .pur) S else .no
  | _, _ => .no
theorem r2_join : R2F K E (fun x y => rJoin K x [y]) kJoin := by
  intro SA OL H0 H1 H S v1 d1 m1 L1 v2 d2 m2 L2 so w Q h
  unfold kJoin at h
  simp only at h
  split at h
  · rename_i a ys e
    split at h
    · rename_i hz
      have e1 := str_of w.a
      subst e1
      obtain ⟨l, e3, e4⟩ := Option.bind_eq_some_iff.mp e
      obtain ⟨p, vs, L', rfl, hs, r, _⟩ := w.b.rep.seqOf e3
      have ev := unstrs_rep r e4
      subst ev
      exact ⟨a, p, ys, rfl, rfl, hs, hz, h H (.here so) _ [] (val_pur (.str _))⟩
    · exact h.elim
  · exact h.elim
/-- int(a text) -/
abbrev rIntS : List V → Hp → VK → Prop := fun xs H Q => ∃ a n, xs = [.str a] ∧ PySem.intText? a = some n ∧ a.length ≤ 640 ∧ Q (.int n) H
def kIntS : GL := fun x S => match x.1 with
  | [.str a] => (match PySem.intText? a with
    | some n => if a.length ≤ 640 then .ok (.int n, .pur) S else .no
    | none => .no)
  | _ => .no
theorem rl_intS : RlF K E rIntS kIntS := by
  intro SA OL H0 H S vs ds m L so eo k w Q h
  unfold kIntS at h
  simp only at h
  split at h
  · rename_i a
    obtain ⟨v, rfl, w1⟩ := one_of w
    have ev := str_of w1
    subst ev
    split at h
    · rename_i n e
      split at h
      · rename_i hz
        exact ⟨a, n, rfl, e, hz, h H (.here so) _ [] (val_pur (.int _))⟩
      · exact h.elim
    · exact h.elim
  · exact h.elim

/-! ### repr -/
abbrev rRepr (K : PySem.W.Frag) : List V → Hp → VK → Prop := fun xs H Q => ∃ v p, xs = [v] ∧ Dp K H v p ∧ p.showable = true ∧ p.hasDict = false ∧ p.depth ≤ 60 ∧ p.shown.length ≤ sizeLine ∧ Q (.str p.shown) H
theorem call_repr {X : Cx} (hg : X.A.guards = some []) (hu : X.A.units + 65 < cLine) : CallR X (.builtin "repr") (rRepr X.K) := by
  intro pins s σ H xs us Q I r h
  obtain ⟨v, p, rfl, hd, hs, hn, hp, hz, q⟩ := h
  obtain ⟨u, rfl, ru⟩ := r.one
  have fin : ∀ t k, EP X pins σ Q (.str p.shown t) { s with toks := k } := fun t k => ⟨.str p.shown, H, I.tok k, ⟨t, rfl⟩, q⟩
  cases hd with
  | non =>
    cases ru
    exact PySem.P.repr_of_none (by simpa only [PyData.shown] using fin _ _)
  | bl b =>
    cases ru
    exact PySem.P.repr_of_bool (by simpa only [PyData.shown] using fin _ _)
  | int i =>
    obtain ⟨t, rfl⟩ := ru
    have hs' : i.natAbs.log2 < 1920 := by simpa [PyData.showable] using hs
    exact PySem.P.repr_of_int hs' (by simpa only [PyData.shown] using fin _ _)
  | str x =>
    obtain ⟨t, rfl⟩ := ru
    have hz' : (reprText x).length ≤ sizeLine := by simpa only [PyData.shown] using hz
    exact PySem.P.repr_of_str (by simpa only [PyData.shown] using fin _ _) hz'
  | lst h1 h2 =>
    cases ru
    obtain ⟨as, rd⟩ := Dp.reads I _ _ _ (Dp.lst h1 h2) (rfl : RelV (.ref _) _)
    exact repr_of_reads' rd hs (PyData.noDict_hsm hn) hg (by omega) (fun _ _ e => e) (fun h' u tk hk => ⟨.str _, H, I.kept hk, ⟨u, rfl⟩, q⟩) hz
  | tup h1 h2 =>
    cases ru
    obtain ⟨as, rd⟩ := Dp.reads I _ _ _ (Dp.tup h1 h2) (rfl : RelV (.ref _) _)
    exact repr_of_reads' rd hs (PyData.noDict_hsm hn) hg (by omega) (fun _ _ e => e) (fun h' u tk hk => ⟨.str _, H, I.kept hk, ⟨u, rfl⟩, q⟩) hz
def kRepr : GL := fun x S => match x.1 with
  | [d] => (match d.toPy with
    | some p => if p.showable = true ∧ p.hasDict = false ∧ p.depth ≤ 60 ∧ p.shown.length ≤ sizeLine then .ok (.str p.shown, .pur) S else .no
    | none => .no)
  | _ => .no
theorem rl_repr : RlF K E (rRepr K) kRepr := by
  intro SA OL H0 H S vs ds m L so eo k w Q h
  unfold kRepr at h
  simp only at h
  split at h
  · rename_i d
    obtain ⟨v, rfl, w1⟩ := one_of w
    split at h
    · rename_i p e
      split at h
      · rename_i hz
        exact ⟨v, p, rfl, Rep.dp _ _ _ p w1.rep e, hz.1, hz.2.1, hz.2.2.1, hz.2.2.2, h H (.here so) _ [] (val_pur (.str _))⟩
      · exact h.elim
    · exact h.elim
  · exact h.elim
end
end Mi

set_option Elab.async false
set_option linter.all false
set_option maxRecDepth 100000
set_option maxHeartbeats 4000000
namespace Mi
open PySem PySem.Spec PyProof.Rows L2

/-! ### defs: what they compute -/
abbrev FF := List D → Sto → Res (D × Md)
def PostF (K : PySem.W.Frag) (E : XK) (SA : List Addr) (H : Hp) (r : Res (D × Md)) (Q : VK) : Prop := match r with
  | .ok x S' => ∀ v H' SA' L', SStp K SA [] H S' H' SA' [] → Rep K SA' H' v x.1 L' → (∀ a ∈ L', a ∉ SA') → RtMd [] H x.2 L' → Q v H'
  | .err c S' => ∀ H' SA', SStp K SA [] H S' H' SA' [] → E (.ref (He.ga K c)) none H'
  | .no => False
/-- the promise of a def of n parameters that computes F -/
def spF (K : PySem.W.Frag) (n : Nat) (F : FF) : Sp := fun vs H Q E => vs.length = n ∧ ∃ (SA : List Addr) (S : Sto) (ds : List D) (L : List Addr), RepAll K SA H vs ds L ∧ (∀ a ∈ L, a ∉ SA) ∧ StoOk K SA [] H S ∧ PostF K E SA H (F ds S) Q
/-- a def that runs where no guard is held -/
structure FnG (P : Program) (w : World) (K : PySem.W.Frag) (mg : Str → Option Value) (base : Heap) (CX : CXT) (k : Nat) (f : Addr) (fd : FuncData) (ps : List Str) (sp : Sp) : Prop where
  len : ∀ vs H Q E, sp vs H Q E → vs.length = ps.length
  go : ∀ (A : Around) (outer : List PySem.Env) (s : Shared) (H : Hp) (args : Args) (us : List Value) (vs : List V) (Q : VK) (E : XK), A.guards = some [] → Room k A → Env0 P w K mg base A outer s H → BindsTo s fd args (ps.zip us) → Vals vs us → sp vs H Q E →
    codeAny (model P w) A (.call (.ref f) args) (CR CX outer P w H s Q E) s
theorem FnG.mono {P : Program} {w : World} {K : PySem.W.Frag} {mg : Str → Option Value} {base : Heap} {CX : CXT} {j k : Nat} {f : Addr} {fd : FuncData} {ps : List Str} {sp : Sp} (F : FnG P w K mg base CX j f fd ps sp) (h : j ≤ k) :
    FnG P w K mg base CX k f fd ps sp := ⟨F.len, fun A outer s H args us vs Q E hg hr => F.go A outer s H args us vs Q E hg (hr.mono h)⟩

section
variable {X : Cx} {CX : CXT} {k : Nat} {f C : Addr} {fd : FuncData} {ps : List Str} {sp : Sp} {E : XK} {x m : Str} {p pos apos : Pos} {e o : Expr} {es : List Expr} {ta : TE} {t : TA}
theorem run_g {pins : List (Addr × Obj)} {σ : L2.St} {H : Hp} {s : Shared} {Q : VK} {us : List Value} {vs : List V} (F : FnG X.prog X.w X.K X.mg X.base CX k f fd ps sp) (hg : X.A.guards = some []) (hr : Room k X.A) (hb : Binds X.K fd ps []) (hx : Passes CX X E)
    (I : Inv X pins σ H s) (r : Vals vs us) (h : sp vs H Q E) : wpAny (model X.prog X.w) X.A (call (.ref f) us) (EP X pins σ Q) X.xe s := by
  have hl : (us ++ []).length = ps.length := by rw [List.append_nil, ← r.length]; exact F.len _ _ _ _ h
  have hb' := hb s us I.kIn hl
  rw [List.append_nil] at hb'
  refine wpAny_call (codeAny_mono (F.go X.A X.stack s H ⟨us, []⟩ us vs Q E hg hr I.env0 hb' r h) fun out s' hq => ?_)
  match out, hq with
  | .error e, hq => exact hx pins σ H s e s' I hq
  | .ok (.ret u), hq => exact I.after hq
  | .ok .next, hq => exact False.elim hq
  | .ok .brk, hq => exact False.elim hq
  | .ok .cont, hq => exact False.elim hq
theorem pe_callF (F : FnG X.prog X.w X.K X.mg X.base CX k f fd ps sp) (hG : X.A.guards = some []) (hr : Room k X.A) (hg : Gl X x) (hm : X.mg x = some (.ref f)) (hk : PySem.W.keepIn X.K (.ref f) = true) (hb : Binds X.K fd ps []) (hx : Passes CX X E)
    (ha : PA X (e :: es) t) (hdb : (x == ("__debug__" : Str)) = false := by decide) (he : starEach (e :: es) X.env = (false, eval e X.env) :: starEach es X.env := by rfl) (hpl : (backTo pos (starEach es X.env)).any (·.1) = false := by rfl) :
    PE X (.Call (.Name x p) (e :: es) [] pos) (tCall sp [] E t) := by
  constructor
  intro pins s σ H Q I h
  refine wpAny_Call_Name_kw (ld_glob I hg hm ?_ hdb)
  refine PySem.W.callWith_K (h₀ := X.base) I.ok.mod.kin hk (thn (ha.run pos pins s σ H _ I h) fun us s1 ⟨vs, H1, I1, r, q⟩ => ⟨I1.kIn, ?_⟩) he hpl
  have q' : sp vs H1 Q E := by
    have q2 : sp (vs ++ []) H1 Q E := q
    rwa [List.append_nil] at q2
  exact run_g F hG hr hb hx I1 r q'
end
section
variable {K : PySem.W.Frag} {E : XK} {SA OL : List Addr} {H H1 : Hp} {σ : L2.St} {env : Env} {S S1 : Sto} {te to : TE} {fe fo : FE} {tr : TA} {fr : FA}
def sameLen (r : Res (D × Md)) (S1 : Sto) : Res (D × Md) := match r with
  | .ok y S2 => if S2.length = S1.length then .ok y S2 else .no
  | .err c S2 => if S2.length = S1.length then .err c S2 else .no
  | .no => .no
def fCall (n : Nat) (F : FF) (fa : FA) : FE := fun env S => (fa env S).bind fun x S1 => if x.1.length = n then sameLen (F x.1 S1) S1 else .no
theorem evf_call {n : Nat} {F : FF} (ha : EaF K E tr fr) : EvF K E (tCall (spF K n F) [] E tr) (fCall n F fr) := by
  intro σ H env SA OL S eo so Q h
  refine ha σ H env SA OL S eo so _ ((After.seq h).imp fun x S1 H1 _ s1 h1 vs L x1 => ?_)
  split at h1
  · rename_i hn
    rw [List.append_nil]
    refine ⟨by rw [x1.rep.length]; exact hn, SA, S1, x.1, L, x1.rep, x1.sa, s1.so.ol, ?_⟩
    have same : ∀ {S2 : Sto} {H' : Hp} {SA' : List Addr}, S2.length = S1.length → SStp K SA [] H1 S2 H' SA' [] → SA' = SA ∧ Stp K SA OL H1 S2 H' := fun {S2 H' SA'} hl st => by
      obtain ⟨more, e, _⟩ := st.sa
      have h1 := st.so.len
      have h2 := s1.so.len
      rw [e, List.length_append] at h1
      have h3 : more = [] := List.length_eq_zero_iff.mp (by omega)
      subst h3
      rw [List.append_nil] at e
      subst e
      exact ⟨rfl, ⟨st.k.mono (fun a z => z.elim id (fun q => nomatch q)), st.so.ol⟩⟩
    cases e : F x.1 S1 with
    | no => rw [e] at h1; exact h1.elim
    | err c S2 =>
      rw [e] at h1
      have h2 : After K E SA OL H1 (if S2.length = S1.length then (.err c S2 : Res (D × Md)) else .no) (fun dm _ H' => ∀ v L, Val K SA OL H H' v dm.1 dm.2 L → Q v H') := h1
      split at h2
      · rename_i hl
        intro H' SA' st
        exact h2 H' (same hl st).2
      · exact h2.elim
    | ok y S2 =>
      rw [e] at h1
      have h2 : After K E SA OL H1 (if S2.length = S1.length then (.ok y S2 : Res (D × Md)) else .no) (fun dm _ H' => ∀ v L, Val K SA OL H H' v dm.1 dm.2 L → Q v H') := h1
      split at h2
      · rename_i hl
        intro v H' SA' L' st r sL md
        obtain ⟨eSA, st'⟩ := same hl st
        subst eSA
        refine h2 H' st' v L' (Val.back s1 ⟨r, sL, ?_⟩)
        obtain ⟨d, m⟩ := y
        cases m with
        | pur => exact md
        | own => exact ⟨md.1, fun a ha => (md.2 a ha).elim (fun z => nomatch z) id⟩
        | als => exact md.elim
        | frn => exact md.elim
        | bad => exact md.elim
      · exact h2.elim
  · exact h1.elim

/-! ### a def's body -/
def startEnv (n : Nat) (ds : List D) : Env := ds.map (fun d => some (d, if noLst d then Md.pur else Md.frn)) ++ List.replicate (n - ds.length) none
def runF (n : Nat) (fs : FS) : FF := fun ds S => match fs (startEnv n ds) S with
  | .ok (.nx _) S' => .ok (.non, .pur) S'
  | .ok (.rt d m) S' => .ok (d, m) S'
  | .err c S' => .err c S'
  | _ => .no
theorem envRep_none (n : Nat) : EnvRep K SA H (List.replicate n none) (List.replicate n none) [] [] := by
  induction n with
  | zero => exact .nil [] fun _ z => nomatch z
  | succ n ih => exact .none ih
theorem envRep_start (n : Nat) : ∀ {vs : List V} {ds : List D} {L : List Addr}, RepAll K SA H vs ds L → ∃ FL, EnvRep K SA H (vs.map some ++ List.replicate n none) (ds.map (fun d => some (d, if noLst d then Md.pur else Md.frn)) ++ List.replicate n none) [] FL ∧ ∀ a ∈ FL, a ∈ L
  | _, [], _, h => by
    cases h
    exact ⟨[], envRep_none n, fun _ z => nomatch z⟩
  | _, d :: ds, _, h => by
    cases h with
    | @cons v _ L1 vs _ L2 h1 h2 =>
      obtain ⟨FL, r, s⟩ := envRep_start n h2
      by_cases hn : noLst d = true
      · have e := Rep.noL _ _ _ h1 hn
        subst e
        refine ⟨FL, ?_, fun a ha => s a ha⟩
        show EnvRep K SA H (some v :: _) (some (d, if noLst d then Md.pur else Md.frn) :: _) [] FL
        rw [if_pos hn]
        exact .pur h1 r
      · refine ⟨L1 ++ FL, ?_, fun a ha => (List.mem_append.mp ha).elim (fun z => List.mem_append_left _ z) fun z => List.mem_append_right _ (s a z)⟩
        show EnvRep K SA H (some v :: _) (some (d, if noLst d then Md.pur else Md.frn) :: _) [] _
        rw [if_neg hn]
        exact .frn h1 r
theorem envOk_start {N : List Str} {vs : List V} {ds : List D} {L : List Addr} (r : RepAll K SA H vs ds L) (sL : ∀ a ∈ L, a ∉ SA) : EnvOk K SA [] H (L2.start N vs) (startEnv N.length ds) := by
  unfold L2.start startEnv
  rw [r.length]
  obtain ⟨FL, e, s⟩ := envRep_start (N.length - ds.length) r
  exact ⟨⟨FL, e, fun a ha => ⟨(fun z => nomatch z), sL a (s a ha)⟩⟩, List.nodup_nil, fun _ z => nomatch z⟩
theorem body_meets {N : List Str} {n : Nat} {fs : FS} {t : TS} {vs : List V} {Q : VK} (ht : EsF K E t fs) (h : spF K n (runF N.length fs) vs H Q E) : t { nx := fun _ H' => Q .non H', rt := Q } (L2.start N vs) H := by
  obtain ⟨_, SA, S, ds, L, r, sL, so, hp⟩ := h
  refine ht _ H _ SA [] S (envOk_start r sL) so _ ?_
  unfold runF at hp
  cases e : fs (startEnv N.length ds) S with
  | no => rw [e] at hp; exact hp.elim
  | err c S' => rw [e] at hp; exact hp
  | ok o S' =>
    rw [e] at hp
    cases o with
    | nx e => exact fun σ' H' SA' OL' s _ => hp .non H' SA' [] ⟨s.k, s.sa, (fun _ z => nomatch z), s.so.ol⟩ .non (fun _ z => nomatch z) rfl
    | bk e => exact hp.elim
    | ct e => exact hp.elim
    | rt d m => exact fun v H' SA' L' s r sL md => hp v H' SA' L' s r sL md
end
section
variable {P : Program} {w : World} {K : PySem.W.Frag} {mg : Str → Option Value} {base : Heap} {x qual : Str} {params : Arguments} {body : List Stmt} {scope : Scope} {dvs : List V} {kws : List (Str × V)} {f : Addr} {fd : FuncData}
/-- the rule of a def, by its body's reading and function -/
theorem fnG_body {CX : CXT} {N ps : List Str} {k n : Nat} {fs : FS} (F : FunD K x qual params body scope dvs kws f fd) (S : FnScope N ps scope) (hn : ps.length = n)
    (hbody : ∀ (cdv : Value) (A : Around) (outer : List PySem.Env) (s : Shared) (H : Hp) (E : XK), A.guards = some [] → Room k (A.deeper (envOfC qual scope s.heap.objs.size f cdv)) →
      ∃ t, PSs (cxOf CX P w K mg base N qual scope f cdv A outer s H E) body t ∧ EsF K E t fs) : FnG P w K mg base CX (k + 1) f fd ps (spF K n (runF N.length fs)) := by
  obtain ⟨oc, od, dV, kV, doc, pm, an, cdv, ct, osl, hfd, lk, hcd, _, _⟩ := F.ex
  subst hfd
  refine ⟨fun vs H Q E h => h.1.trans hn.symm, fun A outer s H args us vs Q E hg hr e0 hb r hsp => ?_⟩
  have hl : vs.length = ps.length := hsp.1.trans hn.symm
  have inK : K.In s.heap := e0.mod.kin.keeps fun b o e => (e0.bs b o e).1
  have noL : s.heap.NoLimit := e0.mod.nolimit.keeps fun b o e => (e0.bs b o e).1
  have kinds : ∀ y ∈ ps.zip us, scope.names.lookup y.1 = some .local ∨ (scope.names.lookup y.1 = some .cell ∧ ((cellsFrom (s.heap.objs.size + 1) scope.names []).lookup y.1).isSome = true) := by
    rintro ⟨n, v⟩ hy
    exact (S.par n (List.of_mem_zip hy).1).imp id fun q => ⟨q, PySem.W.cellsFrom_some _ _ _ (.inl q)⟩
  refine codeAny_call_function hr.depth (inK _ _ lk) rfl S.co S.gen rfl (PySem.W.codeRec_of inK hcd) (hb _ _ _ _ ?_)
  refine wpAny_newFunctionEnv_cells S.kind kinds fun env he s1 xc => ?_
  subst he
  refine ⟨noL.keeps xc.toInCall.keep, codeAny_func ?_⟩
  obtain ⟨t, ht, hv⟩ := hbody cdv A outer s H E hg (hr.deeper _)
  have I : Inv (cxOf CX P w K mg base N qual scope f cdv A outer s H E) [] (L2.start N vs) H s1 := inv_start S hr.hd e0 hl r xc
  refine wpAny_mono (ht.run [] s1 (L2.start N vs) H _ I (body_meets hv hsp)) (fun out s' hs => ?_) fun e s' hs => hs
  have fin : ∀ {σ' : L2.St} {H' : Hp} {v : V} {u : Value}, Inv (cxOf CX P w K mg base N qual scope f cdv A outer s H E) [] σ' H' s' → RelV v u → Q v H' → CE outer P w H s Q u s' := by
    intro σ' H' v u J rv q
    exact ⟨v, H', J.os, J.bare, J.base, J.hok, rv, q⟩
  match out, hs with
  | .ret u, ⟨v, σ', H', J, rv, q⟩ => exact fin J rv q
  | .next, ⟨σ', H', J, q⟩ => exact fin (v := V.non) (u := Value.none) J rfl q
  | .brk, ⟨_, _, _, q⟩ => exact False.elim q
  | .cont, ⟨_, _, _, q⟩ => exact False.elim q
end
end Mi

set_option Elab.async false
set_option linter.all false
set_option maxRecDepth 100000
set_option maxHeartbeats 4000000
namespace Mi
open PySem PySem.Spec PyProof.Rows L2

/-! ### the law's end -/
theorem callG : callerA.guards = some [] := rfl
/-- the heap with the script alone in sight, or nothing -/
def seen (K : PySem.W.Frag) (a : Addr) (o : Obj) (xs : List V) : Hp := fun b => if b = a ∧ K.lookup a = none then some (.frz o (.lst xs)) else none
theorem law_run {P : Program} {w : World} {K : PySem.W.Frag} {mg mb : Str → Option Value} {CX : CXT} {k : Nat} {fa a : Addr} {fd : FuncData} {x : Str} {sp : Sp} {st : Shared} {vs : List Value} {ns : List Int}
    (inK : K.In st.heap) (hmain : st.heap.Ns mainGlobals mg) (hbl : st.heap.Ns builtinsNs mb) (hboot : ∀ x : Str, x ≠ "__name__" → mb x = bootBuiltins x) (noLim : st.heap.NoLimit) (noGen : st.gens = #[])
    (ho : st.heap.get? a = some { cls := .type "list", data := .seq vs.toArray }) (hi : IntsAre vs ns) (hl : ns.length ≤ sizeLine) (room : Room k callerA)
    (F : ∀ base : Heap, K.In base → base.Ns mainGlobals mg → FnG P w K mg base CX k fa fd [x] sp) (hbind : ∀ (s : Shared) (u : Value), BindsTo s fd ⟨[u], []⟩ [(x, u)])
    (hsp : ∀ H : Hp, Only H → SqL K H a (ns.map V.int) → sp [.ref a] H (fun v _ => v = .bl true) fun _ _ _ => False) (hCX : ∀ H e s', CX [] H st (fun _ _ _ => False) e s' → False) :
    codeAny (model P w) callerA (.call (.ref fa) ⟨[.ref a], []⟩) (fun r s' => r = .ok (.ret (.bool true)) ∧ OldK st.heap s'.heap ∧ s'.os = st.os ∧ AllBare s'.gens) st := by
  have rel := vals_ints hi
  generalize eo : ({ cls := .type "list", data := .seq vs.toArray } : Obj) = ob at ho
  -- the heap that is tracked
  generalize eH : seen K a ob (ns.map V.int) = H
  have at_a : ∀ {b : Addr} {u : HO}, H b = some u → b = a ∧ K.lookup a = none ∧ u = .frz ob (.lst (ns.map V.int)) := by
    intro b u e
    rw [← eH] at e
    unfold seen at e
    split at e
    · rename_i c
      cases e
      exact ⟨c.1, c.2, rfl⟩
    · cases e
  have only : Only H := fun b => by
    cases e : H b with
    | none => exact .inl rfl
    | some u => exact .inr ⟨_, _, by rw [(at_a e).2.2]⟩
  have isq : SqL K H a (ns.map V.int) := by
    cases e : K.lookup a with
    | none => exact .inl (.inr ⟨ob, by rw [← eH]; exact if_pos ⟨rfl, e⟩⟩)
    | some o =>
      have e2 := inK _ _ e
      rw [ho] at e2
      cases e2
      subst eo
      exact .inr ⟨_, vs.toArray, _, e, rfl, rfl, rfl, by rw [List.size_toArray, hi.length]; exact hl, by simpa using rel⟩
  have hok : HOk P w H st.heap := by
    intro b u e
    obtain ⟨rfl, _, rfl⟩ := at_a e
    subst eo
    exact ⟨ho, by rw [List.length_map]; exact hl, vs, _, rel, ho⟩
  have get : ∀ {b : Addr} {o : Obj}, st.heap.get? b = some o → H b = none → (hidT st.heap H).get? b = some o := fun e n => hidT_get e n
  have notA : ∀ {b : Addr} {o : Obj} {es : Array DictEntry} {ep : Nat}, st.heap.get? b = some o → o.data = .dict es ep → H b = none := by
    intro b o es ep e d
    cases q : H b with
    | none => rfl
    | some u =>
      obtain ⟨rfl, _⟩ := at_a q
      rw [ho] at e
      cases e
      subst eo
      cases (show Data.seq vs.toArray _ = Data.dict es ep from d)
  have ns' : ∀ {b : Addr} {m : Str → Option Value}, st.heap.Ns b m → (hidT st.heap H).Ns b m := by
    rintro b m ⟨o, es, ep, e, d, r⟩
    exact ⟨o, es, ep, get e (notA e d), d, r⟩
  have inK' : K.In (hidT st.heap H) := fun b o e => get (inK b o e) (by
    cases q : H b with
    | none => rfl
    | some u =>
      obtain ⟨rfl, n, _⟩ := at_a q
      rw [n] at e
      cases e)
  obtain ⟨mc, l1, l2⟩ := noLim
  have md : Mod K mg (hidT st.heap H) := ⟨inK', ns' hmain, ⟨mb, ns' hbl, hboot⟩, ⟨mc, ns' l1, l2⟩⟩
  have env0 : Env0 P w K mg (hidT st.heap H) callerA [] st H := ⟨rfl, md, fun b o e => of_hidT e, Nat.le_of_eq (hidT_size _ _), trivial, (fun b hb => nomatch hb), hok, .of_eq noGen⟩
  have run := (F _ inK' (ns' hmain)).go callerA [] st H ⟨[.ref a], []⟩ [.ref a] [.ref a] _ _ callG room env0 (hbind st (.ref a)) (.cons rfl .nil) (hsp H only isq)
  refine codeAny_mono run fun out s' h => ?_
  match out, h with
  | .error e, h => exact (hCX H e s' h).elim
  | .ok .next, h => exact False.elim h
  | .ok .brk, h => exact False.elim h
  | .ok .cont, h => exact False.elim h
  | .ok (.ret u), ⟨v, H', hos, bare, un, hok', rv, q⟩ =>
    have q' : v = .bl true := q
    subst q'
    obtain rfl : u = Value.bool true := rv
    refine ⟨rfl, OldK.of_keep fun b o e => ?_, hos, bare⟩
    cases z : H b with
    | none => exact un.keep b o e z (fun y => nomatch (show b ∈ ([] : List Addr) from y)) (by simp)
    | some u =>
      obtain ⟨rfl, _, rfl⟩ := at_a z
      have z2 := un.frzs b ob _ z
      have e1 := (hok b _ z).1
      have e2 := (hok' b _ z2).1
      rw [e] at e1
      cases e1
      exact e2
theorem walk_G {l : PySem.W.OpenLaw} {n k : Nat} {q : Program} {loose : List Str} {XP : (Str → Option Value) → Heap → Prop} {YP : World → Heap → Prop} {d : DefRec} {CX : CXT} {x : Str}
    (hn : l.most = some n) (hn2 : n ≤ sizeLine) (hdf : d.params.defaults = []) (room : Room k callerA)
    (F : ∀ (w : World) (mg : Str → Option Value) (fa : Addr) (h : Heap), YP w h → h.Ns mainGlobals mg → mg d.name = some (.ref fa) →
      ∃ (K : PySem.W.Frag) (fd : FuncData) (sp : Sp), K.In h ∧ (∀ (s : Shared) (u : Value), BindsTo s fd ⟨[u], []⟩ [(x, u)]) ∧
        (∀ (H : Hp) (a : Addr) (ns : List Int), ns.length ≤ n → Only H → SqL K H a (ns.map V.int) → sp [.ref a] H (fun v _ => v = .bl true) fun _ _ _ => False) ∧
        ∀ base : Heap, K.In base → base.Ns mainGlobals mg → FnG l.prog w K mg base CX k fa fd [x] sp)
    (hCX : ∀ (H : Hp) (s : Shared) (e : Value) (s' : Shared), CX [] H s (fun _ _ _ => False) e s' → False) :
    PySem.W.WalkO q loose XP YP l.row.toRowW d [] (fun f vs => PySem.call f vs) := by
  refine Att.attach_call hn hdf fun w s₀ s₁ mg mb fa o pm cd doc a vs ns G Y hobj' hdd hcd hmg hob hints hlen hgen => ?_
  obtain ⟨K, fd, sp, inK, hb, hs, hF⟩ := F w mg fa _ Y G.T.g hmg
  exact law_run inK G.T.g G.T.b G.T.builtins G.T.nolimit hgen hob hints (Nat.le_trans hlen hn2) room hF hb (fun H only isq => hs H a ns hlen only isq) fun H e s' => hCX H s₁ e s'
theorem rep_ints {K : PySem.W.Frag} {SA : List Addr} {H : Hp} : ∀ ns : List Int, RepAll K SA H (ns.map V.int) (ns.map D.int) []
  | [] => .nil
  | i :: ns => .cons (L1 := []) (L2 := []) (.int i) (rep_ints ns)
/-- the law holds, if its function says so -/
theorem sp_law {K : PySem.W.Frag} {F : FF} {H : Hp} {a : Addr} {ns : List Int} (only : Only H) (h : SqL K H a (ns.map V.int)) (hF : ∃ S' : Sto, F [.fls (ns.map D.int)] [] = .ok (.bl true, .pur) S') :
    spF K 1 F [.ref a] H (fun v _ => v = .bl true) fun _ _ _ => False := by
  obtain ⟨S', e⟩ := hF
  have fz : FzL K H a (ns.map V.int) := by
    rcases h with (h | h) | h
    · rcases only a with z | ⟨o, xs, z⟩
      · rw [h] at z; cases z
      · rw [h] at z; cases z
    · exact .inl h
    · exact .inr h
  refine ⟨rfl, [], [], [.fls (ns.map D.int)], [], .cons (L1 := []) (L2 := []) (.fls fz (rep_ints ns)) .nil, (fun _ z => nomatch z), ⟨rfl, List.nodup_nil, fun n a ds e _ => by simp at e⟩, ?_⟩
  rw [e]
  intro v H' SA' L' _ r _ _
  cases r
  rfl
end Mi

set_option Elab.async false
set_option linter.all false
set_option maxRecDepth 100000
set_option maxHeartbeats 4000000
namespace Mi
open PySem PySem.Spec PyProof.Rows L2

section
variable {K : PySem.W.Frag} {E : XK} {SA OL : List Addr} {H H1 : Hp} {σ : L2.St} {env : Env} {S S1 : Sto} {te to : TE} {fe fo : FE} {tr : TA} {fr : FA}
/-! ### a, b = x, y: stored one by one -/
def parMd (x : List D × Md) : Option (List D × Md) := match x.2 with
  | .als => if noLsts x.1 then some (x.1, .pur) else none
  | .bad => if noLsts x.1 then some (x.1, .pur) else none
  | _ => some x
def fPar (fgs : FGs) (fa : FA) : FS := fun env S => (fa env S).bind fun x S1 => match parMd x with
  | some y => (fgs y env S1).ne.bind fun e S2 => .ok (.nx e) S2
  | none => .no
theorem par_core {gs : TGs} {fgs : FGs} {ss : List Nat} {D : Ends} (ha : EaF K E tr fr) (hg : EgsF K gs fgs ss) (eo : EnvOk K SA OL H σ env) (so : StoOk K SA OL H S) (h : AftS K E SA OL H D (fPar fgs fr env S)) :
    tr σ H fun vs H1 => gs vs σ H1 D.nx := by
  refine ha σ H env SA OL S eo so _ ?_
  unfold fPar at h
  cases e1 : fr env S with
  | no => rw [e1] at h; exact h.elim
  | err c S1 => rw [e1] at h; exact fun H' s => h H' SA s.s0
  | ok x S1 =>
    rw [e1] at h
    intro H1 s1 vs L x1
    have eb1 : EnvB K SA OL (fun a => H a ≠ none) H1 σ env := eo.b.keep s1.k fun _ z => z
    have h0 : AftS K E SA OL H D (match parMd x with
      | some y => (fgs y env S1).ne.bind fun e S2 => .ok (.nx e) S2
      | none => .no) := h
    have key : ∀ m' : Md, m' = .pur ∨ m' = .own ∨ m' = .frn → MdOk OL H m' L → AftS K E SA OL H D ((fgs (x.1, m') env S1).ne.bind fun e S2 => .ok (.nx e) S2) → gs vs σ H1 D.nx := by
      intro m' hm md h'
      refine hg σ H1 env SA OL _ S1 vs x.1 m' L eb1 s1.so x1.rep x1.sa (sm_of md) hm _ ?_
      cases e2 : fgs (x.1, m') env S1 with
      | no => rw [e2] at h'; exact h'.elim
      | err c S2 => rw [e2] at h'; exact h'.elim
      | ok env2 S2 =>
        rw [e2] at h'
        intro σ2 H2 OL2 t2
        have own : ∀ a, (m' = .own ∧ a ∈ L) → H a = none := fun a z => by
          have q := md
          rw [z.1] at q
          exact q.2 a z.2
        refine h' σ2 H2 SA OL2 ⟨(s1.k.mono fun _ z => Or.inl z).comp t2.k fun a ha z => ?_, ⟨[], by simp, fun _ z => nomatch z⟩, fun a ha => (t2.ol a ha).imp id (own a), t2.so⟩ t2.eb.ok
        rcases z with z | z | z
        · exact .inl z
        · exact .inr z
        · exact absurd (own a z) ha
    obtain ⟨ds, m⟩ := x
    cases m with
    | pur => exact key .pur (.inl rfl) x1.md h0
    | own => exact key .own (.inr (.inl rfl)) x1.md h0
    | frn => exact key .frn (.inr (.inr rfl)) x1.md h0
    | als =>
      by_cases hn : noLsts ds = true
      · have e3 : parMd (ds, Md.als) = some (ds, .pur) := if_pos hn
        rw [e3] at h0
        exact key .pur (.inl rfl) (RepAll.noL _ _ _ x1.rep hn) h0
      · have e3 : parMd (ds, Md.als) = none := if_neg hn
        rw [e3] at h0
        exact h0.elim
    | bad =>
      by_cases hn : noLsts ds = true
      · have e3 : parMd (ds, Md.bad) = some (ds, .pur) := if_pos hn
        rw [e3] at h0
        exact key .pur (.inl rfl) (RepAll.noL _ _ _ x1.rep hn) h0
      · have e3 : parMd (ds, Md.bad) = none := if_neg hn
        rw [e3] at h0
        exact h0.elim
/-- what an argument list's reading gives, weaker -/
def TAmono (tr : TA) : Prop := ∀ σ H Q Q', tr σ H Q → (∀ vs H1, Q vs H1 → Q' vs H1) → tr σ H Q'
theorem esf_par2 {i j : Nat} (ha : EaF K E tr fr) : EsF K E (tPar i j tr) (fPar (fgCons (fgName i) (fgCons (fgName j) fgNil)) fr) := by
  intro σ H env SA OL S eo so D h
  let gs : TGs := fun vs σ H Q => ∃ v w, vs = [v, w] ∧ Q ((σ.set i (some v)).set j (some w)) H
  have hg : EgsF K gs (fgCons (fgName i) (fgCons (fgName j) fgNil)) ([i] ++ ([j] ++ [])) := by
    intro σ H env SA OL T S vs ds m L eb so r sL sm hmm Q h
    have q := egsf_cons (egf_name (K := K) (i := i)) (egsf_cons (egf_name (i := j)) egsf_nil) σ H env SA OL T S vs ds m L eb so r sL sm hmm Q h
    obtain ⟨v, vr, e1, w, vr2, e2, e3, e4⟩ := q
    subst e3
    exact ⟨v, w, by rw [e1, e2], e4⟩
  exact par_core ha hg eo so h
theorem esf_par3 {i j l : Nat} (ha : EaF K E tr fr) : EsF K E (tPar3 i j l tr) (fPar (fgCons (fgName i) (fgCons (fgName j) (fgCons (fgName l) fgNil))) fr) := by
  intro σ H env SA OL S eo so D h
  let gs : TGs := fun vs σ H Q => ∃ v w u, vs = [v, w, u] ∧ Q (((σ.set i (some v)).set j (some w)).set l (some u)) H
  have hg : EgsF K gs (fgCons (fgName i) (fgCons (fgName j) (fgCons (fgName l) fgNil))) ([i] ++ ([j] ++ ([l] ++ []))) := by
    intro σ H env SA OL T S vs ds m L eb so r sL sm hmm Q h
    have q := egsf_cons (egf_name (K := K) (i := i)) (egsf_cons (egf_name (i := j)) (egsf_cons (egf_name (i := l)) egsf_nil)) σ H env SA OL T S vs ds m L eb so r sL sm hmm Q h
    obtain ⟨v, vr, e1, w, vr2, e2, u, vr3, e3, e4, e5⟩ := q
    subst e4
    exact ⟨v, w, u, by rw [e1, e2, e3], e5⟩
  exact par_core ha hg eo so h

/-! ### * -/
instance (i j : Int) : Decidable (CMul i j) := inferInstanceAs (Decidable (_ ∨ _))
def kMulI : G2 := kI CMul fun i j => .int (i * j)
def kRepL : G2 := fun x y S => match x.1, y.1 with
  | .lst l, .int k => if noLsts l = true ∧ -(2 ^ 63) ≤ k ∧ k < 2 ^ 63 ∧ l.length * k.toNat ≤ sizeLine then .ok (.lst (List.replicate k.toNat l).flatten, .own) S else .no
  | _, _ => .no
def kRepT : G2 := fun x y S => match x.1.tupOf?, y.1 with
  | some l, .int k => if noLsts l = true ∧ l ≠ [] ∧ 2 ≤ k ∧ k ≤ 1000 ∧ l.length ≤ 1000 then .ok (.tup (List.replicate k.toNat l).flatten, .pur) S else .no
  | _, _ => .no
theorem rep_repl {SA : List Addr} {vs : List V} {ds : List D} (r : RepAll K SA H vs ds []) : ∀ n : Nat, RepAll K SA H (List.replicate n vs).flatten (List.replicate n ds).flatten []
  | 0 => .nil
  | n + 1 => by
    rw [List.replicate_succ, List.replicate_succ, List.flatten_cons, List.flatten_cons]
    exact r.append (rep_repl r n)
theorem r2_mulI : R2F K E (rI CMul fun i j => .int (i * j)) kMulI := r2_int fun _ _ _ _ => .int _
theorem r2_repL : R2F K E rRep kRepL := by
  intro SA OL H0 H1 H S v1 d1 m1 L1 v2 d2 m2 L2 so w Q h
  unfold kRepL at h
  simp only at h
  split at h
  · rename_i l k
    split at h
    · rename_i hz
      have e2 := int_of w.b
      subst e2
      have wa := w.a.rep
      cases wa with
      | @lst a vs _ La g1 g2 =>
        have e0 := RepAll.noL _ _ _ g2 hz.1
        subst e0
        refine ⟨a, k, vs, rfl, rfl, g1, hz.2.1, hz.2.2.1, by rw [g2.length]; exact hz.2.2.2, fun p hp => ?_⟩
        have s2 : Stp K SA OL H S (upd H p (.lst (List.replicate k.toNat vs).flatten)) := (Stp.here so).new hp
        have h0 : H0 p = none := by
          cases q : H0 p with
          | none => rfl
          | some o => exact absurd hp (w.k1 p (w.k0 p (by rw [q]; exact fun z => nomatch z)))
        exact h _ s2 (.ref p) [p] ⟨.lst upd_same ((rep_repl g2 _).keep s2.k _ _ _ fun _ z => nomatch z), fun x hx => by simp at hx; rw [hx]; exact fun z => so.trk p z hp, by simp, fun x hx => by simp at hx; rw [hx]; exact h0⟩
    · exact h.elim
  · exact h.elim
theorem r2_repT : R2F K E (rRepT K) kRepT := by
  intro SA OL H0 H1 H S v1 d1 m1 L1 v2 d2 m2 L2 so w Q h
  unfold kRepT at h
  simp only at h
  split at h
  · rename_i l k e1
    split at h
    · rename_i hz
      have ev := int_of w.b
      subst ev
      obtain ⟨a, vs, rfl, hT, r⟩ := w.a.rep.tupOf e1
      have e0 := RepAll.noL _ _ _ r hz.1
      rw [e0] at r
      refine ⟨a, k, vs, rfl, rfl, hT, fun z => hz.2.1 ((nil_of r).mp z), hz.2.2.1, hz.2.2.2.1, by rw [r.length]; exact hz.2.2.2.2, fun p hp => ?_⟩
      have s2 : Stp K SA OL H S (upd H p (.tup (List.replicate k.toNat vs).flatten)) := (Stp.here so).new hp
      exact h _ s2 (.ref p) [] (val_pur (.tup (SqT.of upd_same) ((rep_repl r _).keep s2.k _ _ _ fun _ z => nomatch z)))
    · exact h.elim
  · exact h.elim
abbrev rMulAll (K : PySem.W.Frag) : R2 := rOr (rI CMul fun i j => .int (i * j)) (rOr rRep (rRepT K))
theorem op_mulAll {X : Cx} : OpR X (binaryOp .Mult) (rMulAll X.K) := opr_or op_mul (opr_or op_rep op_repT)
def kMul : G2 := kOr kMulI (kOr kRepL kRepT)
theorem r2_mul : R2F K E (rMulAll K) kMul := r2_or r2_mulI (r2_or r2_repL r2_repT)
/-- int(..) -/
abbrev rIntAll := lOr rInt rIntS
theorem call_intAll {X : Cx} : CallR X (.type "int") rIntAll := callr_or call_int1 call_int_str
def kIntAll : GL := glOr kInt kIntS
theorem rl_intAll : RlF K E rIntAll kIntAll := rl_or rl_int rl_intS
end

/-! ### words for the printed proofs -/
theorem Room.u65 {k : Nat} {A : Around} (r : Room k A) : A.units + 65 < cLine := by have := r.un; omega
theorem Room.u64 {k : Nat} {A : Around} (r : Room k A) : A.units + 64 < cLine := by have := r.un; omega
theorem Room.u0 {k : Nat} {A : Around} (r : Room k A) : A.units < cLine := by have := r.un; omega
/-- the function object that stands at f -/
def Isf (K : PySem.W.Frag) (f : Addr) (fd : FuncData) : Prop := ∃ (oc : Value) (od : Option Addr) (osl : Array (Option Value)), K.lookup f = some ⟨oc, od, .func fd, osl⟩
theorem isf_of {K : PySem.W.Frag} {x qual : Str} {params : Arguments} {body : List Stmt} {scope : Scope} {dvs : List V} {kws : List (Str × V)} {f : Addr} {fd : FuncData} (F : FunD K x qual params body scope dvs kws f fd) : Isf K f fd := by
  obtain ⟨oc, od, _, _, _, _, _, _, _, osl, _, lk, _⟩ := F.ex
  exact ⟨oc, od, osl, lk⟩
theorem Isf.inj {K : PySem.W.Frag} {f : Addr} {fd fd' : FuncData} (a : Isf K f fd) (b : Isf K f fd') : fd = fd' := by
  obtain ⟨oc, od, osl, e⟩ := a
  obtain ⟨oc', od', osl', e'⟩ := b
  rw [e] at e'
  cases e'
  rfl
/-- a def of the text that computes F -/
structure Cal (P : Program) (w : World) (K : PySem.W.Frag) (mg : Str → Option Value) (base : Heap) (CX : CXT) (k : Nat) (x : Str) (ps : List Str) (n : Nat) (F : FF) : Prop where
  ex : ∃ fd, FnG P w K mg base CX k (He.ga K x) fd ps (spF K n F) ∧ Binds K fd ps [] ∧ Isf K (He.ga K x) fd
  gl : mg x = some (.ref (He.ga K x))
  kp : PySem.W.keepIn K (.ref (He.ga K x)) = true
theorem pe_callC {X : Cx} {CX : CXT} {k j n : Nat} {x : Str} {ps : List Str} {F : FF} {E : XK} {p pos : Pos} {e : Expr} {es : List Expr} {t : TA} (c : Cal X.prog X.w X.K X.mg X.base CX k x ps n F) (hG : X.A.guards = some []) (hr : Room j X.A) (hkj : k ≤ j) (hx : Passes CX X E)
    (ha : PA X (e :: es) t) (hg : Gl X x := by rfl) (hdb : (x == ("__debug__" : Str)) = false := by decide) (he : starEach (e :: es) X.env = (false, eval e X.env) :: starEach es X.env := by rfl) (hpl : (backTo pos (starEach es X.env)).any (·.1) = false := by rfl) :
    PE X (.Call (.Name x p) (e :: es) [] pos) (tCall (spF X.K n F) [] E t) := by
  obtain ⟨fd, G, b, _⟩ := c.ex
  exact pe_callF G hG (hr.mono hkj) hg c.gl c.kp b hx ha hdb he hpl
theorem Cal.fn {P : Program} {w : World} {K : PySem.W.Frag} {mg : Str → Option Value} {base : Heap} {CX : CXT} {k n : Nat} {x : Str} {ps : List Str} {F : FF} {fd : FuncData} (c : Cal P w K mg base CX k x ps n F) (i : Isf K (He.ga K x) fd) : FnG P w K mg base CX k (He.ga K x) fd ps (spF K n F) := by
  obtain ⟨fd', G, _, j⟩ := c.ex
  cases i.inj j
  exact G
theorem passF {X : Cx} {E : XK} : Passes CX0 X E := fun _ _ _ _ _ _ _ h => h.elim
theorem pe_gv {X : Cx} {x : Str} {pos : Pos} {v : V} (hg : Gl X x) (h : ∃ u, X.mg x = some u ∧ RelV v u) (hd : (x == ("__debug__" : Str)) = false := by decide) : PE X (.Name x pos) (tC v) := by
  obtain ⟨u, hm, r⟩ := h
  exact pe_glob hg hm r hd
theorem body_by {X : Cx} {K : PySem.W.Frag} {E : XK} {body : List Stmt} {t : TS} {fs : FS} (h1 : PSs X.nox body t) (h2 : EsF K E t fs) : ∃ t, PSs X body t ∧ EsF K E t fs := ⟨t, PSs.nox h1, h2⟩
end Mi

set_option Elab.async false
set_option linter.all false
set_option maxRecDepth 100000
set_option maxHeartbeats 4000000
namespace Mi
open PySem PySem.Spec PyProof.Rows L2

/-! the same as bind, its way on out of the reach of rewriting until its first part is known -/
set_option checkBinderAnnotations false in
def Res.bindI {α β : Type} (r : Res α) [k : α → Sto → Res β] : Res β := r.bind k
theorem bindI_eq {α β : Type} (r : Res α) (k : α → Sto → Res β) : @Res.bindI α β r k = r.bind k := rfl
@[simp ↓] theorem bind_I {α β : Type} (r : Res α) (k : α → Sto → Res β) : r.bind k = @Res.bindI α β r k := rfl
@[simp] theorem bindI_ok {α β : Type} (a : α) (S : Sto) (k : α → Sto → Res β) : @Res.bindI α β (Res.ok a S) k = k a S := rfl
@[simp] theorem bindI_err {α β : Type} (c : Str) (S : Sto) (k : α → Sto → Res β) : @Res.bindI α β (Res.err c S) k = .err c S := rfl
@[simp] theorem bindI_no {α β : Type} (k : α → Sto → Res β) : @Res.bindI α β Res.no k = .no := rfl
/-! ### the functions, unfolded at their slots and store (plain rewriting) -/
section
variable (env : Env) (S : Sto)
@[simp] theorem fVar_eq (i : Nat) : fVar i env S = match env[i]? with
  | some (some (d, m)) => .ok (d, rdMd d m) S
  | _ => .no := rfl
@[simp] theorem fC_eq (d : D) : fC d env S = .ok (d, .pur) S := rfl
@[simp] theorem fOp2_eq (g : G2) (a b : FE) : fOp2 g a b env S = (a env S).bind fun x S1 => (b env S1).bind fun y S2 => g x y S2 := rfl
@[simp] theorem fOp1_eq (g : G1) (a : FE) : fOp1 g a env S = (a env S).bind fun x S1 => g x S1 := rfl
@[simp] theorem fCB_eq (g : GL) (a : FA) : fCB g a env S = (a env S).bind fun x S1 => g x S1 := rfl
@[simp] theorem fNil_eq : fNil env S = .ok ([], .pur) S := rfl
@[simp] theorem fCons_eq (a : FE) (r : FA) : fCons a r env S = (a env S).bind fun x S1 => (r env S1).bind fun y S2 => .ok (x.1 :: y.1, x.2.mix y.2) S2 := rfl
@[simp] theorem fTup_eq (a : FA) : fTup a env S = (a env S).bind fun x S1 => if x.1.length ≤ sizeLine then .ok (.tup x.1, x.2) S1 else .no := rfl
@[simp] theorem fTupX_eq (a : FA) : fTupX a env S = (a env S).bind fun x S1 => if x.1.length ≤ sizeLine then .ok (.xtp x.1, x.2) S1 else .no := rfl
@[simp] theorem fLst_eq (a : FA) : fLst a env S = (a env S).bind fun x S1 => if x.1.length ≤ sizeLine then .ok (.lst x.1, x.2.mix .own) S1 else .no := rfl
@[simp] theorem fTest_eq (a : FE) : fTest a env S = (a env S).bind fun x S1 => match x.1 with
  | .bl b => .ok b S1
  | _ => .no := rfl
@[simp] theorem fAnd_eq (a b : FT) : fAnd a b env S = (a env S).bind fun c S1 => if c then b env S1 else .ok false S1 := rfl
@[simp] theorem fOr_eq (a b : FT) : fOr a b env S = (a env S).bind fun c S1 => if c then .ok true S1 else b env S1 := rfl
@[simp] theorem fNot_eq (a : FT) : fNot a env S = (a env S).bind fun c S1 => .ok (!c) S1 := rfl
@[simp] theorem fIf_eq (t : FT) (a b : FE) : fIf t a b env S = (t env S).bind fun c S1 => if c then a env S1 else b env S1 := rfl
@[simp] theorem fAndV_eq (a b : FE) : fAndV a b env S = (a env S).bind fun x S1 => match x.1 with
  | .bl c => if c then b env S1 else .ok (.bl false, .pur) S1
  | _ => .no := rfl
@[simp] theorem fOrV_eq (a b : FE) : fOrV a b env S = (a env S).bind fun x S1 => match x.1 with
  | .bl c => if c then .ok (.bl true, .pur) S1 else b env S1
  | _ => .no := rfl
@[simp] theorem fNotV_eq (a : FE) : fNotV a env S = (a env S).bind fun x S1 => match x.1 with
  | .bl c => .ok (.bl (!c), .pur) S1
  | _ => .no := rfl
@[simp] theorem fChainV_eq (g g' : G2) (a b c : FE) : fChainV g g' a b c env S = (a env S).bind fun x S1 => (b env S1).bind fun y S2 => (g x y S2).bind fun z S3 => match z.1 with
  | .bl q => if q then (c env S3).bind fun u S4 => g' y u S4 else .ok (.bl false, .pur) S3
  | _ => .no := rfl
@[simp] theorem fNoPart_eq : fNoPart env S = .ok none S := rfl
@[simp] theorem fPart_eq (a : FE) : fPart a env S = (a env S).bind fun x S1 => match x.1 with
  | .int i => .ok (some i) S1
  | _ => .no := rfl
@[simp] theorem fSl_eq (g : GS) (a : FE) (l h : FO) : fSl g a l h env S = (a env S).bind fun x S1 => (l env S1).bind fun i S2 => (h env S2).bind fun j S3 => g x i j S3 := rfl
@[simp] theorem fSeq_eq (f g : FS) : fSeq f g env S = (f env S).bind fun o S1 => match o with
  | .nx e => g e S1
  | o => .ok o S1 := rfl
@[simp] theorem fNext_eq : fNext env S = .ok (.nx env) S := rfl
@[simp] theorem fBreak_eq : fBreak env S = .ok (.bk env) S := rfl
@[simp] theorem fCont_eq : fCont env S = .ok (.ct env) S := rfl
@[simp] theorem fDrop_eq (a : FE) : fDrop a env S = (a env S).bind fun _ S1 => .ok (.nx env) S1 := rfl
@[simp] theorem fAsg_eq (a : FE) (g : FG) : fAsg a g env S = (a env S).bind fun x S1 => (g x env S1).ne.bind fun e S2 => .ok (.nx e) S2 := rfl
@[simp] theorem fRet_eq (a : FE) : fRet a env S = (a env S).bind fun x S1 => match x.2 with
  | .pur => .ok (.rt x.1 .pur) S1
  | .own => .ok (.rt x.1 .own) S1
  | .als => .ok (.rt x.1 .own) S1
  | _ => if noLst x.1 then .ok (.rt x.1 .pur) S1 else .no := rfl
@[simp] theorem fRetN_eq : fRetN env S = .ok (.rt .non .pur) S := rfl
@[simp] theorem fIfS_eq (t : FT) (f g : FS) : fIfS t f g env S = (t env S).bind fun b S1 => if b then f env S1 else g env S1 := rfl
@[simp] theorem fCall_eq (n : Nat) (F : FF) (a : FA) : fCall n F a env S = (a env S).bind fun x S1 => if x.1.length = n then sameLen (F x.1 S1) S1 else .no := rfl
@[simp] theorem fPar_eq (g : FGs) (a : FA) : fPar g a env S = (a env S).bind fun x S1 => match parMd x with
  | some y => (g y env S1).ne.bind fun e S2 => .ok (.nx e) S2
  | none => .no := rfl
@[simp] theorem fYes_eq : fYes env S = .ok true S := rfl
@[simp] theorem fgName_eq (i : Nat) (x : D × Md) : fgName i x env S = if i < env.length then (match x.2 with
    | .pur => .ok (env.set i (some x)) S
    | .own => .ok (env.set i (some x)) S
    | .frn => .ok (env.set i (some x)) S
    | _ => if noLst x.1 then .ok (env.set i (some (x.1, .pur))) S else .no) else .no := rfl
@[simp] theorem fgNil_eq (x : List D × Md) : fgNil x env S = match x.1 with
  | [] => .ok env S
  | _ => .no := rfl
@[simp] theorem fgCons_eq (g : FG) (gs : FGs) (x : List D × Md) : fgCons g gs x env S = match x.1 with
  | d :: r => (g (d, elMd d x.2) env S).bind fun env1 S1 => gs (r, x.2) env1 S1
  | [] => .no := rfl
end
@[simp] theorem sameLen_ok (y : D × Md) (S1 S2 : Sto) : sameLen (.ok y S2) S1 = if S2.length = S1.length then .ok y S2 else .no := rfl
@[simp] theorem kOr_ok {g g' : G2} {x y z : D × Md} {S S' : Sto} (h : g x y S = .ok z S') : kOr g g' x y S = .ok z S' := by unfold kOr; rw [h]
@[simp] theorem kOr_no {g g' : G2} {x y : D × Md} {S : Sto} (h : g x y S = .no) : kOr g g' x y S = g' x y S := by unfold kOr; rw [h]
/-! the two-place ones at given values -/
section
variable (i j : Int) (m m' : Md) (S : Sto) (a b : Str)
@[simp] theorem kAddX_int : kAddX (.int i, m) (.int j, m') S = .ok (.int (i + j), .pur) S := rfl
@[simp] theorem kSub_int : kSub (.int i, m) (.int j, m') S = .ok (.int (i - j), .pur) S := rfl
@[simp] theorem kMod_int : kMod (.int i, m) (.int j, m') S = if 0 < j then .ok (.int (i % j), .pur) S else .no := rfl
@[simp] theorem kDiv_int : kDiv (.int i, m) (.int j, m') S = if CDivW i j then .ok (.int (i / j), .pur) S else .no := rfl
@[simp] theorem kPow_int : kPow (.int i, m) (.int j, m') S = if CPow i j then .ok (.int (i ^ j.toNat), .pur) S else .no := rfl
@[simp] theorem kLt_int : kLt (.int i, m) (.int j, m') S = .ok (.bl (decide (i < j)), .pur) S := rfl
@[simp] theorem kGt_int : kGt (.int i, m) (.int j, m') S = .ok (.bl (decide (j < i)), .pur) S := rfl
@[simp] theorem kGe_int : kGe (.int i, m) (.int j, m') S = .ok (.bl (decide (j ≤ i)), .pur) S := rfl
@[simp] theorem kLeA_int : kLeA (.int i, m) (.int j, m') S = .ok (.bl (decide (i ≤ j)), .pur) S := rfl
@[simp] theorem kMul_int (h : CMul i j) : kMul (.int i, m) (.int j, m') S = .ok (.int (i * j), .pur) S := kOr_ok (if_pos h)
@[simp] theorem kNeg_int : kNeg (.int i, m) S = .ok (.int (-i), .pur) S := rfl
@[simp] theorem kEq_int : kEq (.int i, m) (.int j, m') S = .ok (.bl (decide (i = j)), .pur) S := by
  first | rfl | (unfold kEq kOr kEqS; rfl)
@[simp] theorem kNe_int : kNe (.int i, m) (.int j, m') S = .ok (.bl (!decide (i = j)), .pur) S := by
  first | rfl | (unfold kNe kOr kEqS; rfl)
@[simp] theorem kEq_str : kEq (.str a, m) (.str b, m') S = .ok (.bl (decide (a = b)), .pur) S := by
  first | rfl | (unfold kEq kOr kEqS; rfl)
@[simp] theorem kNe_str : kNe (.str a, m) (.str b, m') S = .ok (.bl (!decide (a = b)), .pur) S := by
  first | rfl | (unfold kNe kOr kEqS; rfl)
@[simp] theorem kIntAll_int : kIntAll ([.int i], m) S = .ok (.int i, .pur) S := rfl
@[simp] theorem kIntAll_bl (c : Bool) : kIntAll ([.bl c], m) S = .ok (.int (if c then 1 else 0), .pur) S := rfl
@[simp] theorem kAbs_int : kAbs ([.int i], m) S = .ok (.int (if i < 0 then -i else i), .pur) S := rfl
@[simp] theorem kLen_lst (l : List D) : kLen ([.lst l], m) S = .ok (.int l.length, .pur) S := rfl
@[simp] theorem kLen_tup (l : List D) : kLen ([.tup l], m) S = .ok (.int l.length, .pur) S := rfl
@[simp] theorem kLen_xtp (l : List D) : kLen ([.xtp l], m) S = .ok (.int l.length, .pur) S := rfl
@[simp] theorem kLen_str : kLen ([.str a], m) S = if a.length ≤ sizeLine then .ok (.int a.length, .pur) S else .no := rfl
@[simp] theorem kIx_ref (n : Nat) : kIx (.ref n, m) (.int i, m') S = match S[n]? with
  | some l => (match atI l i with | some d => .ok (d, .pur) S | none => .no)
  | none => .no := by
  show (match (D.int i), S[n]? with
    | .int i, some l => (match atI l i with | some d => Res.ok (d, Md.pur) S | none => .no)
    | _, _ => .no) = _
  cases S[n]? <;> rfl
@[simp] theorem kIx_lst (l : List D) : kIx (.lst l, m) (.int i, m') S = match atI l i with | some d => .ok (d, elMd d m) S | none => .no := rfl
@[simp] theorem kIx_fls (l : List D) : kIx (.fls l, m) (.int i, m') S = match atI l i with | some d => .ok (d, elMd d m) S | none => .no := rfl
@[simp] theorem kIx_tup (l : List D) : kIx (.tup l, m) (.int i, m') S = match atI l i with | some d => .ok (d, elMd d m) S | none => .no := rfl
@[simp] theorem kIx_xtp (l : List D) : kIx (.xtp l, m) (.int i, m') S = match atI l i with | some d => .ok (d, elMd d m) S | none => .no := rfl
@[simp] theorem atI_cons_zero (d : D) (l : List D) : atI (d :: l) 0 = some d := by
  unfold atI ixN
  simp
theorem atI_nat (l : List D) (k : Nat) : atI l (k : Int) = l[k]? := by
  unfold atI ixN
  rw [if_pos (Int.natCast_nonneg k)]
  by_cases h : k < l.length
  · rw [if_pos (by exact_mod_cast h)]
    simp
  · rw [if_neg (by exact_mod_cast h)]
    simp [List.getElem?_eq_none (Nat.le_of_not_lt h)]
@[simp] theorem atI_one (l : List D) : atI l 1 = l[1]? := atI_nat l 1
@[simp] theorem atI_two (l : List D) : atI l 2 = l[2]? := atI_nat l 2
@[simp] theorem atI_three (l : List D) : atI l 3 = l[3]? := atI_nat l 3
@[simp] theorem atI_four (l : List D) : atI l 4 = l[4]? := atI_nat l 4
@[simp] theorem ixN_nat' (n k : Nat) : ixN n (k : Int) = if k < n then some k else none := by
  unfold ixN
  rw [if_pos (Int.natCast_nonneg k)]
  by_cases h : k < n
  · rw [if_pos (by exact_mod_cast h), if_pos h]
    simp
  · rw [if_neg (by exact_mod_cast h), if_neg h]
@[simp] theorem ixN_zero (n : Nat) : ixN n 0 = if 0 < n then some 0 else none := ixN_nat' n 0
@[simp] theorem ixN_one (n : Nat) : ixN n 1 = if 1 < n then some 1 else none := ixN_nat' n 1
@[simp] theorem ixN_two (n : Nat) : ixN n 2 = if 2 < n then some 2 else none := ixN_nat' n 2
@[simp] theorem ne_ite {α : Type} {c : Prop} [Decidable c] (a b : Res α) : (if c then a else b).ne = if c then a.ne else b.ne := by split <;> rfl
end
section
variable (env : Env) (S : Sto)
@[simp] theorem fAugSet_eq (f : Int → Int → Int) (i k : Nat) (fe : FE) : fAugSet f i k fe env S = match env[i]? with
  | some (some (.ref n, .pur)) => (match S[n]? with
    | some l => (match l[k]? with
      | some (.int a) => (fe env S).bind fun x S2 => (match x.1, S2[n]? with
        | .int b, some l2 => if k < l2.length then .ok (.nx env) (S2.set n (l2.set k (.int (f a b)))) else .no
        | _, _ => .no)
      | _ => .no)
    | none => .no)
  | _ => .no := rfl
@[simp] theorem fgSet1_eq (i : Nat) (fi : FE) (x : D × Md) : fgSet1 i fi x env S = (fi env S).ne.bind fun k S1 => match k.1, x.2 with
  | .int k, .pur => (match env[i]? with
    | some (some (.ref n, .pur)) => (match S1[n]? with
      | some l => (match ixN l.length k with
        | some j => .ok env (S1.set n (l.set j x.1))
        | none => .no)
      | none => .no)
    | some (some (.lst l, .own)) => (match ixN l.length k with
      | some j => .ok (env.set i (some (.lst (l.set j x.1), .own))) S1
      | none => .no)
    | _ => .no)
  | _, _ => .no := rfl
theorem gOr_ok {g g' : GS} {x : D × Md} {lo hi : Option Int} {z : D × Md} {S S' : Sto} (h : g x lo hi S = .ok z S') : gOr g g' x lo hi S = .ok z S' := by unfold gOr; rw [h]
@[simp] theorem kSl_ref (n : Nat) (m : Md) (lo hi : Option Int) : kSl (.ref n, m) lo hi S = match S[n]? with
  | some l => .ok (.lst (cutD l lo hi), .own) S
  | none => .no := by
  show gOr kSlT (gOr kSlX (gOr kSlL (gOr kSlR kSlS))) (.ref n, m) lo hi S = _
  cases h : S[n]? with
  | none => simp [gOr, kSlT, kSlX, kSlL, kSlR, kSlS, h, D.lstOf?]
  | some l => simp [gOr, kSlT, kSlX, kSlL, kSlR, kSlS, h, D.lstOf?]
@[simp] theorem kSl_str (z : Str) (m : Md) (lo hi : Option Int) : kSl (.str z, m) lo hi S = if z.length ≤ sizeLine then .ok (.str (cutS z lo hi), .pur) S else .no := by
  show gOr kSlT (gOr kSlX (gOr kSlL (gOr kSlR kSlS))) (.str z, m) lo hi S = _
  simp [gOr, kSlT, kSlX, kSlL, kSlR, kSlS, D.lstOf?]
@[simp] theorem kAddX_lst (xs ys : List D) (m m' : Md) (h : xs.length + ys.length ≤ sizeLine) : kAddX (.lst xs, m) (.lst ys, m') S = .ok (.lst (xs ++ ys), (m.mix m').mix .own) S := by
  have e : kCatL (.lst xs, m) (.lst ys, m') S = .ok (.lst (xs ++ ys), (m.mix m').mix .own) S := if_pos h
  show kOr kCatX kAdd (.lst xs, m) (.lst ys, m') S = _
  rw [kOr_no (by rfl)]
  show kOr _ (kOr kAddStr (kOr kCatT kCatL)) _ _ S = _
  rw [kOr_no (by rfl), kOr_no (by rfl), kOr_no (by rfl), e]
end
@[simp] theorem mix_pur_l (m : Md) : Md.mix .pur m = m := rfl
@[simp] theorem mix_pur_r (m : Md) : Md.mix m .pur = m := by cases m <;> rfl
@[simp] theorem mix_own : Md.mix .own .own = .own := rfl
@[simp] theorem elMd_pur (d : D) : elMd d .pur = .pur := by simp [elMd]
@[simp] theorem elMd_int (i : Int) (m : Md) : elMd (.int i) m = .pur := by
  unfold elMd
  split
  · rfl
  · rfl
@[simp] theorem elMd_str (i : Str) (m : Md) : elMd (.str i) m = .pur := by
  unfold elMd
  split
  · rfl
  · rfl
theorem sz_eq : sizeLine = 16777216 := by first | rfl | exact sizeLine_eq
/-- a part of a list -/
def cut {α : Type} (xs : List α) (lo hi : Option Int) : List α := (xs.drop (HT.sIx xs.length 0 lo)).take (HT.sIx xs.length xs.length hi - HT.sIx xs.length 0 lo)
theorem cutD_map {α : Type} (f : α → D) (l : List α) (lo hi : Option Int) : cutD (l.map f) lo hi = (cut l lo hi).map f := by
  unfold cutD cut
  rw [List.length_map, List.map_take, List.map_drop]
theorem cut_sub {α : Type} (l : List α) (lo hi : Option Int) : ∀ a ∈ cut l lo hi, a ∈ l := fun a h => List.mem_of_mem_drop (List.mem_of_mem_take h)
theorem cut_len {α : Type} (l : List α) (lo hi : Option Int) : (cut l lo hi).length ≤ l.length := by
  unfold cut
  rw [List.length_take, List.length_drop]
  omega
end Mi

set_option Elab.async false
set_option linter.all false
set_option maxRecDepth 100000
set_option maxHeartbeats 4000000
namespace Mi
open PySem PySem.Spec PyProof.Rows L2
/-! ### what the laws' own bag does -/
noncomputable def bagS : FS := (fRet (fLst (fCons (fC (.int 0)) (fCons (fC (.int 1234567891)) (fCons (fC (.int 0)) (fCons (fLc (fiSeq (fSl kSl (fVar 0) fNoPart (fPart (fC (.int 63))))) (fgName 1) fYes (fCB kAbs (fCons (fVar 1) fNil)) [1]) fNil))))))
noncomputable def bagF : FF := runF 2 bagS
noncomputable def takeS : FS := (fSeq (fIfS (fTest (fOp2 kEq (fOp2 kIx (fVar 0) (fC (.int 0))) (fC (.int 0)))) (fSeq (fAsg (fOp2 kIx (fOp2 kAddX (fSl kSl (fOp2 kIx (fVar 0) (fC (.int 3))) (fPart (fOp2 kIx (fVar 0) (fC (.int 2)))) fNoPart) (fLst (fCons (fC (.int 0)) fNil))) (fC (.int 0))) (fgName 2))
    (fSeq (fAugSet (fun a b => a + b) 0 2 (fC (.int 1)))
    (fSeq (fIfS (fTest (fOp2 kGe (fVar 2) (fOp2 kPow (fC (.int 10)) (fC (.int 18))))) (fAsg (fVar 2) (fgSet1 0 (fC (.int 0)))) fNext)
    (fSeq (fAsg (fOp2 kAddX (fOp2 kAddX (fOp2 kMul (fOp2 kIx (fVar 0) (fC (.int 1))) (fC (.int 48271))) (fOp2 kMod (fCB kIntAll (fCons (fVar 2) fNil)) (fC (.int 2147483647)))) (fOp2 kMul (fC (.int 7919)) (fOp2 kIx (fVar 0) (fC (.int 2))))) (fgName 3))
    (fAsg (fOp2 kMod (fCB kIntAll (fCons (fVar 3) fNil)) (fC (.int 2147483647))) (fgSet1 0 (fC (.int 1)))))))) fNext)
    (fSeq (fIfS (fTest (fOp2 kGt (fOp2 kIx (fVar 0) (fC (.int 0))) (fC (.int 0)))) (fSeq (fAsg (fOp2 kMod (fCB kIntAll (fCons (fOp2 kIx (fVar 0) (fC (.int 0))) fNil)) (fVar 1)) (fgName 4))
    (fSeq (fAsg (fOp2 kDiv (fCB kIntAll (fCons (fOp2 kIx (fVar 0) (fC (.int 0))) fNil)) (fVar 1)) (fgSet1 0 (fC (.int 0))))
    (fRet (fVar 4)))) fNext)
    (fSeq (fAsg (fOp2 kMod (fCB kIntAll (fCons (fOp2 kMul (fOp2 kAddX (fOp2 kIx (fVar 0) (fC (.int 1))) (fC (.int 1))) (fC (.int 39373))) fNil)) (fC (.int 1000000007))) (fgName 5))
    (fSeq (fAsg (fOp2 kMod (fCB kIntAll (fCons (fOp2 kMul (fOp2 kMod (fCB kIntAll (fCons (fOp2 kMul (fVar 5) (fVar 5)) fNil)) (fC (.int 998244353))) (fC (.int 30011))) fNil)) (fC (.int 998244353))) (fgName 6))
    (fRet (fOp2 kMod (fCB kIntAll (fCons (fOp2 kDiv (fVar 6) (fC (.int 7))) fNil)) (fVar 1)))))))
noncomputable def takeF : FF := runF 7 takeS
noncomputable def someS : FS := (fRet (fOp2 kIx (fVar 1) (fCall 2 takeF (fCons (fVar 0) (fCons (fCB kLen (fCons (fVar 1) fNil)) fNil)))))
noncomputable def someF : FF := runF 2 someS
noncomputable def alikeS : FS := (fRet ((fAndV (fOp2 kEq (fCB kRepr (fCons (fVar 0) fNil)) (fCB kRepr (fCons (fVar 1) fNil))) (fOp2 kEq (fVar 0) (fVar 1)))))
noncomputable def alikeF : FF := runF 2 alikeS
/-- the bag as it stands in the store's first two places -/
def Bag (S : Sto) : Prop := ∃ (b0 b1 b2 : Int) (cells : List Int), S = [[.int b0, .int b1, .int b2, .ref 1], cells.map D.int] ∧ 0 ≤ b0 ∧ 0 ≤ b1 ∧ b1 < 2147483647 ∧ 0 ≤ b2 ∧ cells.length ≤ 63 ∧ ∀ c ∈ cells, 0 ≤ c
@[simp] theorem rdMd_pur (d : D) : rdMd d .pur = .pur := rfl
@[simp] theorem rdMd_frn (d : D) : rdMd d .frn = .frn := rfl
theorem cmul_r (i j : Int) (h : -(2 ^ 64) < j ∧ j < 2 ^ 64) : CMul i j := .inr h
theorem cmul_l (i j : Int) (h : -(2 ^ 64) < i ∧ i < 2 ^ 64) : CMul i j := .inl h
theorem emod_small (x : Int) : -(2 ^ 64) < x % 1000000007 ∧ x % 1000000007 < 2 ^ 64 := by omega
theorem divW_small {b many : Int} (h1 : 0 < many) (h2 : many < 1000000000) : CDivW b many := wide_div (b := 64) h1 (by omega) (by decide) (by decide)
theorem take_spec {S : Sto} (h : Bag S) {many : Int} (h1 : 0 < many) (h2 : many < 1000000000) : ∃ v S', takeF [.ref 0, .int many] S = .ok (.int v, .pur) S' ∧ 0 ≤ v ∧ v < many ∧ Bag S' := by
  obtain ⟨b0, b1, b2, cells, rfl, q0, q1, q2, q3, q4, q5⟩ := h
  have hd : ∀ b : Int, CDivW b many := fun b => divW_small h1 h2
  have e0 : startEnv 7 [.ref 0, .int many] = [some (.ref 0, .pur), some (.int many, .pur), none, none, none, none, none] := rfl
  have cp : CPow 10 18 := by unfold CPow; decide
  have ml : ∀ i : Int, CMul i 48271 := fun i => cmul_r _ _ (by decide)
  have m2 : ∀ i : Int, CMul 7919 i := fun i => cmul_l _ _ (by decide)
  have m3 : ∀ i : Int, CMul i 39373 := fun i => cmul_r _ _ (by decide)
  have m4 : ∀ i : Int, CMul i 30011 := fun i => cmul_r _ _ (by decide)
  have m5 : ∀ i : Int, CMul (i % 1000000007) (i % 1000000007) := fun i => cmul_l _ _ (emod_small i)
  have d7' : ∀ x : Int, CDivW x 7 := fun x => divW_small (by decide) (by decide)
  unfold takeF runF
  rw [e0]
  unfold takeS
  by_cases z : b0 = 0
  · subst z
    -- the next number
    obtain ⟨cell, hc, hcell⟩ : ∃ cell, 0 ≤ cell ∧ atI (cutD (cells.map D.int) (some b2) none ++ [D.int 0]) 0 = some (.int cell) := by
      rw [cutD_map]
      cases hl : cut cells (some b2) none with
      | nil => exact ⟨0, Int.le_refl _, rfl⟩
      | cons a r => exact ⟨a, q5 a (cut_sub cells _ _ a (by rw [hl]; exact List.mem_cons_self)), atI_cons_zero _ _⟩
    have hlen : (cutD (cells.map D.int) (some b2) none).length + 1 ≤ 16777216 := by
      rw [cutD_map, List.length_map]
      have := cut_len cells (some b2) none
      omega
    by_cases hb : 1000000000000000000 ≤ cell
    · have hp : 0 < cell := by omega
      simp [sz_eq, hlen, hcell, cp, ml, m2, hb, hp, h1, hd]
      exact ⟨_, _, ⟨rfl, rfl⟩, Int.emod_nonneg _ (by omega), Int.emod_lt_of_pos _ h1, _, _, _, cells, rfl, Int.ediv_nonneg hc (by omega), Int.emod_nonneg _ (by decide), Int.emod_lt_of_pos _ (by decide), by omega, q4, q5⟩
    · simp [sz_eq, hlen, hcell, cp, ml, m2, m3, m4, m5, hb, h1, d7']
      exact ⟨_, _, ⟨rfl, rfl⟩, Int.emod_nonneg _ (by omega), Int.emod_lt_of_pos _ h1, _, _, _, cells, rfl, Int.le_refl _, Int.emod_nonneg _ (by decide), Int.emod_lt_of_pos _ (by decide), by omega, q4, q5⟩
  · have hp : 0 < b0 := by omega
    simp [z, hp, h1, hd]
    exact ⟨_, _, ⟨rfl, rfl⟩, Int.emod_nonneg _ (by omega), Int.emod_lt_of_pos _ h1, _, _, _, cells, rfl, Int.ediv_nonneg q0 (by omega), q1, q2, q3, q4, q5⟩
end Mi

set_option Elab.async false
set_option linter.all false
set_option maxRecDepth 100000
set_option maxHeartbeats 4000000
namespace Mi
open PySem PySem.Spec PyProof.Rows L2

/-! ### texts as lists of signs; the split of a join -/
def mk (w : List Nat) : Str := ⟨w.toArray⟩
def sg (z : Str) : List Nat := z.cps.toList
@[simp] theorem sg_mk (w : List Nat) : sg (mk w) = w := rfl
@[simp] theorem mk_sg (z : Str) : mk (sg z) = z := rfl
theorem mk_inj {a b : List Nat} : mk a = mk b ↔ a = b := ⟨fun h => by have := congrArg sg h; simpa using this, fun h => by rw [h]⟩
theorem len_mk (w : List Nat) : (mk w).length = w.length := by simp [mk, Str.length]
theorem len_sg (z : Str) : (sg z).length = z.length := by simp [sg, Str.length]
theorem mk_app (a b : List Nat) : mk a ++ mk b = mk (a ++ b) := by
  apply Str.ext'
  apply Array.toList_inj.mp
  simp [mk, Str.cps_append]
theorem sg_app (a b : Str) : sg (a ++ b) = sg a ++ sg b := by
  simp [sg, Str.cps_append]
def occL (y l : List Nat) (k : Nat) : Prop := (l.drop k).take y.length = y
def joinL (y : List Nat) : List (List Nat) → List Nat
  | [] => []
  | [w] => w
  | w :: r => w ++ y ++ joinL y r
def TightL (y : List Nat) : List (List Nat) → Prop
  | [] => False
  | [w] => ∀ k, ¬ occL y w k
  | w :: r => (∀ k, k < w.length → ¬ occL y (w ++ y) k) ∧ TightL y r
theorem occ_early {y p w A B : List Nat} (e : p ++ y ++ A = w ++ y ++ B) (h : p.length < w.length) : occL y (w ++ y) p.length := by
  unfold occL
  have h1 : ((w ++ y).drop p.length).take y.length = ((w ++ y ++ B).drop p.length).take y.length := by
    rw [List.drop_append_of_le_length (l₁ := w ++ y) (by rw [List.length_append]; omega), List.take_append_of_le_length (by rw [List.length_drop, List.length_append]; omega)]
  rw [h1, ← e, List.append_assoc, List.drop_left, List.take_left]
theorem tight_uniq {y : List Nat} (hy : y ≠ []) : ∀ {ps ws : List (List Nat)}, TightL y ps → TightL y ws → joinL y ps = joinL y ws → ps = ws
  | [], _, h, _, _ => h.elim
  | _, [], _, h, _ => h.elim
  | [p], [w], _, _, e => by rw [show p = w from e]
  | [p], w :: w2 :: r, hp, _, e => by
    have e' : p = w ++ y ++ joinL y (w2 :: r) := e
    exact absurd (show occL y p w.length by unfold occL; rw [e', List.append_assoc, List.drop_left, List.take_left]) (hp _)
  | p :: p2 :: r, [w], _, hw, e => by
    have e' : w = p ++ y ++ joinL y (p2 :: r) := e.symm
    exact absurd (show occL y w p.length by unfold occL; rw [e', List.append_assoc, List.drop_left, List.take_left]) (hw _)
  | p :: p2 :: r, w :: w2 :: s, hp, hw, e => by
    have e' : p ++ y ++ joinL y (p2 :: r) = w ++ y ++ joinL y (w2 :: s) := e
    have hl : p.length = w.length := by
      rcases Nat.lt_trichotomy p.length w.length with h | h | h
      · exact absurd (occ_early e' h) (hw.1 _ h)
      · exact h
      · exact absurd (occ_early e'.symm h) (hp.1 _ h)
    rw [List.append_assoc, List.append_assoc] at e'
    obtain ⟨e1, e2⟩ := List.append_inj e' hl
    have e3 := List.append_cancel_left e2
    rw [e1, tight_uniq hy hp.2 hw.2 e3]
theorem sg_join (y : Str) : ∀ l : List Str, sg (Str.join y l) = joinL (sg y) (l.map sg)
  | [] => rfl
  | [w] => rfl
  | w :: w2 :: r => by
    show sg (w ++ y ++ Str.join y (w2 :: r)) = _
    rw [sg_app, sg_app, sg_join y (w2 :: r)]
    rfl
open StrLaws Builtin.Str in
theorem at_occ {x y : Str} {k : Nat} (h : occL (sg y) (sg x) k) (hy : sg y ≠ []) : At x y x.length k := by
  unfold occL at h
  have hl := congrArg List.length h
  rw [List.length_take, List.length_drop, len_sg, len_sg] at hl
  have hy1 : 0 < y.length := by rw [← len_sg]; exact List.length_pos_iff.mpr hy
  refine ⟨by omega, ?_⟩
  rw [subAt_eq]
  rw [len_sg] at h
  exact beq_iff_eq.mpr h
open StrLaws Builtin.Str in
theorem parts_tight (x y : Str) (hy : sg y ≠ []) : ∀ (cuts : List Nat) (a f : Nat), ChainG x y x.length a cuts f → (∀ k, f ≤ k → ¬ At x y x.length k) → TightL (sg y) ((partsFrom x y.length a cuts).map sg)
  | [], a, f, h, hn => by
    have e : f = a := h
    subst e
    intro k hk
    have hk' : occL (sg y) (((sg x).drop f).take (x.length - f)) k := by
      have e1 : sg (strSub x f x.length) = ((sg x).drop f).take (x.length - f) := strSub_toList x f x.length
      rw [← e1]
      exact hk
    rw [List.take_of_length_le (by rw [List.length_drop, len_sg]; omega)] at hk'
    unfold occL at hk'
    rw [List.drop_drop] at hk'
    exact hn (f + k) (by omega) (at_occ hk' hy)
  | c :: r, a, f, h, hn => by
    obtain ⟨p, q, e⟩ := partsFrom_ne x y.length (c + y.length) r
    have ih := parts_tight x y hy r (c + y.length) f h.2.2.2 hn
    show TightL (sg y) (sg (strSub x a c) :: (partsFrom x y.length (c + y.length) r).map sg)
    rw [e] at ih ⊢
    refine ⟨fun k hk ho => ?_, ih⟩
    have hA := h.2.1
    have hc : y.length + c ≤ x.length := by have := hA.1; omega
    have hyx : sg y = ((sg x).drop c).take y.length := by
      have := hA.2
      rw [subAt_eq] at this
      exact (eq_of_beq this).symm
    have e1 : sg (strSub x a c) = ((sg x).drop a).take (c - a) := strSub_toList x a c
    have hle : a ≤ c := h.1
    have e2 : sg (strSub x a c) ++ sg y = ((sg x).drop a).take (c + y.length - a) := by
      rw [e1, hyx, show c + y.length - a = (c - a) + y.length by omega, List.take_add, List.drop_drop, show a + (c - a) = c by omega]
    have hk' : k < c - a := by
      rw [e1, List.length_take] at hk
      omega
    unfold occL at ho
    rw [e2, len_sg, List.drop_take, List.take_take, List.drop_drop] at ho
    have hm : min y.length (c + y.length - a - k) = y.length := by omega
    rw [hm] at ho
    exact h.2.2.1 (a + k) (by omega) (by omega) (at_occ (by unfold occL; rw [len_sg]; exact ho) hy)
open StrLaws in
theorem split_tight (x y : Str) (hy : sg y ≠ []) (hk : Builtin.Str.strKind y = 1) : TightL (sg y) ((Txt.split x y).map sg) := by
  have hy1 : 1 ≤ y.length := by rw [← len_sg]; exact List.length_pos_iff.mpr hy
  obtain ⟨f, hG, hn⟩ := occ_tight x y hy1
  unfold Txt.split
  split
  · rename_i hc
    rw [Bool.or_eq_true, decide_eq_true_eq, decide_eq_true_eq] at hc
    intro k hk2
    have := (at_occ hk2 hy).1
    rcases hc with h | h
    · omega
    · rw [hk] at h
      have : 1 ≤ Builtin.Str.strKind x := by unfold Builtin.Str.strKind; split <;> (try split) <;> omega
      omega
  · split
    · rename_i he
      have hnil := List.isEmpty_iff.mp he
      rw [hnil] at hG
      have e : f = 0 := hG
      subst e
      intro k hk2
      exact hn k (Nat.zero_le _) (at_occ hk2 hy)
    · rw [partsBetween_eq]
      exact parts_tight x y hy _ 0 f hG hn
theorem split_join_of {y : Str} {ws : List Str} (hy : sg y ≠ []) (hk : Builtin.Str.strKind y = 1) (ht : TightL (sg y) (ws.map sg)) : Txt.split (Str.join y ws) y = ws := by
  have e := congrArg sg (StrLaws.join_split (Str.join y ws) y)
  rw [sg_join, sg_join] at e
  have e2 := tight_uniq hy (split_tight (Str.join y ws) y hy hk) ht e
  have e3 := congrArg (List.map mk) e2
  rw [List.map_map, List.map_map] at e3
  simpa [Function.comp_def] using e3
theorem txt_join (y : Str) (l : List Str) : Txt.join y l = Str.join y l := StrLaws.glued_eq_join y l
end Mi

set_option Elab.async false
set_option linter.all false
set_option maxRecDepth 100000
set_option maxHeartbeats 4000000
namespace Mi
open PySem PySem.Spec PyProof.Rows L2

/-! ### more unfolding: walks, comprehensions, fors -/
section
variable (env : Env) (S : Sto)
theorem fiSeq_eq (fe : FE) : fiSeq fe env S = (fe env S).bind fun x S1 => match x.1 with
  | .str z => .ok (chars z, .pur) S1
  | _ => (match x.1.seqOf? with
    | some l => .ok (l, x.2) S1
    | none => .no) := rfl
@[simp] theorem fLc_eq (fi : FI) (fg : FG) (ft : FT) (fe : FE) (vs : List Nat) : fLc fi fg ft fe vs env S = (fi env S).bind fun x S1 => if x.1.length ≤ sizeLine then
    (lcLoop fg ft fe x.2 (wipeE (demote env) vs) x.1 S1).bind fun ys S2 => .ok (.lst ys, .own) S2 else .no := rfl
@[simp] theorem fFor_eq (fi : FI) (fg : FG) (f : FS) : fFor fi fg f env S = (fi env S).bind fun x S1 => if forMd x.2 then fForLoop fg f x.2 x.1 env S1 else .no := rfl
@[simp] theorem fiRng1_eq (fa : FA) : fiRng1 fa env S = (fa env S).bind fun x S1 => match x.1 with
  | [.int j] => if -(2 ^ 62) ≤ j ∧ j < 2 ^ 62 then .ok (rgL 0 j.toNat, .pur) S1 else .no
  | _ => .no := rfl
@[simp] theorem fM1_eq (g : G2) (fo fe : FE) : fM1 g fo fe env S = (fo env S).bind fun x S1 => match x.1 with
  | .str _ => (fe env S1).bind fun y S2 => g x y S2
  | _ => .no := rfl
@[simp] theorem wipeE_nil : wipeE env [] = env := rfl
@[simp] theorem wipeE_cons (v : Nat) (vs : List Nat) : wipeE env (v :: vs) = (wipeE env vs).set v none := rfl
@[simp] theorem demote_nil : demote [] = [] := rfl
@[simp] theorem demote_none (r : Env) : demote (none :: r) = none :: demote r := rfl
@[simp] theorem demote_pur (d : D) (r : Env) : demote (some (d, .pur) :: r) = some (d, .pur) :: demote r := rfl
@[simp] theorem demote_own (d : D) (r : Env) : demote (some (d, .own) :: r) = some (d, .frn) :: demote r := rfl
@[simp] theorem demote_frn (d : D) (r : Env) : demote (some (d, .frn) :: r) = some (d, .frn) :: demote r := rfl
/-- a slot that nobody looks at -/
def dmx (x : Option (D × Md)) : Option (D × Md) := match x with
  | some (d, .own) => some (d, .frn)
  | s => s
@[simp] theorem dmx_own (d : D) : dmx (some (d, .own)) = some (d, .frn) := rfl
@[simp] theorem dmx_pur (d : D) : dmx (some (d, .pur)) = some (d, .pur) := rfl
@[simp] theorem dmx_frn (d : D) : dmx (some (d, .frn)) = some (d, .frn) := rfl
@[simp] theorem dmx_none : dmx none = none := rfl
theorem demote_any (x : Option (D × Md)) (r : Env) : demote (x :: r) = dmx x :: demote r := rfl
@[simp] theorem kIn_char (c : Nat) (m m' : Md) (z : Str) : kIn (.str ⟨#[c]⟩, m) (.str z, m') S = .ok (.bl (decide (c ∈ sg z)), .pur) S := by
  show kOr (kInF false) (kOr (kInS false) (kInD false)) _ _ S = _
  rw [kOr_no (by rfl)]
  exact kOr_ok rfl
@[simp] theorem kNotIn_char (c : Nat) (m m' : Md) (z : Str) : kNotIn (.str ⟨#[c]⟩, m) (.str z, m') S = .ok (.bl (!decide (c ∈ sg z)), .pur) S := by
  show kOr (kInF true) (kOr (kInS true) (kInD true)) _ _ S = _
  rw [kOr_no (by rfl)]
  exact kOr_ok rfl
@[simp] theorem kIx_str (z : Str) (m m' : Md) (i : Int) : kIx (.str z, m) (.int i, m') S = if z.length ≤ sizeLine then (match atI (sg z) i with | some c => .ok (.str ⟨#[c]⟩, .pur) S | none => .no) else .no := rfl
@[simp] theorem kAddX_str (a b : Str) (m m' : Md) (h : a.length + b.length ≤ sizeLine) : kAddX (.str a, m) (.str b, m') S = .ok (.str (a ++ b), .pur) S := by
  show kOr kCatX kAdd _ _ S = _
  rw [kOr_no (by rfl)]
  show kOr _ (kOr kAddStr (kOr kCatT kCatL)) _ _ S = _
  rw [kOr_no (by rfl)]
  exact kOr_ok (if_pos h)
@[simp] theorem kIsN_non (m m' : Md) (neg : Bool) : kIsN neg (.non, m) (.non, m') S = .ok (.bl (if neg then false else true), .pur) S := by cases neg <;> rfl
@[simp] theorem kIsN_int (i : Int) (m m' : Md) (neg : Bool) : kIsN neg (.int i, m) (.non, m') S = .ok (.bl neg, .pur) S := by cases neg <;> rfl
@[simp] theorem kIsN_xtp (l : List D) (m m' : Md) (neg : Bool) : kIsN neg (.xtp l, m) (.non, m') S = .ok (.bl neg, .pur) S := by cases neg <;> rfl
@[simp] theorem kIsN_tup (l : List D) (m m' : Md) (neg : Bool) : kIsN neg (.tup l, m) (.non, m') S = .ok (.bl neg, .pur) S := by cases neg <;> rfl
end
theorem atI_zeroG {α : Type} (l : List α) : atI l 0 = l[0]? := by
  unfold atI ixN
  cases l with
  | nil => rfl
  | cons a r => simp
/-! a comprehension whose parts leave the store alone -/
theorem lc_pure {fg : FG} {ft : FT} {fe : FE} {m : Md} {env : Env} {α : Type} (enc : α → D) (p : α → Bool) (f : α → D) {S : Sto} : ∀ (l : List α),
    (∀ x ∈ l, ∃ env1 md, fg (enc x, cmMd (enc x) m) env S = .ok env1 S ∧ ft env1 S = .ok (p x) S ∧ (p x = true → fe env1 S = .ok (f x, md) S ∧ upO (f x, md) ≠ none)) →
    lcLoop fg ft fe m env (l.map enc) S = .ok ((l.filter p).map f) S
  | [], _ => rfl
  | x :: l, h => by
    obtain ⟨env1, md, h1, h2, h3⟩ := h x List.mem_cons_self
    have ih := lc_pure enc p f l fun y hy => h y (List.mem_cons_of_mem _ hy)
    show lcLoop fg ft fe m env (enc x :: l.map enc) S = _
    unfold lcLoop
    rw [h1]
    simp only [Res.ne_ok, Res.bind_ok]
    rw [h2]
    simp only [Res.ne_ok, Res.bind_ok]
    cases hp : p x with
    | false =>
      rw [if_neg Bool.false_ne_true, ih, List.filter_cons_of_neg (by rw [hp]; exact Bool.false_ne_true)]
    | true =>
      obtain ⟨h4, h5⟩ := h3 hp
      rw [if_pos rfl, h4]
      simp only [Res.ne_ok, Res.bind_ok]
      rw [List.filter_cons_of_pos hp]
      cases hu : upO (f x, md) with
      | none => exact absurd hu h5
      | some m' =>
        simp only
        rw [ih]
        rfl
theorem lc_pure1 {fg : FG} {fe : FE} {m : Md} {env : Env} {α : Type} (enc : α → D) (f : α → D) {S : Sto} (l : List α)
    (h : ∀ x ∈ l, ∃ env1 md, fg (enc x, cmMd (enc x) m) env S = .ok env1 S ∧ fe env1 S = .ok (f x, md) S ∧ upO (f x, md) ≠ none) :
    lcLoop fg fYes fe m env (l.map enc) S = .ok (l.map f) S := by
  have := lc_pure (ft := fYes) enc (fun _ => true) f l fun x hx => by
    obtain ⟨env1, md, h1, h2, h3⟩ := h x hx
    exact ⟨env1, md, h1, rfl, fun _ => ⟨h2, h3⟩⟩
  rw [this]
  congr 2
  exact List.filter_eq_self.mpr fun _ _ => rfl
/-- two fors, both in the plain -/
theorem lc2_pure1 {fg fg1 : FG} {fi1 : FI} {fe : FE} {m : Md} {env : Env} {vs1 : List Nat} {α β : Type} (enc : α → D) (inner : α → List β) (enc1 : β → D) (f : β → D) {S : Sto} : ∀ (l : List α),
    (∀ x ∈ l, ∃ env1 m1, fg (enc x, cmMd (enc x) m) env S = .ok env1 S ∧ fi1 env1 S = .ok ((inner x).map enc1, m1) S ∧ lc2Md m1 = true ∧
      ∀ y ∈ inner x, ∃ env2 md, fg1 (enc1 y, cmMd (enc1 y) m1) (wipeE env1 vs1) S = .ok env2 S ∧ fe env2 S = .ok (f y, md) S ∧ upO (f y, md) ≠ none) →
    lc2Loop fg fYes fi1 fg1 fYes fe m env vs1 (l.map enc) S = .ok ((l.flatMap inner).map f) S
  | [], _ => rfl
  | x :: l, h => by
    obtain ⟨env1, m1, h1, h2, h3, h4⟩ := h x List.mem_cons_self
    have ih := lc2_pure1 enc inner enc1 f l fun y hy => h y (List.mem_cons_of_mem _ hy)
    have hin := lc_pure1 (fg := fg1) (fe := fe) (m := m1) (env := wipeE env1 vs1) enc1 f (S := S) (inner x) h4
    show lc2Loop fg fYes fi1 fg1 fYes fe m env vs1 (enc x :: l.map enc) S = _
    unfold lc2Loop
    rw [h1]
    simp only [Res.ne_ok, Res.bind_ok, fYes_eq, if_true]
    rw [h2]
    simp only [Res.ne_ok, Res.bind_ok]
    rw [h3, if_pos rfl, hin]
    simp only [Res.bind_ok]
    rw [ih]
    simp only [Res.bind_ok, List.flatMap_cons, List.map_append]
@[simp] theorem fLc2_eq (fi : FI) (fg : FG) (ft : FT) (fi1 : FI) (fg1 : FG) (ft1 : FT) (fe : FE) (vs vs1 : List Nat) (env : Env) (S : Sto) : fLc2 fi fg ft fi1 fg1 ft1 fe vs vs1 env S = (fi env S).bind fun x S1 =>
  (lc2Loop fg ft fi1 fg1 ft1 fe x.2 (wipeE (demote env) vs) vs1 x.1 S1).ne.bind fun ys S2 => if ys.length ≤ sizeLine then .ok (.lst ys, .own) S2 else .no := rfl
/-! a for whose turns keep what is said -/
theorem for_keep {fg : FG} {f : FS} {m : Md} (I : Nat → Env → Sto → Prop) : ∀ (ds : List D) (k : Nat) (env : Env) (S : Sto), I k env S →
    (∀ i d env S, ds[i]? = some d → I (k + i) env S → ∃ e S2, ((fg (d, cmMd d m) env S).ne.bind fun env1 S1 => f env1 S1) = .ok (.nx e) S2 ∧ I (k + i + 1) e S2) →
    ∃ e S', fForLoop fg f m ds env S = .ok (.nx e) S' ∧ I (k + ds.length) e S'
  | [], k, env, S, h, _ => ⟨env, S, rfl, h⟩
  | d :: ds, k, env, S, h, hs => by
    obtain ⟨e, S2, h1, h2⟩ := hs 0 d env S rfl h
    obtain ⟨e', S', h3, h4⟩ := for_keep I ds (k + 1) e S2 h2 fun i d' env' S'' hd hi => by
      have := hs (i + 1) d' env' S'' (by simpa using hd) (by rw [show k + (i + 1) = k + 1 + i by omega]; exact hi)
      rw [show k + 1 + i + 1 = k + (i + 1) + 1 by omega]
      exact this
    refine ⟨e', S', ?_, by rw [List.length_cons, show k + (ds.length + 1) = k + 1 + ds.length by omega]; exact h4⟩
    unfold fForLoop
    cases e1 : fg (d, cmMd d m) env S with
    | no => rw [e1] at h1; cases h1
    | err c S1 => rw [e1] at h1; cases h1
    | ok env1 S1 =>
      rw [e1] at h1
      have h1' : f env1 S1 = .ok (.nx e) S2 := h1
      simp only [Res.ne_ok, Res.bind_ok]
      rw [h1']
      exact h3
theorem blsOf_map {α : Type} (p : α → Bool) : ∀ l : List α, blsOf (l.map fun c => D.bl (p c)) = some (l.map p)
  | [] => rfl
  | a :: l => by
    show (blsOf (l.map fun c => D.bl (p c))).map (p a :: ·) = _
    rw [blsOf_map p l]
    rfl
theorem kAll_map {α : Type} (p : α → Bool) (l : List α) (m : Md) (S : Sto) : kAll ([.lst (l.map fun c => D.bl (p c))], m) S = .ok (.bl (l.all p), .pur) S := by
  show (match blsOf (l.map fun c => D.bl (p c)) with
    | some ns => Res.ok (D.bl (ns.all id), Md.pur) S
    | none => .no) = _
  rw [blsOf_map]
  simp
theorem kAny_map {α : Type} (p : α → Bool) (l : List α) (m : Md) (S : Sto) : kAny ([.lst (l.map fun c => D.bl (p c))], m) S = .ok (.bl (l.any p), .pur) S := by
  show (match blsOf (l.map fun c => D.bl (p c)) with
    | some ns => Res.ok (D.bl (ns.any id), Md.pur) S
    | none => .no) = _
  rw [blsOf_map]
  simp
/-! parts of a text -/
theorem cutS_take (z : Str) (k : Nat) : cutS z none (some (k : Int)) = mk ((sg z).take k) := by
  unfold cutS mk
  rw [HT.sIx_nat, HT.sIx_none, List.drop_zero, Nat.sub_zero]
  congr 2
  have : z.length = (sg z).length := (len_sg z).symm
  rw [this]
  show (sg z).take (min k (sg z).length) = _
  rw [Nat.min_def]
  split
  · rfl
  · rw [List.take_of_length_le (Nat.le_refl _), List.take_of_length_le (by omega)]
theorem cutS_drop (z : Str) (k : Nat) : cutS z (some (k : Int)) none = mk ((sg z).drop k) := by
  unfold cutS mk
  rw [HT.sIx_nat, HT.sIx_none]
  congr 2
  have e : z.length = (sg z).length := (len_sg z).symm
  rw [e]
  show ((sg z).drop (min k (sg z).length)).take ((sg z).length - min k (sg z).length) = _
  rw [List.take_of_length_le (by rw [List.length_drop]; omega), Nat.min_def]
  split
  · rfl
  · rw [List.drop_of_length_le (Nat.le_refl _), List.drop_of_length_le (by omega)]
@[simp] theorem cutS_take1 (z : Str) : cutS z none (some 1) = mk ((sg z).take 1) := cutS_take z 1
@[simp] theorem cutS_drop1 (z : Str) : cutS z (some 1) none = mk (sg z).tail := by
  rw [← List.drop_one]
  exact cutS_drop z 1
/-! == and != of lists -/
theorem toPys_len : ∀ {l : List D} {ps : List PyData}, toPys l = some ps → ps.length = l.length
  | [], _, e => by simp only [toPys, Option.some.injEq] at e; subst e; rfl
  | d :: l, _, e => by
    simp only [toPys, Option.bind_eq_some_iff, Option.map_eq_some_iff] at e
    obtain ⟨p, _, r, e2, rfl⟩ := e
    rw [List.length_cons, List.length_cons, toPys_len e2]
theorem kNe_nil {l : List D} {ps : List PyData} {m m' : Md} {S : Sto} (h1 : toPys l = some ps) (h2 : PyData.canLayAll0 ps = true) (h3 : PyData.depthAll ps ≤ 63) : kNe (.lst l, m) (.lst [], m') S = .ok (.bl (!l.isEmpty), .pur) S := by
  have e1 : (D.lst l).toPy = some (.list ps) := by simp only [D.toPy, h1, Option.map_some]
  have e2 : (D.lst []).toPy = some (.list []) := rfl
  have s1 : SeqAt.shaped (.list ps) = true := by
    unfold SeqAt.shaped
    rw [Bool.and_eq_true, decide_eq_true_eq]
    exact ⟨by simpa [PyData.canLay0] using h2, by simp only [PyData.depth]; omega⟩
  have s2 : SeqAt.shaped (.list []) = true := by decide +kernel
  show kOr (kEqS true) (kEqD true) _ _ S = _
  rw [kOr_no (by rfl)]
  unfold kEqD
  simp only [e1, e2, s1, s2]
  have hl := toPys_len h1
  have e3 : PyData.eqv (.list ps) (.list []) = l.isEmpty := by
    cases ps with
    | nil =>
      have : l = [] := List.eq_nil_of_length_eq_zero hl.symm
      subst this
      simp [PyData.eqv, PyData.eqvAll]
    | cons p ps =>
      cases l with
      | nil => simp at hl
      | cons d l => simp [PyData.eqv, PyData.eqvAll]
  rw [e3]
  rfl
theorem toPys_signs : ∀ l : List Nat, toPys (l.map fun c => D.str ⟨#[c]⟩) = some (l.map fun c => PyData.str ⟨#[c]⟩)
  | [] => rfl
  | c :: l => by
    simp only [List.map_cons, toPys, D.toPy, toPys_signs l, Option.bind_some, Option.map_some]
theorem lay_signs : ∀ l : List Nat, (∀ c ∈ l, c < 1114112) → PyData.canLayAll0 (l.map fun c => PyData.str ⟨#[c]⟩) = true
  | [], _ => rfl
  | c :: l, h => by
    have h1 := h c List.mem_cons_self
    simp only [List.map_cons, PyData.canLayAll0, PyData.canLay0, Bool.and_eq_true]
    refine ⟨?_, lay_signs l fun d hd => h d (List.mem_cons_of_mem _ hd)⟩
    unfold PyData.strOk
    simpa using h1
theorem depth_signs : ∀ l : List Nat, PyData.depthAll (l.map fun c => PyData.str ⟨#[c]⟩) = 0
  | [] => rfl
  | c :: l => by
    simp only [List.map_cons, PyData.depthAll, PyData.depth, depth_signs l, Nat.max_self]
theorem kNe_signs {l : List Nat} {m m' : Md} {S : Sto} (h : ∀ c ∈ l, c < 1114112) : kNe (.lst (l.map fun c => D.str ⟨#[c]⟩), m) (.lst [], m') S = .ok (.bl (!l.isEmpty), .pur) S := by
  rw [kNe_nil (toPys_signs l) (lay_signs l h) (by rw [depth_signs]; omega)]
  cases l <;> rfl
@[simp] theorem rdMd_lst_own (l : List D) : rdMd (.lst l) .own = .als := rfl
theorem upO_pur (d : D) : upO (d, .pur) ≠ none := fun z => nomatch z
theorem upO_own (d : D) : upO (d, .own) ≠ none := fun z => nomatch z
@[simp] theorem fAppend_eq (i : Nat) (fe : FE) (env : Mi.Env) (S : Sto) : fAppend i fe env S = match env[i]? with
  | some (some (.lst l, .own)) => (fe env S).bind fun x S1 => (match upO x with
    | some _ => if l.length < sizeLine then .ok (.nx (env.set i (some (.lst (l ++ [x.1]), .own)))) S1 else .no
    | none => .no)
  | _ => .no := rfl
@[simp] theorem fExtend_eq (i : Nat) (fe : FE) (env : Mi.Env) (S : Sto) : fExtend i fe env S = match env[i]? with
  | some (some (.lst l, .own)) => (fe env S).bind fun x S1 => (match x.1 with
    | .lst ys => if noLsts ys = true ∨ x.2 = .own then (if l.length + ys.length ≤ sizeLine then .ok (.nx (env.set i (some (.lst (l ++ ys), .own)))) S1 else .no) else .no
    | _ => .no)
  | _ => .no := rfl
@[simp] theorem upO_pur' (d : D) : upO (d, .pur) = some .pur := rfl
@[simp] theorem upO_own' (d : D) : upO (d, .own) = some .own := rfl
@[simp] theorem fgTup_eq (n : Nat) (g : FGs) (x : D × Md) (env : Mi.Env) (S : Sto) : fgTup n g x env S = match x.1.tupOf? with
  | some l => if l.length = n then (match x.2 with
    | .als => if noLst x.1 then g (l, .pur) env S else .no
    | .bad => if noLst x.1 then g (l, .pur) env S else .no
    | m => g (l, m) env S) else .no
  | none => .no := rfl
/-! a comprehension whose parts draw: I holds of the store between them, P of each item -/
theorem lc_some {fg : FG} {fe : FE} {m : Md} {env : Mi.Env} (I : Sto → Prop) (P : D → Prop) : ∀ (l : List D) (S : Sto), I S →
    (∀ x ∈ l, ∀ S, I S → ∃ env1 y md S', fg (x, cmMd x m) env S = .ok env1 S ∧ fe env1 S = .ok (y, md) S' ∧ I S' ∧ upO (y, md) ≠ none ∧ P y) →
    ∃ ys S', lcLoop fg fYes fe m env l S = .ok ys S' ∧ I S' ∧ ys.length = l.length ∧ ∀ y ∈ ys, P y
  | [], S, hI, _ => ⟨[], S, rfl, hI, rfl, fun _ z => nomatch z⟩
  | x :: l, S, hI, h => by
    obtain ⟨env1, y, md, S1, h1, h2, h3, h4, h5⟩ := h x List.mem_cons_self S hI
    obtain ⟨ys, S2, e1, e2, e3, e4⟩ := lc_some I P l S1 h3 fun z hz => h z (List.mem_cons_of_mem _ hz)
    refine ⟨y :: ys, S2, ?_, e2, by rw [List.length_cons, List.length_cons, e3], fun z hz => (List.mem_cons.mp hz).elim (fun q => q ▸ h5) (e4 z)⟩
    unfold lcLoop
    rw [h1]
    simp only [Res.ne_ok, Res.bind_ok, fYes_eq, if_true]
    rw [h2]
    simp only [Res.ne_ok, Res.bind_ok]
    cases hu : upO (y, md) with
    | none => exact absurd hu h4
    | some m' =>
      simp only
      rw [e1]
      rfl
theorem Bag.len {S : Sto} (h : Bag S) : S.length = 2 := by
  obtain ⟨b0, b1, b2, cells, rfl, _⟩ := h
  rfl
theorem take_call {S : Sto} (h : Bag S) {many : Int} (h1 : 0 < many) (h2 : many < 1000000000) : ∃ v S', sameLen (takeF [.ref 0, .int many] S) S = .ok (.int v, .pur) S' ∧ 0 ≤ v ∧ v < many ∧ Bag S' := by
  obtain ⟨v, S', e, a, b, c⟩ := take_spec h h1 h2
  refine ⟨v, S', ?_, a, b, c⟩
  rw [e, sameLen_ok, if_pos (by rw [c.len, h.len])]
theorem some_spec {S : Sto} (h : Bag S) {l : List D} (hn : l ≠ []) (hl : l.length < 1000000000) (hno : ∀ d ∈ l, noLst d = true) : ∃ d S', someF [.ref 0, .lst l] S = .ok (d, .pur) S' ∧ d ∈ l ∧ Bag S' := by
  have hp : (0 : Int) < l.length := by have := List.length_pos_iff.mpr hn; omega
  obtain ⟨v, S', e, a, b, c⟩ := take_call h hp (by omega)
  obtain ⟨k, rfl⟩ := Int.eq_ofNat_of_zero_le a
  have hk : k < l.length := by omega
  have hg : l[k]? = some l[k] := List.getElem?_eq_getElem hk
  have hm : l[k] ∈ l := List.getElem_mem hk
  have hx : atI l (k : Int) = some l[k] := by rw [atI_nat, hg]
  refine ⟨l[k], S', ?_, hm, c⟩
  have e0 : startEnv 2 [.ref 0, .lst l] = [some (.ref 0, .pur), some (.lst l, .frn)] := rfl
  have em : elMd l[k] .frn = .pur := by
    unfold elMd
    rw [if_neg (fun q => nomatch q), if_pos (hno _ hm)]
  unfold someF runF someS
  rw [e0]
  simp [e, hx, em]
theorem some_call {S : Sto} (h : Bag S) {l : List D} (hn : l ≠ []) (hl : l.length < 1000000000) (hno : ∀ d ∈ l, noLst d = true) : ∃ d S', sameLen (someF [.ref 0, .lst l] S) S = .ok (d, .pur) S' ∧ d ∈ l ∧ Bag S' := by
  obtain ⟨d, S', e, a, c⟩ := some_spec h hn hl hno
  refine ⟨d, S', ?_, a, c⟩
  rw [e, sameLen_ok, if_pos (by rw [c.len, h.len])]
theorem kSl_fls (l : List D) (lo hi : Option Int) (S : Sto) : kSl (.fls l, .pur) lo hi S = .ok (.lst (cutD l lo hi), .own) S := by
  show gOr kSlT (gOr kSlX (gOr kSlL (gOr kSlR kSlS))) (.fls l, .pur) lo hi S = _
  simp [gOr, kSlT, kSlX, kSlL, D.lstOf?, newMd]
/-- the bag as it is made of the script -/
theorem bag_spec (ns : List Int) (S : Sto) : bagF [.fls (ns.map D.int)] S = .ok (.lst [.int 0, .int 1234567891, .int 0, .lst ((cut ns none (some 63)).map fun i => D.int (if i < 0 then -i else i))], .own) S := by
  have e0 : startEnv 2 [.fls (ns.map D.int)] = [some (.fls (ns.map D.int), .pur), none] := by
    have : ∀ l : List Int, noLsts (l.map D.int) = true := fun l => by
      induction l with
      | nil => rfl
      | cons a l ih => simp only [List.map_cons, noLsts, noLst, ih, Bool.and_self]
    show [some (D.fls (ns.map D.int), if noLst (D.fls (ns.map D.int)) then Md.pur else Md.frn), none] = _
    simp only [noLst, this, if_true]
  unfold bagF runF bagS
  rw [e0]
  have lc : lcLoop (fgName 1) fYes (fCB kAbs (fCons (fVar 1) fNil)) .own [some (.fls (ns.map D.int), .pur), none] ((cut ns none (some 63)).map D.int) S = .ok ((cut ns none (some 63)).map fun i => D.int (if i < 0 then -i else i)) S := by
    refine lc_pure1 D.int (fun i => D.int (if i < 0 then -i else i)) (cut ns none (some 63)) fun i hi => ⟨[some (.fls (ns.map D.int), .pur), some (.int i, .pur)], .pur, ?_, ?_, upO_pur _⟩
    · have : cmMd (.int i) .own = .pur := by
        unfold cmMd
        split
        · rfl
        · rfl
      simp [this]
    · simp
  have hl : (cut ns none (some 63)).length ≤ 16777216 := by
    unfold cut
    rw [List.length_take]
    have : HT.sIx ns.length ns.length (some 63) ≤ 63 := by
      show (if (63 : Int) < 0 then ((63 : Int) + (ns.length : Int)).toNat else min (63 : Int).toNat ns.length) ≤ 63
      rw [if_neg (by decide)]
      exact Nat.min_le_left _ _
    omega
  simp [kSl_fls, cutD_map, fiSeq_eq, D.seqOf?, sz_eq, hl, lc]
theorem bag_good (ns : List Int) : Bag [[.int 0, .int 1234567891, .int 0, .ref 1], (cut ns none (some 63)).map fun i => D.int (if i < 0 then -i else i)] := by
  refine ⟨0, 1234567891, 0, (cut ns none (some 63)).map fun i => if i < 0 then -i else i, by rw [List.map_map]; rfl, by decide, by decide, by decide, by decide, ?_, ?_⟩
  · rw [List.length_map]
    unfold cut
    rw [List.length_take]
    have : HT.sIx ns.length ns.length (some 63) ≤ 63 := by
      show (if (63 : Int) < 0 then ((63 : Int) + (ns.length : Int)).toNat else min (63 : Int).toNat ns.length) ≤ 63
      rw [if_neg (by decide)]
      exact Nat.min_le_left _ _
    omega
  · intro c hc
    obtain ⟨i, _, rfl⟩ := List.mem_map.mp hc
    split <;> omega
end Mi

set_option Elab.async false
set_option linter.all false
set_option maxRecDepth 100000
set_option maxHeartbeats 0
namespace K11
open PySem PySem.Spec PyProof.Rows L2 Mi
abbrev N_limit_text : List Str := ["limit"]
noncomputable def f_limit_text : FS := (fSeq (fIfS (fTest (fOp2 (kIsN false) (fVar 0) (fC .non))) (fRet (fC (.str "*"))) fNext)
    (fRet (fOp2 kAddX (fIf (fTest (fOp2 kEq (fOp2 kIx (fVar 0) (fC (.int 1))) (fC (.int 1)))) (fC (.str "<")) (fC (.str ""))) (fCB kStrI (fCons (fOp2 kIx (fVar 0) (fC (.int 0))) fNil)))))
noncomputable def F_limit_text : FF := runF 1 f_limit_text
abbrev N_land_text : List Str := ["land", "row", "limit"]
noncomputable def f_land_text : FS := (fRet (fM1 kJoin (fC (.str " / ")) (fLc (fiSeq (fVar 0)) (fgName 1) fYes (fM1 kJoin (fC (.str " ")) (fLc (fiSeq (fVar 1)) (fgName 2) fYes (fCall 1 F_limit_text (fCons (fVar 2) fNil)) [2])) [1])))
noncomputable def F_land_text : FF := runF 3 f_land_text
abbrev N_number_in : List Str := ["word", "sign"]
noncomputable def f_number_in : FS := (fSeq (fIfS ((fOr (fNot (fTest (fChainV kLeA kLeA (fC (.int 1)) (fCB kLen (fCons (fVar 0) fNil)) (fC (.int 9))))) (fNot (fTest (fCB kAll (fCons (fLc (fiSeq (fVar 0)) (fgName 1) fYes (fOp2 kIn (fVar 1) (fC (.str "0123456789"))) [1]) fNil)))))) (fRet (fC .non)) fNext)
    (fRet (fIf ((fAnd (fTest (fOp2 kEq (fOp2 kIx (fVar 0) (fC (.int 0))) (fC (.str "0")))) (fTest (fOp2 kNe (fVar 0) (fC (.str "0")))))) (fC .non) (fCB kIntAll (fCons (fVar 0) fNil)))))
noncomputable def F_number_in : FF := runF 2 f_number_in
abbrev N_integer_in : List Str := ["word", "number"]
noncomputable def f_integer_in : FS := (fSeq (fIfS (fTest (fOp2 kNe (fSl kSl (fVar 0) fNoPart (fPart (fC (.int 1)))) (fC (.str "-")))) (fRet (fCall 1 F_number_in (fCons (fVar 0) fNil))) fNext)
    (fSeq (fAsg (fCall 1 F_number_in (fCons (fSl kSl (fVar 0) (fPart (fC (.int 1))) fNoPart) fNil)) (fgName 1))
    (fRet (fIf ((fOr (fTest (fOp2 (kIsN false) (fVar 1) (fC .non))) (fTest (fOp2 kEq (fVar 1) (fC (.int 0)))))) (fC .non) (fOp1 kNeg (fVar 1))))))
noncomputable def F_integer_in : FF := runF 2 f_integer_in
abbrev N_limit_in : List Str := ["word", "is_strict", "number"]
noncomputable def f_limit_in : FS := (fSeq (fIfS (fTest (fOp2 kEq (fVar 0) (fC (.str "*")))) (fRet (fTupX (fCons (fC .non) fNil))) fNext)
    (fSeq (fAsg (fOp2 kEq (fSl kSl (fVar 0) fNoPart (fPart (fC (.int 1)))) (fC (.str "<"))) (fgName 1))
    (fSeq (fAsg (fCall 1 F_integer_in (fCons (fIf (fTest (fVar 1)) (fSl kSl (fVar 0) (fPart (fC (.int 1))) fNoPart) (fVar 0)) fNil)) (fgName 2))
    (fRet (fIf (fTest (fOp2 (kIsN false) (fVar 2) (fC .non))) (fC .non) (fTupX (fCons (fTupX (fCons (fVar 2) (fCons (fCB kIntAll (fCons (fVar 1) fNil)) fNil))) fNil)))))))
noncomputable def F_limit_in : FF := runF 3 f_limit_in
abbrev N_read_land : List Str := ["text", "rows", "row", "word", "told"]
noncomputable def f_read_land : FS := (fSeq (fAsg (fLc (fiSeq (fM1 kSplit (fVar 0) (fC (.str " / ")))) (fgName 2) fYes (fLc (fiSeq (fM1 kSplit (fVar 2) (fC (.str " ")))) (fgName 3) fYes (fCall 1 F_limit_in (fCons (fVar 3) fNil)) [3]) [2]) (fgName 1))
    (fSeq (fIfS ((fOr (fNot (fTest (fChainV kLeA kLeA (fC (.int 2)) (fCB kLen (fCons (fVar 1) fNil)) (fC (.int 7))))) (fNot (fTest (fCB kAll (fCons (fLc (fiSeq (fVar 1)) (fgName 2) fYes (fOp2 kEq (fCB kLen (fCons (fVar 2) fNil)) (fCB kLen (fCons (fVar 1) fNil))) [2]) fNil)))))) (fRet (fC .non)) fNext)
    (fSeq (fIfS (fTest (fCB kAny (fCons (fLc2 (fiSeq (fVar 1)) (fgName 2) fYes (fiSeq (fVar 2)) (fgName 4) fYes (fOp2 (kIsN false) (fVar 4) (fC .non)) [2, 4] [4]) fNil))) (fRet (fC .non)) fNext)
    (fRet (fOp1 kTupOf (fLc (fiSeq (fVar 1)) (fgName 2) fYes (fOp1 kTupOf (fLc (fiSeq (fVar 2)) (fgName 4) fYes (fOp2 kIx (fVar 4) (fC (.int 0))) [4])) [2]))))))
noncomputable def F_read_land : FF := runF 5 f_read_land
abbrev N__law_bag : List Str := ["script", "cell"]
noncomputable def f__law_bag : FS := (fRet (fLst (fCons (fC (.int 0)) (fCons (fC (.int 1234567891)) (fCons (fC (.int 0)) (fCons (fLc (fiSeq (fSl kSl (fVar 0) fNoPart (fPart (fC (.int 63))))) (fgName 1) fYes (fCB kAbs (fCons (fVar 1) fNil)) [1]) fNil))))))
noncomputable def F__law_bag : FF := runF 2 f__law_bag
abbrev N__law_take : List Str := ["bag", "many", "cell", "stirred", "value", "begin", "second"]
noncomputable def f__law_take : FS := (fSeq (fIfS (fTest (fOp2 kEq (fOp2 kIx (fVar 0) (fC (.int 0))) (fC (.int 0)))) (fSeq (fAsg (fOp2 kIx (fOp2 kAddX (fSl kSl (fOp2 kIx (fVar 0) (fC (.int 3))) (fPart (fOp2 kIx (fVar 0) (fC (.int 2)))) fNoPart) (fLst (fCons (fC (.int 0)) fNil))) (fC (.int 0))) (fgName 2))
    (fSeq (fAugSet (fun a b => a + b) 0 2 (fC (.int 1)))
    (fSeq (fIfS (fTest (fOp2 kGe (fVar 2) (fOp2 kPow (fC (.int 10)) (fC (.int 18))))) (fAsg (fVar 2) (fgSet1 0 (fC (.int 0)))) fNext)
    (fSeq (fAsg (fOp2 kAddX (fOp2 kAddX (fOp2 kMul (fOp2 kIx (fVar 0) (fC (.int 1))) (fC (.int 48271))) (fOp2 kMod (fCB kIntAll (fCons (fVar 2) fNil)) (fC (.int 2147483647)))) (fOp2 kMul (fC (.int 7919)) (fOp2 kIx (fVar 0) (fC (.int 2))))) (fgName 3))
    (fAsg (fOp2 kMod (fCB kIntAll (fCons (fVar 3) fNil)) (fC (.int 2147483647))) (fgSet1 0 (fC (.int 1)))))))) fNext)
    (fSeq (fIfS (fTest (fOp2 kGt (fOp2 kIx (fVar 0) (fC (.int 0))) (fC (.int 0)))) (fSeq (fAsg (fOp2 kMod (fCB kIntAll (fCons (fOp2 kIx (fVar 0) (fC (.int 0))) fNil)) (fVar 1)) (fgName 4))
    (fSeq (fAsg (fOp2 kDiv (fCB kIntAll (fCons (fOp2 kIx (fVar 0) (fC (.int 0))) fNil)) (fVar 1)) (fgSet1 0 (fC (.int 0))))
    (fRet (fVar 4)))) fNext)
    (fSeq (fAsg (fOp2 kMod (fCB kIntAll (fCons (fOp2 kMul (fOp2 kAddX (fOp2 kIx (fVar 0) (fC (.int 1))) (fC (.int 1))) (fC (.int 39373))) fNil)) (fC (.int 1000000007))) (fgName 5))
    (fSeq (fAsg (fOp2 kMod (fCB kIntAll (fCons (fOp2 kMul (fOp2 kMod (fCB kIntAll (fCons (fOp2 kMul (fVar 5) (fVar 5)) fNil)) (fC (.int 998244353))) (fC (.int 30011))) fNil)) (fC (.int 998244353))) (fgName 6))
    (fRet (fOp2 kMod (fCB kIntAll (fCons (fOp2 kDiv (fVar 6) (fC (.int 7))) fNil)) (fVar 1)))))))
noncomputable def F__law_take : FF := runF 7 f__law_take
abbrev N__law_some : List Str := ["bag", "things"]
noncomputable def f__law_some : FS := (fRet (fOp2 kIx (fVar 1) (fCall 2 F__law_take (fCons (fVar 0) (fCons (fCB kLen (fCons (fVar 1) fNil)) fNil)))))
noncomputable def F__law_some : FF := runF 2 f__law_some
abbrev N__law_alike : List Str := ["found", "due"]
noncomputable def f__law_alike : FS := (fRet ((fAndV (fOp2 kEq (fCB kRepr (fCons (fVar 0) fNil)) (fCB kRepr (fCons (fVar 1) fNil))) (fOp2 kEq (fVar 0) (fVar 1)))))
noncomputable def F__law_alike : FF := runF 2 f__law_alike
abbrev N__law_word_of : List Str := ["limit"]
noncomputable def f__law_word_of : FS := (fRet (fIf (fTest (fOp2 (kIsN false) (fVar 0) (fC .non))) (fC (.str "*")) (fOp2 kAddX (fIf (fTest (fOp2 kEq (fOp2 kIx (fVar 0) (fC (.int 1))) (fC (.int 1)))) (fC (.str "<")) (fC (.str ""))) (fCB kStrI (fCons (fOp2 kIx (fVar 0) (fC (.int 0))) fNil)))))
noncomputable def F__law_word_of : FF := runF 1 f__law_word_of
abbrev N__law_limit_of : List Str := ["word", "strict", "told", "figures", "sign"]
noncomputable def f__law_limit_of : FS := (fSeq (fIfS (fTest (fOp2 kEq (fVar 0) (fC (.str "*")))) (fRet (fTupX (fCons (fC (.bl true)) (fCons (fC .non) fNil)))) fNext)
    (fSeq (fAsg (fOp2 kEq (fSl kSl (fVar 0) fNoPart (fPart (fC (.int 1)))) (fC (.str "<"))) (fgName 1))
    (fSeq (fAsg (fIf (fTest (fVar 1)) (fSl kSl (fVar 0) (fPart (fC (.int 1))) fNoPart) (fVar 0)) (fgName 2))
    (fSeq (fAsg (fIf (fTest (fOp2 kEq (fSl kSl (fVar 2) fNoPart (fPart (fC (.int 1)))) (fC (.str "-")))) (fSl kSl (fVar 2) (fPart (fC (.int 1))) fNoPart) (fVar 2)) (fgName 3))
    (fSeq (fIfS ((fOr (fTest (fOp2 kEq (fVar 3) (fC (.str "")))) (fOr (fTest (fOp2 kGt (fCB kLen (fCons (fVar 3) fNil)) (fC (.int 9)))) (fTest (fOp2 kNe (fLc (fiSeq (fVar 3)) (fgName 4) (fTest (fOp2 kNotIn (fVar 4) (fC (.str "0123456789")))) (fVar 4) [4]) (fLst fNil)))))) (fRet (fTupX (fCons (fC (.bl false)) (fCons (fC .non) fNil)))) fNext)
    (fSeq (fIfS ((fAnd (fTest (fOp2 kEq (fOp2 kIx (fVar 3) (fC (.int 0))) (fC (.str "0")))) (fTest (fOp2 kNe (fVar 2) (fC (.str "0")))))) (fRet (fTupX (fCons (fC (.bl false)) (fCons (fC .non) fNil)))) fNext)
    (fRet (fTupX (fCons (fC (.bl true)) (fCons (fTupX (fCons (fCB kIntAll (fCons (fVar 2) fNil)) (fCons (fCB kIntAll (fCons (fVar 1) fNil)) fNil))) fNil))))))))))
noncomputable def F__law_limit_of : FF := runF 5 f__law_limit_of
abbrev N__law_read : List Str := ["text", "rows", "part", "row", "word", "good", "limit"]
noncomputable def f__law_read : FS := (fSeq (fAsg (fLst fNil) (fgName 1))
    (fSeq (fFor (fiSeq (fM1 kSplit (fVar 0) (fC (.str " / ")))) (fgName 2) (fSeq (fAsg (fLst fNil) (fgName 3))
    (fSeq (fFor (fiSeq (fM1 kSplit (fVar 2) (fC (.str " ")))) (fgName 4) (fSeq (fAsg (fCall 1 F__law_limit_of (fCons (fVar 4) fNil)) (fgTup 2 (fgCons (fgName 5) (fgCons (fgName 6) fgNil))))
    (fSeq (fIfS (fNot (fTest (fVar 5))) (fRet (fC .non)) fNext)
    (fAppend 3 (fVar 6)))))
    (fAppend 1 (fOp1 kTupOf (fVar 3))))))
    (fSeq (fIfS ((fOr (fNot (fTest (fChainV kLeA kLeA (fC (.int 2)) (fCB kLen (fCons (fVar 1) fNil)) (fC (.int 7))))) (fTest (fOp2 kNe (fLc (fiSeq (fVar 1)) (fgName 3) (fTest (fOp2 kNe (fCB kLen (fCons (fVar 3) fNil)) (fCB kLen (fCons (fVar 1) fNil)))) (fVar 3) [3]) (fLst fNil))))) (fRet (fC .non)) fNext)
    (fRet (fOp1 kTupOf (fVar 1))))))
noncomputable def F__law_read : FF := runF 7 f__law_read
abbrev N_law : List Str := ["script", "bag", "lap", "many", "numbers", "land", "i", "j", "text", "row", "limit", "turn", "at", "way", "sign", "bent"]
noncomputable def f_law : FS := (fSeq (fAsgSto 1 (fCall 1 F__law_bag (fCons (fVar 0) fNil)))
    (fSeq (fFor (fiRng1 (fCons (fC (.int 6)) fNil)) (fgName 2) (fSeq (fAsg (fOp2 kAddX (fC (.int 2)) (fCall 2 F__law_take (fCons (fVar 1) (fCons (fC (.int 6)) fNil)))) (fgName 3))
    (fSeq (fAsg (fLst (fCons (fC (.int 0)) (fCons (fC (.int 1)) (fCons (fOp1 kNeg (fC (.int 1))) (fCons (fC (.int 7)) (fCons (fOp1 kNeg (fC (.int 30))) (fCons (fOp2 kSub (fOp2 kPow (fC (.int 10)) (fC (.int 9))) (fC (.int 1))) (fCons (fOp2 kSub (fC (.int 1)) (fOp2 kPow (fC (.int 10)) (fC (.int 9)))) fNil)))))))) (fgName 4))
    (fSeq (fAsg (fOp1 kTupOf (fLc (fiRng1 (fCons (fVar 3) fNil)) (fgName 6) fYes (fOp1 kTupOf (fLc (fiRng1 (fCons (fVar 3) fNil)) (fgName 7) fYes (fIf (fTest (fOp2 kEq (fCall 2 F__law_take (fCons (fVar 1) (fCons (fC (.int 4)) fNil))) (fC (.int 0)))) (fC .non) (fTupX (fCons (fCall 2 F__law_some (fCons (fVar 1) (fCons (fVar 4) fNil))) (fCons (fCall 2 F__law_take (fCons (fVar 1) (fCons (fC (.int 2)) fNil))) fNil)))) [7])) [6])) (fgName 5))
    (fSeq (fAsg (fM1 kJoin (fC (.str " / ")) (fLc (fiSeq (fVar 5)) (fgName 9) fYes (fM1 kJoin (fC (.str " ")) (fLc (fiSeq (fVar 9)) (fgName 10) fYes (fCall 1 F__law_word_of (fCons (fVar 10) fNil)) [10])) [9])) (fgName 8))
    (fSeq (fIfS (fNot (fTest (fCall 2 F__law_alike (fCons (fLst (fCons (fCall 1 F_land_text (fCons (fVar 5) fNil)) (fCons (fCall 1 F_read_land (fCons (fVar 8) fNil)) fNil))) (fCons (fLst (fCons (fVar 8) (fCons (fVar 5) fNil))) fNil))))) (fRet (fC (.bl false))) fNext)
    (fFor (fiRng1 (fCons (fC (.int 8)) fNil)) (fgName 11) (fSeq (fPar (fgCons (fgName 12) (fgCons (fgName 13) fgNil)) (fCons (fCall 2 F__law_take (fCons (fVar 1) (fCons (fOp2 kAddX (fCB kLen (fCons (fVar 8) fNil)) (fC (.int 1))) fNil))) (fCons (fCall 2 F__law_take (fCons (fVar 1) (fCons (fC (.int 4)) fNil))) fNil)))
    (fSeq (fAsg (fCall 2 F__law_some (fCons (fVar 1) (fCons (fLst (fCons (fC (.str " ")) (fCons (fC (.str "/")) (fCons (fC (.str "*")) (fCons (fC (.str "<")) (fCons (fC (.str "-")) (fCons (fC (.str "0")) (fCons (fC (.str "1")) (fCons (fC (.str " / ")) (fCons (fC (.str " *")) (fCons (fC (.str "a")) (fCons (fC (.str "\n")) (fCons (fC (.str "")) (fCons (fC (.str "<<")) (fCons (fC (.str "9999999999")) fNil))))))))))))))) fNil))) (fgName 14))
    (fSeq (fAsg (fOp2 kAddX (fOp2 kAddX (fSl kSl (fVar 8) fNoPart (fPart (fVar 12))) (fVar 14)) (fSl kSl (fVar 8) (fPart (fOp2 kAddX (fVar 12) (fIf (fTest (fOp2 kLt (fVar 13) (fC (.int 2)))) (fC (.int 0)) (fCall 2 F__law_take (fCons (fVar 1) (fCons (fC (.int 3)) fNil)))))) fNoPart)) (fgName 15))
    (fSeq (fAsg (fCall 2 F__law_some (fCons (fVar 1) (fCons (fLst (fCons (fVar 15) (fCons (fVar 15) (fCons (fVar 15) (fCons (fSl kSl (fVar 8) fNoPart (fPart (fVar 12))) (fCons (fC (.str "")) (fCons (fC (.str "* * / * *")) (fCons (fC (.str "0 / 0")) (fCons (fC (.str "* / *")) (fCons (fC (.str "0 <1 / -0 0")) (fCons (fC (.str "0 1 2 / 0 1 2")) fNil))))))))))) fNil))) (fgName 15))
    (fIfS (fNot (fTest (fCall 2 F__law_alike (fCons (fCall 1 F_read_land (fCons (fVar 15) fNil)) (fCons (fCall 1 F__law_read (fCons (fVar 15) fNil)) fNil))))) (fRet (fC (.bl false))) fNext))))))))))))
    (fRet (fC (.bl true)))))
noncomputable def F_law : FF := runF 16 f_law
end K11

set_option Elab.async false
set_option linter.all false
set_option maxRecDepth 100000
set_option maxHeartbeats 0
namespace K11
open PySem PySem.Spec PyProof.Rows L2 Mi
def top (i : Nat) : Stmt := PySem.Challenge.pw_momentsfit_k11_lands_as_texts.main.body.getD i (.Pass ⟨0, 0, 0, 0⟩)
abbrev s_limit_text : Stmt := top 5
abbrev s_land_text : Stmt := top 6
abbrev s_number_in : Stmt := top 7
abbrev s_integer_in : Stmt := top 8
abbrev s_limit_in : Stmt := top 9
abbrev s_read_land : Stmt := top 10
abbrev s__law_bag : Stmt := top 12
abbrev s__law_take : Stmt := top 13
abbrev s__law_some : Stmt := top 14
abbrev s__law_alike : Stmt := top 15
abbrev s__law_word_of : Stmt := top 16
abbrev s__law_limit_of : Stmt := top 17
abbrev s__law_read : Stmt := top 18
abbrev s_law : Stmt := top 19
structure Fx (K : PySem.W.Frag) (mg : Str → Option Value) : Prop where
  g_abs : mg "abs" = none
  g_all : mg "all" = none
  g_any : mg "any" = none
  g_int : mg "int" = none
  g_len : mg "len" = none
  g_range : mg "range" = none
  g_repr : mg "repr" = none
  g_str : mg "str" = none
  g_tuple : mg "tuple" = none
  v_DIGITS : ∃ u, mg "DIGITS" = some u ∧ RelV (.str "0123456789") u
  v_LEAST_ROWS : ∃ u, mg "LEAST_ROWS" = some u ∧ RelV (.int 2) u
  v_MOST_DIGITS : ∃ u, mg "MOST_DIGITS" = some u ∧ RelV (.int 9) u
  v_MOST_ROWS : ∃ u, mg "MOST_ROWS" = some u ∧ RelV (.int 7) u
  gl_limit_text : mg "limit_text" = some (.ref (He.ga K "limit_text"))
  fn_limit_text : ∃ fd, FunD K "limit_text" "limit_text" (defArgs s_limit_text) (defBody s_limit_text) (defScope s_limit_text) [] [] (He.ga K "limit_text") fd
  gl_land_text : mg "land_text" = some (.ref (He.ga K "land_text"))
  fn_land_text : ∃ fd, FunD K "land_text" "land_text" (defArgs s_land_text) (defBody s_land_text) (defScope s_land_text) [] [] (He.ga K "land_text") fd
  gl_number_in : mg "number_in" = some (.ref (He.ga K "number_in"))
  fn_number_in : ∃ fd, FunD K "number_in" "number_in" (defArgs s_number_in) (defBody s_number_in) (defScope s_number_in) [] [] (He.ga K "number_in") fd
  gl_integer_in : mg "integer_in" = some (.ref (He.ga K "integer_in"))
  fn_integer_in : ∃ fd, FunD K "integer_in" "integer_in" (defArgs s_integer_in) (defBody s_integer_in) (defScope s_integer_in) [] [] (He.ga K "integer_in") fd
  gl_limit_in : mg "limit_in" = some (.ref (He.ga K "limit_in"))
  fn_limit_in : ∃ fd, FunD K "limit_in" "limit_in" (defArgs s_limit_in) (defBody s_limit_in) (defScope s_limit_in) [] [] (He.ga K "limit_in") fd
  gl_read_land : mg "read_land" = some (.ref (He.ga K "read_land"))
  fn_read_land : ∃ fd, FunD K "read_land" "read_land" (defArgs s_read_land) (defBody s_read_land) (defScope s_read_land) [] [] (He.ga K "read_land") fd
  gl__law_bag : mg "_law_bag" = some (.ref (He.ga K "_law_bag"))
  fn__law_bag : ∃ fd, FunD K "_law_bag" "_law_bag" (defArgs s__law_bag) (defBody s__law_bag) (defScope s__law_bag) [] [] (He.ga K "_law_bag") fd
  gl__law_take : mg "_law_take" = some (.ref (He.ga K "_law_take"))
  fn__law_take : ∃ fd, FunD K "_law_take" "_law_take" (defArgs s__law_take) (defBody s__law_take) (defScope s__law_take) [] [] (He.ga K "_law_take") fd
  gl__law_some : mg "_law_some" = some (.ref (He.ga K "_law_some"))
  fn__law_some : ∃ fd, FunD K "_law_some" "_law_some" (defArgs s__law_some) (defBody s__law_some) (defScope s__law_some) [] [] (He.ga K "_law_some") fd
  gl__law_alike : mg "_law_alike" = some (.ref (He.ga K "_law_alike"))
  fn__law_alike : ∃ fd, FunD K "_law_alike" "_law_alike" (defArgs s__law_alike) (defBody s__law_alike) (defScope s__law_alike) [] [] (He.ga K "_law_alike") fd
  gl__law_word_of : mg "_law_word_of" = some (.ref (He.ga K "_law_word_of"))
  fn__law_word_of : ∃ fd, FunD K "_law_word_of" "_law_word_of" (defArgs s__law_word_of) (defBody s__law_word_of) (defScope s__law_word_of) [] [] (He.ga K "_law_word_of") fd
  gl__law_limit_of : mg "_law_limit_of" = some (.ref (He.ga K "_law_limit_of"))
  fn__law_limit_of : ∃ fd, FunD K "_law_limit_of" "_law_limit_of" (defArgs s__law_limit_of) (defBody s__law_limit_of) (defScope s__law_limit_of) [] [] (He.ga K "_law_limit_of") fd
  gl__law_read : mg "_law_read" = some (.ref (He.ga K "_law_read"))
  fn__law_read : ∃ fd, FunD K "_law_read" "_law_read" (defArgs s__law_read) (defBody s__law_read) (defScope s__law_read) [] [] (He.ga K "_law_read") fd
  gl_law : mg "law" = some (.ref (He.ga K "law"))
  fn_law : ∃ fd, FunD K "law" "law" (defArgs s_law) (defBody s_law) (defScope s_law) [] [] (He.ga K "law") fd
section
variable {P : Program} {w : World} {K : PySem.W.Frag} {mg : Str → Option Value} {base : Heap}
theorem sc_limit_text : FnScope N_limit_text ["limit"] (defScope s_limit_text) := ⟨rfl, rfl, rfl, by decide +kernel, rfl, by decide +kernel, by decide +kernel⟩
theorem k_limit_text (c : Fx K mg) : Cal P w K mg base CX0 1 "limit_text" ["limit"] 1 F_limit_text := by
  obtain ⟨fd, F⟩ := c.fn_limit_text
  refine ⟨⟨fd, fnG_body F sc_limit_text rfl (fun cdv A outer s H E hg hr => ?_), F.bindsN (fun _ _ _ _ _ _ us hl => match us, hl with | [_], _ => rfl), isf_of F⟩, c.gl_limit_text, F.kp⟩
  exact body_by ((pss_cons (ps_if (pt_cmpR op_isN1 (pv 0) pe_non (nomark _)) (pss_one (ps_ret pe_str)) pss_nil)
    (pss_one (ps_ret (pe_op op_addX (pe_ifExp (pt_cmpR (op_eqAll (Mi.Room.u64 hr)) (pe_ix ix_seq (pv 0) pe_int (fun _ _ => rfl)) pe_int (nomark _)) pe_str pe_str) (pe_callTy call_str_int (by rfl) c.g_str (by decide +kernel) (pa_cons (pe_ix ix_seq (pv 0) pe_int (fun _ _ => rfl)) pa_nil)))))))
    ((esf_seq (esf_if (etf_test (evf_op r2_isN evf_var evf_non)) (esf_ret evf_str) esf_next)
    (esf_ret (evf_op r2_addX (evf_if (etf_test (evf_op r2_eq (evf_op r2_ix evf_var evf_int) evf_int)) evf_str evf_str) (evf_cb rl_strI (eaf_cons (evf_op r2_ix evf_var evf_int) eaf_nil))))))
theorem sc_land_text : FnScope N_land_text ["land"] (defScope s_land_text) := ⟨rfl, rfl, rfl, by decide +kernel, rfl, by decide +kernel, by decide +kernel⟩
theorem k_land_text (c : Fx K mg) (k_limit_text : Cal P w K mg base CX0 1 "limit_text" ["limit"] 1 F_limit_text) : Cal P w K mg base CX0 2 "land_text" ["land"] 1 F_land_text := by
  obtain ⟨fd, F⟩ := c.fn_land_text
  refine ⟨⟨fd, fnG_body F sc_land_text rfl (fun cdv A outer s H E hg hr => ?_), F.bindsN (fun _ _ _ _ _ _ us hl => match us, hl with | [_], _ => rfl), isf_of F⟩, c.gl_land_text, F.kp⟩
  exact body_by ((pss_one (ps_ret (pe_join pe_str (pe_lc (own := [("row", 1)]) rfl sc_land_text.nd (pi_seq (pv 0)) (blkOk_by (own := [("row", 1)]) (N := N_land_text) (sc := defScope s_land_text) (by decide +kernel)) (fun _ _ _ _ _ => (pg_name (i := 1) sc_land_text.nd rfl (Or.inl rfl))) (fun _ _ _ _ _ => pts_nil) (fun _ _ _ _ _ => (pe_join pe_str (pe_lc (own := [("limit", 2)]) rfl sc_land_text.nd (pi_seq (pv 1)) (blkOk_by (own := [("limit", 2)]) (N := N_land_text) (by kernel_rfl)) (fun _ _ _ _ _ => (pg_name (i := 2) sc_land_text.nd rfl (Or.inl rfl))) (fun _ _ _ _ _ => pts_nil) (fun _ _ _ _ _ => (pe_callC (E := E0) k_limit_text hg hr (by decide) passF (pa_cons (pv 2) pa_nil)))))))))))
    ((esf_ret (evf_m1 r2_join evf_str (evf_lc (vs := [1]) (eif_seq evf_var) egf_name etf_yes (evf_m1 r2_join evf_str (evf_lc (vs := [2]) (eif_seq evf_var) egf_name etf_yes (evf_call (eaf_cons evf_var eaf_nil)) (by decide))) (by decide)))))
theorem sc_number_in : FnScope N_number_in ["word"] (defScope s_number_in) := ⟨rfl, rfl, rfl, by decide +kernel, rfl, by decide +kernel, by decide +kernel⟩
theorem k_number_in (c : Fx K mg) : Cal P w K mg base CX0 1 "number_in" ["word"] 1 F_number_in := by
  obtain ⟨fd, F⟩ := c.fn_number_in
  refine ⟨⟨fd, fnG_body F sc_number_in rfl (fun cdv A outer s H E hg hr => ?_), F.bindsN (fun _ _ _ _ _ _ us hl => match us, hl with | [_], _ => rfl), isf_of F⟩, c.gl_number_in, F.kp⟩
  exact body_by ((pss_cons (ps_if (PW.pt (pw_or (pt_not (pt_chain (op_leAll (Mi.Room.u0 hr)) (op_leAll (Mi.Room.u0 hr)) pe_int (pe_callB call_len (by rfl) c.g_len (by decide +kernel) (pa_cons (pv 0) pa_nil)) (Mi.pe_gv (by rfl) c.v_MOST_DIGITS))) (pw_or1 (pt_not (pt_val (pe_callB (cr_all rfl) (by rfl) c.g_all (by decide +kernel) (pa_cons (pe_lc (own := [("sign", 1)]) rfl sc_number_in.nd (pi_seq (pv 0)) (blkOk_by (own := [("sign", 1)]) (N := N_number_in) (sc := defScope s_number_in) (by decide +kernel)) (fun _ _ _ _ _ => (pg_name (i := 1) sc_number_in.nd rfl (Or.inl rfl))) (fun _ _ _ _ _ => pts_nil) (fun _ _ _ _ _ => (pe_cmpR (op_inAll (Mi.Room.u65 hr)) (pv 1) (Mi.pe_gv (by rfl) c.v_DIGITS) (by with_unfolding_all rfl)))) pa_nil))))))) (pss_one (ps_ret pe_non)) pss_nil)
    (pss_one (ps_ret (pe_ifExp (PW.pt (pw_and (pt_cmpR (op_eqAll (Mi.Room.u64 hr)) (pe_ix ix_seq (pv 0) pe_int (fun _ _ => rfl)) pe_str (nomark _)) (pw_and1 (pt_cmpR (op_neAll (Mi.Room.u64 hr)) (pv 0) pe_str (nomark _))))) pe_non (pe_callTy call_intAll (by rfl) c.g_int (by decide +kernel) (pa_cons (pv 0) pa_nil)))))))
    ((esf_seq (esf_if ((etf_or (etf_not (etf_test (evf_chain r2_leA r2_leA evf_int (evf_cb rl_len (eaf_cons evf_var eaf_nil)) evf_int))) (etf_not (etf_B (evf_cb rl_all (eaf_cons (evf_lc (vs := [1]) (eif_seq evf_var) egf_name etf_yes (evf_op r2_in evf_var evf_str) (by decide)) eaf_nil)))))) (esf_ret evf_non) esf_next)
    (esf_ret (evf_if ((etf_and (etf_test (evf_op r2_eq (evf_op r2_ix evf_var evf_int) evf_str)) (etf_test (evf_op r2_ne evf_var evf_str)))) evf_non (evf_cb rl_intAll (eaf_cons evf_var eaf_nil))))))
theorem sc_integer_in : FnScope N_integer_in ["word"] (defScope s_integer_in) := ⟨rfl, rfl, rfl, by decide +kernel, rfl, by decide +kernel, by decide +kernel⟩
theorem k_integer_in (c : Fx K mg) (k_number_in : Cal P w K mg base CX0 1 "number_in" ["word"] 1 F_number_in) : Cal P w K mg base CX0 2 "integer_in" ["word"] 1 F_integer_in := by
  obtain ⟨fd, F⟩ := c.fn_integer_in
  refine ⟨⟨fd, fnG_body F sc_integer_in rfl (fun cdv A outer s H E hg hr => ?_), F.bindsN (fun _ _ _ _ _ _ us hl => match us, hl with | [_], _ => rfl), isf_of F⟩, c.gl_integer_in, F.kp⟩
  exact body_by ((pss_cons (ps_if (pt_cmpR (op_neAll (Mi.Room.u64 hr)) (pe_slice sl_all (pv 0) po_none (po_some pe_int)) pe_str (nomark _)) (pss_one (ps_ret (pe_callC (E := E) k_number_in hg hr (by decide) passF (pa_cons (pv 0) pa_nil)))) pss_nil)
    (pss_cons (ps_set (i := 1) sc_integer_in.nd rfl (Or.inl rfl) (pe_callC (E := E) k_number_in hg hr (by decide) passF (pa_cons (pe_slice sl_all (pv 0) (po_some pe_int) po_none) pa_nil)))
    (pss_one (ps_ret (pe_ifExp (PW.pt (pw_or (pt_cmpR op_isN1 (pv 1) pe_non (nomark _)) (pw_or1 (pt_cmpR (op_eqAll (Mi.Room.u64 hr)) (pv 1) pe_int (nomark _))))) pe_non (pe_un un_neg (pv 1))))))))
    ((esf_seq (esf_if (etf_test (evf_op r2_ne (evf_sl slf_all evf_var eof_none (eof_some evf_int)) evf_str)) (esf_ret (evf_call (eaf_cons evf_var eaf_nil))) esf_next)
    (esf_seq (esf_asg (evf_call (eaf_cons (evf_sl slf_all evf_var (eof_some evf_int) eof_none) eaf_nil)) egf_name)
    (esf_ret (evf_if ((etf_or (etf_test (evf_op r2_isN evf_var evf_non)) (etf_test (evf_op r2_eq evf_var evf_int)))) evf_non (evf_un r1_neg evf_var))))))
theorem sc_limit_in : FnScope N_limit_in ["word"] (defScope s_limit_in) := ⟨rfl, rfl, rfl, by decide +kernel, rfl, by decide +kernel, by decide +kernel⟩
theorem k_limit_in (c : Fx K mg) (k_integer_in : Cal P w K mg base CX0 2 "integer_in" ["word"] 1 F_integer_in) : Cal P w K mg base CX0 3 "limit_in" ["word"] 1 F_limit_in := by
  obtain ⟨fd, F⟩ := c.fn_limit_in
  refine ⟨⟨fd, fnG_body F sc_limit_in rfl (fun cdv A outer s H E hg hr => ?_), F.bindsN (fun _ _ _ _ _ _ us hl => match us, hl with | [_], _ => rfl), isf_of F⟩, c.gl_limit_in, F.kp⟩
  exact body_by ((pss_cons (ps_if (pt_cmpR (op_eqAll (Mi.Room.u64 hr)) (pv 0) pe_str (nomark _)) (pss_one (ps_ret (pe_tupX (pa_cons pe_non pa_nil)))) pss_nil)
    (pss_cons (ps_set (i := 1) sc_limit_in.nd rfl (Or.inl rfl) (pe_cmpR (op_eqAll (Mi.Room.u64 hr)) (pe_slice sl_all (pv 0) po_none (po_some pe_int)) pe_str (nomark _)))
    (pss_cons (ps_set (i := 2) sc_limit_in.nd rfl (Or.inl rfl) (pe_callC (E := E) k_integer_in hg hr (by decide) passF (pa_cons (pe_ifExp (pt_val (pv 1)) (pe_slice sl_all (pv 0) (po_some pe_int) po_none) (pv 0)) pa_nil)))
    (pss_one (ps_ret (pe_ifExp (pt_cmpR op_isN1 (pv 2) pe_non (nomark _)) pe_non (pe_tupX (pa_cons (pe_tupX (pa_cons (pv 2) (pa_cons (pe_callTy call_intAll (by rfl) c.g_int (by decide +kernel) (pa_cons (pv 1) pa_nil)) pa_nil))) pa_nil)))))))))
    ((esf_seq (esf_if (etf_test (evf_op r2_eq evf_var evf_str)) (esf_ret (evf_tupX (eaf_cons evf_non eaf_nil))) esf_next)
    (esf_seq (esf_asg (evf_op r2_eq (evf_sl slf_all evf_var eof_none (eof_some evf_int)) evf_str) egf_name)
    (esf_seq (esf_asg (evf_call (eaf_cons (evf_if (etf_B evf_var) (evf_sl slf_all evf_var (eof_some evf_int) eof_none) evf_var) eaf_nil)) egf_name)
    (esf_ret (evf_if (etf_test (evf_op r2_isN evf_var evf_non)) evf_non (evf_tupX (eaf_cons (evf_tupX (eaf_cons evf_var (eaf_cons (evf_cb rl_intAll (eaf_cons evf_var eaf_nil)) eaf_nil))) eaf_nil))))))))
theorem sc_read_land : FnScope N_read_land ["text"] (defScope s_read_land) := ⟨rfl, rfl, rfl, by decide +kernel, rfl, by decide +kernel, by decide +kernel⟩
theorem k_read_land (c : Fx K mg) (k_limit_in : Cal P w K mg base CX0 3 "limit_in" ["word"] 1 F_limit_in) : Cal P w K mg base CX0 4 "read_land" ["text"] 1 F_read_land := by
  obtain ⟨fd, F⟩ := c.fn_read_land
  refine ⟨⟨fd, fnG_body F sc_read_land rfl (fun cdv A outer s H E hg hr => ?_), F.bindsN (fun _ _ _ _ _ _ us hl => match us, hl with | [_], _ => rfl), isf_of F⟩, c.gl_read_land, F.kp⟩
  exact body_by ((pss_cons (ps_set (i := 1) sc_read_land.nd rfl (Or.inr rfl) (pe_lc (own := [("row", 2)]) rfl sc_read_land.nd (pi_seq (pe_split (pv 0) pe_str)) (blkOk_by (own := [("row", 2)]) (N := N_read_land) (sc := defScope s_read_land) (by decide +kernel)) (fun _ _ _ _ _ => (pg_name (i := 2) sc_read_land.nd rfl (Or.inl rfl))) (fun _ _ _ _ _ => pts_nil) (fun _ _ _ _ _ => (pe_lc (own := [("word", 3)]) rfl sc_read_land.nd (pi_seq (pe_split (pv 2) pe_str)) (blkOk_by (own := [("word", 3)]) (N := N_read_land) (by kernel_rfl)) (fun _ _ _ _ _ => (pg_name (i := 3) sc_read_land.nd rfl (Or.inl rfl))) (fun _ _ _ _ _ => pts_nil) (fun _ _ _ _ _ => (pe_callC (E := E0) k_limit_in hg hr (by decide) passF (pa_cons (pv 3) pa_nil)))))))
    (pss_cons (ps_if (PW.pt (pw_or (pt_not (pt_chain (op_leAll (Mi.Room.u0 hr)) (op_leAll (Mi.Room.u0 hr)) (Mi.pe_gv (by rfl) c.v_LEAST_ROWS) (pe_callB call_len (by rfl) c.g_len (by decide +kernel) (pa_cons (pv 1) pa_nil)) (Mi.pe_gv (by rfl) c.v_MOST_ROWS))) (pw_or1 (pt_not (pt_val (pe_callB (cr_all rfl) (by rfl) c.g_all (by decide +kernel) (pa_cons (pe_lc (own := [("row", 2)]) rfl sc_read_land.nd (pi_seq (pv 1)) (blkOk_by (own := [("row", 2)]) (N := N_read_land) (sc := defScope s_read_land) (by decide +kernel)) (fun _ _ _ _ _ => (pg_name (i := 2) sc_read_land.nd rfl (Or.inl rfl))) (fun _ _ _ _ _ => pts_nil) (fun _ _ _ _ _ => (pe_cmpR (op_eqAll (Mi.Room.u64 hr)) (pe_callB call_len (by rfl) c.g_len (by decide +kernel) (pa_cons (pv 2) pa_nil)) (pe_callB call_len (by rfl) c.g_len (by decide +kernel) (pa_cons (pv 1) pa_nil)) (nomark _)))) pa_nil))))))) (pss_one (ps_ret pe_non)) pss_nil)
    (pss_cons (ps_if (pt_val (pe_callB (cr_any rfl) (by rfl) c.g_any (by decide +kernel) (pa_cons (pe_lc2 (vs1 := [4]) (own := [("row", 2), ("told", 4)]) rfl sc_read_land.nd (pi_seq (pv 1)) (blkOk_by (own := [("row", 2), ("told", 4)]) (N := N_read_land) (sc := defScope s_read_land) (by decide +kernel)) (by decide) (fun _ _ _ _ _ => (pg_name (i := 2) sc_read_land.nd rfl (Or.inl rfl))) (fun _ _ _ _ _ => pts_nil) (fun _ _ _ _ _ => (pi_seq (pv 2))) (fun _ _ _ _ _ => (pg_name (i := 4) sc_read_land.nd rfl (Or.inl rfl))) (fun _ _ _ _ _ => pts_nil) (fun _ _ _ _ _ => (pe_cmpR op_isN1 (pv 4) pe_non (nomark _)))) pa_nil))) (pss_one (ps_ret pe_non)) pss_nil)
    (pss_one (ps_ret (pe_tupleOf (by rfl) c.g_tuple (pe_lc (own := [("row", 2)]) rfl sc_read_land.nd (pi_seq (pv 1)) (blkOk_by (own := [("row", 2)]) (N := N_read_land) (sc := defScope s_read_land) (by decide +kernel)) (fun _ _ _ _ _ => (pg_name (i := 2) sc_read_land.nd rfl (Or.inl rfl))) (fun _ _ _ _ _ => pts_nil) (fun _ _ _ _ _ => (pe_tupleOf (by rfl) c.g_tuple (pe_lc (own := [("told", 4)]) rfl sc_read_land.nd (pi_seq (pv 2)) (blkOk_by (own := [("told", 4)]) (N := N_read_land) (by kernel_rfl)) (fun _ _ _ _ _ => (pg_name (i := 4) sc_read_land.nd rfl (Or.inl rfl))) (fun _ _ _ _ _ => pts_nil) (fun _ _ _ _ _ => (pe_ix ix_seq (pv 4) pe_int (fun _ _ => rfl))))))))))))))
    ((esf_seq (esf_asg (evf_lc (vs := [2]) (eif_seq (evf_m1 r2_split evf_var evf_str)) egf_name etf_yes (evf_lc (vs := [3]) (eif_seq (evf_m1 r2_split evf_var evf_str)) egf_name etf_yes (evf_call (eaf_cons evf_var eaf_nil)) (by decide)) (by decide)) egf_name)
    (esf_seq (esf_if ((etf_or (etf_not (etf_test (evf_chain r2_leA r2_leA evf_int (evf_cb rl_len (eaf_cons evf_var eaf_nil)) evf_int))) (etf_not (etf_B (evf_cb rl_all (eaf_cons (evf_lc (vs := [2]) (eif_seq evf_var) egf_name etf_yes (evf_op r2_eq (evf_cb rl_len (eaf_cons evf_var eaf_nil)) (evf_cb rl_len (eaf_cons evf_var eaf_nil))) (by decide)) eaf_nil)))))) (esf_ret evf_non) esf_next)
    (esf_seq (esf_if (etf_B (evf_cb rl_any (eaf_cons (evf_lc2 (vs := [2, 4]) (vs1 := [4]) (eif_seq evf_var) egf_name etf_yes (eif_seq evf_var) egf_name etf_yes (evf_op r2_isN evf_var evf_non) (by decide) (by decide)) eaf_nil))) (esf_ret evf_non) esf_next)
    (esf_ret (evf_then r1_tuple (evf_lc (vs := [2]) (eif_seq evf_var) egf_name etf_yes (evf_then r1_tuple (evf_lc (vs := [4]) (eif_seq evf_var) egf_name etf_yes (evf_op r2_ix evf_var evf_int) (by decide))) (by decide))))))))
theorem sc__law_bag : FnScope N__law_bag ["script"] (defScope s__law_bag) := ⟨rfl, rfl, rfl, by decide +kernel, rfl, by decide +kernel, by decide +kernel⟩
theorem k__law_bag (c : Fx K mg) : Cal P w K mg base CX0 1 "_law_bag" ["script"] 1 F__law_bag := by
  obtain ⟨fd, F⟩ := c.fn__law_bag
  refine ⟨⟨fd, fnG_body F sc__law_bag rfl (fun cdv A outer s H E hg hr => ?_), F.bindsN (fun _ _ _ _ _ _ us hl => match us, hl with | [_], _ => rfl), isf_of F⟩, c.gl__law_bag, F.kp⟩
  exact body_by ((pss_one (ps_ret (pe_lst (pa_cons pe_int (pa_cons pe_int (pa_cons pe_int (pa_cons (pe_lc (own := [("cell", 1)]) rfl sc__law_bag.nd (pi_seq (pe_slice sl_all (pv 0) po_none (po_some pe_int))) (blkOk_by (own := [("cell", 1)]) (N := N__law_bag) (sc := defScope s__law_bag) (by decide +kernel)) (fun _ _ _ _ _ => (pg_name (i := 1) sc__law_bag.nd rfl (Or.inl rfl))) (fun _ _ _ _ _ => pts_nil) (fun _ _ _ _ _ => (pe_callB call_abs (by rfl) c.g_abs (by decide +kernel) (pa_cons (pv 1) pa_nil)))) pa_nil))))))))
    ((esf_ret (evf_lst (eaf_cons evf_int (eaf_cons evf_int (eaf_cons evf_int (eaf_cons (evf_lc (vs := [1]) (eif_seq (evf_sl slf_all evf_var eof_none (eof_some evf_int))) egf_name etf_yes (evf_cb rl_abs (eaf_cons evf_var eaf_nil)) (by decide)) eaf_nil)))))))
theorem sc__law_take : FnScope N__law_take ["bag", "many"] (defScope s__law_take) := ⟨rfl, rfl, rfl, by decide +kernel, rfl, by decide +kernel, by decide +kernel⟩
theorem k__law_take (c : Fx K mg) : Cal P w K mg base CX0 1 "_law_take" ["bag", "many"] 2 F__law_take := by
  obtain ⟨fd, F⟩ := c.fn__law_take
  refine ⟨⟨fd, fnG_body F sc__law_take rfl (fun cdv A outer s H E hg hr => ?_), F.bindsN (fun _ _ _ _ _ _ us hl => match us, hl with | [_, _], _ => rfl), isf_of F⟩, c.gl__law_take, F.kp⟩
  exact body_by ((pss_cons (ps_if (pt_cmpR (op_eqAll (Mi.Room.u64 hr)) (pe_ix ix_seq (pv 0) pe_int (fun _ _ => rfl)) pe_int (nomark _)) (pss_cons (ps_set (i := 2) sc__law_take.nd rfl (Or.inl rfl) (pe_ix ix_seq (pe_op op_addX (pe_slice sl_all (pe_ix ix_seq (pv 0) pe_int (fun _ _ => rfl)) (po_some (pe_ix ix_seq (pv 0) pe_int (fun _ _ => rfl))) po_none) (pe_lst (pa_cons pe_int pa_nil))) pe_int (fun _ _ => rfl)))
    (pss_cons (ps_augS (pv 0) pe_int get_list pe_int ip_add set_list)
    (pss_cons (ps_if (pt_cmpR op_ge (pv 2) (pe_op op_pow pe_int pe_int) (nomark _)) (pss_one (ps_asg (pv 2) (pg_sub (pv 0) pe_int set_list))) pss_nil)
    (pss_cons (ps_set (i := 3) sc__law_take.nd rfl (Or.inl rfl) (pe_op op_addX (pe_op op_addX (pe_op op_mulAll (pe_ix ix_seq (pv 0) pe_int (fun _ _ => rfl)) pe_int) (pe_op op_mod (pe_callTy call_intAll (by rfl) c.g_int (by decide +kernel) (pa_cons (pv 2) pa_nil)) pe_int)) (pe_op op_mulAll pe_int (pe_ix ix_seq (pv 0) pe_int (fun _ _ => rfl)))))
    (pss_one (ps_asg (pe_op op_mod (pe_callTy call_intAll (by rfl) c.g_int (by decide +kernel) (pa_cons (pv 3) pa_nil)) pe_int) (pg_sub (pv 0) pe_int set_list))))))) pss_nil)
    (pss_cons (ps_if (pt_cmpR op_gt (pe_ix ix_seq (pv 0) pe_int (fun _ _ => rfl)) pe_int (nomark _)) (pss_cons (ps_set (i := 4) sc__law_take.nd rfl (Or.inl rfl) (pe_op op_mod (pe_callTy call_intAll (by rfl) c.g_int (by decide +kernel) (pa_cons (pe_ix ix_seq (pv 0) pe_int (fun _ _ => rfl)) pa_nil)) (pv 1)))
    (pss_cons (ps_asg (pe_op op_fdivW (pe_callTy call_intAll (by rfl) c.g_int (by decide +kernel) (pa_cons (pe_ix ix_seq (pv 0) pe_int (fun _ _ => rfl)) pa_nil)) (pv 1)) (pg_sub (pv 0) pe_int set_list))
    (pss_one (ps_ret (pv 4))))) pss_nil)
    (pss_cons (ps_set (i := 5) sc__law_take.nd rfl (Or.inl rfl) (pe_op op_mod (pe_callTy call_intAll (by rfl) c.g_int (by decide +kernel) (pa_cons (pe_op op_mulAll (pe_op op_addX (pe_ix ix_seq (pv 0) pe_int (fun _ _ => rfl)) pe_int) pe_int) pa_nil)) pe_int))
    (pss_cons (ps_set (i := 6) sc__law_take.nd rfl (Or.inl rfl) (pe_op op_mod (pe_callTy call_intAll (by rfl) c.g_int (by decide +kernel) (pa_cons (pe_op op_mulAll (pe_op op_mod (pe_callTy call_intAll (by rfl) c.g_int (by decide +kernel) (pa_cons (pe_op op_mulAll (pv 5) (pv 5)) pa_nil)) pe_int) pe_int) pa_nil)) pe_int))
    (pss_one (ps_ret (pe_op op_mod (pe_callTy call_intAll (by rfl) c.g_int (by decide +kernel) (pa_cons (pe_op op_fdivW (pv 6) pe_int) pa_nil)) (pv 1)))))))))
    ((esf_seq (esf_if (etf_test (evf_op r2_eq (evf_op r2_ix evf_var evf_int) evf_int)) (esf_seq (esf_asg (evf_op r2_ix (evf_op r2_addX (evf_sl slf_all (evf_op r2_ix evf_var evf_int) (eof_some (evf_op r2_ix evf_var evf_int)) eof_none) (evf_lst (eaf_cons evf_int eaf_nil))) evf_int) egf_name)
    (esf_seq (esf_augSet (k := 2) evf_int)
    (esf_seq (esf_if (etf_test (evf_op r2_ge evf_var (evf_op r2_pow evf_int evf_int))) (esf_asg evf_var (egf_set1 (E := E) evf_int)) esf_next)
    (esf_seq (esf_asg (evf_op r2_addX (evf_op r2_addX (evf_op r2_mul (evf_op r2_ix evf_var evf_int) evf_int) (evf_op r2_mod (evf_cb rl_intAll (eaf_cons evf_var eaf_nil)) evf_int)) (evf_op r2_mul evf_int (evf_op r2_ix evf_var evf_int))) egf_name)
    (esf_asg (evf_op r2_mod (evf_cb rl_intAll (eaf_cons evf_var eaf_nil)) evf_int) (egf_set1 (E := E) evf_int)))))) esf_next)
    (esf_seq (esf_if (etf_test (evf_op r2_gt (evf_op r2_ix evf_var evf_int) evf_int)) (esf_seq (esf_asg (evf_op r2_mod (evf_cb rl_intAll (eaf_cons (evf_op r2_ix evf_var evf_int) eaf_nil)) evf_var) egf_name)
    (esf_seq (esf_asg (evf_op r2_div (evf_cb rl_intAll (eaf_cons (evf_op r2_ix evf_var evf_int) eaf_nil)) evf_var) (egf_set1 (E := E) evf_int))
    (esf_ret evf_var))) esf_next)
    (esf_seq (esf_asg (evf_op r2_mod (evf_cb rl_intAll (eaf_cons (evf_op r2_mul (evf_op r2_addX (evf_op r2_ix evf_var evf_int) evf_int) evf_int) eaf_nil)) evf_int) egf_name)
    (esf_seq (esf_asg (evf_op r2_mod (evf_cb rl_intAll (eaf_cons (evf_op r2_mul (evf_op r2_mod (evf_cb rl_intAll (eaf_cons (evf_op r2_mul evf_var evf_var) eaf_nil)) evf_int) evf_int) eaf_nil)) evf_int) egf_name)
    (esf_ret (evf_op r2_mod (evf_cb rl_intAll (eaf_cons (evf_op r2_div evf_var evf_int) eaf_nil)) evf_var)))))))
theorem sc__law_some : FnScope N__law_some ["bag", "things"] (defScope s__law_some) := ⟨rfl, rfl, rfl, by decide +kernel, rfl, by decide +kernel, by decide +kernel⟩
theorem k__law_some (c : Fx K mg) (k__law_take : Cal P w K mg base CX0 1 "_law_take" ["bag", "many"] 2 F__law_take) : Cal P w K mg base CX0 2 "_law_some" ["bag", "things"] 2 F__law_some := by
  obtain ⟨fd, F⟩ := c.fn__law_some
  refine ⟨⟨fd, fnG_body F sc__law_some rfl (fun cdv A outer s H E hg hr => ?_), F.bindsN (fun _ _ _ _ _ _ us hl => match us, hl with | [_, _], _ => rfl), isf_of F⟩, c.gl__law_some, F.kp⟩
  exact body_by ((pss_one (ps_ret (pe_ix ix_seq (pv 1) (pe_callC (E := E) k__law_take hg hr (by decide) passF (pa_cons (pv 0) (pa_cons (pe_callB call_len (by rfl) c.g_len (by decide +kernel) (pa_cons (pv 1) pa_nil)) pa_nil))) (fun _ _ => rfl)))))
    ((esf_ret (evf_op r2_ix evf_var (evf_call (eaf_cons evf_var (eaf_cons (evf_cb rl_len (eaf_cons evf_var eaf_nil)) eaf_nil))))))
theorem sc__law_alike : FnScope N__law_alike ["found", "due"] (defScope s__law_alike) := ⟨rfl, rfl, rfl, by decide +kernel, rfl, by decide +kernel, by decide +kernel⟩
theorem k__law_alike (c : Fx K mg) : Cal P w K mg base CX0 1 "_law_alike" ["found", "due"] 2 F__law_alike := by
  obtain ⟨fd, F⟩ := c.fn__law_alike
  refine ⟨⟨fd, fnG_body F sc__law_alike rfl (fun cdv A outer s H E hg hr => ?_), F.bindsN (fun _ _ _ _ _ _ us hl => match us, hl with | [_, _], _ => rfl), isf_of F⟩, c.gl__law_alike, F.kp⟩
  exact body_by ((pss_one (ps_ret ((pe_and (pe_cmpR (op_eqAll (Mi.Room.u64 hr)) (pe_callB (call_repr hg (Mi.Room.u65 hr)) (by rfl) c.g_repr (by decide +kernel) (pa_cons (pv 0) pa_nil)) (pe_callB (call_repr hg (Mi.Room.u65 hr)) (by rfl) c.g_repr (by decide +kernel) (pa_cons (pv 1) pa_nil)) (nomark _)) (pe_one (pe_cmpR (op_eqAll (Mi.Room.u64 hr)) (pv 0) (pv 1) (nomark _))))))))
    ((esf_ret ((evf_andV (evf_op r2_eq (evf_cb rl_repr (eaf_cons evf_var eaf_nil)) (evf_cb rl_repr (eaf_cons evf_var eaf_nil))) (evf_op r2_eq evf_var evf_var)))))
theorem sc__law_word_of : FnScope N__law_word_of ["limit"] (defScope s__law_word_of) := ⟨rfl, rfl, rfl, by decide +kernel, rfl, by decide +kernel, by decide +kernel⟩
theorem k__law_word_of (c : Fx K mg) : Cal P w K mg base CX0 1 "_law_word_of" ["limit"] 1 F__law_word_of := by
  obtain ⟨fd, F⟩ := c.fn__law_word_of
  refine ⟨⟨fd, fnG_body F sc__law_word_of rfl (fun cdv A outer s H E hg hr => ?_), F.bindsN (fun _ _ _ _ _ _ us hl => match us, hl with | [_], _ => rfl), isf_of F⟩, c.gl__law_word_of, F.kp⟩
  exact body_by ((pss_one (ps_ret (pe_ifExp (pt_cmpR op_isN1 (pv 0) pe_non (nomark _)) pe_str (pe_op op_addX (pe_ifExp (pt_cmpR (op_eqAll (Mi.Room.u64 hr)) (pe_ix ix_seq (pv 0) pe_int (fun _ _ => rfl)) pe_int (nomark _)) pe_str pe_str) (pe_callTy call_str_int (by rfl) c.g_str (by decide +kernel) (pa_cons (pe_ix ix_seq (pv 0) pe_int (fun _ _ => rfl)) pa_nil)))))))
    ((esf_ret (evf_if (etf_test (evf_op r2_isN evf_var evf_non)) evf_str (evf_op r2_addX (evf_if (etf_test (evf_op r2_eq (evf_op r2_ix evf_var evf_int) evf_int)) evf_str evf_str) (evf_cb rl_strI (eaf_cons (evf_op r2_ix evf_var evf_int) eaf_nil))))))
theorem sc__law_limit_of : FnScope N__law_limit_of ["word"] (defScope s__law_limit_of) := ⟨rfl, rfl, rfl, by decide +kernel, rfl, by decide +kernel, by decide +kernel⟩
theorem k__law_limit_of (c : Fx K mg) : Cal P w K mg base CX0 1 "_law_limit_of" ["word"] 1 F__law_limit_of := by
  obtain ⟨fd, F⟩ := c.fn__law_limit_of
  refine ⟨⟨fd, fnG_body F sc__law_limit_of rfl (fun cdv A outer s H E hg hr => ?_), F.bindsN (fun _ _ _ _ _ _ us hl => match us, hl with | [_], _ => rfl), isf_of F⟩, c.gl__law_limit_of, F.kp⟩
  exact body_by ((pss_cons (ps_if (pt_cmpR (op_eqAll (Mi.Room.u64 hr)) (pv 0) pe_str (nomark _)) (pss_one (ps_ret (pe_tupX (pa_cons pe_bl (pa_cons pe_non pa_nil))))) pss_nil)
    (pss_cons (ps_set (i := 1) sc__law_limit_of.nd rfl (Or.inl rfl) (pe_cmpR (op_eqAll (Mi.Room.u64 hr)) (pe_slice sl_all (pv 0) po_none (po_some pe_int)) pe_str (nomark _)))
    (pss_cons (ps_set (i := 2) sc__law_limit_of.nd rfl (Or.inl rfl) (pe_ifExp (pt_val (pv 1)) (pe_slice sl_all (pv 0) (po_some pe_int) po_none) (pv 0)))
    (pss_cons (ps_set (i := 3) sc__law_limit_of.nd rfl (Or.inl rfl) (pe_ifExp (pt_cmpR (op_eqAll (Mi.Room.u64 hr)) (pe_slice sl_all (pv 2) po_none (po_some pe_int)) pe_str (nomark _)) (pe_slice sl_all (pv 2) (po_some pe_int) po_none) (pv 2)))
    (pss_cons (ps_if (PW.pt (pw_or (pt_cmpR (op_eqAll (Mi.Room.u64 hr)) (pv 3) pe_str (nomark _)) (pw_or (pt_cmpR op_gt (pe_callB call_len (by rfl) c.g_len (by decide +kernel) (pa_cons (pv 3) pa_nil)) pe_int (nomark _)) (pw_or1 (pt_cmpR (op_neAll (Mi.Room.u64 hr)) (pe_lc (own := [("sign", 4)]) rfl sc__law_limit_of.nd (pi_seq (pv 3)) (blkOk_by (own := [("sign", 4)]) (N := N__law_limit_of) (sc := defScope s__law_limit_of) (by decide +kernel)) (fun _ _ _ _ _ => (pg_name (i := 4) sc__law_limit_of.nd rfl (Or.inl rfl))) (fun _ _ _ _ _ => (pts_one (pt_cmpR (op_notInAll (Mi.Room.u65 hr)) (pv 4) pe_str (by with_unfolding_all rfl)))) (fun _ _ _ _ _ => (pv 4))) (pe_lst pa_nil) (nomark _)))))) (pss_one (ps_ret (pe_tupX (pa_cons pe_bl (pa_cons pe_non pa_nil))))) pss_nil)
    (pss_cons (ps_if (PW.pt (pw_and (pt_cmpR (op_eqAll (Mi.Room.u64 hr)) (pe_ix ix_seq (pv 3) pe_int (fun _ _ => rfl)) pe_str (nomark _)) (pw_and1 (pt_cmpR (op_neAll (Mi.Room.u64 hr)) (pv 2) pe_str (nomark _))))) (pss_one (ps_ret (pe_tupX (pa_cons pe_bl (pa_cons pe_non pa_nil))))) pss_nil)
    (pss_one (ps_ret (pe_tupX (pa_cons pe_bl (pa_cons (pe_tupX (pa_cons (pe_callTy call_intAll (by rfl) c.g_int (by decide +kernel) (pa_cons (pv 2) pa_nil)) (pa_cons (pe_callTy call_intAll (by rfl) c.g_int (by decide +kernel) (pa_cons (pv 1) pa_nil)) pa_nil))) pa_nil))))))))))))
    ((esf_seq (esf_if (etf_test (evf_op r2_eq evf_var evf_str)) (esf_ret (evf_tupX (eaf_cons evf_bl (eaf_cons evf_non eaf_nil)))) esf_next)
    (esf_seq (esf_asg (evf_op r2_eq (evf_sl slf_all evf_var eof_none (eof_some evf_int)) evf_str) egf_name)
    (esf_seq (esf_asg (evf_if (etf_B evf_var) (evf_sl slf_all evf_var (eof_some evf_int) eof_none) evf_var) egf_name)
    (esf_seq (esf_asg (evf_if (etf_test (evf_op r2_eq (evf_sl slf_all evf_var eof_none (eof_some evf_int)) evf_str)) (evf_sl slf_all evf_var (eof_some evf_int) eof_none) evf_var) egf_name)
    (esf_seq (esf_if ((etf_or (etf_test (evf_op r2_eq evf_var evf_str)) (etf_or (etf_test (evf_op r2_gt (evf_cb rl_len (eaf_cons evf_var eaf_nil)) evf_int)) (etf_test (evf_op r2_ne (evf_lc (vs := [4]) (eif_seq evf_var) egf_name (etf_test (evf_op r2_notIn evf_var evf_str)) evf_var (by decide)) (evf_lst eaf_nil)))))) (esf_ret (evf_tupX (eaf_cons evf_bl (eaf_cons evf_non eaf_nil)))) esf_next)
    (esf_seq (esf_if ((etf_and (etf_test (evf_op r2_eq (evf_op r2_ix evf_var evf_int) evf_str)) (etf_test (evf_op r2_ne evf_var evf_str)))) (esf_ret (evf_tupX (eaf_cons evf_bl (eaf_cons evf_non eaf_nil)))) esf_next)
    (esf_ret (evf_tupX (eaf_cons evf_bl (eaf_cons (evf_tupX (eaf_cons (evf_cb rl_intAll (eaf_cons evf_var eaf_nil)) (eaf_cons (evf_cb rl_intAll (eaf_cons evf_var eaf_nil)) eaf_nil))) eaf_nil)))))))))))
theorem sc__law_read : FnScope N__law_read ["text"] (defScope s__law_read) := ⟨rfl, rfl, rfl, by decide +kernel, rfl, by decide +kernel, by decide +kernel⟩
theorem k__law_read (c : Fx K mg) (k__law_limit_of : Cal P w K mg base CX0 1 "_law_limit_of" ["word"] 1 F__law_limit_of) : Cal P w K mg base CX0 2 "_law_read" ["text"] 1 F__law_read := by
  obtain ⟨fd, F⟩ := c.fn__law_read
  refine ⟨⟨fd, fnG_body F sc__law_read rfl (fun cdv A outer s H E hg hr => ?_), F.bindsN (fun _ _ _ _ _ _ us hl => match us, hl with | [_], _ => rfl), isf_of F⟩, c.gl__law_read, F.kp⟩
  exact body_by ((pss_cons (ps_set (i := 1) sc__law_read.nd rfl (Or.inr rfl) (pe_lst pa_nil))
    (pss_cons (ps_for PassesOwn.never rfl (pi_seq (pe_split (pv 0) pe_str)) (pg_name (i := 2) sc__law_read.nd rfl (Or.inl rfl)) (pss_cons (ps_set (i := 3) sc__law_read.nd rfl (Or.inl rfl) (pe_lst pa_nil))
    (pss_cons (ps_for PassesOwn.never rfl (pi_seq (pe_split (pv 2) pe_str)) (pg_name (i := 4) sc__law_read.nd rfl (Or.inl rfl)) (pss_cons (ps_asg (pe_callC (E := E) k__law_limit_of hg hr (by decide) passF (pa_cons (pv 4) pa_nil)) (pg_tup rfl (pgs_cons (pg_name (i := 5) sc__law_read.nd rfl (Or.inl rfl)) (pgs_cons (pg_name (i := 6) sc__law_read.nd rfl (Or.inl rfl)) pgs_nil))))
    (pss_cons (ps_if (pt_not (pt_val (pv 5))) (pss_one (ps_ret pe_non)) pss_nil)
    (pss_one (ps_expr (pe_bm PySem.F.plainAttrs_list PySem.F.slot_list_append PySem.F.type_list_append mt_append (pv 3) (pa_cons (pv 6) pa_nil)))))))
    (pss_one (ps_expr (pe_bm PySem.F.plainAttrs_list PySem.F.slot_list_append PySem.F.type_list_append mt_append (pv 1) (pa_cons (pe_tupleOf (by rfl) c.g_tuple (pv 3)) pa_nil)))))))
    (pss_cons (ps_if (PW.pt (pw_or (pt_not (pt_chain (op_leAll (Mi.Room.u0 hr)) (op_leAll (Mi.Room.u0 hr)) pe_int (pe_callB call_len (by rfl) c.g_len (by decide +kernel) (pa_cons (pv 1) pa_nil)) pe_int)) (pw_or1 (pt_cmpR (op_neAll (Mi.Room.u64 hr)) (pe_lc (own := [("row", 3)]) rfl sc__law_read.nd (pi_seq (pv 1)) (blkOk_by (own := [("row", 3)]) (N := N__law_read) (sc := defScope s__law_read) (by decide +kernel)) (fun _ _ _ _ _ => (pg_name (i := 3) sc__law_read.nd rfl (Or.inl rfl))) (fun _ _ _ _ _ => (pts_one (pt_cmpR (op_neAll (Mi.Room.u64 hr)) (pe_callB call_len (by rfl) c.g_len (by decide +kernel) (pa_cons (pv 3) pa_nil)) (pe_callB call_len (by rfl) c.g_len (by decide +kernel) (pa_cons (pv 1) pa_nil)) (nomark _)))) (fun _ _ _ _ _ => (pv 3))) (pe_lst pa_nil) (nomark _))))) (pss_one (ps_ret pe_non)) pss_nil)
    (pss_one (ps_ret (pe_tupleOf (by rfl) c.g_tuple (pv 1))))))))
    ((esf_seq (esf_asg (evf_lst eaf_nil) egf_name)
    (esf_seq (esf_for (eif_seq (evf_m1 r2_split evf_var evf_str)) egf_name (esf_seq (esf_asg (evf_lst eaf_nil) egf_name)
    (esf_seq (esf_for (eif_seq (evf_m1 r2_split evf_var evf_str)) egf_name (esf_seq (esf_asg (evf_call (eaf_cons evf_var eaf_nil)) (egf_tup (egsf_cons egf_name (egsf_cons egf_name egsf_nil))))
    (esf_seq (esf_if (etf_not (etf_B evf_var)) (esf_ret evf_non) esf_next)
    (esf_append evf_var))))
    (esf_append (evf_then r1_tuple evf_var)))))
    (esf_seq (esf_if ((etf_or (etf_not (etf_test (evf_chain r2_leA r2_leA evf_int (evf_cb rl_len (eaf_cons evf_var eaf_nil)) evf_int))) (etf_test (evf_op r2_ne (evf_lc (vs := [3]) (eif_seq evf_var) egf_name (etf_test (evf_op r2_ne (evf_cb rl_len (eaf_cons evf_var eaf_nil)) (evf_cb rl_len (eaf_cons evf_var eaf_nil)))) evf_var (by decide)) (evf_lst eaf_nil))))) (esf_ret evf_non) esf_next)
    (esf_ret (evf_then r1_tuple evf_var))))))
theorem sc_law : FnScope N_law ["script"] (defScope s_law) := ⟨rfl, rfl, rfl, by decide +kernel, rfl, by decide +kernel, by decide +kernel⟩
theorem k_law (c : Fx K mg) (k__law_bag : Cal P w K mg base CX0 1 "_law_bag" ["script"] 1 F__law_bag) (k__law_take : Cal P w K mg base CX0 1 "_law_take" ["bag", "many"] 2 F__law_take) (k__law_some : Cal P w K mg base CX0 2 "_law_some" ["bag", "things"] 2 F__law_some) (k__law_word_of : Cal P w K mg base CX0 1 "_law_word_of" ["limit"] 1 F__law_word_of) (k_read_land : Cal P w K mg base CX0 4 "read_land" ["text"] 1 F_read_land) (k_land_text : Cal P w K mg base CX0 2 "land_text" ["land"] 1 F_land_text) (k__law_alike : Cal P w K mg base CX0 1 "_law_alike" ["found", "due"] 2 F__law_alike) (k__law_read : Cal P w K mg base CX0 2 "_law_read" ["text"] 1 F__law_read) : Cal P w K mg base CX0 5 "law" ["script"] 1 F_law := by
  obtain ⟨fd, F⟩ := c.fn_law
  refine ⟨⟨fd, fnG_body F sc_law rfl (fun cdv A outer s H E hg hr => ?_), F.bindsN (fun _ _ _ _ _ _ us hl => match us, hl with | [_], _ => rfl), isf_of F⟩, c.gl_law, F.kp⟩
  exact body_by ((pss_cons (ps_set (i := 1) sc_law.nd rfl (Or.inr rfl) (pe_callC (E := E) k__law_bag hg hr (by decide) passF (pa_cons (pv 0) pa_nil)))
    (pss_cons (ps_for PassesOwn.never rfl (pi_range1 (by rfl) c.g_range (pa_cons pe_int pa_nil)) (pg_name (i := 2) sc_law.nd rfl (Or.inl rfl)) (pss_cons (ps_set (i := 3) sc_law.nd rfl (Or.inr rfl) (pe_op op_addX pe_int (pe_callC (E := E) k__law_take hg hr (by decide) passF (pa_cons (pv 1) (pa_cons pe_int pa_nil)))))
    (pss_cons (ps_set (i := 4) sc_law.nd rfl (Or.inr rfl) (pe_lst (pa_cons pe_int (pa_cons pe_int (pa_cons (pe_un un_neg pe_int) (pa_cons pe_int (pa_cons (pe_un un_neg pe_int) (pa_cons (pe_op op_sub (pe_op op_pow pe_int pe_int) pe_int) (pa_cons (pe_op op_sub pe_int (pe_op op_pow pe_int pe_int)) pa_nil)))))))))
    (pss_cons (ps_set (i := 5) sc_law.nd rfl (Or.inl rfl) (pe_tupleOf (by rfl) c.g_tuple (pe_lc (own := [("i", 6)]) rfl sc_law.nd (pi_range1 (by rfl) c.g_range (pa_cons (pv 3) pa_nil)) (blkOk_by (own := [("i", 6)]) (N := N_law) (sc := defScope s_law) (by decide +kernel)) (fun _ _ _ _ _ => (pg_name (i := 6) sc_law.nd rfl (Or.inl rfl))) (fun _ _ _ _ _ => pts_nil) (fun _ _ _ _ _ => (pe_tupleOf (by rfl) c.g_tuple (pe_lc (own := [("j", 7)]) rfl sc_law.nd (pi_range1 (by rfl) c.g_range (pa_cons (pv 3) pa_nil)) (blkOk_by (own := [("j", 7)]) (N := N_law) (by kernel_rfl)) (fun _ _ _ _ _ => (pg_name (i := 7) sc_law.nd rfl (Or.inl rfl))) (fun _ _ _ _ _ => pts_nil) (fun _ _ _ _ _ => (pe_ifExp (pt_cmpR (op_eqAll (Mi.Room.u64 hr)) (pe_callC (E := E0) k__law_take hg hr (by decide) passF (pa_cons (pv 1) (pa_cons pe_int pa_nil))) pe_int (nomark _)) pe_non (pe_tupX (pa_cons (pe_callC (E := E0) k__law_some hg hr (by decide) passF (pa_cons (pv 1) (pa_cons (pv 4) pa_nil))) (pa_cons (pe_callC (E := E0) k__law_take hg hr (by decide) passF (pa_cons (pv 1) (pa_cons pe_int pa_nil))) pa_nil)))))))))))
    (pss_cons (ps_set (i := 8) sc_law.nd rfl (Or.inl rfl) (pe_join pe_str (pe_lc (own := [("row", 9)]) rfl sc_law.nd (pi_seq (pv 5)) (blkOk_by (own := [("row", 9)]) (N := N_law) (sc := defScope s_law) (by decide +kernel)) (fun _ _ _ _ _ => (pg_name (i := 9) sc_law.nd rfl (Or.inl rfl))) (fun _ _ _ _ _ => pts_nil) (fun _ _ _ _ _ => (pe_join pe_str (pe_lc (own := [("limit", 10)]) rfl sc_law.nd (pi_seq (pv 9)) (blkOk_by (own := [("limit", 10)]) (N := N_law) (by kernel_rfl)) (fun _ _ _ _ _ => (pg_name (i := 10) sc_law.nd rfl (Or.inl rfl))) (fun _ _ _ _ _ => pts_nil) (fun _ _ _ _ _ => (pe_callC (E := E0) k__law_word_of hg hr (by decide) passF (pa_cons (pv 10) pa_nil)))))))))
    (pss_cons (ps_if (pt_not (pt_val (pe_callC (E := E) k__law_alike hg hr (by decide) passF (pa_cons (pe_lst (pa_cons (pe_callC (E := E) k_land_text hg hr (by decide) passF (pa_cons (pv 5) pa_nil)) (pa_cons (pe_callC (E := E) k_read_land hg hr (by decide) passF (pa_cons (pv 8) pa_nil)) pa_nil))) (pa_cons (pe_lst (pa_cons (pv 8) (pa_cons (pv 5) pa_nil))) pa_nil))))) (pss_one (ps_ret pe_bl)) pss_nil)
    (pss_one (ps_for PassesOwn.never rfl (pi_range1 (by rfl) c.g_range (pa_cons pe_int pa_nil)) (pg_name (i := 11) sc_law.nd rfl (Or.inl rfl)) (pss_cons (ps_par (i := 12) (j := 13) rfl sc_law.nd rfl rfl (by decide) rfl rfl (pa_cons (pe_callC (E := E) k__law_take hg hr (by decide) passF (pa_cons (pv 1) (pa_cons (pe_op op_addX (pe_callB call_len (by rfl) c.g_len (by decide +kernel) (pa_cons (pv 8) pa_nil)) pe_int) pa_nil))) (pa_cons (pe_callC (E := E) k__law_take hg hr (by decide) passF (pa_cons (pv 1) (pa_cons pe_int pa_nil))) pa_nil)) (by rfl))
    (pss_cons (ps_set (i := 14) sc_law.nd rfl (Or.inl rfl) (pe_callC (E := E) k__law_some hg hr (by decide) passF (pa_cons (pv 1) (pa_cons (pe_lst (pa_cons pe_str (pa_cons pe_str (pa_cons pe_str (pa_cons pe_str (pa_cons pe_str (pa_cons pe_str (pa_cons pe_str (pa_cons pe_str (pa_cons pe_str (pa_cons pe_str (pa_cons pe_str (pa_cons pe_str (pa_cons pe_str (pa_cons pe_str pa_nil))))))))))))))) pa_nil))))
    (pss_cons (ps_set (i := 15) sc_law.nd rfl (Or.inl rfl) (pe_op op_addX (pe_op op_addX (pe_slice sl_all (pv 8) po_none (po_some (pv 12))) (pv 14)) (pe_slice sl_all (pv 8) (po_some (pe_op op_addX (pv 12) (pe_ifExp (pt_cmpR op_lt (pv 13) pe_int (nomark _)) pe_int (pe_callC (E := E) k__law_take hg hr (by decide) passF (pa_cons (pv 1) (pa_cons pe_int pa_nil)))))) po_none)))
    (pss_cons (ps_set (i := 15) sc_law.nd rfl (Or.inl rfl) (pe_callC (E := E) k__law_some hg hr (by decide) passF (pa_cons (pv 1) (pa_cons (pe_lst (pa_cons (pv 15) (pa_cons (pv 15) (pa_cons (pv 15) (pa_cons (pe_slice sl_all (pv 8) po_none (po_some (pv 12))) (pa_cons pe_str (pa_cons pe_str (pa_cons pe_str (pa_cons pe_str (pa_cons pe_str (pa_cons pe_str pa_nil))))))))))) pa_nil))))
    (pss_one (ps_if (pt_not (pt_val (pe_callC (E := E) k__law_alike hg hr (by decide) passF (pa_cons (pe_callC (E := E) k_read_land hg hr (by decide) passF (pa_cons (pv 15) pa_nil)) (pa_cons (pe_callC (E := E) k__law_read hg hr (by decide) passF (pa_cons (pv 15) pa_nil)) pa_nil))))) (pss_one (ps_ret pe_bl)) pss_nil))))))))))))))
    (pss_one (ps_ret pe_bl)))))
    ((esf_seq (esf_asgSto (evf_call (eaf_cons evf_var eaf_nil)))
    (esf_seq (esf_for (eif_rng1 (eaf_cons evf_int eaf_nil)) egf_name (esf_seq (esf_asg (evf_op r2_addX evf_int (evf_call (eaf_cons evf_var (eaf_cons evf_int eaf_nil)))) egf_name)
    (esf_seq (esf_asg (evf_lst (eaf_cons evf_int (eaf_cons evf_int (eaf_cons (evf_un r1_neg evf_int) (eaf_cons evf_int (eaf_cons (evf_un r1_neg evf_int) (eaf_cons (evf_op r2_sub (evf_op r2_pow evf_int evf_int) evf_int) (eaf_cons (evf_op r2_sub evf_int (evf_op r2_pow evf_int evf_int)) eaf_nil)))))))) egf_name)
    (esf_seq (esf_asg (evf_then r1_tuple (evf_lc (vs := [6]) (eif_rng1 (eaf_cons evf_var eaf_nil)) egf_name etf_yes (evf_then r1_tuple (evf_lc (vs := [7]) (eif_rng1 (eaf_cons evf_var eaf_nil)) egf_name etf_yes (evf_if (etf_test (evf_op r2_eq (evf_call (eaf_cons evf_var (eaf_cons evf_int eaf_nil))) evf_int)) evf_non (evf_tupX (eaf_cons (evf_call (eaf_cons evf_var (eaf_cons evf_var eaf_nil))) (eaf_cons (evf_call (eaf_cons evf_var (eaf_cons evf_int eaf_nil))) eaf_nil)))) (by decide))) (by decide))) egf_name)
    (esf_seq (esf_asg (evf_m1 r2_join evf_str (evf_lc (vs := [9]) (eif_seq evf_var) egf_name etf_yes (evf_m1 r2_join evf_str (evf_lc (vs := [10]) (eif_seq evf_var) egf_name etf_yes (evf_call (eaf_cons evf_var eaf_nil)) (by decide))) (by decide))) egf_name)
    (esf_seq (esf_if (etf_not (etf_B (evf_call (eaf_cons (evf_lst (eaf_cons (evf_call (eaf_cons evf_var eaf_nil)) (eaf_cons (evf_call (eaf_cons evf_var eaf_nil)) eaf_nil))) (eaf_cons (evf_lst (eaf_cons evf_var (eaf_cons evf_var eaf_nil))) eaf_nil))))) (esf_ret evf_bl) esf_next)
    (esf_for (eif_rng1 (eaf_cons evf_int eaf_nil)) egf_name (esf_seq (esf_par2 (eaf_cons (evf_call (eaf_cons evf_var (eaf_cons (evf_op r2_addX (evf_cb rl_len (eaf_cons evf_var eaf_nil)) evf_int) eaf_nil))) (eaf_cons (evf_call (eaf_cons evf_var (eaf_cons evf_int eaf_nil))) eaf_nil)))
    (esf_seq (esf_asg (evf_call (eaf_cons evf_var (eaf_cons (evf_lst (eaf_cons evf_str (eaf_cons evf_str (eaf_cons evf_str (eaf_cons evf_str (eaf_cons evf_str (eaf_cons evf_str (eaf_cons evf_str (eaf_cons evf_str (eaf_cons evf_str (eaf_cons evf_str (eaf_cons evf_str (eaf_cons evf_str (eaf_cons evf_str (eaf_cons evf_str eaf_nil))))))))))))))) eaf_nil))) egf_name)
    (esf_seq (esf_asg (evf_op r2_addX (evf_op r2_addX (evf_sl slf_all evf_var eof_none (eof_some evf_var)) evf_var) (evf_sl slf_all evf_var (eof_some (evf_op r2_addX evf_var (evf_if (etf_test (evf_op r2_lt evf_var evf_int)) evf_int (evf_call (eaf_cons evf_var (eaf_cons evf_int eaf_nil)))))) eof_none)) egf_name)
    (esf_seq (esf_asg (evf_call (eaf_cons evf_var (eaf_cons (evf_lst (eaf_cons evf_var (eaf_cons evf_var (eaf_cons evf_var (eaf_cons (evf_sl slf_all evf_var eof_none (eof_some evf_var)) (eaf_cons evf_str (eaf_cons evf_str (eaf_cons evf_str (eaf_cons evf_str (eaf_cons evf_str (eaf_cons evf_str eaf_nil))))))))))) eaf_nil))) egf_name)
    (esf_if (etf_not (etf_B (evf_call (eaf_cons (evf_call (eaf_cons evf_var eaf_nil)) (eaf_cons (evf_call (eaf_cons evf_var eaf_nil)) eaf_nil))))) (esf_ret evf_bl) esf_next))))))))))))
    (esf_ret evf_bl))))
end
end K11

set_option Elab.async false
set_option linter.all false
set_option maxRecDepth 100000
set_option maxHeartbeats 4000000
namespace K11
open PySem PySem.Spec PyProof.Rows L2 Mi PySem.NumText
theorem dg_eq : sg ("0123456789" : Str) = [48, 49, 50, 51, 52, 53, 54, 55, 56, 57] := by decide +kernel
def isD (c : Nat) : Bool := decide (c ∈ sg ("0123456789" : Str))
theorem isD_iff (c : Nat) : isD c = true ↔ 48 ≤ c ∧ c ≤ 57 := by
  unfold isD
  rw [dg_eq, decide_eq_true_eq]
  simp only [List.mem_cons, List.not_mem_nil, or_false]
  omega
theorem l0 : ("0" : Str) = mk [48] := by decide +kernel
theorem lstar : ("*" : Str) = mk [42] := by decide +kernel
theorem llt : ("<" : Str) = mk [60] := by decide +kernel
theorem lmin : ("-" : Str) = mk [45] := by decide +kernel
theorem lnil : ("" : Str) = mk [] := by decide +kernel
theorem lsp : (" " : Str) = mk [32] := by decide +kernel
theorem lsep : (" / " : Str) = mk [32, 47, 32] := by decide +kernel
theorem mk1 (c : Nat) : (⟨#[c]⟩ : Str) = mk [c] := rfl
def okDig (w : List Nat) : Bool := decide (1 ≤ w.length) && decide (w.length ≤ 9) && w.all isD
def numberIn (w : List Nat) : Option Int := if okDig w then (if w.head? = some 48 ∧ w ≠ [48] then none else some (digitsVal w)) else none
def encO : Option Int → D
  | none => .non
  | some n => .int n
@[simp] theorem st1 (n : Nat) (z : Str) : startEnv (n + 1) [.str z] = some (.str z, .pur) :: List.replicate n none := rfl
theorem number_in_eq (z : Str) (S : Sto) (h : z.length ≤ sizeLine) : F_number_in [.str z] S = .ok (encO (numberIn (sg z)), .pur) S := by
  unfold F_number_in runF
  have e0 : startEnv 2 [.str z] = [some (.str z, .pur), none] := rfl
  rw [e0]
  unfold f_number_in
  have hl : (z.length : Int) = ((sg z).length : Int) := by rw [len_sg]
  have lc : lcLoop (fgName 1) fYes (fOp2 kIn (fVar 1) (fC (.str "0123456789"))) .pur [some (.str z, .pur), none] (chars z) S = .ok ((sg z).map fun c => D.bl (isD c)) S := by
    refine lc_pure1 (fun c => D.str ⟨#[c]⟩) (fun c => D.bl (isD c)) (sg z) fun c hc => ⟨[some (.str z, .pur), some (.str ⟨#[c]⟩, .pur)], .pur, ?_, ?_, ?_⟩
    · simp [cmMd]
    · simp [isD]
    · simp [upO]
  have hch : (chars z).length ≤ sizeLine := by unfold chars; rw [List.length_map]; exact (len_sg z) ▸ h
  by_cases h1 : 1 ≤ (sg z).length
  · by_cases h9 : (sg z).length ≤ 9
    · have h1' : (1 : Int) ≤ (sg z).length := by omega
      have h9' : ((sg z).length : Int) ≤ 9 := by omega
      by_cases hd : (sg z).all isD = true
      · have hok : okDig (sg z) = true := by simp [okDig, h1, h9, hd]
        obtain ⟨c, w, hw⟩ : ∃ c w, sg z = c :: w := by
          cases e : sg z with
          | nil => rw [e] at h1; simp at h1
          | cons c w => exact ⟨c, w, rfl⟩
        have hz : z = mk (c :: w) := by rw [← hw, mk_sg]
        have hA : AllDigits (sg z) := fun d hd' => (isD_iff d).mp (List.all_eq_true.mp hd d hd')
        have hi := intText_digits (x := z) hA (by show sg z ≠ []; rw [hw]; simp) (by rw [← len_sg]; omega)
        have hz40 : z.length ≤ 640 := by rw [← len_sg]; omega
        have hk : kIntAll ([.str z], Md.pur) S = .ok (.int (digitsVal (c :: w)), .pur) S := by
          show glOr kInt kIntS ([.str z], Md.pur) S = _
          have e1 : kIntS ([.str z], Md.pur) S = .ok (.int (digitsVal (c :: w)), .pur) S := by
            show (match intText? z with
              | some n => if z.length ≤ 640 then Res.ok (D.int n, Md.pur) S else .no
              | none => .no) = _
            rw [hi]
            show (if z.length ≤ 640 then Res.ok (D.int (digitsVal (sg z)), Md.pur) S else .no) = _
            rw [if_pos hz40, hw]
          unfold glOr
          exact e1
        have hzz : (z = mk [48]) ↔ (c = 48 ∧ w = []) := by rw [hz, mk_inj]; simp
        rw [hw] at hok
        by_cases hc : c = 48
        · by_cases hw0 : w = []
          · have hz48 : z = mk [48] := hzz.mpr ⟨hc, hw0⟩
            simp [fiSeq_eq, h, hl, h1', h9', hch, lc, kAll_map, hd]
            simp [atI_zeroG, hw, l0, mk1, mk_inj, numberIn, hc, hw0, hz48, hk, hok]
            rw [← hz48, hk]
            subst hc hw0
            simp [encO, hok]
          · have hz48 : ¬ z = mk [48] := fun q => hw0 (hzz.mp q).2
            simp [fiSeq_eq, h, hl, h1', h9', hch, lc, kAll_map, hd]
            simp [atI_zeroG, hw, l0, mk1, mk_inj, numberIn, hc, hw0, hz48]
            subst hc
            simp [encO, hok]
        · simp [fiSeq_eq, h, hl, h1', h9', hch, lc, kAll_map, hd]
          simp [atI_zeroG, hw, l0, mk1, mk_inj, numberIn, hc, hk, hok, encO]
      · have hok : okDig (sg z) = false := by simp [okDig, hd]
        have hd' : (sg z).all isD = false := by simpa using hd
        simp [fiSeq_eq, h, hl, h1', h9', hch, lc, kAll_map, hd', numberIn, hok, encO]
    · have h9' : ¬ ((sg z).length : Int) ≤ 9 := by omega
      have h1' : (1 : Int) ≤ (sg z).length := by omega
      have hok : okDig (sg z) = false := by simp [okDig, h9]
      simp [h, hl, h1', h9', numberIn, hok, encO]
  · have h1' : ¬ (1 : Int) ≤ (sg z).length := by omega
    have hok : okDig (sg z) = false := by simp [okDig, h1]
    simp [h, hl, h1', numberIn, hok, encO]
end K11

set_option Elab.async false
set_option linter.all false
set_option maxRecDepth 100000
set_option maxHeartbeats 4000000
namespace K11
open PySem PySem.Spec PyProof.Rows L2 Mi PySem.NumText
def integerIn (w : List Nat) : Option Int := if w.take 1 = [45] then (match numberIn (w.tail) with
  | none => none
  | some n => if n = 0 then none else some (-n)) else numberIn w
abbrev Lim := Option (Int × Int)
def dLim : Lim → D
  | none => .non
  | some (n, s) => .xtp [.int n, .int s]
def encL : Option Lim → D
  | none => .non
  | some l => .xtp [dLim l]
def limitIn (w : List Nat) : Option Lim := if w = [42] then some none else
  match integerIn (if w.take 1 = [60] then w.tail else w) with
  | none => none
  | some n => some (some (n, if w.take 1 = [60] then 1 else 0))
theorem drop_len (z : Str) (h : z.length ≤ sizeLine) : (mk (sg z).tail).length ≤ sizeLine := by
  rw [len_mk, List.length_tail, len_sg]
  omega
theorem str_eq_mk (z : Str) (w : List Nat) : z = mk w ↔ sg z = w := ⟨fun h => by rw [h]; rfl, fun h => by rw [← h]; rfl⟩
theorem integer_in_eq (z : Str) (S : Sto) (h : z.length ≤ sizeLine) : F_integer_in [.str z] S = .ok (encO (integerIn (sg z)), .pur) S := by
  unfold F_integer_in runF
  have e0 : startEnv 2 [.str z] = [some (.str z, .pur), none] := rfl
  rw [e0]
  unfold f_integer_in
  have n1 := number_in_eq z S h
  have n2 := number_in_eq (mk ((sg z).tail)) S (drop_len z h)
  rw [sg_mk] at n2
  by_cases hm : (sg z).take 1 = [45]
  · cases hn : numberIn ((sg z).tail) with
    | none =>
      rw [hn] at n2
      simp [h, lmin, mk_inj, hm, n2, encO, integerIn, hn]
    | some n =>
      rw [hn] at n2
      by_cases h0 : n = 0
      · simp [h, lmin, mk_inj, hm, n2, encO, integerIn, hn, h0]
      · simp [h, lmin, mk_inj, hm, n2, encO, integerIn, hn, h0]
  · cases hn : numberIn (sg z) with
    | none =>
      rw [hn] at n1
      simp [h, lmin, mk_inj, hm, n1, encO, integerIn, hn]
    | some n =>
      rw [hn] at n1
      simp [h, lmin, mk_inj, hm, n1, encO, integerIn, hn]
theorem limit_in_eq (z : Str) (S : Sto) (h : z.length ≤ sizeLine) : F_limit_in [.str z] S = .ok (encL (limitIn (sg z)), .pur) S := by
  unfold F_limit_in runF
  have e0 : startEnv 3 [.str z] = [some (.str z, .pur), none, none] := rfl
  have h' : z.length ≤ 16777216 := sz_eq ▸ h
  rw [e0]
  unfold f_limit_in
  have n1 := integer_in_eq z S h
  have n2 := integer_in_eq (mk ((sg z).tail)) S (drop_len z h)
  rw [sg_mk] at n2
  by_cases hs : sg z = [42]
  · have hz : z = mk [42] := (str_eq_mk z _).mpr hs
    simp [lstar, hz, encL, limitIn, dLim, sz_eq]
  · have hz : ¬ z = mk [42] := fun q => hs ((str_eq_mk z _).mp q)
    by_cases hl : (sg z).take 1 = [60]
    · cases hn : integerIn ((sg z).tail) with
      | none =>
        rw [hn] at n2
        simp [h, h', lstar, hz, llt, mk_inj, hl, n2, encO, encL, limitIn, hn, hs]
      | some n =>
        rw [hn] at n2
        simp [h, h', lstar, hz, llt, mk_inj, hl, n2, encO, encL, limitIn, hn, hs, dLim, sz_eq]
    · cases hn : integerIn (sg z) with
      | none =>
        rw [hn] at n1
        simp [h, h', lstar, hz, llt, mk_inj, hl, n1, encO, encL, limitIn, hn, hs]
      | some n =>
        rw [hn] at n1
        simp [h, h', lstar, hz, llt, mk_inj, hl, n1, encO, encL, limitIn, hn, hs, dLim, sz_eq]
end K11

set_option Elab.async false
set_option linter.all false
set_option maxRecDepth 100000
set_option maxHeartbeats 4000000
namespace K11
open PySem PySem.Spec PyProof.Rows L2 Mi PySem.NumText
def encW : Option Lim → D
  | none => .xtp [.bl false, .non]
  | some l => .xtp [.bl true, dLim l]
theorem numberIn_bad {w : List Nat} (h : okDig w = false) : numberIn w = none := by
  unfold numberIn
  rw [if_neg (by rw [h]; exact Bool.false_ne_true)]
theorem okDig_of {w : List Nat} (h : okDig w = true) : 1 ≤ w.length ∧ w.length ≤ 9 ∧ AllDigits w ∧ w.filter (fun c => !isD c) = [] := by
  unfold okDig at h
  simp only [Bool.and_eq_true, decide_eq_true_eq] at h
  obtain ⟨⟨h1, h2⟩, h3⟩ := h
  refine ⟨h1, h2, fun c hc => (isD_iff c).mp (List.all_eq_true.mp h3 c hc), List.filter_eq_nil_iff.mpr fun c hc => ?_⟩
  rw [List.all_eq_true.mp h3 c hc]
  decide
theorem okDig_not {w : List Nat} (h : okDig w = false) : w = [] ∨ 9 < w.length ∨ (w.filter (fun c => !isD c)).isEmpty = false := by
  unfold okDig at h
  by_cases h1 : w = []
  · exact .inl h1
  · by_cases h2 : 9 < w.length
    · exact .inr (.inl h2)
    · refine .inr (.inr ?_)
      have h1' : 1 ≤ w.length := List.length_pos_iff.mpr h1
      have h3 : w.all isD = false := by
        cases e : w.all isD with
        | false => rfl
        | true =>
          rw [e] at h
          simp only [Bool.and_true, Bool.and_eq_false_iff, decide_eq_false_iff_not] at h
          omega
      cases e : w.filter (fun c => !isD c) with
      | cons a b => rfl
      | nil =>
        have := List.filter_eq_nil_iff.mp e
        have : w.all isD = true := List.all_eq_true.mpr fun c hc => by
          have := this c hc
          simpa using this
        rw [this] at h3
        cases h3
theorem digitsVal_pos {c : Nat} {w : List Nat} (h : AllDigits (c :: w)) (h0 : c ≠ 48) : digitsVal (c :: w) ≠ 0 := by
  have mono : ∀ (l : List Nat) (a : Nat), a ≤ l.foldl (fun acc c => acc * 10 + (c - 48)) a := by
    intro l
    induction l with
    | nil => exact fun a => Nat.le_refl _
    | cons x l ih =>
      intro a
      exact Nat.le_trans (by omega) (ih (a * 10 + (x - 48)))
  have hc := h c List.mem_cons_self
  have := mono w (0 * 10 + (c - 48))
  show w.foldl (fun acc c => acc * 10 + (c - 48)) (0 * 10 + (c - 48)) ≠ 0
  omega
theorem kInt_of {z : Str} {n : Int} {m : Md} {S : Sto} (h : intText? z = some n) (hl : z.length ≤ 640) : kIntAll ([.str z], m) S = .ok (.int n, .pur) S := by
  show glOr kInt kIntS ([.str z], m) S = _
  have e1 : kIntS ([.str z], m) S = .ok (.int n, .pur) S := by
    show (match intText? z with
      | some n => if z.length ≤ 640 then Res.ok (D.int n, Md.pur) S else .no
      | none => .no) = _
    rw [h]
    show (if z.length ≤ 640 then Res.ok (D.int n, Md.pur) S else .no) = _
    rw [if_pos hl]
  unfold glOr
  exact e1
noncomputable def lawTail2 : FS := (fSeq (fIfS ((fOr (fTest (fOp2 kEq (fVar 3) (fC (.str "")))) (fOr (fTest (fOp2 kGt (fCB kLen (fCons (fVar 3) fNil)) (fC (.int 9)))) (fTest (fOp2 kNe (fLc (fiSeq (fVar 3)) (fgName 4) (fTest (fOp2 kNotIn (fVar 4) (fC (.str "0123456789")))) (fVar 4) [4]) (fLst fNil)))))) (fRet (fTupX (fCons (fC (.bl false)) (fCons (fC .non) fNil)))) fNext)
    (fSeq (fIfS ((fAnd (fTest (fOp2 kEq (fOp2 kIx (fVar 3) (fC (.int 0))) (fC (.str "0")))) (fTest (fOp2 kNe (fVar 2) (fC (.str "0")))))) (fRet (fTupX (fCons (fC (.bl false)) (fCons (fC .non) fNil)))) fNext)
    (fRet (fTupX (fCons (fC (.bl true)) (fCons (fTupX (fCons (fCB kIntAll (fCons (fVar 2) fNil)) (fCons (fCB kIntAll (fCons (fVar 1) fNil)) fNil))) fNil))))))
def badW : D := .xtp [.bl false, .non]
theorem law_tail2_eq (z : Str) (st : Bool) (told f : List Nat) (n : Int) (S : Sto) (h : f.length ≤ 16777216) (asc : ∀ c ∈ f, c < 1114112) (hn : okDig f = true → intText? (mk told) = some n ∧ told.length ≤ 640) :
    lawTail2 [some (.str z, .pur), some (.bl st, .pur), some (.str (mk told), .pur), some (.str (mk f), .pur), none] S =
      .ok (.rt (if okDig f = true then (if f.head? = some 48 ∧ told ≠ [48] then badW else .xtp [.bl true, .xtp [.int n, .int (if st then 1 else 0)]]) else badW) .pur) S := by
  unfold lawTail2
  have fig : lcLoop (fgName 4) (fTest (fOp2 kNotIn (fVar 4) (fC (.str "0123456789")))) (fVar 4) .pur [some (.str z, .pur), some (.bl st, .pur), some (.str (mk told), .pur), some (.str (mk f), .pur), none] (chars (mk f)) S =
      .ok ((f.filter fun c => !isD c).map fun c => D.str ⟨#[c]⟩) S := by
    refine lc_pure (fun c => D.str ⟨#[c]⟩) (fun c => !isD c) (fun c => D.str ⟨#[c]⟩) f fun c hc => ⟨[some (.str z, .pur), some (.bl st, .pur), some (.str (mk told), .pur), some (.str (mk f), .pur), some (.str ⟨#[c]⟩, .pur)], .pur, ?_, ?_, ?_⟩
    · simp [cmMd]
    · simp [isD]
    · simp [upO]
  have ch : (chars (mk f)).length = f.length := by unfold chars; rw [List.length_map]; rfl
  have lm : (mk f).length = f.length := len_mk f
  have ne := kNe_signs (l := f.filter fun c => !isD c) (m := .own) (m' := .own) (S := S) fun c hc => asc c (List.mem_filter.mp hc).1
  simp only [mk1] at fig ne
  cases ho : okDig f with
  | false =>
    by_cases e : f = []
    · simp [lnil, mk_inj, e, badW, sz_eq]
    · by_cases e9 : 9 < f.length
      · have e9' : (9 : Int) < f.length := by omega
        simp [lnil, mk_inj, e, badW, sz_eq, lm, h, e9']
      · have e9' : ¬ (9 : Int) < f.length := by omega
        have e3 : (f.filter fun c => !isD c).isEmpty = false := by
          rcases okDig_not ho with q | q | q
          · exact absurd q e
          · exact absurd q e9
          · exact q
        rw [e3] at ne
        simp [lnil, mk_inj, e, badW, sz_eq, lm, h, e9', fiSeq_eq, ch, fig, ne]
  | true =>
    obtain ⟨o1, o2, o3, o4⟩ := okDig_of ho
    obtain ⟨i1, i2⟩ := hn ho
    have e : f ≠ [] := fun q => by rw [q] at o1; simp at o1
    have e9' : ¬ (9 : Int) < f.length := by omega
    have ki := kInt_of (z := mk told) (m := .pur) (S := S) i1 (by rw [len_mk]; exact i2)
    have e3 : (f.filter fun c => !isD c).isEmpty = true := by rw [o4]; rfl
    rw [e3] at ne
    obtain ⟨c, hc⟩ : ∃ c, f.head? = some c := by
      cases f with
      | nil => exact absurd rfl e
      | cons c w => exact ⟨c, rfl⟩
    have hx : atI f 0 = some c := by
      rw [atI_zeroG, ← hc]
      cases f <;> rfl
    by_cases c48 : c = 48
    · by_cases t48 : told = [48]
      · subst t48
        simp [lnil, mk_inj, sz_eq, lm, h, e9', fiSeq_eq, ch, fig, ne, e, hx, mk1, l0, c48, ki]
      · simp [lnil, mk_inj, sz_eq, lm, h, e9', fiSeq_eq, ch, fig, ne, e, hx, mk1, l0, c48, t48, hc, badW]
    · simp [lnil, mk_inj, sz_eq, lm, h, e9', fiSeq_eq, ch, fig, ne, e, hx, mk1, l0, c48, ki, hc]
end K11

set_option Elab.async false
set_option linter.all false
set_option maxRecDepth 100000
set_option maxHeartbeats 1000000
namespace K11
open PySem PySem.Spec PyProof.Rows L2 Mi PySem.NumText
def encT (st : Bool) : Option Int → D
  | none => badW
  | some n => .xtp [.bl true, .xtp [.int n, .int (if st then 1 else 0)]]
theorem all_dig {w : List Nat} (h : okDig w = true) : AllDigits w := (okDig_of h).2.2.1
theorem int_text_pos {w : List Nat} (h : okDig w = true) : intText? (mk w) = some ((digitsVal w : Nat) : Int) := by
  obtain ⟨o1, o2, o3, o4⟩ := okDig_of h
  exact intText_digits (x := mk w) o3 (fun q => by have q' : w = [] := q; rw [q'] at o1; simp at o1) (by rw [len_mk]; omega)
theorem int_text_neg {w : List Nat} (h : okDig w = true) : intText? (mk (45 :: w)) = some (-((digitsVal w : Nat) : Int)) := by
  obtain ⟨o1, o2, o3, o4⟩ := okDig_of h
  exact intText_neg (x := mk (45 :: w)) rfl o3 (fun q => by rw [q] at o1; simp at o1) (by rw [len_mk, List.length_cons]; omega)
theorem take1_cons {l : List Nat} {c : Nat} (h : l.take 1 = [c]) : l = c :: l.tail := by
  cases l with
  | nil => cases h
  | cons a r =>
    simp only [List.take_succ_cons, List.take_zero, List.cons.injEq, and_true] at h
    rw [h]
    rfl
noncomputable def lawTail : FS := fSeq (fAsg (fIf (fTest (fOp2 kEq (fSl kSl (fVar 2) fNoPart (fPart (fC (.int 1)))) (fC (.str "-")))) (fSl kSl (fVar 2) (fPart (fC (.int 1))) fNoPart) (fVar 2)) (fgName 3)) lawTail2
theorem law_tail_eq (z : Str) (st : Bool) (told : List Nat) (S : Sto) (h : told.length ≤ 16777216) (asc : ∀ c ∈ told, c < 1114112) :
    lawTail [some (.str z, .pur), some (.bl st, .pur), some (.str (mk told), .pur), none, none] S = .ok (.rt (encT st (integerIn told)) .pur) S := by
  unfold lawTail
  have lm : (mk told).length = told.length := len_mk told
  by_cases hm : told.take 1 = [45]
  · have hc := take1_cons hm
    have t2 := law_tail2_eq z st told told.tail (-((digitsVal told.tail : Nat) : Int)) S (by rw [List.length_tail]; omega) (fun c hc => asc c (List.mem_of_mem_tail hc)) fun ho => by
      have := (okDig_of ho).2.1
      rw [List.length_tail] at this
      refine ⟨?_, by omega⟩
      rw [hc]
      exact int_text_neg ho
    have n48 : told ≠ [48] := fun q => by rw [q] at hm; cases hm
    have e1 : (if okDig told.tail = true then (if told.tail.head? = some 48 ∧ told ≠ [48] then badW else .xtp [.bl true, .xtp [.int (-((digitsVal told.tail : Nat) : Int)), .int (if st then 1 else 0)]]) else badW) = encT st (integerIn told) := by
      unfold integerIn
      rw [if_pos hm]
      unfold numberIn
      by_cases ho : okDig told.tail = true
      · rw [if_pos ho, if_pos ho]
        by_cases h8 : told.tail.head? = some 48
        · rw [if_pos ⟨h8, n48⟩]
          by_cases h9 : told.tail = [48]
          · rw [if_neg (by rw [h9]; simp), h9]
            rfl
          · rw [if_pos ⟨h8, h9⟩]
            rfl
        · have q1 : ¬ (told.tail.head? = some 48 ∧ told ≠ [48]) := fun q => h8 q.1
          have q2 : ¬ (told.tail.head? = some 48 ∧ told.tail ≠ [48]) := fun q => h8 q.1
          rw [if_neg q1, if_neg q2]
          have hz : ¬ ((digitsVal told.tail : Nat) : Int) = 0 := by
            have hd := all_dig ho
            cases e : told.tail with
            | nil =>
              rw [e] at ho
              cases ho
            | cons c w =>
              rw [e] at hd h8
              have := digitsVal_pos hd (fun q => h8 (by rw [q]; rfl))
              omega
          show D.xtp _ = encT st (if ((digitsVal told.tail : Nat) : Int) = 0 then none else some (-((digitsVal told.tail : Nat) : Int)))
          rw [if_neg hz]
          rfl
      · rw [if_neg ho, if_neg ho]
        rfl
    rw [e1] at t2
    simp [sz_eq, lm, h, lmin, mk_inj, hm, t2]
  · have t2 := law_tail2_eq z st told told ((digitsVal told : Nat) : Int) S h asc fun ho => by
      have := (okDig_of ho).2.1
      exact ⟨int_text_pos ho, by omega⟩
    have e1 : (if okDig told = true then (if told.head? = some 48 ∧ told ≠ [48] then badW else .xtp [.bl true, .xtp [.int ((digitsVal told : Nat) : Int), .int (if st then 1 else 0)]]) else badW) = encT st (integerIn told) := by
      unfold integerIn
      rw [if_neg hm]
      unfold numberIn
      split
      · split
        · rfl
        · rfl
      · rfl
    rw [e1] at t2
    simp [sz_eq, lm, h, lmin, mk_inj, hm, t2]
theorem law_limit_of_eq (z : Str) (S : Sto) (h : z.length ≤ sizeLine) (asc : ∀ c ∈ sg z, c < 1114112) : F__law_limit_of [.str z] S = .ok (encW (limitIn (sg z)), .pur) S := by
  unfold F__law_limit_of runF
  have e0 : startEnv 5 [.str z] = [some (.str z, .pur), none, none, none, none] := rfl
  have h' : z.length ≤ 16777216 := sz_eq ▸ h
  rw [e0]
  have ef : f__law_limit_of = fSeq (fIfS (fTest (fOp2 kEq (fVar 0) (fC (.str "*")))) (fRet (fTupX (fCons (fC (.bl true)) (fCons (fC .non) fNil)))) fNext) (fSeq (fAsg (fOp2 kEq (fSl kSl (fVar 0) fNoPart (fPart (fC (.int 1)))) (fC (.str "<"))) (fgName 1)) (fSeq (fAsg (fIf (fTest (fVar 1)) (fSl kSl (fVar 0) (fPart (fC (.int 1))) fNoPart) (fVar 0)) (fgName 2)) lawTail)) := rfl
  rw [ef]
  by_cases hs : sg z = [42]
  · have hz : z = mk [42] := (str_eq_mk z _).mpr hs
    simp [lstar, hz, encW, limitIn, dLim, sz_eq]
  · have hz : ¬ z = mk [42] := fun q => hs ((str_eq_mk z _).mp q)
    have hlen : (sg z).length ≤ 16777216 := by rw [len_sg]; exact h'
    by_cases hl : (sg z).take 1 = [60]
    · have t := law_tail_eq z true (sg z).tail S (by rw [List.length_tail]; omega) fun c hc => asc c (List.mem_of_mem_tail hc)
      have e : encT true (integerIn (sg z).tail) = encW (limitIn (sg z)) := by
        unfold limitIn
        rw [if_neg hs, if_pos hl]
        cases integerIn (sg z).tail with
        | none => rfl
        | some n => simp [encT, encW, dLim, hl]
      rw [e] at t
      simp [h, h', lstar, hz, llt, mk_inj, hl, t]
    · have t := law_tail_eq z false (sg z) S hlen asc
      have e : encT false (integerIn (sg z)) = encW (limitIn (sg z)) := by
        unfold limitIn
        rw [if_neg hs, if_neg hl]
        cases integerIn (sg z) with
        | none => rfl
        | some n => simp [encT, encW, dLim, hl]
      rw [e, mk_sg] at t
      simp [h, h', lstar, hz, llt, mk_inj, hl, t]
end K11

set_option Elab.async false
set_option linter.all false
set_option maxRecDepth 100000
set_option maxHeartbeats 1000000
namespace K11
open PySem PySem.Spec PyProof.Rows L2 Mi PySem.NumText
abbrev words (p : Str) : List Str := Txt.split p " "
abbrev parts (t : Str) : List Str := Txt.split t " / "
def rowIn (p : Str) : List (Option Lim) := (words p).map fun w => limitIn (sg w)
def rowsIn (t : Str) : List (List (Option Lim)) := (parts t).map rowIn
theorem kSplit_sp (p : Str) (m m' : Md) (S : Sto) (h : p.length + 2 ≤ 16777216) : kSplit (.str p, m) (.str " ", m') S = .ok (.lst (dStrs (words p)), .own) S := by
  show (if ((" " : Str).length == 0) = false ∧ p.length + 2 ≤ sizeLine then _ else _) = _
  rw [if_pos ⟨by decide +kernel, by rw [sz_eq]; exact h⟩]
theorem kSplit_sep (p : Str) (m m' : Md) (S : Sto) (h : p.length + 2 ≤ 16777216) : kSplit (.str p, m) (.str " / ", m') S = .ok (.lst (dStrs (parts p)), .own) S := by
  show (if ((" / " : Str).length == 0) = false ∧ p.length + 2 ≤ sizeLine then _ else _) = _
  rw [if_pos ⟨by decide +kernel, by rw [sz_eq]; exact h⟩]
theorem word_short {p w : Str} (h : w ∈ words p) : w.length ≤ p.length := part_short h
theorem part_short' {t p : Str} (h : p ∈ parts t) : p.length ≤ t.length := part_short h
theorem cmMd_str (x : Str) (m : Md) : cmMd (.str x) m = .pur := by
  unfold cmMd
  split
  · rfl
  · rfl
def dRowO (r : List (Option Lim)) : D := .lst (r.map encL)
theorem noLst_encL (l : Option Lim) : noLst (encL l) = true := by
  rcases l with _ | _ | ⟨n, s⟩ <;> rfl
theorem row_in_eq (t p : Str) (x3 x4 : Option (D × Md)) (S : Sto) (h : p.length + 2 ≤ 16777216) :
    fLc (fiSeq (fM1 kSplit (fVar 2) (fC (.str " ")))) (fgName 3) fYes (fCall 1 F_limit_in (fCons (fVar 3) fNil)) [3] [some (.str t, .pur), none, some (.str p, .pur), none, none] S = .ok (dRowO (rowIn p), .own) S := by
  have lc : lcLoop (fgName 3) fYes (fCall 1 F_limit_in (fCons (fVar 3) fNil)) .own [some (.str t, .pur), none, some (.str p, .pur), none, none] (dStrs (words p)) S = .ok ((words p).map fun w => encL (limitIn (sg w))) S := by
    refine lc_pure1 D.str (fun w => encL (limitIn (sg w))) (words p) fun w hw => ⟨[some (.str t, .pur), none, some (.str p, .pur), some (.str w, .pur), none], .pur, ?_, ?_, ?_⟩
    · simp [cmMd_str]
    · have := limit_in_eq w S (by rw [sz_eq]; have := word_short hw; omega)
      simp [this]
    · simp [upO]
  have hlen : (dStrs (words p)).length ≤ 16777216 := by
    unfold dStrs
    rw [List.length_map]
    have := split_le p " "
    show (Txt.split p " ").length ≤ _
    omega
  simp [kSplit_sp, h, fiSeq_eq, D.seqOf?, sz_eq, hlen, lc, dRowO, rowIn, List.map_map, Function.comp_def]
end K11

set_option Elab.async false
set_option linter.all false
set_option maxRecDepth 100000
set_option maxHeartbeats 1000000
namespace K11
open PySem PySem.Spec PyProof.Rows L2 Mi PySem.NumText
noncomputable def rl1 : FS := (fAsg (fLc (fiSeq (fM1 kSplit (fVar 0) (fC (.str " / ")))) (fgName 2) fYes (fLc (fiSeq (fM1 kSplit (fVar 2) (fC (.str " ")))) (fgName 3) fYes (fCall 1 F_limit_in (fCons (fVar 3) fNil)) [3]) [2]) (fgName 1))
noncomputable def rl2 : FS := (fIfS ((fOr (fNot (fTest (fChainV kLeA kLeA (fC (.int 2)) (fCB kLen (fCons (fVar 1) fNil)) (fC (.int 7))))) (fNot (fTest (fCB kAll (fCons (fLc (fiSeq (fVar 1)) (fgName 2) fYes (fOp2 kEq (fCB kLen (fCons (fVar 2) fNil)) (fCB kLen (fCons (fVar 1) fNil))) [2]) fNil)))))) (fRet (fC .non)) fNext)
noncomputable def rl3 : FS := (fIfS (fTest (fCB kAny (fCons (fLc2 (fiSeq (fVar 1)) (fgName 2) fYes (fiSeq (fVar 2)) (fgName 4) fYes (fOp2 (kIsN false) (fVar 4) (fC .non)) [2, 4] [4]) fNil))) (fRet (fC .non)) fNext)
noncomputable def rl4 : FS := (fRet (fOp1 kTupOf (fLc (fiSeq (fVar 1)) (fgName 2) fYes (fOp1 kTupOf (fLc (fiSeq (fVar 2)) (fgName 4) fYes (fOp2 kIx (fVar 4) (fC (.int 0))) [4])) [2])))
theorem rl_split : f_read_land = fSeq rl1 (fSeq rl2 (fSeq rl3 rl4)) := rfl
abbrev OR := List (List (Option Lim))
abbrev rlEnv (t : Str) (R : OR) : Mi.Env := [some (.str t, .pur), some (.lst (R.map dRowO), .own), none, none, none]
theorem rl1_eq (t : Str) (S : Sto) (h : t.length + 2 ≤ 16777216) : rl1 [some (.str t, .pur), none, none, none, none] S = .ok (.nx (rlEnv t (rowsIn t))) S := by
  unfold rl1
  have lc : lcLoop (fgName 2) fYes (fLc (fiSeq (fM1 kSplit (fVar 2) (fC (.str " ")))) (fgName 3) fYes (fCall 1 F_limit_in (fCons (fVar 3) fNil)) [3]) .own [some (.str t, .pur), none, none, none, none] (dStrs (parts t)) S =
      .ok ((parts t).map fun p => dRowO (rowIn p)) S := by
    refine lc_pure1 D.str (fun p => dRowO (rowIn p)) (parts t) fun p hp => ⟨[some (.str t, .pur), none, some (.str p, .pur), none, none], .own, ?_, ?_, ?_⟩
    · simp [cmMd_str]
    · exact row_in_eq t p none none S (by have := part_short' hp; omega)
    · exact upO_own _
  have hlen : (dStrs (parts t)).length ≤ 16777216 := by
    unfold dStrs
    rw [List.length_map]
    have := split_le t " / "
    show (Txt.split t " / ").length ≤ _
    omega
  have e : (parts t).map (fun p => dRowO (rowIn p)) = (rowsIn t).map dRowO := by unfold rowsIn; rw [List.map_map]; rfl
  rw [e] at lc
  simp [-fLc_eq]
  rw [fLc_eq]
  simp [kSplit_sep, h, fiSeq_eq, D.seqOf?, sz_eq, hlen, lc]
def okShape (R : OR) : Bool := decide (2 ≤ R.length) && decide (R.length ≤ 7) && R.all fun r => decide (r.length = R.length)
def anyNone (R : OR) : Bool := (R.flatMap id).any fun o => o.isNone
theorem rl2_eq (t : Str) (R : OR) (S : Sto) : rl2 (rlEnv t R) S = if okShape R = true then .ok (.nx (rlEnv t R)) S else .ok (.rt .non .pur) S := by
  unfold rl2
  by_cases h2 : 2 ≤ R.length
  · by_cases h7 : R.length ≤ 7
    · have h2' : (2 : Int) ≤ R.length := by omega
      have h7' : (R.length : Int) ≤ 7 := by omega
      have lc : lcLoop (fgName 2) fYes (fOp2 kEq (fCB kLen (fCons (fVar 2) fNil)) (fCB kLen (fCons (fVar 1) fNil))) .als [some (.str t, .pur), some (.lst (R.map dRowO), .frn), none, none, none] (R.map dRowO) S = .ok (R.map fun r => D.bl (decide (r.length = R.length))) S := by
        refine lc_pure1 dRowO (fun r => D.bl (decide (r.length = R.length))) R fun r hr => ⟨[some (.str t, .pur), some (.lst (R.map dRowO), .frn), some (dRowO r, .frn), none, none], .pur, ?_, ?_, upO_pur _⟩
        · simp [cmMd, dRowO, noLst]
        · simp [dRowO]
          omega
      have hz : R.length ≤ 16777216 := by omega
      cases ha : R.all fun r => decide (r.length = R.length) with
      | true =>
        have ho : okShape R = true := by unfold okShape; rw [ha]; simp [h2, h7]
        simp [h2', h7', fiSeq_eq, D.seqOf?, lc, sz_eq, hz, kAll_map, ha, ho]
      | false =>
        have ho : okShape R = false := by unfold okShape; rw [ha]; simp
        simp [h2', h7', fiSeq_eq, D.seqOf?, lc, sz_eq, hz, kAll_map, ha, ho]
    · have h2' : (2 : Int) ≤ R.length := by omega
      have h7' : ¬ (R.length : Int) ≤ 7 := by omega
      have ho : okShape R = false := by unfold okShape; simp [h7]
      simp [h2', h7', ho]
  · have h2' : ¬ (2 : Int) ≤ R.length := by omega
    have ho : okShape R = false := by unfold okShape; simp [h2]
    simp [h2', ho]
end K11

set_option Elab.async false
set_option linter.all false
set_option maxRecDepth 100000
set_option maxHeartbeats 1000000
namespace K11
open PySem PySem.Spec PyProof.Rows L2 Mi PySem.NumText
theorem encL_isN (o : Option Lim) (m m' : Md) (S : Sto) : kIsN false (encL o, m) (.non, m') S = .ok (.bl o.isNone, .pur) S := by
  rcases o with _ | l <;> rfl
theorem cmMd_encL (o : Option Lim) (m : Md) : cmMd (encL o) m = .pur := by
  unfold cmMd
  split
  · rfl
  · rw [if_pos (noLst_encL o)]
theorem total_len (R : OR) (h : okShape R = true) : (R.flatMap id).length ≤ 49 := by
  unfold okShape at h
  simp only [Bool.and_eq_true, decide_eq_true_eq] at h
  obtain ⟨⟨h1, h2⟩, h3⟩ := h
  have h4 : ∀ r ∈ R, r.length ≤ 7 := fun r hr => by
    have := List.all_eq_true.mp h3 r hr
    have := of_decide_eq_true this
    omega
  have key : ∀ l : OR, (∀ r ∈ l, r.length ≤ 7) → (l.flatMap id).length ≤ 7 * l.length := by
    intro l
    induction l with
    | nil => intro _; simp
    | cons a l ih =>
      intro hl
      have := ih fun r hr => hl r (List.mem_cons_of_mem _ hr)
      have := hl a List.mem_cons_self
      rw [List.flatMap_cons, List.length_append, List.length_cons]
      show a.length + _ ≤ _
      omega
  have := key R h4
  omega
theorem rl3_eq (t : Str) (R : OR) (S : Sto) (h : okShape R = true) : rl3 (rlEnv t R) S = if anyNone R = true then .ok (.rt .non .pur) S else .ok (.nx (rlEnv t R)) S := by
  unfold rl3
  have lc : lc2Loop (fgName 2) fYes (fiSeq (fVar 2)) (fgName 4) fYes (fOp2 (kIsN false) (fVar 4) (fC .non)) .als [some (.str t, .pur), some (.lst (R.map dRowO), .frn), none, none, none] [4] (R.map dRowO) S = .ok ((R.flatMap id).map fun o => D.bl o.isNone) S := by
    refine lc2_pure1 dRowO id encL (fun o => D.bl o.isNone) R fun r hr => ⟨[some (.str t, .pur), some (.lst (R.map dRowO), .frn), some (dRowO r, .frn), none, none], .frn, ?_, ?_, rfl, fun o ho => ⟨[some (.str t, .pur), some (.lst (R.map dRowO), .frn), some (dRowO r, .frn), none, some (encL o, .pur)], .pur, ?_, ?_, upO_pur _⟩⟩
    · simp [cmMd, dRowO, noLst]
    · simp [fiSeq_eq, dRowO, D.seqOf?]
    · simp [cmMd_encL]
    · simp [encL_isN]
  have hl := total_len R h
  have hl' : (R.flatMap id).length ≤ 16777216 := by omega
  have hl2 : ((R.flatMap id).map fun o => D.bl o.isNone).length ≤ 16777216 := by rw [List.length_map]; exact hl'
  have ka := kAny_map (fun o : Option Lim => o.isNone) (R.flatMap id)
  generalize hX : ((R.flatMap id).map fun o => D.bl o.isNone) = X at lc hl2 ka
  cases ha : anyNone R with
  | true =>
    have ha' : ((R.flatMap id).any fun o => o.isNone) = true := ha
    rw [ha'] at ka
    simp [fiSeq_eq, D.seqOf?, lc, sz_eq, hl2, ka]
  | false =>
    have ha' : ((R.flatMap id).any fun o => o.isNone) = false := ha
    rw [ha'] at ka
    simp [fiSeq_eq, D.seqOf?, lc, sz_eq, hl2, ka]
abbrev Land := List (List Lim)
def dRow (r : List Lim) : D := .tup (r.map dLim)
def dLand (L : Land) : D := .tup (L.map dRow)
theorem all_some {R : OR} (h : anyNone R = false) : ∃ L : Land, R = L.map fun r => r.map some := by
  have key : ∀ r : List (Option Lim), (∀ o ∈ r, o.isNone = false) → ∃ l : List Lim, r = l.map some := by
    intro r
    induction r with
    | nil => exact fun _ => ⟨[], rfl⟩
    | cons o r ih =>
      intro hr
      obtain ⟨l, hl⟩ := ih fun x hx => hr x (List.mem_cons_of_mem _ hx)
      have := hr o List.mem_cons_self
      cases o with
      | none => cases this
      | some a => exact ⟨a :: l, by rw [hl]; rfl⟩
  have h' : ∀ r ∈ R, ∀ o ∈ r, o.isNone = false := by
    intro r hr o ho
    have := List.any_eq_false.mp h o (List.mem_flatMap.mpr ⟨r, hr, ho⟩)
    cases o with
    | none => exact absurd rfl this
    | some a => rfl
  clear h
  induction R with
  | nil => exact ⟨[], rfl⟩
  | cons r R ih =>
    obtain ⟨L, hL⟩ := ih fun x hx => h' x (List.mem_cons_of_mem _ hx)
    obtain ⟨l, hl⟩ := key r (h' r List.mem_cons_self)
    exact ⟨l :: L, by rw [hL, hl]; rfl⟩
theorem noLst_dLim (l : Lim) : noLst (dLim l) = true := by
  rcases l with _ | ⟨n, s⟩ <;> rfl
theorem noLsts_dRow (r : List Lim) : noLsts (r.map dLim) = true := by
  induction r with
  | nil => rfl
  | cons a r ih => simp only [List.map_cons, noLsts, noLst_dLim, ih, Bool.and_self]
theorem noLsts_dLand (L : Land) : noLsts (L.map dRow) = true := by
  induction L with
  | nil => rfl
  | cons a r ih => simp only [List.map_cons, noLsts, dRow, noLst, noLsts_dRow, Bool.true_and]; exact ih
theorem tupMd_no {l : List D} (m : Md) (h : noLsts l = true) : tupMd l m = .pur := by
  unfold tupMd
  rw [if_pos h]
  split
  · rfl
  · first | rfl | rw [if_pos h] | simp [h]
theorem kTup_lst (l : List D) (m : Md) (S : Sto) (h : noLsts l = true) : kTupOf (.lst l, m) S = .ok (.tup l, .pur) S := by
  show Res.ok (D.tup l, tupMd l m) S = _
  rw [tupMd_no m h]
theorem rl4_eq (t : Str) (L : Land) (S : Sto) (h : L.length ≤ 7) (h2 : ∀ r ∈ L, r.length ≤ 7) : rl4 (rlEnv t (L.map fun r => r.map some)) S = .ok (.rt (dLand L) .pur) S := by
  unfold rl4
  have eR : ((L.map fun r => r.map some).map dRowO) = L.map fun r => .lst (r.map fun l => encL (some l)) := by
    rw [List.map_map]
    refine List.map_congr_left fun r _ => ?_
    simp [dRowO, List.map_map, Function.comp_def]
  have inn : ∀ r : List Lim, r.length ≤ 7 → ∀ X : D, fOp1 kTupOf (fLc (fiSeq (fVar 2)) (fgName 4) fYes (fOp2 kIx (fVar 4) (fC (.int 0))) [4]) [some (.str t, .pur), some (X, .frn), some (.lst (r.map fun l => encL (some l)), .frn), none, none] S = .ok (dRow r, .pur) S := by
    intro r hr X
    have lc : lcLoop (fgName 4) fYes (fOp2 kIx (fVar 4) (fC (.int 0))) .frn [some (.str t, .pur), some (X, .frn), some (.lst (r.map fun l => encL (some l)), .frn), none, none] (r.map fun l => encL (some l)) S = .ok (r.map dLim) S := by
      refine lc_pure1 (fun l => encL (some l)) dLim r fun l hl => ⟨[some (.str t, .pur), some (X, .frn), some (.lst (r.map fun l => encL (some l)), .frn), none, some (encL (some l), .pur)], .pur, ?_, ?_, upO_pur _⟩
      · simp [cmMd_encL]
      · simp [encL]
    have hr' : r.length ≤ 16777216 := by omega
    simp [fiSeq_eq, D.seqOf?, lc, sz_eq, hr', kTup_lst _ _ _ (noLsts_dRow r), dRow]
  have lc : lcLoop (fgName 2) fYes (fOp1 kTupOf (fLc (fiSeq (fVar 2)) (fgName 4) fYes (fOp2 kIx (fVar 4) (fC (.int 0))) [4])) .als [some (.str t, .pur), some (.lst (L.map fun r => .lst (r.map fun l => encL (some l))), .frn), none, none, none] (L.map fun r => .lst (r.map fun l => encL (some l))) S = .ok (L.map dRow) S := by
    refine lc_pure1 (fun r : List Lim => D.lst (r.map fun l => encL (some l))) dRow L fun r hr => ⟨[some (.str t, .pur), some (.lst (L.map fun r => .lst (r.map fun l => encL (some l))), .frn), some (.lst (r.map fun l => encL (some l)), .frn), none, none], .pur, ?_, inn r (h2 r hr) _, upO_pur _⟩
    simp [cmMd, noLst]
  have hL : L.length ≤ 16777216 := by omega
  unfold rlEnv
  rw [eR]
  simp [fiSeq_eq, D.seqOf?, lc, sz_eq, hL, kTup_lst _ _ _ (noLsts_dLand L), dLand]
end K11

set_option Elab.async false
set_option linter.all false
set_option maxRecDepth 100000
set_option maxHeartbeats 1000000
namespace K11
open PySem PySem.Spec PyProof.Rows L2 Mi PySem.NumText
def readR (R : OR) : Option Land := if okShape R = true ∧ anyNone R = false then some (R.map fun r => r.filterMap id) else none
def encR : Option Land → D
  | none => .non
  | some L => dLand L
theorem fm_some (L : Land) : ((L.map fun r => r.map some).map fun r => r.filterMap id) = L := by
  rw [List.map_map]
  conv => rhs; rw [← List.map_id L]
  refine List.map_congr_left fun r _ => ?_
  simp [List.filterMap_map, Function.comp_def]
theorem shape_len {R : OR} (h : okShape R = true) : R.length ≤ 7 ∧ ∀ r ∈ R, r.length ≤ 7 := by
  unfold okShape at h
  simp only [Bool.and_eq_true, decide_eq_true_eq] at h
  obtain ⟨⟨h1, h2⟩, h3⟩ := h
  refine ⟨h2, fun r hr => ?_⟩
  have := of_decide_eq_true (List.all_eq_true.mp h3 r hr)
  omega
theorem read_land_eq (t : Str) (S : Sto) (h : t.length + 2 ≤ 16777216) : F_read_land [.str t] S = .ok (encR (readR (rowsIn t)), .pur) S := by
  unfold F_read_land runF
  have e0 : startEnv 5 [.str t] = [some (.str t, .pur), none, none, none, none] := rfl
  rw [e0, rl_split, fSeq_eq, rl1_eq t S h]
  simp only [Res.bind_ok]
  rw [fSeq_eq, rl2_eq]
  cases ho : okShape (rowsIn t) with
  | false => simp [readR, ho, encR]
  | true =>
    simp only [if_true, Res.bind_ok]
    rw [fSeq_eq, rl3_eq t _ S ho]
    cases ha : anyNone (rowsIn t) with
    | true => simp [readR, ha, encR]
    | false =>
      obtain ⟨L, hL⟩ := all_some ha
      have hs := shape_len ho
      rw [hL] at hs
      have h4 := rl4_eq t L S (by have := hs.1; rwa [List.length_map] at this) fun r hr => by
        have := hs.2 (r.map some) (List.mem_map.mpr ⟨r, hr, rfl⟩)
        rwa [List.length_map] at this
      simp only [Bool.false_eq_true, if_false, Res.bind_ok]
      have e : readR (rowsIn t) = some L := by
        unfold readR
        rw [if_pos ⟨ho, ha⟩, hL, fm_some]
      rw [e, hL, h4]
      rfl
/-! ### the law's own reading -/
noncomputable def lrIn : FS := (fSeq (fAsg (fCall 1 F__law_limit_of (fCons (fVar 4) fNil)) (fgTup 2 (fgCons (fgName 5) (fgCons (fgName 6) fgNil))))
    (fSeq (fIfS (fNot (fTest (fVar 5))) (fRet (fC .non)) fNext)
    (fAppend 3 (fVar 6))))
noncomputable def lrOut : FS := (fSeq (fAsg (fLst fNil) (fgName 3))
    (fSeq (fFor (fiSeq (fM1 kSplit (fVar 2) (fC (.str " ")))) (fgName 4) lrIn)
    (fAppend 1 (fOp1 kTupOf (fVar 3)))))
noncomputable def lrT : FS := (fIfS ((fOr (fNot (fTest (fChainV kLeA kLeA (fC (.int 2)) (fCB kLen (fCons (fVar 1) fNil)) (fC (.int 7))))) (fTest (fOp2 kNe (fLc (fiSeq (fVar 1)) (fgName 3) (fTest (fOp2 kNe (fCB kLen (fCons (fVar 3) fNil)) (fCB kLen (fCons (fVar 1) fNil)))) (fVar 3) [3]) (fLst fNil))))) (fRet (fC .non)) fNext)
theorem lr_split : f__law_read = fSeq (fAsg (fLst fNil) (fgName 1)) (fSeq (fFor (fiSeq (fM1 kSplit (fVar 0) (fC (.str " / ")))) (fgName 2) lrOut) (fSeq lrT (fRet (fOp1 kTupOf (fVar 1))))) := rfl
theorem lrIn_eq (w : Str) (t rows part x5 x6 : Option (D × Md)) (acc : List Lim) (S : Sto) (h : w.length ≤ 16777216) (asc : ∀ c ∈ sg w, c < 1114112) (ha : acc.length < 16777216) :
    lrIn [t, rows, part, some (.lst (acc.map dLim), .own), some (.str w, .pur), x5, x6] S = match limitIn (sg w) with
      | none => .ok (.rt .non .pur) S
      | some l => .ok (.nx [t, rows, part, some (.lst ((acc ++ [l]).map dLim), .own), some (.str w, .pur), some (.bl true, .pur), some (dLim l, .pur)]) S := by
  unfold lrIn
  have e := law_limit_of_eq w S (by rw [sz_eq]; exact h) asc
  cases hl : limitIn (sg w) with
  | none =>
    rw [hl] at e
    simp [e, encW, D.tupOf?]
  | some l =>
    rw [hl] at e
    simp [e, encW, D.tupOf?, sz_eq, ha]
end K11

set_option Elab.async false
set_option linter.all false
set_option maxRecDepth 100000
set_option maxHeartbeats 1000000
namespace K11
open PySem PySem.Spec PyProof.Rows L2 Mi PySem.NumText
def allS : List (Option Lim) → Option (List Lim)
  | [] => some []
  | none :: _ => none
  | some a :: r => (allS r).map (a :: ·)
abbrev Sl := Option (D × Md)
theorem lr_inner (t rows part : Sl) (S : Sto) : ∀ (ws : List Str) (acc : List Lim) (x4 x5 x6 : Sl), (∀ w ∈ ws, w.length ≤ 16777216 ∧ ∀ c ∈ sg w, c < 1114112) → acc.length + ws.length ≤ 16777216 →
    match allS (ws.map fun w => limitIn (sg w)) with
    | none => fForLoop (fgName 4) lrIn .own (ws.map D.str) [t, rows, part, some (.lst (acc.map dLim), .own), x4, x5, x6] S = .ok (.rt .non .pur) S
    | some ls => ∃ y4 y5 y6 : Sl, fForLoop (fgName 4) lrIn .own (ws.map D.str) [t, rows, part, some (.lst (acc.map dLim), .own), x4, x5, x6] S = .ok (.nx [t, rows, part, some (.lst ((acc ++ ls).map dLim), .own), y4, y5, y6]) S
  | [], acc, x4, x5, x6, _, _ => ⟨x4, x5, x6, by rw [List.append_nil]; rfl⟩
  | w :: ws, acc, x4, x5, x6, h, hl => by
    have hw := h w List.mem_cons_self
    rw [List.length_cons] at hl
    have e := lrIn_eq w t rows part x5 x6 acc S hw.1 hw.2 (by omega)
    have step : fForLoop (fgName 4) lrIn .own ((w :: ws).map D.str) [t, rows, part, some (.lst (acc.map dLim), .own), x4, x5, x6] S =
        (lrIn [t, rows, part, some (.lst (acc.map dLim), .own), some (.str w, .pur), x5, x6] S).bind fun o S2 => match o with
          | .nx e => fForLoop (fgName 4) lrIn .own (ws.map D.str) e S2
          | .ct e => fForLoop (fgName 4) lrIn .own (ws.map D.str) e S2
          | .bk e => .ok (.nx e) S2
          | .rt d m => .ok (.rt d m) S2 := by
      show ((fgName 4 (D.str w, cmMd (D.str w) .own) [t, rows, part, some (.lst (acc.map dLim), .own), x4, x5, x6] S).ne.bind fun env1 S1 => (lrIn env1 S1).bind _) = _
      rw [cmMd_str]
      rfl
    rw [step, e]
    cases hlim : limitIn (sg w) with
    | none =>
      simp only [List.map_cons, hlim, allS]
      rfl
    | some l =>
      have ih := lr_inner t rows part S ws (acc ++ [l]) (some (.str w, .pur)) (some (.bl true, .pur)) (some (dLim l, .pur)) (fun x hx => h x (List.mem_cons_of_mem _ hx)) (by rw [List.length_append, List.length_singleton]; omega)
      simp only [List.map_cons, hlim, allS]
      cases ha : allS (ws.map fun w => limitIn (sg w)) with
      | none =>
        rw [ha] at ih
        simp only [Option.map_none]
        exact ih
      | some ls =>
        rw [ha] at ih
        simp only [Option.map_some]
        obtain ⟨y4, y5, y6, ih⟩ := ih
        refine ⟨y4, y5, y6, ?_⟩
        rw [show acc ++ l :: ls = acc ++ [l] ++ ls by rw [List.append_assoc]; rfl]
        exact ih
theorem mem_parts_asc {t p : Str} (h : p ∈ parts t) (ht : ∀ c ∈ sg t, c < 1114112) : ∀ c ∈ sg p, c < 1114112 := by
  intro c hc
  have e := congrArg sg (StrLaws.join_split t " / ")
  have key : ∀ l : List Str, p ∈ l → ∀ y : Str, c ∈ sg (Str.join y l) := by
    intro l
    induction l with
    | nil => intro h; cases h
    | cons a l ih =>
      intro h y
      cases l with
      | nil =>
        rw [List.mem_singleton.mp h] at hc
        exact hc
      | cons b l =>
        show c ∈ sg (a ++ y ++ Str.join y (b :: l))
        rw [sg_app, sg_app]
        rcases List.mem_cons.mp h with e | h'
        · exact List.mem_append_left _ (List.mem_append_left _ (e ▸ hc))
        · exact List.mem_append_right _ (ih h' y)
  exact ht c (e ▸ key _ h _)
theorem mem_words_asc {p w : Str} (h : w ∈ words p) (ht : ∀ c ∈ sg p, c < 1114112) : ∀ c ∈ sg w, c < 1114112 := by
  intro c hc
  have e := congrArg sg (StrLaws.join_split p " ")
  have key : ∀ l : List Str, w ∈ l → ∀ y : Str, c ∈ sg (Str.join y l) := by
    intro l
    induction l with
    | nil => intro h; cases h
    | cons a l ih =>
      intro h y
      cases l with
      | nil =>
        rw [List.mem_singleton.mp h] at hc
        exact hc
      | cons b l =>
        show c ∈ sg (a ++ y ++ Str.join y (b :: l))
        rw [sg_app, sg_app]
        rcases List.mem_cons.mp h with e | h'
        · exact List.mem_append_left _ (List.mem_append_left _ (e ▸ hc))
        · exact List.mem_append_right _ (ih h' y)
  exact ht c (e ▸ key _ h _)
theorem lrOut_eq (p : Str) (t x3 x4 x5 x6 : Sl) (RA : Land) (S : Sto) (h : p.length + 2 ≤ 16777216) (asc : ∀ c ∈ sg p, c < 1114112) (hR : RA.length < 16777216) :
    match allS (rowIn p) with
    | none => lrOut [t, some (.lst (RA.map dRow), .own), some (.str p, .pur), x3, x4, x5, x6] S = .ok (.rt .non .pur) S
    | some r => ∃ y3 y4 y5 y6 : Sl, lrOut [t, some (.lst (RA.map dRow), .own), some (.str p, .pur), x3, x4, x5, x6] S = .ok (.nx [t, some (.lst ((RA ++ [r]).map dRow), .own), some (.str p, .pur), y3, y4, y5, y6]) S := by
  have hlen : (words p).length ≤ 16777216 := by
    have := split_le p " "
    show (Txt.split p " ").length ≤ _
    omega
  have inn := lr_inner t (some (.lst (RA.map dRow), .own)) (some (.str p, .pur)) S (words p) [] x4 x5 x6 (fun w hw => ⟨by have := word_short hw; omega, mem_words_asc hw asc⟩) (by simpa using hlen)
  have er : rowIn p = (words p).map fun w => limitIn (sg w) := rfl
  rw [er]
  unfold lrOut
  have e0 : ([] : List Lim).map dLim = [] := rfl
  rw [e0] at inn
  cases ha : allS ((words p).map fun w => limitIn (sg w)) with
  | none =>
    rw [ha] at inn
    simp only at inn ⊢
    simp [sz_eq, kSplit_sp, h, fiSeq_eq, D.seqOf?, forMd, dStrs, inn]
  | some r =>
    rw [ha] at inn
    obtain ⟨y4, y5, y6, inn⟩ := inn
    simp only
    refine ⟨some (.lst (r.map dLim), .own), y4, y5, y6, ?_⟩
    rw [List.nil_append] at inn
    simp [sz_eq, kSplit_sp, h, fiSeq_eq, D.seqOf?, forMd, dStrs, inn, kTup_lst _ _ _ (noLsts_dRow r), hR, dRow]
end K11

set_option Elab.async false
set_option linter.all false
set_option maxRecDepth 100000
set_option maxHeartbeats 1000000
namespace K11
open PySem PySem.Spec PyProof.Rows L2 Mi PySem.NumText
def rowsS : OR → Option Land
  | [] => some []
  | r :: R => match allS r with
    | none => none
    | some l => (rowsS R).map (l :: ·)
theorem lr_outer (t : Sl) (S : Sto) : ∀ (ps : List Str) (RA : Land) (x2 x3 x4 x5 x6 : Sl), (∀ p ∈ ps, p.length + 2 ≤ 16777216 ∧ ∀ c ∈ sg p, c < 1114112) → RA.length + ps.length ≤ 16777216 →
    match rowsS (ps.map rowIn) with
    | none => fForLoop (fgName 2) lrOut .own (ps.map D.str) [t, some (.lst (RA.map dRow), .own), x2, x3, x4, x5, x6] S = .ok (.rt .non .pur) S
    | some L => ∃ y2 y3 y4 y5 y6 : Sl, fForLoop (fgName 2) lrOut .own (ps.map D.str) [t, some (.lst (RA.map dRow), .own), x2, x3, x4, x5, x6] S = .ok (.nx [t, some (.lst ((RA ++ L).map dRow), .own), y2, y3, y4, y5, y6]) S
  | [], RA, x2, x3, x4, x5, x6, _, _ => ⟨x2, x3, x4, x5, x6, by rw [List.append_nil]; rfl⟩
  | p :: ps, RA, x2, x3, x4, x5, x6, h, hl => by
    have hp := h p List.mem_cons_self
    rw [List.length_cons] at hl
    have e := lrOut_eq p t x3 x4 x5 x6 RA S hp.1 hp.2 (by omega)
    have step : fForLoop (fgName 2) lrOut .own ((p :: ps).map D.str) [t, some (.lst (RA.map dRow), .own), x2, x3, x4, x5, x6] S =
        (lrOut [t, some (.lst (RA.map dRow), .own), some (.str p, .pur), x3, x4, x5, x6] S).bind fun o S2 => match o with
          | .nx e => fForLoop (fgName 2) lrOut .own (ps.map D.str) e S2
          | .ct e => fForLoop (fgName 2) lrOut .own (ps.map D.str) e S2
          | .bk e => .ok (.nx e) S2
          | .rt d m => .ok (.rt d m) S2 := by
      show ((fgName 2 (D.str p, cmMd (D.str p) .own) [t, some (.lst (RA.map dRow), .own), x2, x3, x4, x5, x6] S).ne.bind fun env1 S1 => (lrOut env1 S1).bind _) = _
      rw [cmMd_str]
      rfl
    rw [step]
    cases ha : allS (rowIn p) with
    | none =>
      rw [ha] at e
      simp only [List.map_cons, rowsS, ha]
      rw [e]
      rfl
    | some r =>
      rw [ha] at e
      obtain ⟨y3, y4, y5, y6, e⟩ := e
      have ih := lr_outer t S ps (RA ++ [r]) (some (.str p, .pur)) y3 y4 y5 y6 (fun x hx => h x (List.mem_cons_of_mem _ hx)) (by rw [List.length_append, List.length_singleton]; omega)
      simp only [List.map_cons, rowsS, ha]
      rw [e]
      cases hb : rowsS (ps.map rowIn) with
      | none =>
        rw [hb] at ih
        simp only [Option.map_none]
        exact ih
      | some L =>
        rw [hb] at ih
        simp only [Option.map_some]
        obtain ⟨z2, z3, z4, z5, z6, ih⟩ := ih
        refine ⟨z2, z3, z4, z5, z6, ?_⟩
        rw [show RA ++ r :: L = RA ++ [r] ++ L by rw [List.append_assoc]; rfl]
        exact ih
/-! data of rows -/
def pLim : Lim → PyData
  | none => .none
  | some (n, s) => .tuple [.int n, .int s]
def pRow (r : List Lim) : PyData := .tuple (r.map pLim)
def pLand (L : Land) : PyData := .tuple (L.map pRow)
theorem toPy_dLim (l : Lim) : (dLim l).toPy = some (pLim l) := by
  rcases l with _ | ⟨n, s⟩ <;> rfl
theorem toPys_map {α : Type} (f : α → D) (g : α → PyData) (h : ∀ a, (f a).toPy = some (g a)) : ∀ l : List α, toPys (l.map f) = some (l.map g)
  | [] => rfl
  | a :: l => by
    simp only [List.map_cons, toPys, h a, toPys_map f g h l, Option.bind_some, Option.map_some]
theorem toPy_dRow (r : List Lim) : (dRow r).toPy = some (pRow r) := by
  simp only [dRow, D.toPy, toPys_map dLim pLim toPy_dLim r, Option.map_some, pRow]
theorem toPy_dLand (L : Land) : (dLand L).toPy = some (pLand L) := by
  simp only [dLand, D.toPy, toPys_map dRow pRow toPy_dRow L, Option.map_some, pLand]
theorem lay_map {α : Type} (g : α → PyData) (h : ∀ a, (g a).canLay0 = true) : ∀ l : List α, PyData.canLayAll0 (l.map g) = true
  | [] => rfl
  | a :: l => by
    simp only [List.map_cons, PyData.canLayAll0, h a, lay_map g h l, Bool.and_self]
theorem depth_map {α : Type} (g : α → PyData) (k : Nat) (h : ∀ a, (g a).depth ≤ k) : ∀ l : List α, PyData.depthAll (l.map g) ≤ k
  | [] => Nat.zero_le _
  | a :: l => by
    simp only [List.map_cons, PyData.depthAll]
    exact Nat.max_le.mpr ⟨h a, depth_map g k h l⟩
theorem lay_pLim (l : Lim) : (pLim l).canLay0 = true := by
  rcases l with _ | ⟨n, s⟩
  · rfl
  · simp [pLim, PyData.canLay0, PyData.canLayAll0]
theorem lay_pRow (r : List Lim) : (pRow r).canLay0 = true := by
  simp only [pRow, PyData.canLay0, lay_map pLim lay_pLim r]
theorem lay_pLand (L : Land) : (pLand L).canLay0 = true := by
  simp only [pLand, PyData.canLay0, lay_map pRow lay_pRow L]
theorem depth_pLim (l : Lim) : (pLim l).depth ≤ 1 := by
  rcases l with _ | ⟨n, s⟩
  · simp [pLim, PyData.depth]
  · simp [pLim, PyData.depth, PyData.depthAll]
theorem depth_pRow (r : List Lim) : (pRow r).depth ≤ 2 := by
  have := depth_map pLim 1 depth_pLim r
  simp only [pRow, PyData.depth]
  omega
theorem depth_pLand (L : Land) : (pLand L).depth ≤ 3 := by
  have := depth_map pRow 2 depth_pRow L
  simp only [pLand, PyData.depth]
  omega
def okL (L : Land) : Bool := decide (2 ≤ L.length) && decide (L.length ≤ 7) && L.all fun r => decide (r.length = L.length)
theorem noLst_dRow (r : List Lim) : noLst (dRow r) = true := by
  simp only [dRow, noLst, noLsts_dRow]
theorem lrT_eq (t y2 y3 y4 y5 y6 : Sl) (L : Land) (S : Sto) : (fSeq lrT (fRet (fOp1 kTupOf (fVar 1)))) [t, some (.lst (L.map dRow), .own), y2, y3, y4, y5, y6] S = .ok (.rt (encR (if okL L = true then some L else none)) .pur) S := by
  unfold lrT
  have rdm : rdMd (.lst (L.map dRow)) .own = .pur ∨ rdMd (.lst (L.map dRow)) .own = .als := .inr rfl
  have kt := kTup_lst (L.map dRow) .als S (noLsts_dLand L)
  by_cases h2 : 2 ≤ L.length
  · by_cases h7 : L.length ≤ 7
    · have h2' : (2 : Int) ≤ L.length := by omega
      have h7' : (L.length : Int) ≤ 7 := by omega
      have hz : L.length ≤ 16777216 := by omega
      have lc : lcLoop (fgName 3) (fTest (fOp2 kNe (fCB kLen (fCons (fVar 3) fNil)) (fCB kLen (fCons (fVar 1) fNil)))) (fVar 3) .als [dmx t, some (.lst (L.map dRow), .frn), dmx y2, none, dmx y4, dmx y5, dmx y6] (L.map dRow) S = .ok ((L.filter fun r => !decide (r.length = L.length)).map dRow) S := by
        refine lc_pure dRow (fun r => !decide (r.length = L.length)) dRow L fun r hr => ⟨[dmx t, some (.lst (L.map dRow), .frn), dmx y2, some (dRow r, .pur), dmx y4, dmx y5, dmx y6], .pur, ?_, ?_, fun _ => ⟨?_, upO_pur _⟩⟩
        · simp [cmMd, noLst_dRow]
        · simp [dRow]
          omega
        · simp
      have kn := kNe_nil (m := .own) (m' := .own) (S := S) (toPys_map dRow pRow toPy_dRow (L.filter fun r => !decide (r.length = L.length))) (lay_map pRow lay_pRow _) (Nat.le_trans (depth_map pRow 2 depth_pRow _) (by decide))
      generalize hX : (L.filter fun r => !decide (r.length = L.length)).map dRow = X at lc kn
      cases ha : L.all fun r => decide (r.length = L.length) with
      | true =>
        have ho : okL L = true := by unfold okL; rw [ha]; simp [h2, h7]
        have hx : X.isEmpty = true := by
          rw [← hX, List.filter_eq_nil_iff.mpr]
          · rfl
          · intro r hr
            have := List.all_eq_true.mp ha r hr
            rw [this]
            decide
        rw [hx] at kn
        simp [h2', h7', fiSeq_eq, D.seqOf?, lc, sz_eq, hz, ho, demote_any, kn, kt, encR, dLand]
      | false =>
        have ho : okL L = false := by unfold okL; rw [ha]; simp
        have hx : X.isEmpty = false := by
          rw [← hX]
          cases e : L.filter fun r => !decide (r.length = L.length) with
          | cons a b => rfl
          | nil =>
            have h0 := List.filter_eq_nil_iff.mp e
            have : (L.all fun r => decide (r.length = L.length)) = true := List.all_eq_true.mpr fun r hr => by
              have := h0 r hr
              simpa using this
            rw [this] at ha
            cases ha
        rw [hx] at kn
        simp [h2', h7', fiSeq_eq, D.seqOf?, lc, sz_eq, hz, ho, demote_any, kn, encR]
    · have h2' : (2 : Int) ≤ L.length := by omega
      have h7' : ¬ (L.length : Int) ≤ 7 := by omega
      have ho : okL L = false := by unfold okL; simp [h7]
      simp [h2', h7', ho, encR]
  · have h2' : ¬ (2 : Int) ≤ L.length := by omega
    have ho : okL L = false := by unfold okL; simp [h2]
    simp [h2', ho, encR]
end K11

set_option Elab.async false
set_option linter.all false
set_option maxRecDepth 100000
set_option maxHeartbeats 1000000
namespace K11
open PySem PySem.Spec PyProof.Rows L2 Mi PySem.NumText
theorem allS_some : ∀ {r : List (Option Lim)} {l : List Lim}, allS r = some l → r = l.map some
  | [], l, h => by
    have : l = [] := (Option.some.inj h).symm
    subst this
    rfl
  | none :: r, l, h => by cases h
  | some a :: r, l, h => by
    simp only [allS, Option.map_eq_some_iff] at h
    obtain ⟨l', h1, rfl⟩ := h
    rw [allS_some h1]
    rfl
theorem allS_none : ∀ {r : List (Option Lim)}, allS r = none → (r.any fun o => o.isNone) = true
  | [], h => by cases h
  | none :: r, h => by simp
  | some a :: r, h => by
    simp only [allS, Option.map_eq_none_iff] at h
    have := allS_none h
    rw [List.any_cons, this]
    simp
theorem rowsS_some : ∀ {R : OR} {L : Land}, rowsS R = some L → R = L.map fun r => r.map some
  | [], L, h => by
    have : L = [] := (Option.some.inj h).symm
    subst this
    rfl
  | r :: R, L, h => by
    simp only [rowsS] at h
    cases e : allS r with
    | none => rw [e] at h; cases h
    | some l =>
      rw [e] at h
      simp only [Option.map_eq_some_iff] at h
      obtain ⟨L', h1, rfl⟩ := h
      rw [rowsS_some h1, allS_some e]
      rfl
theorem rowsS_none : ∀ {R : OR}, rowsS R = none → anyNone R = true
  | [], h => by cases h
  | r :: R, h => by
    simp only [rowsS] at h
    unfold anyNone
    rw [List.flatMap_cons, List.any_append]
    cases e : allS r with
    | none =>
      have h1 : ((id r).any fun o => o.isNone) = true := allS_none e
      rw [h1]
      rfl
    | some l =>
      rw [e] at h
      simp only [Option.map_eq_none_iff] at h
      have h2 : ((R.flatMap id).any fun o => o.isNone) = true := rowsS_none h
      rw [h2]
      simp
theorem anyNone_map (L : Land) : anyNone (L.map fun r => r.map some) = false := by
  unfold anyNone
  rw [List.any_eq_false]
  intro o ho
  obtain ⟨r, hr, h2⟩ := List.mem_flatMap.mp ho
  obtain ⟨l, hl, rfl⟩ := List.mem_map.mp hr
  obtain ⟨a, ha, rfl⟩ := List.mem_map.mp (show o ∈ l.map some from h2)
  exact Bool.false_ne_true
theorem okShape_map (L : Land) : okShape (L.map fun r => r.map some) = okL L := by
  unfold okShape okL
  simp [List.all_map, Function.comp_def]
theorem readR_some {L : Land} : readR (L.map fun r => r.map some) = if okL L = true then some L else none := by
  unfold readR
  rw [anyNone_map, okShape_map, fm_some]
  by_cases h : okL L = true
  · rw [if_pos h, if_pos ⟨h, rfl⟩]
  · rw [if_neg h, if_neg (fun q => h q.1)]
theorem law_read_eq (t : Str) (S : Sto) (h : t.length + 2 ≤ 16777216) (asc : ∀ c ∈ sg t, c < 1114112) : F__law_read [.str t] S = .ok (encR (readR (rowsIn t)), .pur) S := by
  unfold F__law_read runF
  have e0 : startEnv 7 [.str t] = [some (.str t, .pur), none, none, none, none, none, none] := rfl
  rw [e0, lr_split]
  have hlen : (parts t).length ≤ 16777216 := by
    have := split_le t " / "
    show (Txt.split t " / ").length ≤ _
    omega
  have out := lr_outer (some (.str t, .pur)) S (parts t) [] none none none none none (fun p hp => ⟨by have := part_short' hp; omega, mem_parts_asc hp asc⟩) (by simpa using hlen)
  have e1 : ([] : Land).map dRow = [] := rfl
  rw [e1] at out
  have er : (parts t).map rowIn = rowsIn t := rfl
  rw [er] at out
  cases hr : rowsS (rowsIn t) with
  | none =>
    rw [hr] at out
    simp only at out
    have hn : readR (rowsIn t) = none := by
      unfold readR
      rw [if_neg (fun q => by rw [rowsS_none hr] at q; cases q.2)]
    rw [hn]
    simp [sz_eq, kSplit_sep, h, fiSeq_eq, D.seqOf?, forMd, dStrs, out, encR]
  | some L =>
    rw [hr] at out
    obtain ⟨y2, y3, y4, y5, y6, out⟩ := out
    rw [List.nil_append] at out
    have tl := lrT_eq (some (.str t, .pur)) y2 y3 y4 y5 y6 L S
    rw [rowsS_some hr, readR_some]
    rw [fSeq_eq]
    have s1 : fAsg (fLst fNil) (fgName 1) [some (.str t, .pur), none, none, none, none, none, none] S = .ok (.nx [some (.str t, .pur), some (.lst [], .own), none, none, none, none, none]) S := by
      simp [sz_eq]
    rw [s1]
    simp only [Res.bind_ok]
    rw [fSeq_eq]
    have s2 : fFor (fiSeq (fM1 kSplit (fVar 0) (fC (.str " / ")))) (fgName 2) lrOut [some (.str t, .pur), some (.lst [], .own), none, none, none, none, none] S = .ok (.nx [some (.str t, .pur), some (.lst (L.map dRow), .own), y2, y3, y4, y5, y6]) S := by
      simp [kSplit_sep, h, fiSeq_eq, D.seqOf?, forMd, dStrs, out]
    rw [s2]
    simp only [Res.bind_ok]
    rw [tl]
/-! ### so both readings are alike at any text -/
theorem readings (t : Str) (S : Sto) (h : t.length + 2 ≤ 16777216) (asc : ∀ c ∈ sg t, c < 1114112) : ∃ o : Option Land, F_read_land [.str t] S = .ok (encR o, .pur) S ∧ F__law_read [.str t] S = .ok (encR o, .pur) S ∧ o = readR (rowsIn t) :=
  ⟨_, read_land_eq t S h, law_read_eq t S h asc, rfl⟩
end K11

set_option Elab.async false
set_option linter.all false
set_option maxRecDepth 100000
set_option maxHeartbeats 1000000
namespace K11
open PySem PySem.Spec PyProof.Rows L2 Mi PySem.NumText
def numS (n : Int) : Str := (toString n : String)
def wordOf : Lim → Str
  | none => "*"
  | some (n, s) => (if s = 1 then "<" else "") ++ numS n
/-- a limit as the law draws it -/
def GoodLim : Lim → Prop
  | none => True
  | some (n, s) => -1000000000 < n ∧ n < 1000000000 ∧ (s = 0 ∨ s = 1)
theorem kStrI_int (i : Int) (m : Md) (S : Sto) (h : i.natAbs.log2 < 1920) : kStrI ([.int i], m) S = .ok (.str (numS i), .pur) S := if_pos h
theorem log_small {n : Int} (h1 : -1000000000 < n) (h2 : n < 1000000000) : n.natAbs.log2 < 1920 := by
  have h : n.natAbs < 2 ^ 30 := by omega
  have := PySem.Flt.log2_lt_of (k := 30) (by decide) h
  omega
theorem limit_text_eq (l : Lim) (S : Sto) (g : GoodLim l) (hz : ∀ n : Int, -1000000000 < n → n < 1000000000 → (numS n).length ≤ 100) : F_limit_text [dLim l] S = .ok (.str (wordOf l), .pur) S := by
  unfold F_limit_text runF
  rcases l with _ | ⟨n, s⟩
  · have e0 : startEnv 1 [dLim none] = [some (.non, .pur)] := rfl
    rw [e0]
    unfold f_limit_text
    simp [wordOf]
  · have e0 : startEnv 1 [dLim (some (n, s))] = [some (.xtp [.int n, .int s], .pur)] := rfl
    rw [e0]
    unfold f_limit_text
    obtain ⟨g1, g2, g3⟩ := g
    have hl := hz n g1 g2
    have e1 : ("<" : Str).length = 1 := by decide +kernel
    have e2 : ("" : Str).length = 0 := by decide +kernel
    have hs1 : ("<" : Str).length + (numS n).length ≤ 16777216 := by omega
    have hs2 : ("" : Str).length + (numS n).length ≤ 16777216 := by omega
    by_cases h1 : s = 1
    · subst h1
      simp [wordOf, kStrI_int, log_small g1 g2, sz_eq, hs1]
    · simp [wordOf, kStrI_int, log_small g1 g2, sz_eq, hs2, h1]
theorem word_of_eq (l : Lim) (S : Sto) (g : GoodLim l) (hz : ∀ n : Int, -1000000000 < n → n < 1000000000 → (numS n).length ≤ 100) : F__law_word_of [dLim l] S = .ok (.str (wordOf l), .pur) S := by
  unfold F__law_word_of runF
  rcases l with _ | ⟨n, s⟩
  · have e0 : startEnv 1 [dLim none] = [some (.non, .pur)] := rfl
    rw [e0]
    unfold f__law_word_of
    simp [wordOf]
  · have e0 : startEnv 1 [dLim (some (n, s))] = [some (.xtp [.int n, .int s], .pur)] := rfl
    rw [e0]
    unfold f__law_word_of
    obtain ⟨g1, g2, g3⟩ := g
    have hl := hz n g1 g2
    have e1 : ("<" : Str).length = 1 := by decide +kernel
    have e2 : ("" : Str).length = 0 := by decide +kernel
    have hs1 : ("<" : Str).length + (numS n).length ≤ 16777216 := by omega
    have hs2 : ("" : Str).length + (numS n).length ≤ 16777216 := by omega
    by_cases h1 : s = 1
    · subst h1
      simp [wordOf, kStrI_int, log_small g1 g2, sz_eq, hs1]
    · simp [wordOf, kStrI_int, log_small g1 g2, sz_eq, hs2, h1]
end K11

set_option Elab.async false
set_option linter.all false
set_option maxRecDepth 100000
set_option maxHeartbeats 1000000
namespace K11
open PySem PySem.Spec PyProof.Rows L2 Mi PySem.NumText
def dgs (m : Nat) : List Nat := (Nat.toDigits 10 m).map Char.toNat
theorem dgs_val (m : Nat) : digitsVal (dgs m) = m := PySem.W.KIN.val_back m
theorem dgs_len {m k : Nat} (hk : 1 ≤ k) (h : m < 10 ^ k) : (dgs m).length ≤ k := by
  unfold dgs
  rw [List.length_map]
  exact toDigits_len_pow (by decide) hk h
theorem dgs_pos (m : Nat) : 1 ≤ (dgs m).length := by
  unfold dgs
  rw [List.length_map]
  exact toDigits_len_ge 10 m
theorem dgs_dig (m : Nat) : AllDigits (dgs m) := by
  intro c hc
  obtain ⟨ch, hch, e⟩ := List.mem_map.mp hc
  have r := digit_range (Nat.isDigit_of_mem_toDigits (by decide) (by decide) hch)
  rw [← e]
  exact r
theorem val_lt : ∀ (cs : List Nat) (a : Nat), AllDigits cs → cs.foldl (fun acc c => acc * 10 + (c - 48)) a < (a + 1) * 10 ^ cs.length
  | [], a, _ => by simp
  | c :: cs, a, h => by
    have hc := h c List.mem_cons_self
    have ih := val_lt cs (a * 10 + (c - 48)) fun d hd => h d (List.mem_cons_of_mem _ hd)
    have e : (a + 1) * 10 ^ (c :: cs).length = ((a + 1) * 10) * 10 ^ cs.length := by
      rw [List.length_cons, Nat.pow_succ, Nat.mul_assoc, Nat.mul_comm (10 ^ cs.length) 10]
    rw [e]
    refine Nat.lt_of_lt_of_le ih (Nat.mul_le_mul_right _ ?_)
    omega
theorem dgs_head {m : Nat} (h : (dgs m).head? = some 48) : dgs m = [48] := by
  cases e : dgs m with
  | nil => rw [e] at h; cases h
  | cons c r =>
    rw [e] at h
    have hc : c = 48 := by simpa using h
    subst hc
    cases r with
    | nil => rfl
    | cons d r =>
      exfalso
      have hd := dgs_dig m
      rw [e] at hd
      have hv := dgs_val m
      rw [e] at hv
      have hv2 : digitsVal (48 :: d :: r) = (d :: r).foldl (fun acc c => acc * 10 + (c - 48)) 0 := rfl
      have lt := val_lt (d :: r) 0 fun x hx => hd x (List.mem_cons_of_mem _ hx)
      rw [← hv2, hv, Nat.zero_add, Nat.one_mul] at lt
      have := dgs_len (k := (d :: r).length) (by simp) lt
      rw [e] at this
      simp at this
      omega
theorem numS_pos (m : Nat) : sg (numS ((m : Nat) : Int)) = dgs m := PySem.W.KIN.signs_num m
theorem numS_neg (m : Nat) (h : 0 < m) : sg (numS (-((m : Nat) : Int))) = 45 :: dgs m := by
  obtain ⟨k, rfl⟩ : ∃ k, m = k + 1 := ⟨m - 1, by omega⟩
  have e : (toString (-(((k + 1 : Nat)) : Int)) : String) = "-" ++ toString (((k + 1 : Nat)) : Int) := by
    rfl
  unfold numS
  rw [e]
  have e2 : (Str.ofString ("-" ++ toString (((k + 1 : Nat)) : Int)) : Str) = Str.ofString "-" ++ Str.ofString (toString (((k + 1 : Nat)) : Int)) := by
    rw [Str.ofString_eq_toList, Str.ofString_eq_toList, Str.ofString_eq_toList, String.toList_append, List.map_append]
    exact (mk_app _ _).symm
  show sg (Str.ofString _) = _
  rw [e2, sg_app]
  have e3 : sg (Str.ofString (toString (((k + 1 : Nat)) : Int))) = dgs (k + 1) := numS_pos (k + 1)
  rw [e3]
  have e4 : sg (Str.ofString "-") = [45] := by decide +kernel
  rw [e4]
  rfl
end K11

set_option Elab.async false
set_option linter.all false
set_option maxRecDepth 100000
set_option maxHeartbeats 1000000
namespace K11
open PySem PySem.Spec PyProof.Rows L2 Mi PySem.NumText
theorem okDig_dgs {m : Nat} (h : m < 1000000000) : okDig (dgs m) = true := by
  unfold okDig
  have h1 := dgs_pos m
  have h2 := dgs_len (m := m) (k := 9) (by decide) (by omega)
  have h3 : (dgs m).all isD = true := List.all_eq_true.mpr fun c hc => (isD_iff c).mpr (dgs_dig m c hc)
  simp [h1, h2, h3]
theorem numberIn_dgs {m : Nat} (h : m < 1000000000) : numberIn (dgs m) = some (m : Int) := by
  unfold numberIn
  rw [if_pos (okDig_dgs h), if_neg (fun q => q.2 (dgs_head q.1)), dgs_val]
theorem dgs_first {m : Nat} {c : Nat} (h : (dgs m).take 1 = [c]) : 48 ≤ c ∧ c ≤ 57 := by
  have := take1_cons h
  exact dgs_dig m c (by rw [this]; exact List.mem_cons_self)
theorem integerIn_num {n : Int} (h1 : -1000000000 < n) (h2 : n < 1000000000) : integerIn (sg (numS n)) = some n := by
  by_cases hn : 0 ≤ n
  · obtain ⟨m, rfl⟩ := Int.eq_ofNat_of_zero_le hn
    have e := numS_pos m
    rw [e]
    unfold integerIn
    rw [if_neg (fun q => by have := dgs_first q; omega)]
    exact numberIn_dgs (by omega)
  · obtain ⟨m, hm⟩ := Int.eq_ofNat_of_zero_le (a := -n) (by omega)
    have hn' : n = -((m : Nat) : Int) := by omega
    subst hn'
    rw [numS_neg m (by omega)]
    unfold integerIn
    rw [if_pos (by rfl), List.tail_cons, numberIn_dgs (by omega)]
    show (if ((m : Nat) : Int) = 0 then none else some (-((m : Nat) : Int))) = _
    rw [if_neg (by omega)]
theorem num_first {n : Int} {c : Nat} (h : (sg (numS n)).take 1 = [c]) : c = 45 ∨ (48 ≤ c ∧ c ≤ 57) := by
  by_cases hn : 0 ≤ n
  · obtain ⟨m, rfl⟩ := Int.eq_ofNat_of_zero_le hn
    rw [numS_pos m] at h
    exact .inr (dgs_first h)
  · obtain ⟨m, hm⟩ := Int.eq_ofNat_of_zero_le (a := -n) (by omega)
    have hn' : n = -((m : Nat) : Int) := by omega
    subst hn'
    rw [numS_neg m (by omega)] at h
    left
    simpa using h.symm
theorem limitIn_word {l : Lim} (g : GoodLim l) : limitIn (sg (wordOf l)) = some l := by
  rcases l with _ | ⟨n, s⟩
  · have e : sg (wordOf none) = [42] := by
      show sg ("*" : Str) = _
      rw [lstar]
      rfl
    rw [e]
    rfl
  · obtain ⟨g1, g2, g3⟩ := g
    rcases g3 with rfl | rfl
    · have e : sg (wordOf (some (n, 0))) = sg (numS n) := by
        show sg ((if (0 : Int) = 1 then ("<" : Str) else "") ++ numS n) = _
        rw [if_neg (by decide), sg_app, lnil]
        rfl
      rw [e]
      unfold limitIn
      rw [if_neg (fun q => by have := num_first (n := n) (c := 42) (by rw [q]; rfl); omega), if_neg (fun q => by have := num_first q; omega), integerIn_num g1 g2]
      simp only
      rw [if_neg (fun q => by have := num_first q; omega)]
    · have e : sg (wordOf (some (n, 1))) = 60 :: sg (numS n) := by
        show sg ((if (1 : Int) = 1 then ("<" : Str) else "") ++ numS n) = _
        rw [if_pos rfl, sg_app, llt]
        rfl
      rw [e]
      unfold limitIn
      rw [if_neg (fun q => by cases q), if_pos (by rfl), List.tail_cons, integerIn_num g1 g2]
      rfl
end K11

set_option Elab.async false
set_option linter.all false
set_option maxRecDepth 100000
set_option maxHeartbeats 1000000
namespace K11
open PySem PySem.Spec PyProof.Rows L2 Mi PySem.NumText
structure WordOk (w : List Nat) : Prop where
  ch : ∀ c ∈ w, c ≠ 32 ∧ c ≠ 47 ∧ c < 128
  len : w.length ≤ 12
theorem numS_ok {n : Int} (h1 : -1000000000 < n) (h2 : n < 1000000000) : (∀ c ∈ sg (numS n), c ≠ 32 ∧ c ≠ 47 ∧ c < 128) ∧ (sg (numS n)).length ≤ 10 := by
  by_cases hn : 0 ≤ n
  · obtain ⟨m, rfl⟩ := Int.eq_ofNat_of_zero_le hn
    rw [numS_pos m]
    refine ⟨fun c hc => by have := dgs_dig m c hc; omega, ?_⟩
    have := dgs_len (m := m) (k := 9) (by decide) (by omega)
    omega
  · obtain ⟨m, hm⟩ := Int.eq_ofNat_of_zero_le (a := -n) (by omega)
    have hn' : n = -((m : Nat) : Int) := by omega
    subst hn'
    rw [numS_neg m (by omega)]
    have := dgs_len (m := m) (k := 9) (by decide) (by omega)
    refine ⟨fun c hc => ?_, by rw [List.length_cons]; omega⟩
    rcases List.mem_cons.mp hc with e | e
    · omega
    · have := dgs_dig m c e
      omega
theorem numS_short : ∀ n : Int, -1000000000 < n → n < 1000000000 → (numS n).length ≤ 100 := fun n h1 h2 => by
  have := (numS_ok h1 h2).2
  rw [len_sg] at this
  omega
theorem wordOf_ok {l : Lim} (g : GoodLim l) : WordOk (sg (wordOf l)) := by
  rcases l with _ | ⟨n, s⟩
  · have e : sg (wordOf none) = [42] := by
      show sg ("*" : Str) = _
      rw [lstar]
      rfl
    rw [e]
    exact ⟨by decide, by decide⟩
  · obtain ⟨g1, g2, _⟩ := g
    obtain ⟨h1, h2⟩ := numS_ok g1 g2
    have e : sg (wordOf (some (n, s))) = sg (Str.ofString (if s = 1 then "<" else "")) ++ sg (numS n) := by
      simp only [wordOf, sg_app]
    have h3 : (∀ c ∈ sg (Str.ofString (if s = 1 then "<" else "")), c ≠ 32 ∧ c ≠ 47 ∧ c < 128) ∧ (sg (Str.ofString (if s = 1 then "<" else ""))).length ≤ 1 := by
      split
      · rw [llt]; exact ⟨by decide, by decide⟩
      · rw [lnil]; exact ⟨by decide, by decide⟩
    rw [e]
    exact ⟨fun c hc => (List.mem_append.mp hc).elim (h3.1 c) (h1 c), by rw [List.length_append]; omega⟩
def rowText (r : List Lim) : Str := Str.join " " (r.map wordOf)
def textOf (L : Land) : Str := Str.join " / " (L.map rowText)
def GoodLand (L : Land) : Prop := ∀ r ∈ L, ∀ l ∈ r, GoodLim l
theorem tight_one {c : Nat} : ∀ {ws : List (List Nat)}, ws ≠ [] → (∀ w ∈ ws, c ∉ w) → TightL [c] ws
  | [], h, _ => absurd rfl h
  | [w], _, h => fun k hk => by
    have : c ∈ (w.drop k).take 1 := by
      have hk' : (w.drop k).take 1 = [c] := hk
      rw [hk']
      exact List.mem_singleton.mpr rfl
    exact h w List.mem_cons_self (List.mem_of_mem_drop (List.mem_of_mem_take this))
  | w :: w2 :: r, _, h => by
    refine ⟨fun k hk ho => ?_, tight_one (by simp) fun x hx => h x (List.mem_cons_of_mem _ hx)⟩
    have ho' : ((w ++ [c]).drop k).take 1 = [c] := ho
    rw [List.drop_append_of_le_length (by omega), List.take_append_of_le_length (by rw [List.length_drop]; omega)] at ho'
    have : c ∈ (w.drop k).take 1 := by
      rw [ho']
      exact List.mem_singleton.mpr rfl
    exact h w List.mem_cons_self (List.mem_of_mem_drop (List.mem_of_mem_take this))
theorem tight_sep : ∀ {ws : List (List Nat)}, ws ≠ [] → (∀ w ∈ ws, 47 ∉ w) → TightL [32, 47, 32] ws
  | [], h, _ => absurd rfl h
  | [w], _, h => fun k hk => by
    have : 47 ∈ (w.drop k).take 3 := by
      have hk' : (w.drop k).take 3 = [32, 47, 32] := hk
      rw [hk']
      decide
    exact h w List.mem_cons_self (List.mem_of_mem_drop (List.mem_of_mem_take this))
  | w :: w2 :: r, _, h => by
    refine ⟨fun k hk ho => ?_, tight_sep (by simp) fun x hx => h x (List.mem_cons_of_mem _ hx)⟩
    have ho' : ((w ++ [32, 47, 32]).drop k).take 3 = [32, 47, 32] := ho
    have e1 : (((w ++ [32, 47, 32]).drop k).take 3)[1]? = some 47 := by rw [ho']; rfl
    rw [List.getElem?_take_of_lt (by decide), List.getElem?_drop] at e1
    by_cases hk2 : k + 1 < w.length
    · rw [List.getElem?_append_left hk2] at e1
      exact h w List.mem_cons_self (List.mem_of_getElem? e1)
    · have : k + 1 = w.length := by omega
      rw [List.getElem?_append_right (by omega), this, Nat.sub_self] at e1
      cases e1
theorem words_row {r : List Lim} (h : r ≠ []) (g : ∀ l ∈ r, GoodLim l) : words (rowText r) = r.map wordOf := by
  refine split_join_of (by rw [lsp]; decide) (by decide +kernel) ?_
  rw [lsp]
  refine tight_one (by simpa using h) fun w hw => ?_
  obtain ⟨z, hz, rfl⟩ := List.mem_map.mp hw
  obtain ⟨l, hl, rfl⟩ := List.mem_map.mp hz
  exact fun q => ((wordOf_ok (g l hl)).ch 32 q).1 rfl
theorem mem_join {y : Str} {c : Nat} : ∀ {l : List Str}, c ∈ sg (Str.join y l) → c ∈ sg y ∨ ∃ w ∈ l, c ∈ sg w
  | [], h => by cases h
  | [w], h => .inr ⟨w, List.mem_cons_self, h⟩
  | w :: w2 :: r, h => by
    have h' : c ∈ sg (w ++ y ++ Str.join y (w2 :: r)) := h
    rw [sg_app, sg_app] at h'
    rcases List.mem_append.mp h' with z | z
    · rcases List.mem_append.mp z with z | z
      · exact .inr ⟨w, List.mem_cons_self, z⟩
      · exact .inl z
    · exact (mem_join z).imp id fun ⟨x, hx, hc⟩ => ⟨x, List.mem_cons_of_mem _ hx, hc⟩
theorem row_chars {r : List Lim} (g : ∀ l ∈ r, GoodLim l) : ∀ c ∈ sg (rowText r), c ≠ 47 ∧ c < 128 := fun c hc => by
  rcases mem_join hc with z | ⟨w, hw, z⟩
  · rw [lsp] at z
    have : c = 32 := by simpa using z
    omega
  · obtain ⟨l, hl, rfl⟩ := List.mem_map.mp hw
    have := (wordOf_ok (g l hl)).ch c z
    exact ⟨this.2.1, this.2.2⟩
theorem parts_text {L : Land} (h : L ≠ []) (g : GoodLand L) : parts (textOf L) = L.map rowText := by
  refine split_join_of (by rw [lsep]; decide) (by decide +kernel) ?_
  rw [lsep]
  refine tight_sep (by simpa using h) fun w hw => ?_
  obtain ⟨z, hz, rfl⟩ := List.mem_map.mp hw
  obtain ⟨r, hr, rfl⟩ := List.mem_map.mp hz
  exact fun q => (row_chars (g r hr) 47 q).1 rfl
theorem rows_text {L : Land} (h : L ≠ []) (g : GoodLand L) (hr : ∀ r ∈ L, r ≠ []) : rowsIn (textOf L) = L.map fun r => r.map some := by
  unfold rowsIn
  rw [parts_text h g, List.map_map]
  refine List.map_congr_left fun r hm => ?_
  show rowIn (rowText r) = _
  unfold rowIn
  rw [words_row (hr r hm) (g r hm), List.map_map]
  exact List.map_congr_left fun l hl => limitIn_word (g r hm l hl)
theorem read_text {L : Land} (g : GoodLand L) (h : okL L = true) : readR (rowsIn (textOf L)) = some L := by
  have h' := h
  unfold okL at h'
  simp only [Bool.and_eq_true, decide_eq_true_eq] at h'
  obtain ⟨⟨h1, h2⟩, h3⟩ := h'
  have hne : L ≠ [] := fun q => by rw [q] at h1; simp at h1
  have hr : ∀ r ∈ L, r ≠ [] := fun r hr q => by
    have := of_decide_eq_true (List.all_eq_true.mp h3 r hr)
    rw [q] at this
    simp at this
    omega
  rw [rows_text hne g hr, readR_some, if_pos h]
end K11

set_option Elab.async false
set_option linter.all false
set_option maxRecDepth 100000
set_option maxHeartbeats 1000000
namespace K11
open PySem PySem.Spec PyProof.Rows L2 Mi PySem.NumText
theorem sum_le {l : List Str} {k : Nat} (h : ∀ w ∈ l, w.length ≤ k) : (l.map (·.length)).sum ≤ l.length * k := by
  induction l with
  | nil => simp
  | cons a l ih =>
    rw [List.map_cons, List.sum_cons, List.length_cons, Nat.succ_mul]
    have := ih fun w hw => h w (List.mem_cons_of_mem _ hw)
    have := h a List.mem_cons_self
    omega
theorem join_len {y : Str} {l : List Str} {k : Nat} (h : ∀ w ∈ l, w.length ≤ k) : (Str.join y l).length ≤ l.length * (k + y.length) := by
  have := StrLaws.join_length_le y l
  have := sum_le h
  rw [Nat.mul_add]
  omega
theorem kJoin_strs (y : Str) (l : List Str) (m m' : Md) (S : Sto) (k : Nat) (h : ∀ w ∈ l, w.length ≤ k) (hz : l.length * (k + y.length) ≤ 16777216) : kJoin (.str y, m) (.lst (dStrs l), m') S = .ok (.str (Str.join y l), .pur) S := by
  have e : (D.lst (dStrs l)).seqOf?.bind unstrs = some l := unstrs_dStrs l
  unfold kJoin
  simp only [e]
  have := sum_le h
  rw [Nat.mul_add] at hz
  rw [if_pos (by omega), txt_join]
theorem word_len {l : Lim} (g : GoodLim l) : (wordOf l).length ≤ 12 := by
  rw [← len_sg]
  exact (wordOf_ok g).len
theorem row_len {r : List Lim} (g : ∀ l ∈ r, GoodLim l) (h : r.length ≤ 7) : (rowText r).length ≤ 91 := by
  have := join_len (y := " ") (l := r.map wordOf) (k := 12) fun w hw => by
    obtain ⟨l, hl, rfl⟩ := List.mem_map.mp hw
    exact word_len (g l hl)
  have e : (" " : Str).length = 1 := by decide +kernel
  rw [List.length_map, e] at this
  have h2 : r.length * (12 + 1) ≤ 7 * 13 := Nat.mul_le_mul_right 13 h
  unfold rowText
  omega
theorem text_len {L : Land} (g : GoodLand L) (h : L.length ≤ 7) (h2 : ∀ r ∈ L, r.length ≤ 7) : (textOf L).length ≤ 658 := by
  have := join_len (y := " / ") (l := L.map rowText) (k := 91) fun w hw => by
    obtain ⟨r, hr, rfl⟩ := List.mem_map.mp hw
    exact row_len (g r hr) (h2 r hr)
  have e : (" / " : Str).length = 3 := by decide +kernel
  rw [List.length_map, e] at this
  have h3 : L.length * (91 + 3) ≤ 7 * 94 := Nat.mul_le_mul_right 94 h
  unfold textOf
  omega
theorem cmMd_dLim (l : Lim) (m : Md) : cmMd (dLim l) m = .pur := by
  unfold cmMd
  split
  · rfl
  · rw [if_pos (noLst_dLim l)]
theorem cmMd_dRow (r : List Lim) (m : Md) : cmMd (dRow r) m = .pur := by
  unfold cmMd
  split
  · rfl
  · rw [if_pos (noLst_dRow r)]
theorem dStrs_map {α : Type} (f : α → Str) (l : List α) : dStrs (l.map f) = l.map fun a => D.str (f a) := by
  unfold dStrs
  rw [List.map_map]
  rfl
theorem noLst_dLand (L : Land) : noLst (dLand L) = true := by
  simp only [dLand, noLst, noLsts_dLand]
theorem land_text_eq (L : Land) (S : Sto) (g : GoodLand L) (h : L.length ≤ 7) (h2 : ∀ r ∈ L, r.length ≤ 7) : F_land_text [dLand L] S = .ok (.str (textOf L), .pur) S := by
  unfold F_land_text runF
  have e0 : startEnv 3 [dLand L] = [some (dLand L, .pur), none, none] := by
    show [some (dLand L, if noLst (dLand L) then Md.pur else Md.frn), none, none] = _
    rw [noLst_dLand, if_pos rfl]
  rw [e0]
  unfold f_land_text
  have e1 : (" " : Str).length = 1 := by decide +kernel
  have e3 : (" / " : Str).length = 3 := by decide +kernel
  have inn : ∀ r : List Lim, (∀ l ∈ r, GoodLim l) → r.length ≤ 7 → fM1 kJoin (fC (.str " ")) (fLc (fiSeq (fVar 1)) (fgName 2) fYes (fCall 1 F_limit_text (fCons (fVar 2) fNil)) [2]) [some (dLand L, .pur), some (dRow r, .pur), none] S = .ok (.str (rowText r), .pur) S := by
    intro r gr hr
    have lc : lcLoop (fgName 2) fYes (fCall 1 F_limit_text (fCons (fVar 2) fNil)) .pur [some (dLand L, .pur), some (dRow r, .pur), none] (r.map dLim) S = .ok (r.map fun l => D.str (wordOf l)) S := by
      refine lc_pure1 dLim (fun l => D.str (wordOf l)) r fun l hl => ⟨[some (dLand L, .pur), some (dRow r, .pur), some (dLim l, .pur)], .pur, ?_, ?_, upO_pur _⟩
      · simp [cmMd_dLim]
      · have := limit_text_eq l S (gr l hl) numS_short
        simp [this]
    have hz : r.length ≤ 16777216 := by omega
    have kj := kJoin_strs " " (r.map wordOf) .pur .own S 12 (fun w hw => by
      obtain ⟨l, hl, rfl⟩ := List.mem_map.mp hw
      exact word_len (gr l hl)) (by rw [List.length_map, e1]; omega)
    rw [dStrs_map] at kj
    have sq : (dRow r).seqOf? = some (r.map dLim) := rfl
    have ds : dRow r = .tup (r.map dLim) := rfl
    simp [fiSeq_eq, ds, D.seqOf?, sz_eq, hz]
    rw [← ds, lc]
    simp [kj]
    rfl
  have lc : lcLoop (fgName 1) fYes (fM1 kJoin (fC (.str " ")) (fLc (fiSeq (fVar 1)) (fgName 2) fYes (fCall 1 F_limit_text (fCons (fVar 2) fNil)) [2])) .pur [some (dLand L, .pur), none, none] (L.map dRow) S = .ok (L.map fun r => D.str (rowText r)) S := by
    refine lc_pure1 dRow (fun r => D.str (rowText r)) L fun r hr => ⟨[some (dLand L, .pur), some (dRow r, .pur), none], .pur, ?_, inn r (g r hr) (h2 r hr), upO_pur _⟩
    simp [cmMd_dRow]
  have hz : L.length ≤ 16777216 := by omega
  have kj := kJoin_strs " / " (L.map rowText) .pur .own S 91 (fun w hw => by
    obtain ⟨r, hr, rfl⟩ := List.mem_map.mp hw
    exact row_len (g r hr) (h2 r hr)) (by rw [List.length_map, e3]; omega)
  rw [dStrs_map] at kj
  have ds : dLand L = .tup (L.map dRow) := rfl
  rw [fRet_eq, fM1_eq]
  simp only [fC_eq, Res.bind_ok]
  rw [fLc_eq]
  simp [fiSeq_eq, ds, D.seqOf?, sz_eq, hz]
  rw [← ds, lc]
  simp [kj]
  rfl
end K11

set_option Elab.async false
set_option linter.all false
set_option maxRecDepth 100000
set_option maxHeartbeats 1000000
namespace K11
open PySem PySem.Spec PyProof.Rows L2 Mi PySem.NumText
theorem kEq_self {d : D} {p : PyData} {m m' : Md} {S : Sto} (h1 : d.toPy = some p) (h2 : p.canLay0 = true) (h3 : p.depth ≤ 60) : kEq (d, m) (d, m') S = .ok (.bl true, .pur) S := by
  have sh : SeqAt.shaped p = true := by
    unfold SeqAt.shaped
    rw [Bool.and_eq_true, decide_eq_true_eq]
    exact ⟨h2, by omega⟩
  have er := SeqAt.eqv_refl p h2
  have kd : kEqD false (d, m) (d, m') S = .ok (.bl true, .pur) S := by
    unfold kEqD
    simp only [h1, sh, er, Bool.and_self, if_true, Bool.false_eq_true, if_false]
  show kOr (kEqS false) (kEqD false) _ _ S = _
  cases d with
  | non => exact kOr_ok rfl
  | bl b => exact kOr_ok (by simp [kEqS, scEq])
  | int i => exact kOr_ok (by simp [kEqS, scEq])
  | str x => exact kOr_ok (by simp [kEqS, scEq])
  | tup l => rw [kOr_no (by rfl)]; exact kd
  | xtp l => rw [kOr_no (by rfl)]; exact kd
  | lst l => rw [kOr_no (by rfl)]; exact kd
  | fls l => rw [kOr_no (by rfl)]; exact kd
  | dcK a b => cases h1
  | dcT a b => cases h1
  | ref n => cases h1
  | fn n => cases h1
  | ty n => cases h1
theorem kRepr_eq {d : D} {p : PyData} {m : Md} {S : Sto} (h1 : d.toPy = some p) (h2 : p.showable = true) (h3 : p.hasDict = false) (h4 : p.depth ≤ 60) (h5 : p.shown.length ≤ sizeLine) : kRepr ([d], m) S = .ok (.str p.shown, .pur) S := by
  unfold kRepr
  simp only [h1]
  rw [if_pos ⟨h2, h3, h4, h5⟩]
theorem alike_eq {d : D} {p : PyData} {S : Sto} (h1 : d.toPy = some p) (h2 : p.showable = true) (h4 : p.depth ≤ 60) (h5 : p.shown.length ≤ sizeLine) (h6 : p.canLay0 = true) : F__law_alike [d, d] S = .ok (.bl true, .pur) S := by
  have h3 := PyData.hasDict_of_canLay p h6
  unfold F__law_alike runF f__law_alike
  have e0 : ∃ m, startEnv 2 [d, d] = [some (d, m), some (d, m)] := ⟨if noLst d then Md.pur else Md.frn, rfl⟩
  obtain ⟨m, e0⟩ := e0
  rw [e0]
  have kr : ∀ m', kRepr ([d], m') S = .ok (.str p.shown, .pur) S := fun m' => kRepr_eq h1 h2 h3 h4 h5
  have ke : ∀ m' m'', kEq (d, m') (d, m'') S = .ok (.bl true, .pur) S := fun m' m'' => kEq_self h1 h6 h4
  simp [kr, ke]
end K11

set_option Elab.async false
set_option linter.all false
set_option maxRecDepth 100000
set_option maxHeartbeats 1000000
namespace K11
open PySem PySem.Spec PyProof.Rows L2 Mi PySem.NumText
theorem tupText_len {ts : List Str} {k : Nat} (h : ∀ t ∈ ts, t.length ≤ k) : (tupleText ts).length ≤ ts.length * (k + 2) + 3 := by
  have := join_len (y := ", ") h
  have e : (", " : Str).length = 2 := by decide +kernel
  rw [e] at this
  unfold tupleText
  rw [Str.length_append, Str.length_append]
  have e1 : ("(" : Str).length = 1 := by decide +kernel
  have e2 : (Str.ofString (if (ts.length == 1) = true then ",)" else ")")).length ≤ 2 := by
    split
    · decide +kernel
    · decide +kernel
  rw [e1]
  omega
theorem shownAll_map {α : Type} (g : α → PyData) : ∀ l : List α, PyData.shownAll (l.map g) = l.map fun a => (g a).shown
  | [] => by simp only [List.map_nil, PyData.shownAll]
  | a :: l => by simp only [List.map_cons, PyData.shownAll, shownAll_map g l]
theorem showAll_map {α : Type} (g : α → PyData) : ∀ l : List α, (∀ a ∈ l, (g a).showable = true) → PyData.showableAll (l.map g) = true
  | [], _ => by simp only [List.map_nil, PyData.showableAll]
  | a :: l, h => by simp only [List.map_cons, PyData.showableAll, h a List.mem_cons_self, showAll_map g l fun x hx => h x (List.mem_cons_of_mem _ hx), Bool.and_self]
theorem pLim_show {l : Lim} (g : GoodLim l) : (pLim l).showable = true ∧ (pLim l).shown.length ≤ 60 := by
  rcases l with _ | ⟨n, s⟩
  · refine ⟨by simp only [pLim, PyData.showable], ?_⟩
    simp only [pLim, PyData.shown]
    decide +kernel
  · obtain ⟨g1, g2, g3⟩ := g
    have hs : -1000000000 < s ∧ s < 1000000000 := by omega
    refine ⟨?_, ?_⟩
    · simp only [pLim, PyData.showable, PyData.showableAll, Bool.and_true, Bool.and_eq_true, decide_eq_true_eq]
      exact ⟨log_small g1 g2, log_small hs.1 hs.2⟩
    · simp only [pLim, PyData.shown, PyData.shownAll]
      have h1 := (numS_ok g1 g2).2
      have h2 := (numS_ok hs.1 hs.2).2
      rw [len_sg] at h1 h2
      have := tupText_len (ts := [numS n, numS s]) (k := 10) (by
        intro t ht
        simp only [List.mem_cons, List.not_mem_nil, or_false] at ht
        rcases ht with rfl | rfl
        · exact h1
        · exact h2)
      have e : [numS n, numS s].length = 2 := rfl
      rw [e] at this
      exact Nat.le_trans this (by decide)
theorem pRow_show {r : List Lim} (g : ∀ l ∈ r, GoodLim l) (h : r.length ≤ 7) : (pRow r).showable = true ∧ (pRow r).shown.length ≤ 500 := by
  refine ⟨?_, ?_⟩
  · simp only [pRow, PyData.showable]
    exact showAll_map pLim r fun l hl => (pLim_show (g l hl)).1
  · simp only [pRow, PyData.shown, shownAll_map]
    have := tupText_len (ts := r.map fun a => (pLim a).shown) (k := 60) (by
      intro t ht
      obtain ⟨l, hl, rfl⟩ := List.mem_map.mp ht
      exact (pLim_show (g l hl)).2)
    rw [List.length_map] at this
    have h2 : r.length * (60 + 2) ≤ 7 * 62 := Nat.mul_le_mul_right 62 h
    omega
theorem pLand_show {L : Land} (g : GoodLand L) (h : L.length ≤ 7) (h2 : ∀ r ∈ L, r.length ≤ 7) : (pLand L).showable = true ∧ (pLand L).shown.length ≤ 4000 := by
  refine ⟨?_, ?_⟩
  · simp only [pLand, PyData.showable]
    exact showAll_map pRow L fun r hr => (pRow_show (g r hr) (h2 r hr)).1
  · simp only [pLand, PyData.shown, shownAll_map]
    have := tupText_len (ts := L.map fun a => (pRow a).shown) (k := 500) (by
      intro t ht
      obtain ⟨r, hr, rfl⟩ := List.mem_map.mp ht
      exact (pRow_show (g r hr) (h2 r hr)).2)
    rw [List.length_map] at this
    have h3 : L.length * (500 + 2) ≤ 7 * 502 := Nat.mul_le_mul_right 502 h
    omega
theorem okDig_bound {w : List Nat} (h : okDig w = true) : digitsVal w < 1000000000 := by
  obtain ⟨o1, o2, o3, _⟩ := okDig_of h
  have := val_lt w 0 o3
  have h9 : 10 ^ w.length ≤ 10 ^ 9 := Nat.pow_le_pow_right (by decide) o2
  have e : digitsVal w = w.foldl (fun acc c => acc * 10 + (c - 48)) 0 := rfl
  omega
theorem integerIn_bound {w : List Nat} {n : Int} (h : integerIn w = some n) : -1000000000 < n ∧ n < 1000000000 := by
  have key : ∀ (w : List Nat) (n : Int), numberIn w = some n → 0 ≤ n ∧ n < 1000000000 := by
    intro w n h
    unfold numberIn at h
    split at h
    · rename_i ho
      have := okDig_bound ho
      split at h
      · cases h
      · cases h
        omega
    · cases h
  unfold integerIn at h
  split at h
  · split at h
    · cases h
    · rename_i m hm
      have := key _ _ hm
      split at h
      · cases h
      · cases h
        omega
  · have := key _ _ h
    omega
theorem limitIn_good {w : List Nat} {l : Lim} (h : limitIn w = some l) : GoodLim l := by
  unfold limitIn at h
  split at h
  · cases h; trivial
  · split at h
    · cases h
    · rename_i n hn
      cases h
      have := integerIn_bound hn
      refine ⟨this.1, this.2, ?_⟩
      split
      · exact .inr rfl
      · exact .inl rfl
theorem readR_good {t : Str} {L : Land} (h : readR (rowsIn t) = some L) : GoodLand L ∧ L.length ≤ 7 ∧ ∀ r ∈ L, r.length ≤ 7 := by
  unfold readR at h
  split at h
  · rename_i hc
    cases h
    obtain ⟨L', hL⟩ := all_some hc.2
    have hs := shape_len hc.1
    rw [hL] at hs ⊢
    rw [fm_some]
    refine ⟨fun r hr l hl => ?_, by have := hs.1; rwa [List.length_map] at this, fun r hr => ?_⟩
    · have h1 : r.map some ∈ rowsIn t := by rw [hL]; exact List.mem_map.mpr ⟨r, hr, rfl⟩
      obtain ⟨p, hp, e⟩ := List.mem_map.mp h1
      have h2 : some l ∈ rowIn p := by rw [e]; exact List.mem_map.mpr ⟨l, hl, rfl⟩
      obtain ⟨w, hw, e2⟩ := List.mem_map.mp h2
      exact limitIn_good e2
    · have := hs.2 (r.map some) (List.mem_map.mpr ⟨r, hr, rfl⟩)
      rwa [List.length_map] at this
  · cases h
end K11

set_option Elab.async false
set_option linter.all false
set_option maxRecDepth 100000
set_option maxHeartbeats 1000000
namespace K11
open PySem PySem.Spec PyProof.Rows L2 Mi PySem.NumText
noncomputable def turn0 : FS := (fPar (fgCons (fgName 12) (fgCons (fgName 13) fgNil)) (fCons (fCall 2 F__law_take (fCons (fVar 1) (fCons (fOp2 kAddX (fCB kLen (fCons (fVar 8) fNil)) (fC (.int 1))) fNil))) (fCons (fCall 2 F__law_take (fCons (fVar 1) (fCons (fC (.int 4)) fNil))) fNil)))
noncomputable def turn1 : FS := (fAsg (fCall 2 F__law_some (fCons (fVar 1) (fCons (fLst (fCons (fC (.str " ")) (fCons (fC (.str "/")) (fCons (fC (.str "*")) (fCons (fC (.str "<")) (fCons (fC (.str "-")) (fCons (fC (.str "0")) (fCons (fC (.str "1")) (fCons (fC (.str " / ")) (fCons (fC (.str " *")) (fCons (fC (.str "a")) (fCons (fC (.str "\n")) (fCons (fC (.str "")) (fCons (fC (.str "<<")) (fCons (fC (.str "9999999999")) fNil))))))))))))))) fNil))) (fgName 14))
noncomputable def turn2 : FS := (fAsg (fOp2 kAddX (fOp2 kAddX (fSl kSl (fVar 8) fNoPart (fPart (fVar 12))) (fVar 14)) (fSl kSl (fVar 8) (fPart (fOp2 kAddX (fVar 12) (fIf (fTest (fOp2 kLt (fVar 13) (fC (.int 2)))) (fC (.int 0)) (fCall 2 F__law_take (fCons (fVar 1) (fCons (fC (.int 3)) fNil)))))) fNoPart)) (fgName 15))
noncomputable def turn3 : FS := (fAsg (fCall 2 F__law_some (fCons (fVar 1) (fCons (fLst (fCons (fVar 15) (fCons (fVar 15) (fCons (fVar 15) (fCons (fSl kSl (fVar 8) fNoPart (fPart (fVar 12))) (fCons (fC (.str "")) (fCons (fC (.str "* * / * *")) (fCons (fC (.str "0 / 0")) (fCons (fC (.str "* / *")) (fCons (fC (.str "0 <1 / -0 0")) (fCons (fC (.str "0 1 2 / 0 1 2")) fNil))))))))))) fNil))) (fgName 15))
noncomputable def turn4 : FS := (fIfS (fNot (fTest (fCall 2 F__law_alike (fCons (fCall 1 F_read_land (fCons (fVar 15) fNil)) (fCons (fCall 1 F__law_read (fCons (fVar 15) fNil)) fNil))))) (fRet (fC (.bl false))) fNext)
noncomputable def turnS : FS := (fSeq turn0 (fSeq turn1 (fSeq turn2 (fSeq turn3 turn4))))
noncomputable def lap0 : FS := (fAsg (fOp2 kAddX (fC (.int 2)) (fCall 2 F__law_take (fCons (fVar 1) (fCons (fC (.int 6)) fNil)))) (fgName 3))
noncomputable def lap1 : FS := (fAsg (fLst (fCons (fC (.int 0)) (fCons (fC (.int 1)) (fCons (fOp1 kNeg (fC (.int 1))) (fCons (fC (.int 7)) (fCons (fOp1 kNeg (fC (.int 30))) (fCons (fOp2 kSub (fOp2 kPow (fC (.int 10)) (fC (.int 9))) (fC (.int 1))) (fCons (fOp2 kSub (fC (.int 1)) (fOp2 kPow (fC (.int 10)) (fC (.int 9)))) fNil)))))))) (fgName 4))
noncomputable def lap2 : FS := (fAsg (fOp1 kTupOf (fLc (fiRng1 (fCons (fVar 3) fNil)) (fgName 6) fYes (fOp1 kTupOf (fLc (fiRng1 (fCons (fVar 3) fNil)) (fgName 7) fYes (fIf (fTest (fOp2 kEq (fCall 2 F__law_take (fCons (fVar 1) (fCons (fC (.int 4)) fNil))) (fC (.int 0)))) (fC .non) (fTupX (fCons (fCall 2 F__law_some (fCons (fVar 1) (fCons (fVar 4) fNil))) (fCons (fCall 2 F__law_take (fCons (fVar 1) (fCons (fC (.int 2)) fNil))) fNil)))) [7])) [6])) (fgName 5))
noncomputable def lap3 : FS := (fAsg (fM1 kJoin (fC (.str " / ")) (fLc (fiSeq (fVar 5)) (fgName 9) fYes (fM1 kJoin (fC (.str " ")) (fLc (fiSeq (fVar 9)) (fgName 10) fYes (fCall 1 F__law_word_of (fCons (fVar 10) fNil)) [10])) [9])) (fgName 8))
noncomputable def lap4 : FS := (fIfS (fNot (fTest (fCall 2 F__law_alike (fCons (fLst (fCons (fCall 1 F_land_text (fCons (fVar 5) fNil)) (fCons (fCall 1 F_read_land (fCons (fVar 8) fNil)) fNil))) (fCons (fLst (fCons (fVar 8) (fCons (fVar 5) fNil))) fNil))))) (fRet (fC (.bl false))) fNext)
noncomputable def lap5 : FS := (fFor (fiRng1 (fCons (fC (.int 8)) fNil)) (fgName 11) turnS)
noncomputable def lapS : FS := (fSeq lap0 (fSeq lap1 (fSeq lap2 (fSeq lap3 (fSeq lap4 lap5)))))
theorem law_split : f_law = fSeq (fAsgSto 1 (fCall 1 F__law_bag (fCons (fVar 0) fNil))) (fSeq (fFor (fiRng1 (fCons (fC (.int 6)) fNil)) (fgName 2) lapS) (fRet (fC (.bl true)))) := rfl
end K11

set_option Elab.async false
set_option linter.all false
set_option maxRecDepth 100000
set_option maxHeartbeats 1000000
namespace K11
open PySem PySem.Spec PyProof.Rows L2 Mi PySem.NumText
theorem take_is : F__law_take = takeF := rfl
theorem some_is : F__law_some = someF := rfl
theorem bag_is : F__law_bag = bagF := rfl
abbrev bg : Sl := some (.ref 0, .pur)
variable (x0 x2 x3 x4 x5 x6 x7 x8 x9 x10 x11 x12 x13 x14 x15 : Sl)
theorem lap0_eq {S : Sto} (h : Bag S) : ∃ v S', lap0 [x0, bg, x2, x3, x4, x5, x6, x7, x8, x9, x10, x11, x12, x13, x14, x15] S = .ok (.nx [x0, bg, x2, some (.int v, .pur), x4, x5, x6, x7, x8, x9, x10, x11, x12, x13, x14, x15]) S' ∧ 2 ≤ v ∧ v ≤ 7 ∧ Bag S' := by
  obtain ⟨v, S', e, a, b, c⟩ := take_call h (many := 6) (by decide) (by decide)
  refine ⟨2 + v, S', ?_, by omega, by omega, c⟩
  unfold lap0
  simp [take_is, e]
def nums : List Int := [0, 1, -1, 7, -30, 999999999, -999999999]
theorem lap1_eq (S : Sto) : lap1 [x0, bg, x2, x3, x4, x5, x6, x7, x8, x9, x10, x11, x12, x13, x14, x15] S = .ok (.nx [x0, bg, x2, x3, some (.lst (nums.map D.int), .own), x5, x6, x7, x8, x9, x10, x11, x12, x13, x14, x15]) S := by
  unfold lap1
  have cp : CPow 10 9 := by unfold CPow; decide
  simp [cp, sz_eq, nums]
theorem collect {α : Type} (f : α → D) (Q : α → Prop) : ∀ (ys : List D), (∀ y ∈ ys, ∃ a, y = f a ∧ Q a) → ∃ l : List α, ys = l.map f ∧ ∀ a ∈ l, Q a
  | [], _ => ⟨[], rfl, fun _ z => nomatch z⟩
  | y :: ys, h => by
    obtain ⟨a, e, q⟩ := h y List.mem_cons_self
    obtain ⟨l, e2, q2⟩ := collect f Q ys fun z hz => h z (List.mem_cons_of_mem _ hz)
    exact ⟨a :: l, by rw [e, e2]; rfl, fun b hb => (List.mem_cons.mp hb).elim (fun z => z ▸ q) (q2 b)⟩
theorem rgL_len (a : Int) (n : Nat) : (rgL a n).length = n := by unfold rgL; rw [List.length_map, List.length_range]
theorem nums_no : ∀ d ∈ nums.map D.int, noLst d = true := by
  intro d hd
  obtain ⟨i, _, rfl⟩ := List.mem_map.mp hd
  rfl
theorem lap2_eq {S : Sto} (h : Bag S) {many : Int} (m1 : 2 ≤ many) (m2 : many ≤ 7) : ∃ (L : Land) (S' : Sto), lap2 [x0, bg, x2, some (.int many, .pur), some (.lst (nums.map D.int), .own), x5, x6, x7, x8, x9, x10, x11, x12, x13, x14, x15] S =
    .ok (.nx [x0, bg, x2, some (.int many, .pur), some (.lst (nums.map D.int), .own), some (dLand L, .pur), x6, x7, x8, x9, x10, x11, x12, x13, x14, x15]) S' ∧ Bag S' ∧ GoodLand L ∧ okL L = true := by
  unfold lap2
  -- one cell
  have cell : ∀ (a6 : Sl) (S : Sto), Bag S → ∀ x : D, ∃ y S', fIf (fTest (fOp2 kEq (fCall 2 F__law_take (fCons (fVar 1) (fCons (fC (.int 4)) fNil))) (fC (.int 0)))) (fC .non) (fTupX (fCons (fCall 2 F__law_some (fCons (fVar 1) (fCons (fVar 4) fNil))) (fCons (fCall 2 F__law_take (fCons (fVar 1) (fCons (fC (.int 2)) fNil))) fNil)))
      [dmx x0, bg, dmx x2, some (.int many, .pur), some (.lst (nums.map D.int), .frn), dmx x5, a6, some (x, .pur), dmx x8, dmx x9, dmx x10, dmx x11, dmx x12, dmx x13, dmx x14, dmx x15] S = .ok (y, .pur) S' ∧ Bag S' ∧ ∃ l : Lim, y = dLim l ∧ GoodLim l := by
    intro a6 S hS x
    obtain ⟨v, S1, e1, a1, b1, c1⟩ := take_call hS (many := 4) (by decide) (by decide)
    by_cases hv : v = 0
    · exact ⟨.non, S1, by simp [take_is, e1, hv], c1, none, rfl, trivial⟩
    · obtain ⟨d, S2, e2, a2, c2⟩ := some_call c1 (l := nums.map D.int) (by decide) (by decide) nums_no
      obtain ⟨s, S3, e3, a3, b3, c3⟩ := take_call c2 (many := 2) (by decide) (by decide)
      obtain ⟨n, hn, rfl⟩ := List.mem_map.mp a2
      refine ⟨.xtp [.int n, .int s], S3, by simp [take_is, some_is, e1, hv, e2, e3, sz_eq], c3, some (n, s), rfl, ?_⟩
      have hb : ∀ n ∈ nums, -1000000000 < n ∧ n < 1000000000 := by decide
      exact ⟨(hb n hn).1, (hb n hn).2, by omega⟩
  have hn : 0 ≤ many := by omega
  have hk : many.toNat ≤ 7 := by omega
  have hb1 : -4611686018427387904 ≤ many := by omega
  have hb2 : many < 4611686018427387904 := by omega
  -- one row
  have row : ∀ (x : D) (S : Sto), Bag S → ∃ y S', fOp1 kTupOf (fLc (fiRng1 (fCons (fVar 3) fNil)) (fgName 7) fYes (fIf (fTest (fOp2 kEq (fCall 2 F__law_take (fCons (fVar 1) (fCons (fC (.int 4)) fNil))) (fC (.int 0)))) (fC .non) (fTupX (fCons (fCall 2 F__law_some (fCons (fVar 1) (fCons (fVar 4) fNil))) (fCons (fCall 2 F__law_take (fCons (fVar 1) (fCons (fC (.int 2)) fNil))) fNil)))) [7])
      [dmx x0, bg, dmx x2, some (.int many, .pur), some (.lst (nums.map D.int), .frn), dmx x5, some (x, .pur), dmx x7, dmx x8, dmx x9, dmx x10, dmx x11, dmx x12, dmx x13, dmx x14, dmx x15] S = .ok (y, .pur) S' ∧ Bag S' ∧ ∃ r : List Lim, y = dRow r ∧ (∀ l ∈ r, GoodLim l) ∧ r.length = many.toNat := by
    intro x S hS
    have dd : ∀ z : Sl, dmx (dmx z) = dmx z := by
      intro z
      rcases z with _ | ⟨d, m⟩
      · rfl
      · cases m <;> rfl
    obtain ⟨ys, S', e1, e2, e3, e4⟩ := lc_some (fg := fgName 7) (m := .pur) (env := [dmx x0, bg, dmx x2, some (.int many, .pur), some (.lst (nums.map D.int), .frn), dmx x5, some (x, .pur), none, dmx x8, dmx x9, dmx x10, dmx x11, dmx x12, dmx x13, dmx x14, dmx x15])
      (fe := fIf (fTest (fOp2 kEq (fCall 2 F__law_take (fCons (fVar 1) (fCons (fC (.int 4)) fNil))) (fC (.int 0)))) (fC .non) (fTupX (fCons (fCall 2 F__law_some (fCons (fVar 1) (fCons (fVar 4) fNil))) (fCons (fCall 2 F__law_take (fCons (fVar 1) (fCons (fC (.int 2)) fNil))) fNil)))) Bag (fun y => ∃ l : Lim, y = dLim l ∧ GoodLim l) (rgL 0 many.toNat) S hS (by
        intro z hz S1 h1
        obtain ⟨y, S2, q1, q2, q3⟩ := cell (some (x, .pur)) S1 h1 z
        refine ⟨_, y, .pur, S2, ?_, q1, q2, upO_pur _, q3⟩
        simp [cmMd])
    obtain ⟨r, er, gr⟩ := collect dLim GoodLim ys e4
    subst er
    rw [List.length_map, rgL_len] at e3
    refine ⟨dRow r, S', ?_, e2, r, rfl, gr, e3⟩
    have hz : many.toNat ≤ 16777216 := by omega
    simp [hb1, hb2, rgL_len, hz, sz_eq, demote_any, dd, e1, kTup_lst _ _ _ (noLsts_dRow r), dRow]
  obtain ⟨ys, S', e1, e2, e3, e4⟩ := lc_some (fg := fgName 6) (m := .pur) (env := [dmx x0, bg, dmx x2, some (.int many, .pur), some (.lst (nums.map D.int), .frn), dmx x5, none, dmx x7, dmx x8, dmx x9, dmx x10, dmx x11, dmx x12, dmx x13, dmx x14, dmx x15])
    (fe := fOp1 kTupOf (fLc (fiRng1 (fCons (fVar 3) fNil)) (fgName 7) fYes (fIf (fTest (fOp2 kEq (fCall 2 F__law_take (fCons (fVar 1) (fCons (fC (.int 4)) fNil))) (fC (.int 0)))) (fC .non) (fTupX (fCons (fCall 2 F__law_some (fCons (fVar 1) (fCons (fVar 4) fNil))) (fCons (fCall 2 F__law_take (fCons (fVar 1) (fCons (fC (.int 2)) fNil))) fNil)))) [7])) Bag (fun y => ∃ r : List Lim, y = dRow r ∧ (∀ l ∈ r, GoodLim l) ∧ r.length = many.toNat) (rgL 0 many.toNat) S h (by
      intro z hz S1 h1
      obtain ⟨y, S2, q1, q2, q3⟩ := row z S1 h1
      refine ⟨_, y, .pur, S2, ?_, q1, q2, upO_pur _, q3⟩
      have : cmMd z .pur = .pur := by simp [cmMd]
      simp [this])
  obtain ⟨L, eL, gL⟩ := collect dRow (fun r => (∀ l ∈ r, GoodLim l) ∧ r.length = many.toNat) ys e4
  subst eL
  rw [List.length_map, rgL_len] at e3
  have hz : many.toNat ≤ 16777216 := by omega
  refine ⟨L, S', ?_, e2, fun r hr => (gL r hr).1, ?_⟩
  · simp [hb1, hb2, rgL_len, hz, sz_eq, demote_any, e1, kTup_lst _ _ _ (noLsts_dLand L), dLand]
  · unfold okL
    simp only [Bool.and_eq_true, decide_eq_true_eq, List.all_eq_true]
    exact ⟨⟨by omega, by omega⟩, fun r hr => by rw [(gL r hr).2, e3]⟩
end K11

set_option Elab.async false
set_option linter.all false
set_option maxRecDepth 100000
set_option maxHeartbeats 1000000
namespace K11
open PySem PySem.Spec PyProof.Rows L2 Mi PySem.NumText
variable (x0 x2 x3 x4 x5 x6 x7 x8 x9 x10 x11 x12 x13 x14 x15 : Sl)
theorem okL_len {L : Land} (h : okL L = true) : L.length ≤ 7 ∧ ∀ r ∈ L, r.length ≤ 7 := by
  unfold okL at h
  simp only [Bool.and_eq_true, decide_eq_true_eq] at h
  obtain ⟨⟨h1, h2⟩, h3⟩ := h
  refine ⟨h2, fun r hr => ?_⟩
  have := of_decide_eq_true (List.all_eq_true.mp h3 r hr)
  omega
theorem lap3_eq (L : Land) (S : Sto) (g : GoodLand L) (h : L.length ≤ 7) (h2 : ∀ r ∈ L, r.length ≤ 7) : lap3 [x0, bg, x2, x3, x4, some (dLand L, .pur), x6, x7, x8, x9, x10, x11, x12, x13, x14, x15] S =
    .ok (.nx [x0, bg, x2, x3, x4, some (dLand L, .pur), x6, x7, some (.str (textOf L), .pur), x9, x10, x11, x12, x13, x14, x15]) S := by
  unfold lap3
  have e1 : (" " : Str).length = 1 := by decide +kernel
  have e3 : (" / " : Str).length = 3 := by decide +kernel
  have inn : ∀ r : List Lim, (∀ l ∈ r, GoodLim l) → r.length ≤ 7 → fM1 kJoin (fC (.str " ")) (fLc (fiSeq (fVar 9)) (fgName 10) fYes (fCall 1 F__law_word_of (fCons (fVar 10) fNil)) [10]) [dmx x0, bg, dmx x2, dmx x3, dmx x4, some (dLand L, .pur), dmx x6, dmx x7, dmx x8, some (dRow r, .pur), dmx x10, dmx x11, dmx x12, dmx x13, dmx x14, dmx x15] S = .ok (.str (rowText r), .pur) S := by
    intro r gr hr
    have dd : ∀ z : Sl, dmx (dmx z) = dmx z := by
      intro z
      rcases z with _ | ⟨d, m⟩
      · rfl
      · cases m <;> rfl
    have lc : lcLoop (fgName 10) fYes (fCall 1 F__law_word_of (fCons (fVar 10) fNil)) .pur [dmx x0, bg, dmx x2, dmx x3, dmx x4, some (dLand L, .pur), dmx x6, dmx x7, dmx x8, some (dRow r, .pur), none, dmx x11, dmx x12, dmx x13, dmx x14, dmx x15] (r.map dLim) S = .ok (r.map fun l => D.str (wordOf l)) S := by
      refine lc_pure1 dLim (fun l => D.str (wordOf l)) r fun l hl => ⟨[dmx x0, bg, dmx x2, dmx x3, dmx x4, some (dLand L, .pur), dmx x6, dmx x7, dmx x8, some (dRow r, .pur), some (dLim l, .pur), dmx x11, dmx x12, dmx x13, dmx x14, dmx x15], .pur, ?_, ?_, upO_pur _⟩
      · simp [cmMd_dLim]
      · have := word_of_eq l S (gr l hl) numS_short
        simp [this]
    have hz : r.length ≤ 16777216 := by omega
    have kj := kJoin_strs " " (r.map wordOf) .pur .own S 12 (fun w hw => by
      obtain ⟨l, hl, rfl⟩ := List.mem_map.mp hw
      exact word_len (gr l hl)) (by rw [List.length_map, e1]; omega)
    rw [dStrs_map] at kj
    have ds : dRow r = .tup (r.map dLim) := rfl
    rw [fM1_eq]
    simp only [fC_eq, Res.bind_ok]
    rw [fLc_eq]
    simp [fiSeq_eq, ds, D.seqOf?, sz_eq, hz, demote_any, dd]
    rw [← ds, lc]
    simp [kj]
    rfl
  have lc : lcLoop (fgName 9) fYes (fM1 kJoin (fC (.str " ")) (fLc (fiSeq (fVar 9)) (fgName 10) fYes (fCall 1 F__law_word_of (fCons (fVar 10) fNil)) [10])) .pur [dmx x0, bg, dmx x2, dmx x3, dmx x4, some (dLand L, .pur), dmx x6, dmx x7, dmx x8, none, dmx x10, dmx x11, dmx x12, dmx x13, dmx x14, dmx x15] (L.map dRow) S = .ok (L.map fun r => D.str (rowText r)) S := by
    refine lc_pure1 dRow (fun r => D.str (rowText r)) L fun r hr => ⟨[dmx x0, bg, dmx x2, dmx x3, dmx x4, some (dLand L, .pur), dmx x6, dmx x7, dmx x8, some (dRow r, .pur), dmx x10, dmx x11, dmx x12, dmx x13, dmx x14, dmx x15], .pur, ?_, inn r (g r hr) (h2 r hr), upO_pur _⟩
    simp [cmMd_dRow]
  have hz : L.length ≤ 16777216 := by omega
  have kj := kJoin_strs " / " (L.map rowText) .pur .own S 91 (fun w hw => by
    obtain ⟨r, hr, rfl⟩ := List.mem_map.mp hw
    exact row_len (g r hr) (h2 r hr)) (by rw [List.length_map, e3]; omega)
  rw [dStrs_map] at kj
  have ds : dLand L = .tup (L.map dRow) := rfl
  rw [fAsg_eq, fM1_eq]
  simp only [fC_eq, Res.bind_ok]
  rw [fLc_eq]
  simp [fiSeq_eq, ds, D.seqOf?, sz_eq, hz, demote_any]
  rw [← ds, lc]
  simp [kj]
  rfl
/-- a text that is short and plain -/
structure TextOk (z : Str) : Prop where
  len : z.length ≤ 3000
  ch : ∀ c ∈ sg z, c < 1114112
theorem text_ok {L : Land} (g : GoodLand L) (h : L.length ≤ 7) (h2 : ∀ r ∈ L, r.length ≤ 7) : (textOf L).length ≤ 658 ∧ ∀ c ∈ sg (textOf L), c < 1114112 := by
  refine ⟨text_len g h h2, fun c hc => ?_⟩
  rcases mem_join hc with z | ⟨w, hw, z⟩
  · rw [lsep] at z
    have : c = 32 ∨ c = 47 ∨ c = 32 := by simpa using z
    omega
  · obtain ⟨r, hr, rfl⟩ := List.mem_map.mp hw
    have := (row_chars (g r hr) c z).2
    omega
theorem pair_show {t : Str} {L : Land} (ht : t.length ≤ 658) (hc : ∀ c ∈ sg t, c < 1114112) (g : GoodLand L) (h : L.length ≤ 7) (h2 : ∀ r ∈ L, r.length ≤ 7) :
    (PyData.list [.str t, pLand L]).showable = true ∧ (PyData.list [.str t, pLand L]).depth ≤ 60 ∧ (PyData.list [.str t, pLand L]).shown.length ≤ sizeLine ∧ (PyData.list [.str t, pLand L]).canLay0 = true := by
  obtain ⟨s1, s2⟩ := pLand_show g h h2
  refine ⟨?_, ?_, ?_, ?_⟩
  · simp only [PyData.showable, PyData.showableAll, s1, Bool.and_self]
  · have := depth_pLand L
    simp only [PyData.depth, PyData.depthAll]
    omega
  · simp only [PyData.shown, PyData.shownAll]
    have h1 := listText_len_le [reprText t, (pLand L).shown]
    have h3 := StrLaws.reprText_len t (fun c hc' => by have := hc c hc'; omega)
    simp only [List.map_cons, List.map_nil, List.sum_cons, List.sum_nil, List.length_cons, List.length_nil] at h1
    rw [sz_eq]
    omega
  · simp only [PyData.canLay0, PyData.canLayAll0, lay_pLand, Bool.and_true]
    unfold PyData.strOk
    rw [← Array.all_toList, List.all_eq_true]
    intro c hc'
    exact decide_eq_true (hc c hc')
end K11

set_option Elab.async false
set_option linter.all false
set_option maxRecDepth 100000
set_option maxHeartbeats 1000000
namespace K11
open PySem PySem.Spec PyProof.Rows L2 Mi PySem.NumText
variable (x0 x2 x3 x4 x5 x6 x7 x8 x9 x10 x11 x12 x13 x14 x15 : Sl)
theorem lap4_eq (L : Land) (S : Sto) (g : GoodLand L) (o : okL L = true) : lap4 [x0, bg, x2, x3, x4, some (dLand L, .pur), x6, x7, some (.str (textOf L), .pur), x9, x10, x11, x12, x13, x14, x15] S =
    .ok (.nx [x0, bg, x2, x3, x4, some (dLand L, .pur), x6, x7, some (.str (textOf L), .pur), x9, x10, x11, x12, x13, x14, x15]) S := by
  obtain ⟨h, h2⟩ := okL_len o
  obtain ⟨t1, t2⟩ := text_ok g h h2
  obtain ⟨s1, s2, s3, s4⟩ := pair_show t1 t2 g h h2
  have a := land_text_eq L S g h h2
  have rt := read_land_eq (textOf L) S (by omega)
  rw [read_text g o] at rt
  have rt' : F_read_land [.str (textOf L)] S = .ok (dLand L, .pur) S := rt
  have tp : (D.lst [.str (textOf L), dLand L]).toPy = some (.list [.str (textOf L), pLand L]) := by
    simp only [D.toPy, toPys, toPy_dLand, Option.map_some, Option.bind_some]
    try rfl
  have al := alike_eq (S := S) tp s1 s2 s3 s4
  unfold lap4
  simp [a, rt', al, sameLen_ok, sz_eq]
theorem turn0_eq {S : Sto} (t : Str) (ht : t.length ≤ 658) (h : Bag S) : ∃ (a w : Nat) (S' : Sto), turn0 [x0, bg, x2, x3, x4, x5, x6, x7, some (.str t, .pur), x9, x10, x11, x12, x13, x14, x15] S =
    .ok (.nx [x0, bg, x2, x3, x4, x5, x6, x7, some (.str t, .pur), x9, x10, x11, some (.int a, .pur), some (.int w, .pur), x14, x15]) S' ∧ Bag S' := by
  obtain ⟨v, S1, e1, a1, b1, c1⟩ := take_call h (many := (t.length : Int) + 1) (by omega) (by omega)
  obtain ⟨w, S2, e2, a2, b2, c2⟩ := take_call c1 (many := 4) (by decide) (by decide)
  obtain ⟨a, rfl⟩ := Int.eq_ofNat_of_zero_le a1
  obtain ⟨w, rfl⟩ := Int.eq_ofNat_of_zero_le a2
  refine ⟨a, w, S2, ?_, c2⟩
  have z : t.length ≤ 16777216 := by omega
  unfold turn0
  simp [take_is, e1, e2, sz_eq, z, parMd]
def signs : List Str := [" ", "/", "*", "<", "-", "0", "1", " / ", " *", "a", "\n", "", "<<", "9999999999"]
theorem strs_no (l : List Str) : ∀ d ∈ l.map D.str, noLst d = true := by
  intro d hd
  obtain ⟨i, _, rfl⟩ := List.mem_map.mp hd
  rfl
theorem turn1_eq {S : Sto} (h : Bag S) : ∃ (s : Str) (S' : Sto), turn1 [x0, bg, x2, x3, x4, x5, x6, x7, x8, x9, x10, x11, x12, x13, x14, x15] S =
    .ok (.nx [x0, bg, x2, x3, x4, x5, x6, x7, x8, x9, x10, x11, x12, x13, some (.str s, .pur), x15]) S' ∧ Bag S' ∧ s ∈ signs := by
  obtain ⟨d, S2, e2, a2, c2⟩ := some_call h (l := signs.map D.str) (by decide) (by decide) (strs_no signs)
  obtain ⟨s, hs, rfl⟩ := List.mem_map.mp a2
  refine ⟨s, S2, ?_, c2, hs⟩
  unfold turn1
  simp only [signs, List.map_cons, List.map_nil] at e2
  simp [some_is, e2, sz_eq]
theorem signs_ok : ∀ s ∈ signs, s.length ≤ 10 ∧ ∀ c ∈ sg s, c < 1114112 := by decide +kernel
theorem turn2_eq {S : Sto} (t s : Str) (a w : Nat) (ht : t.length ≤ 658) (hc : ∀ c ∈ sg t, c < 1114112) (hs : s.length ≤ 10) (hsc : ∀ c ∈ sg s, c < 1114112) (h : Bag S) : ∃ (b : Str) (S' : Sto), turn2 [x0, bg, x2, x3, x4, x5, x6, x7, some (.str t, .pur), x9, x10, x11, some (.int a, .pur), some (.int w, .pur), some (.str s, .pur), x15] S =
    .ok (.nx [x0, bg, x2, x3, x4, x5, x6, x7, some (.str t, .pur), x9, x10, x11, some (.int a, .pur), some (.int w, .pur), some (.str s, .pur), some (.str b, .pur)]) S' ∧ Bag S' ∧ TextOk b := by
  have l1 : ∀ k, (mk ((sg t).take k)).length ≤ 658 := fun k => by
    rw [← len_sg, sg_mk, List.length_take]
    have := len_sg t
    omega
  have l2 : ∀ k, (mk ((sg t).drop k)).length ≤ 658 := fun k => by
    rw [← len_sg, sg_mk, List.length_drop]
    have := len_sg t
    omega
  have fin : ∀ k, TextOk (mk ((sg t).take a) ++ s ++ mk ((sg t).drop k)) := fun k => by
    constructor
    · rw [Str.length_append, Str.length_append]
      have := l1 a
      have := l2 k
      omega
    · intro c hc'
      rw [sg_app, sg_app, sg_mk, sg_mk] at hc'
      rcases List.mem_append.mp hc' with z | z
      · rcases List.mem_append.mp z with z | z
        · exact hc c (List.mem_of_mem_take z)
        · exact hsc c z
      · exact hc c (List.mem_of_mem_drop z)
  have z1 : t.length ≤ 16777216 := by omega
  have z2 : (mk ((sg t).take a)).length + s.length ≤ 16777216 := by have := l1 a; omega
  have z3 : ∀ k, (mk ((sg t).take a) ++ s).length + (mk ((sg t).drop k)).length ≤ 16777216 := fun k => by
    rw [Str.length_append]
    have := l1 a
    have := l2 k
    omega
  by_cases hw : (w : Int) < 2
  · refine ⟨_, S, ?_, h, fin a⟩
    have hw' : w < 2 := by omega
    have z4 := z3 a
    rw [Str.length_append] at z4
    unfold turn2
    simp [hw, hw', sz_eq, z1, z2, z4, cutS_take, cutS_drop, Str.length_append]
  · obtain ⟨v, S1, e1, a1, b1, c1⟩ := take_call h (many := 3) (by decide) (by decide)
    obtain ⟨v, rfl⟩ := Int.eq_ofNat_of_zero_le a1
    refine ⟨_, S1, ?_, c1, fin (a + v)⟩
    unfold turn2
    have hw' : ¬ w < 2 := by omega
    have z4 := z3 (a + v)
    rw [Str.length_append] at z4
    have q : cutS t (some ((a : Int) + (v : Int))) none = mk ((sg t).drop (a + v)) := by
      rw [← Int.natCast_add, cutS_drop]
    simp [take_is, hw, hw', e1, sz_eq, z1, z2, z4, cutS_take, q, Str.length_append]
end K11

set_option Elab.async false
set_option linter.all false
set_option maxRecDepth 100000
set_option maxHeartbeats 1000000
namespace K11
open PySem PySem.Spec PyProof.Rows L2 Mi PySem.NumText
variable (x0 x2 x3 x4 x5 x6 x7 x8 x9 x10 x11 x12 x13 x14 x15 : Sl)
def lits : List Str := ["", "* * / * *", "0 / 0", "* / *", "0 <1 / -0 0", "0 1 2 / 0 1 2"]
theorem lits_ok : ∀ s ∈ lits, s.length ≤ 20 ∧ ∀ c ∈ sg s, c < 1114112 := by decide +kernel
theorem turn3_eq {S : Sto} (t b : Str) (a : Nat) (ht : t.length ≤ 658) (hc : ∀ c ∈ sg t, c < 1114112) (hb : TextOk b) (h : Bag S) : ∃ (b' : Str) (S' : Sto), turn3 [x0, bg, x2, x3, x4, x5, x6, x7, some (.str t, .pur), x9, x10, x11, some (.int a, .pur), x13, x14, some (.str b, .pur)] S =
    .ok (.nx [x0, bg, x2, x3, x4, x5, x6, x7, some (.str t, .pur), x9, x10, x11, some (.int a, .pur), x13, x14, some (.str b', .pur)]) S' ∧ Bag S' ∧ TextOk b' := by
  have z1 : t.length ≤ 16777216 := by omega
  have l1 : TextOk (mk ((sg t).take a)) := by
    constructor
    · rw [← len_sg, sg_mk, List.length_take]
      have := len_sg t
      omega
    · intro c z
      rw [sg_mk] at z
      exact hc c (List.mem_of_mem_take z)
  obtain ⟨d, S2, e2, a2, c2⟩ := some_call h (l := ([b, b, b, mk ((sg t).take a)] ++ lits).map D.str) (by simp) (by rw [List.length_map]; show (10:Nat) < _; decide) (strs_no _)
  obtain ⟨s, hs, rfl⟩ := List.mem_map.mp a2
  refine ⟨s, S2, ?_, c2, ?_⟩
  · unfold turn3
    simp only [lits, List.map_cons, List.map_nil, List.cons_append, List.nil_append] at e2
    simp [some_is, e2, sz_eq, z1, cutS_take]
  · rcases List.mem_append.mp hs with z | z
    · simp only [List.mem_cons, List.not_mem_nil, or_false] at z
      rcases z with rfl | rfl | rfl | rfl
      · exact hb
      · exact hb
      · exact hb
      · exact l1
    · obtain ⟨q1, q2⟩ := lits_ok s z
      exact ⟨by omega, q2⟩
theorem turn4_eq (b : Str) (S : Sto) (hb : TextOk b) : turn4 [x0, bg, x2, x3, x4, x5, x6, x7, x8, x9, x10, x11, x12, x13, x14, some (.str b, .pur)] S =
    .ok (.nx [x0, bg, x2, x3, x4, x5, x6, x7, x8, x9, x10, x11, x12, x13, x14, some (.str b, .pur)]) S := by
  obtain ⟨o, r1, r2, e⟩ := readings b S (by have := hb.len; omega) hb.ch
  have al : F__law_alike [encR o, encR o] S = .ok (.bl true, .pur) S := by
    cases o with
    | none =>
      refine alike_eq (d := .non) (p := .none) rfl ?_ ?_ ?_ ?_
      · simp only [PyData.showable]
      · simp only [PyData.depth]; decide
      · simp only [PyData.shown, sz_eq]; decide +kernel
      · simp only [PyData.canLay0]
    | some L =>
      obtain ⟨g, h, h2⟩ := readR_good e.symm
      obtain ⟨s1, s2⟩ := pLand_show g h h2
      exact alike_eq (toPy_dLand L) s1 (by have := depth_pLand L; omega) (by rw [sz_eq]; omega) (lay_pLand L)
  unfold turn4
  simp [r1, r2, al, sameLen_ok]
theorem turnS_eq {S : Sto} (t : Str) (ht : t.length ≤ 658) (hc : ∀ c ∈ sg t, c < 1114112) (h : Bag S) : ∃ (y12 y13 y14 y15 : Sl) (S' : Sto), turnS [x0, bg, x2, x3, x4, x5, x6, x7, some (.str t, .pur), x9, x10, x11, x12, x13, x14, x15] S =
    .ok (.nx [x0, bg, x2, x3, x4, x5, x6, x7, some (.str t, .pur), x9, x10, x11, y12, y13, y14, y15]) S' ∧ Bag S' := by
  obtain ⟨a, w, S1, e0, h1⟩ := turn0_eq x0 x2 x3 x4 x5 x6 x7 x9 x10 x11 x12 x13 x14 x15 t ht h
  obtain ⟨s, S2, e1, h2, hs⟩ := turn1_eq x0 x2 x3 x4 x5 x6 x7 (some (.str t, .pur)) x9 x10 x11 (some (.int a, .pur)) (some (.int w, .pur)) x14 x15 h1
  obtain ⟨q1, q2⟩ := signs_ok s hs
  obtain ⟨b, S3, e2, h3, hb⟩ := turn2_eq x0 x2 x3 x4 x5 x6 x7 x9 x10 x11 x15 t s a w ht hc q1 q2 h2
  obtain ⟨b', S4, e3, h4, hb'⟩ := turn3_eq x0 x2 x3 x4 x5 x6 x7 x9 x10 x11 (some (.int w, .pur)) (some (.str s, .pur)) t b a ht hc hb h3
  have e4 := turn4_eq x0 x2 x3 x4 x5 x6 x7 (some (.str t, .pur)) x9 x10 x11 (some (.int a, .pur)) (some (.int w, .pur)) (some (.str s, .pur)) b' S4 hb'
  refine ⟨some (.int a, .pur), some (.int w, .pur), some (.str s, .pur), some (.str b', .pur), S4, ?_, h4⟩
  unfold turnS
  simp only [fSeq_eq, e0, e1, e2, e3, e4, Res.bind_ok]
theorem lap5_eq {S : Sto} (t : Str) (ht : t.length ≤ 658) (hc : ∀ c ∈ sg t, c < 1114112) (h : Bag S) : ∃ (y11 y12 y13 y14 y15 : Sl) (S' : Sto), lap5 [x0, bg, x2, x3, x4, x5, x6, x7, some (.str t, .pur), x9, x10, x11, x12, x13, x14, x15] S =
    .ok (.nx [x0, bg, x2, x3, x4, x5, x6, x7, some (.str t, .pur), x9, x10, y11, y12, y13, y14, y15]) S' ∧ Bag S' := by
  obtain ⟨e, S', h1, ⟨y11, y12, y13, y14, y15, rfl, h2⟩⟩ := for_keep (fg := fgName 11) (f := turnS) (m := .pur)
    (fun _ e s => ∃ y11 y12 y13 y14 y15 : Sl, e = [x0, bg, x2, x3, x4, x5, x6, x7, some (.str t, .pur), x9, x10, y11, y12, y13, y14, y15] ∧ Bag s)
    (rgL 0 8) 0 _ S ⟨x11, x12, x13, x14, x15, rfl, h⟩ (by
      rintro i d env s - ⟨y11, y12, y13, y14, y15, rfl, hs⟩
      obtain ⟨z12, z13, z14, z15, s', q1, q2⟩ := turnS_eq x0 x2 x3 x4 x5 x6 x7 x9 x10 (some (d, cmMd d .pur)) y12 y13 y14 y15 t ht hc hs
      refine ⟨[x0, bg, x2, x3, x4, x5, x6, x7, some (.str t, .pur), x9, x10, some (d, .pur), z12, z13, z14, z15], s', ?_, ⟨some (d, .pur), z12, z13, z14, z15, rfl, q2⟩⟩
      have : cmMd d .pur = .pur := by simp [cmMd]
      rw [this] at q1 ⊢
      simp only [fgName_eq, List.length_cons, List.length_nil]
      simp [q1])
  refine ⟨y11, y12, y13, y14, y15, S', ?_, h2⟩
  unfold lap5
  rw [fFor_eq]
  simp [h1, forMd, sz_eq]
theorem lapS_eq {S : Sto} (h : Bag S) : ∃ (y3 y4 y5 y6 y7 y8 y9 y10 y11 y12 y13 y14 y15 : Sl) (S' : Sto), lapS [x0, bg, x2, x3, x4, x5, x6, x7, x8, x9, x10, x11, x12, x13, x14, x15] S =
    .ok (.nx [x0, bg, x2, y3, y4, y5, y6, y7, y8, y9, y10, y11, y12, y13, y14, y15]) S' ∧ Bag S' := by
  obtain ⟨v, S1, e0, v1, v2, h1⟩ := lap0_eq x0 x2 x3 x4 x5 x6 x7 x8 x9 x10 x11 x12 x13 x14 x15 h
  have e1 := lap1_eq x0 x2 (some (.int v, .pur)) x4 x5 x6 x7 x8 x9 x10 x11 x12 x13 x14 x15 S1
  obtain ⟨L, S2, e2, h2, g, o⟩ := lap2_eq x0 x2 x5 x6 x7 x8 x9 x10 x11 x12 x13 x14 x15 h1 v1 v2
  obtain ⟨n1, n2⟩ := okL_len o
  obtain ⟨t1, t2⟩ := text_ok g n1 n2
  have e3 := lap3_eq x0 x2 (some (.int v, .pur)) (some (.lst (nums.map D.int), .own)) x6 x7 x8 x9 x10 x11 x12 x13 x14 x15 L S2 g n1 n2
  have e4 := lap4_eq x0 x2 (some (.int v, .pur)) (some (.lst (nums.map D.int), .own)) x6 x7 x9 x10 x11 x12 x13 x14 x15 L S2 g o
  obtain ⟨y11, y12, y13, y14, y15, S3, e5, h3⟩ := lap5_eq x0 x2 (some (.int v, .pur)) (some (.lst (nums.map D.int), .own)) (some (dLand L, .pur)) x6 x7 x9 x10 x11 x12 x13 x14 x15 (textOf L) t1 t2 h2
  refine ⟨some (.int v, .pur), some (.lst (nums.map D.int), .own), some (dLand L, .pur), x6, x7, some (.str (textOf L), .pur), x9, x10, y11, y12, y13, y14, y15, S3, ?_, h3⟩
  unfold lapS
  simp only [fSeq_eq, e0, e1, e2, e3, e4, e5, Res.bind_ok]
end K11

set_option Elab.async false
set_option linter.all false
set_option maxRecDepth 100000
set_option maxHeartbeats 1000000
namespace K11
open PySem PySem.Spec PyProof.Rows L2 Mi PySem.NumText
theorem law_true (ns : List Int) (h : ns.length ≤ 63) : ∃ S' : Sto, F_law [.fls (ns.map D.int)] [] = .ok (.bl true, .pur) S' := by
  have b := bag_spec ns []
  have g := bag_good ns
  have n1 : noLsts ((cut ns none (some 63)).map fun i => D.int (if i < 0 then -i else i)) = true := by
    generalize cut ns none (some 63) = l
    induction l with
    | nil => rfl
    | cons a l ih => simp only [List.map_cons, noLsts, noLst, ih, Bool.and_self]
  have e0 : ∃ m, startEnv 16 [.fls (ns.map D.int)] = [some (.fls (ns.map D.int), m), none, none, none, none, none, none, none, none, none, none, none, none, none, none, none] := ⟨_, rfl⟩
  obtain ⟨m, e0⟩ := e0
  obtain ⟨e, S', h1, ⟨y2, y3, y4, y5, y6, y7, y8, y9, y10, y11, y12, y13, y14, y15, rfl, h2⟩⟩ := for_keep (fg := fgName 2) (f := lapS) (m := .pur)
    (fun _ e s => ∃ y2 y3 y4 y5 y6 y7 y8 y9 y10 y11 y12 y13 y14 y15 : Sl, e = [some (.fls (ns.map D.int), m), bg, y2, y3, y4, y5, y6, y7, y8, y9, y10, y11, y12, y13, y14, y15] ∧ Bag s)
    (rgL 0 6) 0 _ _ ⟨none, none, none, none, none, none, none, none, none, none, none, none, none, none, rfl, g⟩ (by
      rintro i d env s - ⟨y2, y3, y4, y5, y6, y7, y8, y9, y10, y11, y12, y13, y14, y15, rfl, hs⟩
      obtain ⟨z3, z4, z5, z6, z7, z8, z9, z10, z11, z12, z13, z14, z15, s', q1, q2⟩ := lapS_eq (some (.fls (ns.map D.int), m)) (some (d, cmMd d .pur)) y3 y4 y5 y6 y7 y8 y9 y10 y11 y12 y13 y14 y15 hs
      refine ⟨[some (.fls (ns.map D.int), m), bg, some (d, .pur), z3, z4, z5, z6, z7, z8, z9, z10, z11, z12, z13, z14, z15], s', ?_, ⟨some (d, .pur), z3, z4, z5, z6, z7, z8, z9, z10, z11, z12, z13, z14, z15, rfl, q2⟩⟩
      have : cmMd d .pur = .pur := by simp [cmMd]
      rw [this] at q1 ⊢
      simp [q1])
  refine ⟨S', ?_⟩
  unfold F_law runF
  rw [e0, law_split, fSeq_eq]
  have s1 : fAsgSto 1 (fCall 1 F__law_bag (fCons (fVar 0) fNil)) [some (.fls (ns.map D.int), m), none, none, none, none, none, none, none, none, none, none, none, none, none, none, none] [] =
    .ok (.nx [some (.fls (ns.map D.int), m), bg, none, none, none, none, none, none, none, none, none, none, none, none, none, none]) [[.int 0, .int 1234567891, .int 0, .ref 1], (cut ns none (some 63)).map fun i => D.int (if i < 0 then -i else i)] := by
    unfold fAsgSto
    simp [bag_is, b, sameLen_ok, n1, noLst]
  rw [s1]
  simp only [Res.bind_ok]
  rw [fSeq_eq, fFor_eq]
  simp [h1, forMd, sz_eq]
end K11

set_option Elab.async false
set_option linter.all false
set_option maxRecDepth 100000
set_option maxHeartbeats 0
namespace K11
open PySem PySem.Spec PyProof.Rows L2 Mi
section
variable {P : Program} {w : World} {K : PySem.W.Frag} {mg : Str → Option Value} {base : Heap}
theorem k_whole (c : Fx K mg) : Cal P w K mg base CX0 5 "law" ["script"] 1 F_law := by
  have h_limit_text := k_limit_text (P := P) (w := w) (base := base) c
  have h_land_text := k_land_text (P := P) (w := w) (base := base) c h_limit_text
  have h_number_in := k_number_in (P := P) (w := w) (base := base) c
  have h_integer_in := k_integer_in (P := P) (w := w) (base := base) c h_number_in
  have h_limit_in := k_limit_in (P := P) (w := w) (base := base) c h_integer_in
  have h_read_land := k_read_land (P := P) (w := w) (base := base) c h_limit_in
  have h__law_bag := k__law_bag (P := P) (w := w) (base := base) c
  have h__law_take := k__law_take (P := P) (w := w) (base := base) c
  have h__law_some := k__law_some (P := P) (w := w) (base := base) c h__law_take
  have h__law_alike := k__law_alike (P := P) (w := w) (base := base) c
  have h__law_word_of := k__law_word_of (P := P) (w := w) (base := base) c
  have h__law_limit_of := k__law_limit_of (P := P) (w := w) (base := base) c
  have h__law_read := k__law_read (P := P) (w := w) (base := base) c h__law_limit_of
  have h_law := k_law (P := P) (w := w) (base := base) c h__law_bag h__law_take h__law_some h__law_word_of h_read_land h_land_text h__law_alike h__law_read
  exact h_law
end
def d_limit_text : He.DefD := ⟨("limit_text", none), "limit_text", "limit_text", defArgs s_limit_text, defBody s_limit_text, defScope s_limit_text, [], []⟩
def d_land_text : He.DefD := ⟨("land_text", none), "land_text", "land_text", defArgs s_land_text, defBody s_land_text, defScope s_land_text, [], []⟩
def d_number_in : He.DefD := ⟨("number_in", none), "number_in", "number_in", defArgs s_number_in, defBody s_number_in, defScope s_number_in, [], []⟩
def d_integer_in : He.DefD := ⟨("integer_in", none), "integer_in", "integer_in", defArgs s_integer_in, defBody s_integer_in, defScope s_integer_in, [], []⟩
def d_limit_in : He.DefD := ⟨("limit_in", none), "limit_in", "limit_in", defArgs s_limit_in, defBody s_limit_in, defScope s_limit_in, [], []⟩
def d_read_land : He.DefD := ⟨("read_land", none), "read_land", "read_land", defArgs s_read_land, defBody s_read_land, defScope s_read_land, [], []⟩
def d__law_bag : He.DefD := ⟨("_law_bag", none), "_law_bag", "_law_bag", defArgs s__law_bag, defBody s__law_bag, defScope s__law_bag, [], []⟩
def d__law_take : He.DefD := ⟨("_law_take", none), "_law_take", "_law_take", defArgs s__law_take, defBody s__law_take, defScope s__law_take, [], []⟩
def d__law_some : He.DefD := ⟨("_law_some", none), "_law_some", "_law_some", defArgs s__law_some, defBody s__law_some, defScope s__law_some, [], []⟩
def d__law_alike : He.DefD := ⟨("_law_alike", none), "_law_alike", "_law_alike", defArgs s__law_alike, defBody s__law_alike, defScope s__law_alike, [], []⟩
def d__law_word_of : He.DefD := ⟨("_law_word_of", none), "_law_word_of", "_law_word_of", defArgs s__law_word_of, defBody s__law_word_of, defScope s__law_word_of, [], []⟩
def d__law_limit_of : He.DefD := ⟨("_law_limit_of", none), "_law_limit_of", "_law_limit_of", defArgs s__law_limit_of, defBody s__law_limit_of, defScope s__law_limit_of, [], []⟩
def d__law_read : He.DefD := ⟨("_law_read", none), "_law_read", "_law_read", defArgs s__law_read, defBody s__law_read, defScope s__law_read, [], []⟩
def d_law : He.DefD := ⟨("law", none), "law", "law", defArgs s_law, defBody s_law, defScope s_law, [], []⟩
def fn : List He.DefD := [d_limit_text, d_land_text, d_number_in, d_integer_in, d_limit_in, d_read_land, d__law_bag, d__law_take, d__law_some, d__law_alike, d__law_word_of, d__law_limit_of, d__law_read, d_law]
def fa : List He.Fa := [.free "abs", .free "all", .free "any", .free "int", .free "len", .free "range", .free "repr", .free "str", .free "tuple", .str "DIGITS" "0123456789", .int "LEAST_ROWS" 2, .int "MOST_DIGITS" 9, .int "MOST_ROWS" 7, .glo "limit_text", .glo "land_text", .glo "number_in", .glo "integer_in", .glo "limit_in", .glo "read_land", .glo "_law_bag", .glo "_law_take", .glo "_law_some", .glo "_law_alike", .glo "_law_word_of", .glo "_law_limit_of", .glo "_law_read", .glo "law"]
def loose0 : List Str := ["DIGITS", "MOST_DIGITS", "LEAST_ROWS", "MOST_ROWS", "limit_text", "land_text", "number_in", "integer_in", "limit_in", "read_land", "_law_bag", "_law_take", "_law_some", "_law_alike", "_law_word_of", "_law_limit_of", "_law_read"]
abbrev loose : List Str := loose0
abbrev R : PySem.W.OpenRow := PySem.W.OpenLaw.row PySem.Challenge.rw_momentsfit_k11_lands_as_texts
abbrev hk : PySem.W.Hook := He.hookD 4 fa fn
def ob (s : PySem.W.SharedT) : He.AlD := He.obsDG 4 fa fn (HandSHeadRun.getT s)
theorem ob_eq (s : PySem.W.SharedT) : ob s = hk.obs s.abs := He.obsDG_eq (HandSHeadRun.getT_eq s)
theorem run (w : World) : HandSHeadRun.RunEq R (PySem.W.view R.prog [19]) hk ob 20000 loose w := by
  intro os
  kernel_rfl
theorem facts {K : PySem.W.Frag} {h : Heap} {mg : Str → Option Value} (inK : K.In h) (ns : h.Ns mainGlobals mg) (c : He.SaysD fa fn K) : Fx K mg where
  g_abs := He.free_ok inK ns (c.fact 0 (f := .free "abs") rfl)
  g_all := He.free_ok inK ns (c.fact 1 (f := .free "all") rfl)
  g_any := He.free_ok inK ns (c.fact 2 (f := .free "any") rfl)
  g_int := He.free_ok inK ns (c.fact 3 (f := .free "int") rfl)
  g_len := He.free_ok inK ns (c.fact 4 (f := .free "len") rfl)
  g_range := He.free_ok inK ns (c.fact 5 (f := .free "range") rfl)
  g_repr := He.free_ok inK ns (c.fact 6 (f := .free "repr") rfl)
  g_str := He.free_ok inK ns (c.fact 7 (f := .free "str") rfl)
  g_tuple := He.free_ok inK ns (c.fact 8 (f := .free "tuple") rfl)
  v_DIGITS := by
    obtain ⟨t, e⟩ := He.str_ok inK ns (c.fact 9 (f := .str "DIGITS" "0123456789") rfl)
    exact ⟨_, e, t, rfl⟩
  v_LEAST_ROWS := by
    obtain ⟨t, e⟩ := He.int_ok inK ns (c.fact 10 (f := .int "LEAST_ROWS" 2) rfl)
    exact ⟨_, e, t, rfl⟩
  v_MOST_DIGITS := by
    obtain ⟨t, e⟩ := He.int_ok inK ns (c.fact 11 (f := .int "MOST_DIGITS" 9) rfl)
    exact ⟨_, e, t, rfl⟩
  v_MOST_ROWS := by
    obtain ⟨t, e⟩ := He.int_ok inK ns (c.fact 12 (f := .int "MOST_ROWS" 7) rfl)
    exact ⟨_, e, t, rfl⟩
  gl_limit_text := He.glo_ok inK ns (c.fact 13 (f := .glo "limit_text") rfl)
  fn_limit_text := c.def_ 0 (d := d_limit_text) rfl
  gl_land_text := He.glo_ok inK ns (c.fact 14 (f := .glo "land_text") rfl)
  fn_land_text := c.def_ 1 (d := d_land_text) rfl
  gl_number_in := He.glo_ok inK ns (c.fact 15 (f := .glo "number_in") rfl)
  fn_number_in := c.def_ 2 (d := d_number_in) rfl
  gl_integer_in := He.glo_ok inK ns (c.fact 16 (f := .glo "integer_in") rfl)
  fn_integer_in := c.def_ 3 (d := d_integer_in) rfl
  gl_limit_in := He.glo_ok inK ns (c.fact 17 (f := .glo "limit_in") rfl)
  fn_limit_in := c.def_ 4 (d := d_limit_in) rfl
  gl_read_land := He.glo_ok inK ns (c.fact 18 (f := .glo "read_land") rfl)
  fn_read_land := c.def_ 5 (d := d_read_land) rfl
  gl__law_bag := He.glo_ok inK ns (c.fact 19 (f := .glo "_law_bag") rfl)
  fn__law_bag := c.def_ 6 (d := d__law_bag) rfl
  gl__law_take := He.glo_ok inK ns (c.fact 20 (f := .glo "_law_take") rfl)
  fn__law_take := c.def_ 7 (d := d__law_take) rfl
  gl__law_some := He.glo_ok inK ns (c.fact 21 (f := .glo "_law_some") rfl)
  fn__law_some := c.def_ 8 (d := d__law_some) rfl
  gl__law_alike := He.glo_ok inK ns (c.fact 22 (f := .glo "_law_alike") rfl)
  fn__law_alike := c.def_ 9 (d := d__law_alike) rfl
  gl__law_word_of := He.glo_ok inK ns (c.fact 23 (f := .glo "_law_word_of") rfl)
  fn__law_word_of := c.def_ 10 (d := d__law_word_of) rfl
  gl__law_limit_of := He.glo_ok inK ns (c.fact 24 (f := .glo "_law_limit_of") rfl)
  fn__law_limit_of := c.def_ 11 (d := d__law_limit_of) rfl
  gl__law_read := He.glo_ok inK ns (c.fact 25 (f := .glo "_law_read") rfl)
  fn__law_read := c.def_ 12 (d := d__law_read) rfl
  gl_law := He.glo_ok inK ns (c.fact 26 (f := .glo "law") rfl)
  fn_law := c.def_ 13 (d := d_law) rfl
end K11
open PySem PySem.W PySem.Calls PyProof.Rows
theorem PySem.Challenge.cw_momentsfit_k11_lands_as_texts_holds : PySem.Challenge.rw_momentsfit_k11_lands_as_texts.Holds := by
  w_on; o_law
  refine HandSHeadRun.head_any (r := OpenLaw.row PySem.Challenge.rw_momentsfit_k11_lands_as_texts) (q := view (OpenLaw.row PySem.Challenge.rw_momentsfit_k11_lands_as_texts).prog [19]) (H := K11.hk) (ob := K11.ob) (M := 20000) (loose := K11.loose) (d := HandSHeadRun.topDef (OpenLaw.row PySem.Challenge.rw_momentsfit_k11_lands_as_texts).prog 19) (kwd := []) K11.ob_eq
    (by kernel_rfl) (fun s => by kernel_rfl) K11.run (by kernel_rfl) (by kernel_rfl) (by kernel_rfl) (by rfl) (by first | assumption | decide +kernel) (by decide +kernel) ⟨rfl, rfl, rfl, rfl, rfl, by decide +kernel⟩ ?hw ?hc
  case hw => w_witness2
  case hc =>
    refine Mi.walk_G (l := PySem.Challenge.rw_momentsfit_k11_lands_as_texts) (n := 63) (k := 5) (x := "script") (CX := L2.CX0) rfl (by decide) (by kernel_rfl) ⟨rfl, by decide, by decide⟩ ?F (fun _ _ _ _ z => z)
    intro w mg fa h Y ns hmg0
    obtain ⟨K, inK, c⟩ := Y
    have hmg : mg ("law" : PySem.Str) = some (.ref fa) := by
      have e : (HandSHeadRun.topDef (OpenLaw.row PySem.Challenge.rw_momentsfit_k11_lands_as_texts).prog 19).name = ("law" : PySem.Str) := by kernel_rfl
      rw [← e]
      exact hmg0
    have fx := K11.facts inK ns c
    have e := hmg.symm.trans fx.gl_law
    cases e
    obtain ⟨fdL, FL⟩ := fx.fn_law
    have bA := L2.FunD.bindsA (ps := ["script"]) FL fun _ _ _ _ _ _ us hl => match us, hl with | [_], _ => rfl
    refine ⟨K, fdL, Mi.spF K 1 K11.F_law, inK, fun s v => bA s [v] rfl, fun H a xs hl only hS => Mi.sp_law only hS (K11.law_true xs hl), fun base _ _ => (K11.k_whole fx).fn (Mi.isf_of FL)⟩
