import PyProof.Rows.All
import Wide.All
import OpenK.AllK
import Wide.FinOn
import HandS.ForMost
import HandS.ForExc
import HandS.Walk
import HandS.Zip
import HandS.Rev
import HandS.Style
import HandS.TupAny
import HandS.TupMul
import HandS.Wide
import HandS.WideMore
import HandS.Gcd
import HandS.IsInst
import HandS.Small
import HandS.TryMany
import HandS.ExcField
import HandS.ExcInit
import HandS.Defaults
import HandS.MakeKwOnly
import HandS.Flow
import HandS.Conv
import HandS.CallSlots
import HandS.ClsMeth
import HandS.HeadEnd
import HandS.HeadHook4
import HandS.Head4
import HandS.HeadWalk
import HandS.SortOrd
import HandS.RevTup
import HandS.WordsDict
import HandS.Steps
import HandS.WordsExc
import HandS.Head3
import PyProof.ListStr
import PyProof.Rows.StrRev
import KE.KRevSl
import KE.KTupSum
import PyProof.WalkInts
import HandS.ExcIs
import HandS.SlotsOwn
import KE.SortData
import PySem.Challenge.RW_firstbyone_k20_kth_rows
set_option Elab.async false
set_option linter.all false
set_option maxRecDepth 100000
set_option maxHeartbeats 4000000
set_option maxHeartbeats 4000000
/-! FB1: values as data, an abstract state (slots as data, tracked lists, dicts and errors' dicts), readings over it. -/
namespace FB
open PySem L2

/-- a value with all that hangs on it; ptr: an object that is tracked, or whose content nobody asks -/
inductive D where
  | non | bl (b : Bool) | int (i : Int) | str (x : Str)
  | tup (ds : List D) | lst (ds : List D) | dct (ks : List Key) (ds : List D) | ptr (p : Addr)
  /-- a list that nobody writes: the script -/
  | scr (ds : List D)

inductive Cell where
  | lst (ds : List D) | dct (ks : List Key) (ds : List D) | xd (fs : List Str) (ds : List D)

abbrev Sg := Addr → Option Cell
abbrev Av (S : Sg) : Addr → Prop := fun a => S a = none
def put (S : Sg) (p : Addr) (c : Cell) : Sg := fun b => if b = p then some c else S b
theorem put_same {S : Sg} {p : Addr} {c : Cell} : put S p c p = some c := if_pos rfl
theorem put_ne {S : Sg} {p q : Addr} {c : Cell} (h : q ≠ p) : put S p c q = S q := if_neg h
theorem put_put {S : Sg} {p : Addr} {c d : Cell} : put (put S p c) p d = put S p d := by
  funext b; unfold put; split <;> rfl

def Scr (K : PySem.W.Frag) (H : Hp) (A : Addr → Prop) (a : Addr) (xs : List V) : Prop :=
  (H a = some (.lst xs) ∧ A a) ∨ (∃ o, H a = some (.frz o (.lst xs))) ∨
    ∃ (o : Obj) (its : Array Value) (n : Nat), K.lookup a = some o ∧ o.cls = .type "list" ∧ o.dict = none ∧ o.data = .seq its n ∧ its.size ≤ sizeLine ∧ Vals xs its.toList
theorem Scr.sq {K : PySem.W.Frag} {H : Hp} {A : Addr → Prop} {a : Addr} {xs : List V} (h : Scr K H A a xs) : SqL K H a xs := h.elim (fun h => .inl (.inl h.1)) fun h => h.elim (fun h => .inl (.inr h)) .inr
theorem Scr.of {K : PySem.W.Frag} {H : Hp} {A : Addr → Prop} {a : Addr} {xs : List V} (h : SqL K H a xs) (ha : A a) : Scr K H A a xs := h.elim (fun h => h.elim (fun h => .inl ⟨h, ha⟩) fun h => .inr (.inl h)) fun h => .inr (.inr h)
mutual
inductive Rep (K : PySem.W.Frag) (H : Hp) (A : Addr → Prop) : V → D → Prop
  | non : Rep K H A .non .non
  | bl (b : Bool) : Rep K H A (.bl b) (.bl b)
  | int (i : Int) : Rep K H A (.int i) (.int i)
  | str (x : Str) : Rep K H A (.str x) (.str x)
  | ptr (p : Addr) : Rep K H A (.ref p) (.ptr p)
  | tup {a : Addr} {xs : List V} {ds : List D} : SqT K H a xs → RepL K H A xs ds → Rep K H A (.ref a) (.tup ds)
  | lst {a : Addr} {xs : List V} {ds : List D} : H a = some (.lst xs) → A a → RepL K H A xs ds → Rep K H A (.ref a) (.lst ds)
  | dct {a : Addr} {kvs : List (Key × V)} {ds : List D} : Rd H a (.dK kvs) → A a → RepL K H A (kvs.map (·.2)) ds → Rep K H A (.ref a) (.dct (kvs.map (·.1)) ds)
  | scr {a : Addr} {xs : List V} {ds : List D} : Scr K H A a xs → RepL K H A xs ds → Rep K H A (.ref a) (.scr ds)
inductive RepL (K : PySem.W.Frag) (H : Hp) (A : Addr → Prop) : List V → List D → Prop
  | nil : RepL K H A [] []
  | cons {v : V} {vs : List V} {d : D} {ds : List D} : Rep K H A v d → RepL K H A vs ds → RepL K H A (v :: vs) (d :: ds)
end

section
variable {K : PySem.W.Frag} {H H' : Hp} {A A' : Addr → Prop}
theorem RepL.length : ∀ {vs : List V} {ds : List D}, RepL K H A vs ds → vs.length = ds.length
  | _, _, .nil => rfl
  | _, _, .cons _ r => by rw [List.length_cons, List.length_cons, RepL.length r]
theorem RepL.get : ∀ {vs : List V} {ds : List D} {i : Nat} {d : D}, RepL K H A vs ds → ds[i]? = some d → ∃ v, vs[i]? = some v ∧ Rep K H A v d
  | _, _, 0, _, .cons r _, e => by
    simp at e; subst e; exact ⟨_, rfl, r⟩
  | _, _, i + 1, d, .cons _ t, e => by
    obtain ⟨v, h1, h2⟩ := RepL.get (i := i) (d := d) t (by simpa using e)
    exact ⟨v, by simpa using h1, h2⟩
  | _, _, _, _, .nil, e => by simp at e
theorem RepL.getV : ∀ {vs : List V} {ds : List D} {i : Nat} {v : V}, RepL K H A vs ds → vs[i]? = some v → ∃ d, ds[i]? = some d ∧ Rep K H A v d
  | _, _, 0, _, .cons r _, e => by
    simp at e; subst e; exact ⟨_, rfl, r⟩
  | _, _, i + 1, v, .cons _ t, e => by
    obtain ⟨d, h1, h2⟩ := RepL.getV (i := i) (v := v) t (by simpa using e)
    exact ⟨d, by simpa using h1, h2⟩
  | _, _, _, _, .nil, e => by simp at e
theorem RepL.append : ∀ {vs ws : List V} {ds es : List D}, RepL K H A vs ds → RepL K H A ws es → RepL K H A (vs ++ ws) (ds ++ es)
  | _, _, _, _, .nil, s => s
  | _, _, _, _, .cons r t, s => .cons r (RepL.append t s)
theorem RepL.take : ∀ {vs : List V} {ds : List D} (n : Nat), RepL K H A vs ds → RepL K H A (vs.take n) (ds.take n)
  | _, _, 0, _ => .nil
  | _, _, _ + 1, .nil => .nil
  | _, _, n + 1, .cons r t => .cons r (RepL.take n t)
theorem RepL.drop : ∀ {vs : List V} {ds : List D} (n : Nat), RepL K H A vs ds → RepL K H A (vs.drop n) (ds.drop n)
  | _, _, 0, r => r
  | _, _, _ + 1, .nil => .nil
  | _, _, n + 1, .cons _ t => RepL.drop n t
theorem RepL.set : ∀ {vs : List V} {ds : List D} {v : V} {d : D} (n : Nat), Rep K H A v d → RepL K H A vs ds → RepL K H A (vs.set n v) (ds.set n d)
  | _, _, _, _, _, _, .nil => .nil
  | _, _, _, _, 0, q, .cons _ t => .cons q t
  | _, _, _, _, n + 1, q, .cons r t => .cons r (RepL.set n q t)
theorem RepL.reverse {vs : List V} {ds : List D} (h : RepL K H A vs ds) : RepL K H A vs.reverse ds.reverse := by
  induction vs generalizing ds with
  | nil => cases h; exact .nil
  | cons v vs ih =>
    cases h with
    | cons r t => rw [List.reverse_cons, List.reverse_cons]; exact (ih t).append (.cons r .nil)
theorem RepL.eraseIdx : ∀ {vs : List V} {ds : List D} (n : Nat), RepL K H A vs ds → RepL K H A (vs.eraseIdx n) (ds.eraseIdx n)
  | _, _, _, .nil => .nil
  | _, _, 0, .cons _ t => t
  | _, _, n + 1, .cons r t => .cons r (RepL.eraseIdx n t)
theorem RepL.dropLast : ∀ {vs : List V} {ds : List D}, RepL K H A vs ds → RepL K H A vs.dropLast ds.dropLast
  | _, _, .nil => .nil
  | _, _, .cons r .nil => .nil
  | _, _, .cons r (.cons q t) => .cons r (RepL.dropLast (.cons q t))
theorem RepL.rep {vs : List V} {ds : List D} (h : RepL K H A vs ds) : ∀ k : Nat, RepL K H A (List.replicate k vs).flatten (List.replicate k ds).flatten
  | 0 => .nil
  | k + 1 => by
    rw [List.replicate_succ, List.replicate_succ, List.flatten_cons, List.flatten_cons]
    exact h.append (RepL.rep h k)

mutual
theorem Rep.mono (hT : ∀ a xs, Rd H a (.tup xs) → Rd H' a (.tup xs)) (hL : ∀ a xs, A a → H a = some (.lst xs) → H' a = some (.lst xs) ∧ A' a) (hK : ∀ a kvs, A a → Rd H a (.dK kvs) → Rd H' a (.dK kvs) ∧ A' a) (hF : ∀ a o xs, H a = some (.frz o (.lst xs)) → H' a = some (.frz o (.lst xs))) :
    ∀ {v : V} {d : D}, Rep K H A v d → Rep K H' A' v d
  | _, _, .non => .non
  | _, _, .bl b => .bl b
  | _, _, .int i => .int i
  | _, _, .str x => .str x
  | _, _, .ptr p => .ptr p
  | _, _, .tup s r => .tup (s.elim (fun q => .inl (hT _ _ q)) .inr) (RepL.mono hT hL hK hF r)
  | _, _, .lst s a r => .lst (hL _ _ a s).1 (hL _ _ a s).2 (RepL.mono hT hL hK hF r)
  | _, _, .dct s a r => .dct (hK _ _ a s).1 (hK _ _ a s).2 (RepL.mono hT hL hK hF r)
  | _, _, .scr s r => .scr (s.elim (fun h => .inl (hL _ _ h.2 h.1)) fun h => .inr (h.elim (fun ⟨o, h⟩ => .inl ⟨o, hF _ _ _ h⟩) .inr)) (RepL.mono hT hL hK hF r)
theorem RepL.mono (hT : ∀ a xs, Rd H a (.tup xs) → Rd H' a (.tup xs)) (hL : ∀ a xs, A a → H a = some (.lst xs) → H' a = some (.lst xs) ∧ A' a) (hK : ∀ a kvs, A a → Rd H a (.dK kvs) → Rd H' a (.dK kvs) ∧ A' a) (hF : ∀ a o xs, H a = some (.frz o (.lst xs)) → H' a = some (.frz o (.lst xs))) :
    ∀ {vs : List V} {ds : List D}, RepL K H A vs ds → RepL K H' A' vs ds
  | _, _, .nil => .nil
  | _, _, .cons r t => .cons (Rep.mono hT hL hK hF r) (RepL.mono hT hL hK hF t)
end

/-- what stands at a tracked address -/
def RepC (K : PySem.W.Frag) (H : Hp) (A : Addr → Prop) (p : Addr) : Cell → Prop
  | .lst ds => ∃ xs, H p = some (.lst xs) ∧ RepL K H A xs ds
  | .dct ks ds => ∃ kvs, H p = some (.dK kvs) ∧ kvs.map (·.1) = ks ∧ RepL K H A (kvs.map (·.2)) ds
  | .xd fs ds => ∃ gs, H p = some (.xd gs) ∧ gs.map (·.1) = fs ∧ RepL K H A (gs.map (·.2)) ds
def IsH (K : PySem.W.Frag) (H : Hp) (S : Sg) : Prop := ∀ p c, S p = some c → RepC K H (Av S) p c
/-- a tracked object is no tuple, is not locked -/
theorem IsH.free {S : Sg} (I : IsH K H S) {a : Addr} {o : HO} (h : H a = some o) (h1 : ∀ xs, o ≠ .lst xs) (h2 : ∀ xs, o ≠ .dK xs) (h3 : ∀ xs, o ≠ .xd xs) : S a = none := by
  cases e : S a with
  | none => rfl
  | some c =>
    have r := I a c e
    cases c with
    | lst ds => obtain ⟨xs, q, _⟩ := r; rw [h] at q; exact absurd (Option.some.inj q) (h1 _)
    | dct ks ds => obtain ⟨xs, q, _⟩ := r; rw [h] at q; exact absurd (Option.some.inj q) (h2 _)
    | xd fs ds => obtain ⟨xs, q, _⟩ := r; rw [h] at q; exact absurd (Option.some.inj q) (h3 _)
theorem IsH.some_of {S : Sg} (I : IsH K H S) {a : Addr} {c : Cell} (h : S a = some c) : H a ≠ none := by
  have r := I a c h
  intro z
  cases c with
  | lst ds => obtain ⟨xs, q, _⟩ := r; rw [z] at q; cases q
  | dct ks ds => obtain ⟨xs, q, _⟩ := r; rw [z] at q; cases q
  | xd fs ds => obtain ⟨xs, q, _⟩ := r; rw [z] at q; cases q
theorem IsH.none_of {S : Sg} (I : IsH K H S) {a : Addr} (h : H a = none) : S a = none := by
  cases e : S a with
  | none => rfl
  | some c => exact absurd h (I.some_of e)

/-- from one state to a later one: what was not tracked stands as it was, and stays untracked -/
structure Tr (H : Hp) (S : Sg) (H' : Hp) (S' : Sg) : Prop where
  keep : ∀ a o, H a = some o → S a = none → H' a = some o
  free : ∀ a, S a = none → H a ≠ none → S' a = none
theorem Tr.refl (H : Hp) (S : Sg) : Tr H S H S := ⟨fun _ _ h _ => h, fun _ h _ => h⟩
theorem Tr.trans {H1 H2 H3 : Hp} {S1 S2 S3 : Sg} (a : Tr H1 S1 H2 S2) (b : Tr H2 S2 H3 S3) : Tr H1 S1 H3 S3 where
  keep := fun x o h n => b.keep x o (a.keep x o h n) (a.free x n (by rw [h]; exact fun z => nomatch z))
  free := fun x n h => by
    cases e : H1 x with
    | none => exact absurd e h
    | some o => exact b.free x (a.free x n h) (by rw [a.keep x o e n]; exact fun z => nomatch z)
theorem Rep.tr {S S' : Sg} (I : IsH K H S) (t : Tr H S H' S') {v : V} {d : D} (r : Rep K H (Av S) v d) : Rep K H' (Av S') v d := by
  refine Rep.mono (fun a xs h => ?_) (fun a xs ha h => ⟨t.keep a _ h ha, t.free a ha (by rw [h]; exact fun z => nomatch z)⟩) (fun a kvs ha h => ?_) (fun a o xs h => t.keep a _ h (I.free h (fun _ z => nomatch z) (fun _ z => nomatch z) fun _ z => nomatch z)) r
  · rcases h with h | ⟨o, h⟩
    · exact .inl (t.keep a _ h (I.free h (fun _ z => nomatch z) (fun _ z => nomatch z) fun _ z => nomatch z))
    · exact .inr ⟨o, t.keep a _ h (I.free h (fun _ z => nomatch z) (fun _ z => nomatch z) fun _ z => nomatch z)⟩
  · rcases h with h | ⟨o, h⟩
    · exact ⟨.inl (t.keep a _ h ha), t.free a ha (by rw [h]; exact fun z => nomatch z)⟩
    · exact ⟨.inr ⟨o, t.keep a _ h ha⟩, t.free a ha (by rw [h]; exact fun z => nomatch z)⟩
theorem RepL.tr {S S' : Sg} (I : IsH K H S) (t : Tr H S H' S') : ∀ {vs : List V} {ds : List D}, RepL K H (Av S) vs ds → RepL K H' (Av S') vs ds
  | _, _, .nil => .nil
  | _, _, .cons r q => .cons (r.tr I t) (RepL.tr I t q)
end

/-- the slots as data -/
abbrev Ga := List (Option D)
structure Is (K : PySem.W.Frag) (σ : L2.St) (H : Hp) (γ : Ga) (S : Sg) : Prop where
  h : IsH K H S
  len : σ.length = γ.length
  sl : ∀ (i : Nat) (d : D), γ[i]? = some (some d) → ∃ v, σ[i]? = some (some v) ∧ Rep K H (Av S) v d
theorem Is.tr {K : PySem.W.Frag} {σ : L2.St} {H H' : Hp} {γ : Ga} {S S' : Sg} (I : Is K σ H γ S) (t : Tr H S H' S') (J : IsH K H' S') : Is K σ H' γ S' :=
  ⟨J, I.len, fun i d h => let ⟨v, e, r⟩ := I.sl i d h; ⟨v, e, r.tr I.h t⟩⟩
theorem Is.set {K : PySem.W.Frag} {σ : L2.St} {H : Hp} {γ : Ga} {S : Sg} (I : Is K σ H γ S) {v : V} {d : D} (i : Nat) (r : Rep K H (Av S) v d) : Is K (σ.set i (some v)) H (γ.set i (some d)) S where
  h := I.h
  len := by rw [List.length_set, List.length_set]; exact I.len
  sl := fun j d' h => by
    by_cases e : i = j
    · subst e
      by_cases hl : i < γ.length
      · rw [List.getElem?_set_self hl] at h
        cases h
        exact ⟨v, List.getElem?_set_self (by rw [I.len]; exact hl), r⟩
      · rw [List.getElem?_eq_none (by rw [List.length_set]; omega)] at h
        cases h
    · rw [List.getElem?_set_ne e] at h
      rw [List.getElem?_set_ne e]
      exact I.sl j d' h
theorem Is.forget {K : PySem.W.Frag} {σ : L2.St} {H : Hp} {γ : Ga} {S : Sg} (I : Is K σ H γ S) (i : Nat) : Is K (σ.set i none) H (γ.set i none) S where
  h := I.h
  len := by rw [List.length_set, List.length_set]; exact I.len
  sl := fun j d' h => by
    by_cases e : i = j
    · subst e
      by_cases hl : i < γ.length
      · rw [List.getElem?_set_self hl] at h
        cases h
      · rw [List.getElem?_eq_none (by rw [List.length_set]; omega)] at h
        cases h
    · rw [List.getElem?_set_ne e] at h
      rw [List.getElem?_set_ne e]
      exact I.sl j d' h

/-! ### abstract readings -/
/-- an error leaves: its class, its own dict's address, the state -/
abbrev XP := Addr → Addr → Sg → Prop
abbrev AE := Ga → Sg → (D → Sg → Prop) → XP → Prop
abbrev AT := Ga → Sg → (Bool → Sg → Prop) → XP → Prop
abbrev AA := Ga → Sg → (List D → Sg → Prop) → XP → Prop
structure AEnds where
  nx : Ga → Sg → Prop
  rt : D → Sg → Prop
  bk : Ga → Sg → Prop
  ct : Ga → Sg → Prop
  ex : Ga → XP
abbrev ATS := AEnds → Ga → Sg → Prop
abbrev WF : WX := fun _ _ _ _ => False
section
variable (K : PySem.W.Frag) (W : WX)
def okV (H : Hp) (S : Sg) (Post : D → Sg → Prop) (Q : VK) : Prop := ∀ v H' d S', Tr H S H' S' → IsH K H' S' → Rep K H' (Av S') v d → Post d S' → Q v H'
def okB (H : Hp) (S : Sg) (Post : Bool → Sg → Prop) (Q : Bool → Hp → Prop) : Prop := ∀ b H' S', Tr H S H' S' → IsH K H' S' → Post b S' → Q b H'
def okA (H : Hp) (S : Sg) (Post : List D → Sg → Prop) (Q : List V → Hp → Prop) : Prop := ∀ vs H' ds S', Tr H S H' S' → IsH K H' S' → RepL K H' (Av S') vs ds → Post ds S' → Q vs H'
def okX (σ : L2.St) (H : Hp) (S : Sg) (x : XP) : Prop := ∀ C dd H' S', Tr H S H' S' → IsH K H' S' → x C dd S' → W (.ref C) (some dd) σ H'
def okN (H : Hp) (S : Sg) (P : Ga → Sg → Prop) (Q : L2.St → Hp → Prop) : Prop := ∀ σ' H' γ' S', Tr H S H' S' → Is K σ' H' γ' S' → P γ' S' → Q σ' H'
def okXS (H : Hp) (S : Sg) (x : Ga → XP) : Prop := ∀ C dd σ' H' γ' S', Tr H S H' S' → Is K σ' H' γ' S' → x γ' C dd S' → W (.ref C) (some dd) σ' H'
structure okD (H : Hp) (S : Sg) (Da : AEnds) (Dc : L2.Ends) : Prop where
  nx : okN K H S Da.nx Dc.nx
  rt : okV K H S Da.rt Dc.rt
  bk : okN K H S Da.bk Dc.bk
  ct : okN K H S Da.ct Dc.ct
  ex : okXS K W H S Da.ex
def cE (a : AE) : TE := fun σ H Q => ∃ γ S Post x, Is K σ H γ S ∧ a γ S Post x ∧ okV K H S Post Q ∧ okX K W σ H S x
def cT (a : AT) : TT := fun σ H Q => ∃ γ S Post x, Is K σ H γ S ∧ a γ S Post x ∧ okB K H S Post Q ∧ okX K W σ H S x
def cA (a : AA) : TA := fun σ H Q => ∃ γ S Post x, Is K σ H γ S ∧ a γ S Post x ∧ okA K H S Post Q ∧ okX K W σ H S x
def cS (a : ATS) : TS := fun Dc σ H => ∃ γ S Da, Is K σ H γ S ∧ a Da γ S ∧ okD K W H S Da Dc
end
section
variable {K : PySem.W.Frag} {W : WX} {H H' : Hp} {S S' : Sg} {σ : L2.St}
theorem okV.tr {Post : D → Sg → Prop} {Q : VK} (h : okV K H S Post Q) (t : Tr H S H' S') : okV K H' S' Post Q := fun v H2 d S2 u I r p => h v H2 d S2 (t.trans u) I r p
theorem okB.tr {Post : Bool → Sg → Prop} {Q : Bool → Hp → Prop} (h : okB K H S Post Q) (t : Tr H S H' S') : okB K H' S' Post Q := fun v H2 S2 u I p => h v H2 S2 (t.trans u) I p
theorem okA.tr {Post : List D → Sg → Prop} {Q : List V → Hp → Prop} (h : okA K H S Post Q) (t : Tr H S H' S') : okA K H' S' Post Q := fun v H2 d S2 u I r p => h v H2 d S2 (t.trans u) I r p
theorem okX.tr {x : XP} (h : okX K W σ H S x) (t : Tr H S H' S') : okX K W σ H' S' x := fun C dd H2 S2 u I p => h C dd H2 S2 (t.trans u) I p
theorem okN.tr {P : Ga → Sg → Prop} {Q : L2.St → Hp → Prop} (h : okN K H S P Q) (t : Tr H S H' S') : okN K H' S' P Q := fun v H2 d S2 u I p => h v H2 d S2 (t.trans u) I p
theorem okXS.tr {x : Ga → XP} (h : okXS K W H S x) (t : Tr H S H' S') : okXS K W H' S' x := fun C dd σ' H2 γ' S2 u I p => h C dd σ' H2 γ' S2 (t.trans u) I p
theorem okD.tr {Da : AEnds} {Dc : L2.Ends} (h : okD K W H S Da Dc) (t : Tr H S H' S') : okD K W H' S' Da Dc := ⟨h.nx.tr t, h.rt.tr t, h.bk.tr t, h.ct.tr t, h.ex.tr t⟩
theorem okXS.at {x : Ga → XP} (h : okXS K W H S x) {γ : Ga} (I : Is K σ H γ S) : okX K W σ H S (x γ) := fun C dd H2 S2 u J p => h C dd σ H2 γ S2 u (I.tr u J) p
end

/-! ### judgements by implication -/
section
variable {X : Cx}
theorem _root_.L2.PE.imp {e : Expr} {t t' : TE} (h : PE X e t) (i : ∀ σ H Q, t' σ H Q → t σ H Q) : PE X e t' := ⟨fun pins s σ H Q I z => h.run pins s σ H Q I (i σ H Q z)⟩
theorem _root_.L2.PT.imp {e : Expr} {t t' : TT} (h : PT X e t) (i : ∀ σ H Q, t' σ H Q → t σ H Q) : PT X e t' := ⟨fun pins s σ H Q I z => h.run pins s σ H Q I (i σ H Q z)⟩
theorem _root_.L2.PW.imp {e : Expr} {t t' : TT} (h : PW X e t) (i : ∀ σ H Q, t' σ H Q → t σ H Q) : PW X e t' := ⟨fun w pins s σ H Q I z => h.run w pins s σ H Q I (i σ H Q z)⟩
theorem _root_.L2.PA.imp {e : List Expr} {t t' : TA} (h : PA X e t) (i : ∀ σ H Q, t' σ H Q → t σ H Q) : PA X e t' := ⟨fun p pins s σ H Q I z => h.run p pins s σ H Q I (i σ H Q z)⟩
theorem _root_.L2.PK.imp {e : List Keyword} {t t' : TA} (h : PK X e t) (i : ∀ σ H Q, t' σ H Q → t σ H Q) : PK X e t' := ⟨fun p pins s σ H Q I z => h.run p pins s σ H Q I (i σ H Q z)⟩
theorem _root_.L2.PS.imp {e : Stmt} {t t' : TS} (h : PS X e t) (i : ∀ D σ H, t' D σ H → t D σ H) : PS X e t' := ⟨fun pins s σ H D I z => h.run pins s σ H D I (i D σ H z)⟩
theorem _root_.L2.PSs.imp {e : List Stmt} {t t' : TS} (h : PSs X e t) (i : ∀ D σ H, t' D σ H → t D σ H) : PSs X e t' := ⟨fun pins s σ H D I z => h.run pins s σ H D I (i D σ H z)⟩
end
end FB

set_option maxHeartbeats 4000000
/-! FBR: for x in reversed(a text). -/
namespace RS
open PySem PySem.Spec PyProof.Rows RT
theorem norev_str : typeLookup (.type "str") "__reversed__" = pure none := by rw [typeLookup_type, builtinLookup_eq_fast]; kernel_rfl
theorem get_str : typeLookup (.type "str") "__getitem__" = pure (some (.builtin "str.__getitem__")) := by rw [typeLookup_type, builtinLookup_eq_fast]; kernel_rfl
theorem sub_str_dict : isSubtype (.type "str") (.type "dict") = pure false := by rw [isSubtype_type]; kernel_rfl
def rsObj (u : Value) (i : Int) : Obj := { cls := .type "reversed", data := .fields #[u, rawInt i] }
def IsRs (h : Heap) (a : Addr) (u : Value) (i : Int) : Prop := ∃ o, h.get? a = some o ∧ o.cls = .type "reversed" ∧ o.data = .fields #[u, rawInt i]
theorem IsRs.at {h h' : Heap} {a : Addr} {u : Value} {i : Int} (x : IsRs h a u i) (e : ∀ o, h.get? a = some o → h'.get? a = some o) : IsRs h' a u i := let ⟨o, ho, r⟩ := x; ⟨o, e _ ho, r⟩
section
variable {prog : Program} {w : World} {A : Around} {E : Value → Shared → Prop} {s : Shared}
theorem IsRs.typeIs {a : Addr} {u : Value} {i : Int} (x : IsRs s.heap a u i) : s.TypeIs (.ref a) "reversed" := let ⟨o, ho, hc, _⟩ := x; ⟨o, ho, hc⟩
theorem code_reversed_str {z : Str} {tk : Tok} {Q₁ : Value → Shared → Prop}
    (hlen : ∀ (A : Around) (E : Value → Shared → Prop) (Q : Value → Shared → Prop), (∀ t k, Q (.int z.length t) { s with toks := k }) → wpAny (model prog w) A (call (.builtin "len") [.str z tk]) Q E s)
    (h : ∀ k, Q₁ (.ref s.heap.objs.size) { s with heap := s.heap.push (rsObj (.str z tk) ((z.length : Int) - 1)), toks := k }) :
    codeAny (model prog w) A (.call (.builtin "reversed.__new__") ⟨[.type "reversed", .str z tk], []⟩) (wants Q₁ E) s := by
  have hT : s.TypeIs (.str z tk) "str" := typeIs_str s z tk
  refine codeAny_of_tree ?_
  show wpAny _ A.in1 (do checkBuiltinCall "reversed.__new__" ⟨[.type "reversed", .str z tk], []⟩; again (.builtin "reversed.__new__" ⟨[.type "reversed", .str z tk], []⟩)) _ _ s
  refine wpAny_bind (wpAny_of_eq (F.newCall_reversed_1 _) (wpAny_pure ⟨plainId_quiet F.plain_reversed_new _, codeAny_builtin F.entry_reversed_new ?_⟩))
  rw [Around.under_plainId F.plain_reversed_new _]
  unfold Builtin.«reversed.__new__»
  refine wpAny_bind (wpAny_of_eq (newClass_reversed _) ?_)
  try dsimp only
  refine wpAny_bind (wpAny_of_eq (a := ()) (by first | rfl | kernel_rfl) ?_)
  try dsimp only
  refine wpAny_bind (wpAny_of_eq (a := ()) (by first | rfl | kernel_rfl) ?_)
  try dsimp only
  refine wpAny_bind (wpAny_specialOf hT norev_str ?_)
  try dsimp only
  refine wpAny_bind ?_
  wp_delta
  refine wpAny_bind (wpAny_isInstance (T := "str") (U := "dict") (b := false) hT sub_str_dict ?_)
  try dsimp only
  try rw [if_neg Bool.false_ne_true]
  try dsimp only
  refine wpAny_bind (wpAny_specialOf hT get_str ?_)
  try dsimp only
  try rw [if_pos (by decide +kernel)]
  refine wpAny_pure ?_
  try dsimp only
  try rw [if_neg (by decide)]
  try dsimp only
  refine wpAny_bind (hlen _ _ _ fun t k => ?_)
  refine wpAny_bind (wpAny_of_eq (a := some ((z.length : Nat) : Int)) rfl ?_)
  try dsimp only
  refine wpAny_bind ?_
  show wpAny _ _ (newObj (.type "reversed") (.fields #[.str z tk, rawInt ((z.length : Int) - 1)])) _ _ _
  refine wpAny_newObj_type ?_
  exact wpAny_pure (h k)
theorem call_reversed_str {z : Str} {tk : Tok} {Q : Value → Shared → Prop}
    (hlen : ∀ (A : Around) (E : Value → Shared → Prop) (Q : Value → Shared → Prop), (∀ t k, Q (.int z.length t) { s with toks := k }) → wpAny (model prog w) A (call (.builtin "len") [.str z tk]) Q E s)
    (h : ∀ k, Q (.ref s.heap.objs.size) { s with heap := s.heap.push (rsObj (.str z tk) ((z.length : Int) - 1)), toks := k }) : wpAny (model prog w) A (call (.type "reversed") [.str z tk]) Q E s := by
  refine callType_codes (Q₁ := fun obj s₁ => s₁.TypeIs obj "reversed" ∧ Q obj s₁) called_rt (F.typeCall_reversed_1 _) F.entry_object_init
    (code_reversed_str (A := A.in1) hlen fun k => ⟨⟨_, Heap.get?_push_size _ rfl, rfl⟩, h k⟩) fun obj s₁ h₁ => ?_
  exact ⟨h₁.1, F.args_object_init_2 obj _, object_init_meets called_rt.init.lookup called_rt.made (by decide) prog w A.in1 _ s₁ ⟨h₁.1, rfl, h₁.2⟩⟩
theorem next_rs_item {it : Addr} {z : Str} {tk : Tok} {i c : Nat} {Q : Option Value → Shared → Prop} (hit : IsRs s.heap it (.str z tk) (i : Int)) (hx : z.cps[i]? = some c) (hsz : z.length ≤ sizeLine)
    (hQ : ∀ h' k t, IsRs h' it (.str z tk) ((i : Int) - 1) → Heap.SameBut it s.heap h' → Q (some (.str ⟨#[c]⟩ t)) { s with heap := h', toks := k }) : wpAny (model prog w) A (pyNext (.ref it)) Q E s := by
  obtain ⟨o, ho, hc, hd⟩ := id hit
  have hi : i < z.cps.size := (Array.getElem?_eq_some_iff.mp hx).1
  have hiz : i < z.length := hi
  have hT : s.TypeIs (.str z tk) "str" := typeIs_str s z tk
  rw [sizeLine_eq] at hsz
  unfold pyNext
  refine wpAny_bind (wpAny_attempt (wpAny_callSpecial?_slot (name := Str.ofString "__next__") hit.typeIs slot_rt_next
    (wpAny_call_entry slot_rt_next hit.typeIs entry_rt_next ?_ (args_rt_next _))))
  unfold Builtin.«reversed.__next__»
  refine wpAny_bind (wpAny_of_eq (a := (Value.ref it, [])) rfl ?_)
  try dsimp only
  refine wpAny_bind (wpAny_field ho hd (x := .str z tk) rfl ?_)
  try dsimp only
  refine wpAny_bind (wpAny_field ho hd (x := rawInt (i : Int)) rfl ?_)
  show wpAny _ _ (if (i : Int) < 0 then _ else _) _ _ s
  rw [if_neg (by omega)]
  try dsimp only
  refine wpAny_bind (wpAny_specialOf hT get_str ?_)
  try dsimp only
  try rw [if_neg (by decide)]
  try dsimp only
  refine wpAny_bind (wpAny_mkInt ?_)
  refine wpAny_bind (wpAny_attempt ?_)
  have e : seqIndex? (i : Int) z.length = some i := seqIndex_of (by omega) (by omega)
  refine getItem_str (s := { s with toks := s.toks + 1 }) (c := c) (by
    have e1 : decide ((i : Int) < -(2 ^ 63 : Int)) = false := decide_eq_false (by omega)
    have e2 : decide ((i : Int) ≥ 2 ^ 63) = false := decide_eq_false (by omega)
    rw [e1, e2] <;> rfl) (by rw [e]; exact hx) ?_
  try dsimp only
  refine wpAny_bind (wpAny_field (s := { s with toks := s.toks + 1 + 1 }) ho hd (x := rawInt (i : Int)) rfl ?_)
  try dsimp only
  refine wpAny_bind (wpAny_setField (s := { s with toks := s.toks + 1 + 1 }) ho hd (by simp) ?_)
  have fin : ∀ t, Q (some (.str ⟨#[c]⟩ t)) { s with heap := s.heap.update it (Obj.mapFields fun vs => vs.setIfInBounds 1 (rawInt ((i : Int) - 1))), toks := s.toks + 1 + 1 } := fun t => hQ _ _ t
    ⟨_, Heap.get?_update_self _ ho (Obj.isFreed_of_fields (Obj.data_mapFields hd _)), (Obj.cls_mapFields ..).trans hc, by rw [Obj.data_mapFields hd]; simp⟩ (Heap.SameBut.update ..)
  first
  | exact wpAny_pure ⟨_, rfl, wpAny_pure (fin _)⟩
  | exact wpAny_bind (wpAny_pure (wpAny_pure ⟨_, rfl, wpAny_pure (fin _)⟩))
theorem next_rs_end {it : Addr} {u : Value} {Q : Option Value → Shared → Prop} (hh : A.handled = none) (hit : IsRs s.heap it u (-1))
    (hQ : ∀ h', Heap.ExtBut it s.heap h' → Q none { s with heap := h' }) : wpAny (model prog w) A (pyNext (.ref it)) Q E s := by
  obtain ⟨o, ho, hc, hd⟩ := id hit
  unfold pyNext
  refine wpAny_bind (wpAny_attempt (wpAny_callSpecial?_slot (name := Str.ofString "__next__") hit.typeIs slot_rt_next
    (wpAny_call_entry slot_rt_next hit.typeIs entry_rt_next ?_ (args_rt_next _))))
  unfold Builtin.«reversed.__next__»
  refine wpAny_bind (wpAny_of_eq (a := (Value.ref it, [])) rfl ?_)
  try dsimp only
  refine wpAny_bind (wpAny_field ho hd (x := u) rfl ?_)
  try dsimp only
  refine wpAny_bind (wpAny_field ho hd (x := rawInt (-1)) rfl ?_)
  show wpAny _ _ (if (-1 : Int) < 0 then _ else _) _ _ s
  rw [if_pos (by decide)]
  try dsimp only
  refine wpAny_bind (wpAny_rule ?_)
  refine wpAny_bind ?_
  wp_delta
  refine wpAny_bind (wpAny_setField ho hd (by simp) ?_)
  have ho2 := Heap.get?_update_self (Obj.mapFields (·.setIfInBounds 1 (rawInt (-1)))) ho (Obj.isFreed_of_fields (Obj.data_mapFields hd _))
  refine wpAny_setField (s := { s with heap := s.heap.update it (Obj.mapFields (·.setIfInBounds 1 (rawInt (-1)))) }) ho2 (Obj.data_mapFields hd _) (by simp) ?_
  try dsimp only
  first
  | show wpAny _ _ (newExc (.type "StopIteration") [] >>= _) _ _ _
  | (refine wpAny_bind ?_; show wpAny _ _ (newExc (.type "StopIteration") [] >>= _) _ _ _)
  | (refine wpAny_bind ?_; wp_delta; show wpAny _ _ (newExc (.type "StopIteration") [] >>= _) _ _ _)
  refine wpAny_bind ?_
  simp only [newExc, newTuple]
  refine wpAny_bind (wpAny_newObj_type ?_ (by size_fits))
  refine wpAny_bind (m := firstArgMember _ _) (wpAny_of_eq (a := Value.none) (by first | rfl | (simp only [firstArgMember]; rfl)) ?_)
  refine wpAny_newObj_type ?_ (by size_fits)
  simp only [raiseNew]
  refine wpAny_bind (wpAny_handled ?_)
  first | rw [show A.in1.handled = none from hh] | rw [hh]
  refine wpAny_bind (wpAny_pure (wpAny_throw ?_))
  refine wpAny_bind (wpAny_isInstance (T := "StopIteration") (b := true) ⟨_, Heap.get?_push_size _ rfl, rfl⟩ isSubtype_stop ?_)
  refine wpAny_pure (hQ _ ?_)
  refine ((?_ : Heap.ExtBut it s.heap _).push _).push _
  exact fun b ob hb e => (Heap.get?_update_other _ _ (Ne.symm hb)).trans ((Heap.get?_update_other _ _ (Ne.symm hb)).trans e)
theorem iter_rs {it : Addr} {u : Value} {i : Int} {Q : Value → Shared → Prop} (hit : IsRs s.heap it u i) (h : Q (.ref it) s) : wpAny (model prog w) A (pyIter (.ref it)) Q E s := by
  refine wpAny_pyIter_slot hit.typeIs slot_rt_iter (wpAny_call_entry slot_rt_iter hit.typeIs entry_rt_iter ?_ (args_rt_iter _))
  show wpAny _ _ (ret (.ref it)) _ _ s
  exact wpAny_pure ⟨_, rfl, "reversed", _, hit.typeIs, slot_rt_next.lookup, h⟩
end
end RS
namespace FB
open PySem PySem.Spec PyProof.Rows L2
/-- the signs of a text from the end -/
def ItsR (x : Str) : It := ⟨fun i _ => i < x.cps.size, fun i H v H' => H' = H ∧ ∃ c, x.cps[x.cps.size - 1 - i]? = some c ∧ v = .str ⟨#[c]⟩, fun i _ => x.cps.size ≤ i⟩
theorem turn_rs {P : Program} {w : World} {K : PySem.W.Frag} {tg : Expr} (it : Addr) (x : Str) (t : Tok) (hx : x.length ≤ sizeLine) : Turn P w K tg (ItsR x) [it] it (fun i h => i ≤ x.cps.size ∧ RS.IsRs h it (.str x t) ((x.cps.size : Int) - 1 - (i : Nat))) where
  mem := by simp
  obj := fun i h st b hb => by
    have e : b = it := by simpa using hb
    subst e
    obtain ⟨_, o, e, c, d⟩ := st
    exact ⟨o, e, fun v z => by rw [d] at z; cases z⟩
  keep := fun i h h' st k => ⟨st.1, st.2.at fun o e => k it (by simp) o e⟩
  item := by
    intro X hP hw hK hc i pins s σ H E I hf st hg
    subst hP hw hK
    have hin : i < x.cps.size := hg
    obtain ⟨f0, f1, f2, f3, f4, f5⟩ := hf it (by simp)
    obtain ⟨_, hit⟩ := st
    have e1 : (x.cps.size : Int) - 1 - ((i : Nat) : Int) = ((x.cps.size - 1 - i : Nat) : Int) := by omega
    rw [e1] at hit
    have hlt : x.cps.size - 1 - i < x.cps.size := by omega
    have hx' : x.cps[x.cps.size - 1 - i]? = some x.cps[x.cps.size - 1 - i] := Array.getElem?_eq_getElem hlt
    refine RS.next_rs_item hit hx' hx fun h' k t' st' sb => ?_
    have e2 : ((x.cps.size - 1 - i : Nat) : Int) - 1 = (x.cps.size : Int) - 1 - ((i + 1 : Nat) : Int) := by omega
    rw [e2] at st'
    have I1 : Inv X pins σ H { s with heap := h', toks := k } := I.turned (t' := k) (fun b o hb e => (sb.2 b hb).trans e) f0 f1 f3 f4 f5
    obtain ⟨o, e, c, d⟩ := id st'
    exact ⟨_, rfl, go_of (s := { s with heap := h', toks := k }) e c d (by decide) ⟨.str ⟨#[_]⟩, H, I1, ⟨_, rfl⟩, ⟨rfl, _, hx', rfl⟩, ⟨hin, st'⟩, fun b hb => (hf b hb).1⟩⟩
  done := by
    intro X hP hw hK hc i pins s σ H E I hf st hg
    subst hP hw hK
    obtain ⟨f0, f1, f2, f3, f4, f5⟩ := hf it (by simp)
    obtain ⟨hin, hit⟩ := st
    have hge : x.cps.size ≤ i := hg
    have e1 : (x.cps.size : Int) - 1 - ((i : Nat) : Int) = -1 := by omega
    rw [e1] at hit
    exact RS.next_rs_end (I.ok.hd hc) hit fun h' eb => ⟨rfl, I.turned (t' := s.toks) (fun b o hb e => eb b o hb e) f0 f1 f3 f4 f5⟩
  self := fun A i s Q E st h => RS.iter_rs st.2 h
def iRevS (te : TE) : TI := fun σ H R => te σ H fun v H1 => ∃ z, v = .str z ∧ z.length ≤ sizeLine ∧ R (ItsR z) H1
theorem pi_revS {X : Cx} {tg e : Expr} {te : TE} {p pos : Pos} (hg : Gl X "reversed") (hm : X.mg "reversed" = none) (he : PE X e te) (hs : starEach [e] X.env = (false, eval e X.env) :: starEach [] X.env := by rfl) : PI X tg (.Call (.Name "reversed" p) [e] [] pos) (iRevS te) := by
  refine ⟨fun pins s σ H R I h => ?_⟩
  refine Call_ (ld_blt I hg hm PyProof.Rows.boot_reversed (PyProof.Rows.callWith_type1 (args_cons (thn (he.run pins s σ H _ I h) fun u s1 ⟨v, H1, I1, r1, z, ev, hz, q⟩ => args_nil ?_) hs) hs rfl))
  subst ev
  obtain ⟨t, rfl⟩ := r1
  have hn := line63
  refine RS.call_reversed_str (fun A E Q k => PyProof.Rows.len_str (by omega) (k _ _)) fun k => ?_
  have e1 : ((z.length : Nat) : Int) - 1 = (z.cps.size : Int) - 1 - ((0 : Nat) : Int) := by
    show ((z.cps.size : Nat) : Int) - 1 = _
    omega
  refine RS.iter_rs (u := .str z t) (i := (z.length : Int) - 1) ⟨_, Heap.get?_push_size _ rfl, rfl, rfl⟩ ?_
  refine pi_one (tk := k) I1 _ (turn_rs _ z t hz) ⟨Nat.zero_le _, ?_⟩ q
  rw [← e1]
  exact ⟨_, Heap.get?_push_size _ rfl, rfl, rfl⟩
end FB

set_option maxHeartbeats 4000000
/-! FBT: tuple * int by any int, text * int. -/
namespace L2
open PySem PySem.Spec PyProof.Rows
theorem fb_tuple_mul1 (l : Addr) (items : Array Value) (n : Nat) (dd : Option Addr) (sl : Array (Option Value)) (x : Int) (u : Tok) (c0 : (decide (x < -(2 ^ 63)) || decide (x ≥ 2 ^ 63)) = false) (c1 : (items.isEmpty || x == 1) = true) :
    Meets (Builtin.«tuple.__mul__» ⟨[.ref l, .int x u], []⟩) (fun _ R s => s.heap.get? l = some { cls := .type "tuple", dict := dd, data := .seq items n, slots := sl } ∧ R (.ok (.ret (Value.ref l))) s) :=
  .of_wp fun prog w A R s h => by
    obtain ⟨hp, g, d, tk, os⟩ := s
    obtain ⟨hl, h⟩ := h
    have f1 := AutoSeq1.idx_int
    wp_walk using wpAny_loadPart' hl
    repeat (first
      | (refine wpAny_ite_false (decide_eq_false (by rw [c0]; exact Bool.false_ne_true)) ?_; wp_walk using wpAny_loadPart' hl)
      | (refine wpAny_ite_true (decide_eq_true c1) ?_; wp_walk using wpAny_loadPart' hl))
    exact ⟨_, rfl, h⟩
theorem fb_tuple_mul0 (l : Addr) (items : Array Value) (n : Nat) (dd : Option Addr) (sl : Array (Option Value)) (x : Int) (u : Tok) (c0 : (decide (x < -(2 ^ 63)) || decide (x ≥ 2 ^ 63)) = false) (c1 : (items.isEmpty || x == 1) = false) (c2 : (decide (x ≤ 0) || items.isEmpty) = true) :
    Meets (Builtin.«tuple.__mul__» ⟨[.ref l, .int x u], []⟩) (fun _ R s => s.heap.get? l = some { cls := .type "tuple", dict := dd, data := .seq items n, slots := sl } ∧
      R (.ok (.ret (Value.ref s.heap.objs.size))) { s with heap := s.heap.push { cls := Value.type "tuple", data := Data.seq #[] }, toks := s.toks }) :=
  .of_wp fun prog w A R s h => by
    obtain ⟨hp, g, d, tk, os⟩ := s
    obtain ⟨hl, h⟩ := h
    have f1 := AutoSeq1.idx_int
    wp_walk using wpAny_loadPart' hl
    repeat (first
      | (refine wpAny_ite_false (decide_eq_false (by rw [c0]; exact Bool.false_ne_true)) ?_; wp_walk using wpAny_loadPart' hl)
      | (refine wpAny_ite_false (decide_eq_false (by rw [c1]; exact Bool.false_ne_true)) ?_; wp_walk using wpAny_loadPart' hl)
      | (refine wpAny_ite_true (decide_eq_true c2) ?_; wp_walk using wpAny_loadPart' hl))
    exact ⟨_, rfl, h⟩
def rRepTA (K : PySem.W.Frag) : R2 := fun x y H Q => ∃ l k xs, x = .ref l ∧ y = .int k ∧ SqT K H l xs ∧ -1000000 ≤ k ∧ k ≤ 1000 ∧ xs.length ≤ 1000 ∧
  ((xs = [] ∨ k = 1) → Q (.ref l) H) ∧ (xs ≠ [] → k ≤ 0 → ∀ p, H p = none → Q (.ref p) (upd H p (.tup []))) ∧ (xs ≠ [] → 2 ≤ k → ∀ p, H p = none → Q (.ref p) (upd H p (.tup (List.replicate k.toNat xs).flatten)))
section
variable {X : Cx}
theorem op_repTA : OpR X (binaryOp .Mult) (rRepTA X.K) := by
  intro pins s σ H x y v u Q I rx ry h
  obtain ⟨l, k, xs, rfl, rfl, hT, h1, h2, hz, q1, q0, q2⟩ := h
  by_cases c : xs ≠ [] ∧ 2 ≤ k
  · exact op_repT pins s σ H _ _ v u Q I rx ry ⟨l, k, xs, rfl, rfl, hT, c.1, c.2, h2, hz, q2 c.1 c.2⟩
  · cases rx
    obtain ⟨t, rfl⟩ := ry
    obtain ⟨its, r, ⟨⟨cls, dd, data, sl⟩, ho, hc, n, hd⟩, hs⟩ := I.tuple hT
    simp only at hc hd
    subst hc hd
    have hle : its.length = xs.length := r.length.symm
    have c0 : (decide (k < -(2 ^ 63)) || decide (k ≥ 2 ^ 63)) = false := by
      rw [decide_eq_false (by omega), decide_eq_false (by omega)] <;> rfl
    by_cases c1 : xs = [] ∨ k = 1
    · have e1 : (its.toArray.isEmpty || k == 1) = true := by
        rcases c1 with c1 | c1
        · have : its = [] := List.eq_nil_of_length_eq_zero (by rw [hle, c1]; rfl)
          rw [this]; rfl
        · rw [c1, Bool.or_eq_true]; exact .inr rfl
      refine wpAny_binaryOp_repeat_ref (T := "tuple") (U := "int") (by decide) ⟨_, ho, rfl⟩ (fun s' => typeIs_int s' k t) noFill_tuple_mul F.fills_int_mul F.slot_int_rmul repeat_tuple F.slot_int_index.lookup
        (call_meets F.slot_int_rmul (typeIs_int s k t) F.entry_int_rmul (F.args_int_rmul_2 _ _) (int_rmul_tuple k t l its.toArray n dd sl)
          ⟨ho, rfl, ⟨_, ho, rfl⟩, call_meets F.slot_tuple_mul ⟨_, ho, rfl⟩ F.entry_tuple_mul (F.args_tuple_mul_2 _ _) (fb_tuple_mul1 l its.toArray n dd sl k t c0 e1) ⟨ho, ?_⟩⟩)
      exact ⟨.ref l, H, I, rfl, q1 c1⟩
    · have hne : xs ≠ [] := fun e => c1 (.inl e)
      have hk1 : k ≠ 1 := fun e => c1 (.inr e)
      have hk0 : k ≤ 0 := by
        have : ¬ 2 ≤ k := fun e => c ⟨hne, e⟩
        omega
      have hi : its.toArray.isEmpty = false := by
        cases its with
        | nil => exact absurd (List.eq_nil_of_length_eq_zero hle.symm) hne
        | cons a b => rfl
      have e1 : (its.toArray.isEmpty || k == 1) = false := by
        rw [hi, Bool.false_or]; exact beq_eq_false_iff_ne.mpr hk1
      have e2 : (decide (k ≤ 0) || its.toArray.isEmpty) = true := by
        rw [decide_eq_true hk0] <;> rfl
      refine wpAny_binaryOp_repeat_ref (T := "tuple") (U := "int") (by decide) ⟨_, ho, rfl⟩ (fun s' => typeIs_int s' k t) noFill_tuple_mul F.fills_int_mul F.slot_int_rmul repeat_tuple F.slot_int_index.lookup
        (call_meets F.slot_int_rmul (typeIs_int s k t) F.entry_int_rmul (F.args_int_rmul_2 _ _) (int_rmul_tuple k t l its.toArray n dd sl)
          ⟨ho, rfl, ⟨_, ho, rfl⟩, call_meets F.slot_tuple_mul ⟨_, ho, rfl⟩ F.entry_tuple_mul (F.args_tuple_mul_2 _ _) (fb_tuple_mul0 l its.toArray n dd sl k t c0 e1 e2) ⟨ho, ?_⟩⟩)
      refine ⟨.ref s.heap.objs.size, _, I.laid (t' := s.toks) (o := .tup []) (fun b ob q => Heap.get?_push_of_some _ q) (Nat.le_refl _) ?_, rfl, q0 hne hk0 _ (I.hok.fresh (Nat.le_refl _))⟩
      exact ⟨Nat.zero_le _, [], .nil, IsTup.new _ _⟩
/-- a text some times -/
def repS (z : Str) (n : Nat) : Str := ⟨(List.replicate n z.cps.toList).flatten.toArray⟩
theorem repS_len (z : Str) (n : Nat) : (repS z n).length = n * z.length := by
  show (List.replicate n z.cps.toList).flatten.toArray.size = n * z.cps.size
  rw [List.size_toArray, PyProof.Rows.lm_len_rep_flat, Array.length_toList]
theorem foldl_repS (l : List Nat) : ∀ (k : Nat) (acc : List Nat), List.foldl (fun x1 x2 => x1 ++ x2) acc.toArray (List.replicate k l.toArray) = (acc ++ (List.replicate k l).flatten).toArray
  | 0, acc => by simp
  | k + 1, acc => by
    rw [List.replicate_succ, List.foldl_cons, List.append_toArray, foldl_repS l k, List.replicate_succ, List.flatten_cons, List.append_assoc]
def rRepS : R2 := fun x y H Q => ∃ z k, x = .str z ∧ y = .int k ∧ -1000000 ≤ k ∧ k ≤ 1000000 ∧ z.length ≤ 1000000 ∧ z.length * k.toNat ≤ 1000000 ∧ Q (.str (repS z k.toNat)) H
theorem op_repS : OpR X (binaryOp .Mult) rRepS := by
  intro pins s σ H x y v u Q I rx ry h
  obtain ⟨z, k, rfl, rfl, h1, h2, hz, hl, q⟩ := h
  obtain ⟨t, rfl⟩ := rx
  obtain ⟨t', rfl⟩ := ry
  have fin : ∀ (t : Tok) k', EP X pins σ Q (.str (repS z k.toNat) t) { s with toks := k' } := fun t k' => ⟨.str (repS z k.toNat), H, I.tok _, ⟨t, rfl⟩, q⟩
  refine P.mul_str (by rw [decide_eq_false (by omega), decide_eq_false (by omega)] <;> rfl) (fun g e => ?_) (fun g e => ?_) ?_
  · have hk : 2 ≤ k := by
      rw [Bool.or_eq_false_iff] at e
      have := beq_eq_false_iff_ne.mp e.1
      omega
    have a0 : (9223372036854775807 : Int) / 1000000 ≤ 9223372036854775807 / k := by
      exact Int.le_ediv_of_mul_le (by omega) (by
        have : (9223372036854775807 : Int) / 1000000 * k ≤ 9223372036854775807 / 1000000 * 1000000 := Int.mul_le_mul_of_nonneg_left h2 (by decide)
        omega)
    show ¬ ((z.length : Int) > (9223372036854775807 : Int) / k)
    omega
  · unfold Builtin.Str.tooLong
    rw [sizeLine_eq]
    exact decide_eq_false (by omega)
  · by_cases g : k < 1
    · rw [if_pos g]
      have e : repS z k.toNat = Str.empty := by
        have : k.toNat = 0 := by omega
        rw [this]; rfl
      exact ⟨by rw [sizeLine_eq]; decide, by have := fin s.toks (s.toks + 1); rw [e] at this; exact this⟩
    · rw [if_neg g]
      by_cases e : (k == 1 || z.length == 0) = true
      · rw [if_pos e]
        have ez : repS z k.toNat = z := by
          rcases Bool.or_eq_true_iff.mp e with e | e
          · have : k.toNat = 1 := by have := beq_iff_eq.mp e; omega
            rw [this]
            show (⟨(List.replicate 1 z.cps.toList).flatten.toArray⟩ : Str) = z
            simp
          · have hz0 : z.cps.size = 0 := beq_iff_eq.mp e
            have : z.cps = #[] := Array.eq_empty_of_size_eq_zero hz0
            show (⟨(List.replicate k.toNat z.cps.toList).flatten.toArray⟩ : Str) = z
            cases z with
            | mk c =>
              simp only at this
              subst this
              simp
        have := fin t s.toks
        rw [ez] at this
        exact this
      · rw [if_neg e]
        have ez : (⟨(List.replicate k.toNat z.cps).foldl (fun x1 x2 => x1 ++ x2) #[]⟩ : Str) = repS z k.toNat := by
          have := foldl_repS z.cps.toList k.toNat []
          simp only [Array.toArray_toList, List.nil_append] at this
          show (⟨_⟩ : Str) = ⟨_⟩
          rw [show (#[] : Array Nat) = [].toArray from rfl, this]
        refine ⟨?_, ?_⟩
        · rw [ez, repS_len, sizeLine_eq, Nat.mul_comm]; omega
        · have := fin s.toks (s.toks + 1)
          rw [← ez] at this
          exact this
end
end L2

set_option maxHeartbeats 4000000
/-! FB2: the core readings: names, constants, operators, tests, displays, calls, statements. -/
namespace FB
open PySem L2

/-! ### looking at data -/
/-- a test's two ways -/
def bc (b : Bool) (p q : Prop) : Prop := (b = true → p) ∧ (b = false → q)
theorem bcT {p q : Prop} (h : bc true p q) : p := h.1 rfl
theorem bcF {p q : Prop} (h : bc false p q) : q := h.2 rfl
def slot0 : Option D → (D → Prop) → Prop
  | some d, k => k d
  | none, _ => False
def slot : Ga → Nat → (D → Prop) → Prop
  | [], _, _ => False
  | x :: _, 0, k => slot0 x k
  | _ :: r, n + 1, k => slot r n k
def asInt : D → (Int → Prop) → Prop
  | .int i, k => k i
  | _, _ => False
def asBl : D → (Bool → Prop) → Prop
  | .bl b, k => k b
  | _, _ => False
def asStr : D → (Str → Prop) → Prop
  | .str x, k => k x
  | _, _ => False
def asTup : D → (List D → Prop) → Prop
  | .tup ds, k => k ds
  | _, _ => False
/-- a list: tracked or not -/
def asLst (S : Sg) : D → (List D → Prop) → Prop
  | .lst ds, k => k ds
  | .ptr p, k => ∃ ds, S p = some (.lst ds) ∧ k ds
  | _, _ => False
/-- a list or a tuple -/
def asSeq (S : Sg) : D → (List D → Prop) → Prop
  | .tup ds, k => k ds
  | .lst ds, k => k ds
  | .ptr p, k => ∃ ds, S p = some (.lst ds) ∧ k ds
  | _, _ => False
/-- a tracked list -/
def asPtr (S : Sg) : D → (Addr → List D → Prop) → Prop
  | .ptr p, k => ∃ ds, S p = some (.lst ds) ∧ k p ds
  | _, _ => False
theorem slot_of : ∀ {γ : Ga} {i : Nat} {k : D → Prop}, slot γ i k → ∃ d, γ[i]? = some (some d) ∧ k d
  | some d :: _, 0, k, h => ⟨d, rfl, h⟩
  | none :: _, 0, k, h => h.elim
  | [], _, k, h => h.elim
  | x :: r, n + 1, k, h => by
    have h' : slot r n k := h
    obtain ⟨d, e, q⟩ := slot_of h'
    exact ⟨d, by simpa using e, q⟩
theorem asInt_of {d : D} {k : Int → Prop} (h : asInt d k) : ∃ i, d = .int i ∧ k i := by
  cases d <;> first | exact ⟨_, rfl, h⟩ | exact h.elim
theorem asBl_of {d : D} {k : Bool → Prop} (h : asBl d k) : ∃ i, d = .bl i ∧ k i := by
  cases d <;> first | exact ⟨_, rfl, h⟩ | exact h.elim
theorem asStr_of {d : D} {k : Str → Prop} (h : asStr d k) : ∃ i, d = .str i ∧ k i := by
  cases d <;> first | exact ⟨_, rfl, h⟩ | exact h.elim
theorem asTup_of {d : D} {k : List D → Prop} (h : asTup d k) : ∃ i, d = .tup i ∧ k i := by
  cases d <;> first | exact ⟨_, rfl, h⟩ | exact h.elim
theorem asPtr_of {S : Sg} {d : D} {k : Addr → List D → Prop} (h : asPtr S d k) : ∃ p ds, d = .ptr p ∧ S p = some (.lst ds) ∧ k p ds := by
  cases d <;> first | exact ⟨_, h.choose, rfl, h.choose_spec.1, h.choose_spec.2⟩ | exact h.elim
section
variable {K : PySem.W.Frag} {H : Hp} {S : Sg} {v : V} {d : D}
theorem rep_int {i : Int} (r : Rep K H (Av S) v (.int i)) : v = .int i := by cases r; rfl
theorem rep_bl {i : Bool} (r : Rep K H (Av S) v (.bl i)) : v = .bl i := by cases r; rfl
theorem rep_str {i : Str} (r : Rep K H (Av S) v (.str i)) : v = .str i := by cases r; rfl
theorem rep_non (r : Rep K H (Av S) v .non) : v = .non := by cases r; rfl
theorem rep_ptr {p : Addr} (r : Rep K H (Av S) v (.ptr p)) : v = .ref p := by cases r; rfl
theorem rep_tup {ds : List D} (r : Rep K H (Av S) v (.tup ds)) : ∃ a xs, v = .ref a ∧ SqT K H a xs ∧ RepL K H (Av S) xs ds := by cases r; exact ⟨_, _, rfl, by assumption, by assumption⟩
/-- a list, read -/
theorem asLst_of {k : List D → Prop} (I : IsH K H S) (r : Rep K H (Av S) v d) (h : asLst S d k) : ∃ a xs ds, v = .ref a ∧ H a = some (.lst xs) ∧ RepL K H (Av S) xs ds ∧ k ds := by
  cases r with
  | lst s a q => exact ⟨_, _, _, rfl, s, q, h⟩
  | ptr p =>
    obtain ⟨ds, e, q⟩ := h
    obtain ⟨xs, e2, r2⟩ := I p _ e
    exact ⟨_, xs, ds, rfl, e2, r2, q⟩
  | non => exact h.elim
  | bl => exact h.elim
  | int => exact h.elim
  | str => exact h.elim
  | tup => exact h.elim
  | dct => exact h.elim
  | scr => exact h.elim
theorem asSeq_of {k : List D → Prop} (I : IsH K H S) (r : Rep K H (Av S) v d) (h : asSeq S d k) : ∃ a xs ds, v = .ref a ∧ (H a = some (.lst xs) ∨ SqT K H a xs) ∧ RepL K H (Av S) xs ds ∧ k ds := by
  cases r with
  | lst s a q => exact ⟨_, _, _, rfl, .inl s, q, h⟩
  | ptr p =>
    obtain ⟨ds, e, q⟩ := h
    obtain ⟨xs, e2, r2⟩ := I p _ e
    exact ⟨_, xs, ds, rfl, .inl e2, r2, q⟩
  | non => exact h.elim
  | bl => exact h.elim
  | int => exact h.elim
  | str => exact h.elim
  | tup s q => exact ⟨_, _, _, rfl, .inr s, q, h⟩
  | dct => exact h.elim
  | scr => exact h.elim
end

/-! ### laying, writing -/
section
variable {K : PySem.W.Frag} {H : Hp} {S : Sg} {p : Addr} {o : HO} {xs : List V} {ds : List D}
/-- a new object, untracked -/
theorem tr_new (n : H p = none) (I : IsH K H S) : Tr H S (upd H p o) S :=
  ⟨fun a u h _ => by rw [upd_ne (ne_of_none h n)]; exact h, fun a h _ => h⟩
theorem RepC.tr {S' : Sg} {H' : Hp} (I : IsH K H S) (t : Tr H S H' S') {q : Addr} (hq : ∀ u, H q = some u → H' q = some u) : ∀ {c : Cell}, RepC K H (Av S) q c → RepC K H' (Av S') q c
  | .lst ds, h => let ⟨xs, e, r⟩ := h; ⟨xs, hq _ e, r.tr I t⟩
  | .dct ks ds, h => let ⟨xs, e, z, r⟩ := h; ⟨xs, hq _ e, z, r.tr I t⟩
  | .xd ks ds, h => let ⟨xs, e, z, r⟩ := h; ⟨xs, hq _ e, z, r.tr I t⟩
theorem is_new (n : H p = none) (I : IsH K H S) : IsH K (upd H p o) S := fun q c e =>
  RepC.tr I (tr_new n I) (fun u h => by rw [upd_ne (ne_of_none h n)]; exact h) (I q c e)
theorem rep_new_tup (n : H p = none) (I : IsH K H S) (r : RepL K H (Av S) xs ds) : Rep K (upd H p (.tup xs)) (Av S) (.ref p) (.tup ds) := .tup (SqT.of upd_same) (r.tr I (tr_new n I))
theorem rep_new_lst (n : H p = none) (I : IsH K H S) (r : RepL K H (Av S) xs ds) : Rep K (upd H p (.lst xs)) (Av S) (.ref p) (.lst ds) := .lst upd_same (I.none_of n) (r.tr I (tr_new n I))
/-- a new object, tracked -/
theorem tr_put {c : Cell} (n : H p = none) (I : IsH K H S) : Tr H S (upd H p o) (put S p c) :=
  ⟨fun a u h _ => by rw [upd_ne (ne_of_none h n)]; exact h, fun a h z => by rw [put_ne (fun e => by rw [e] at z; exact z n)]; exact h⟩
theorem is_put (n : H p = none) (I : IsH K H S) {c : Cell} (h : RepC K (upd H p o) (Av (put S p c)) p c) : IsH K (upd H p o) (put S p c) := fun q c' e => by
  by_cases hq : q = p
  · subst hq
    rw [put_same] at e
    cases e
    exact h
  · rw [put_ne hq] at e
    exact RepC.tr I (tr_put n I) (fun u h => by rw [upd_ne (ne_of_none h n)]; exact h) (I q c' e)
/-- a tracked object is written -/
theorem tr_write {c c' : Cell} (e : S p = some c) : Tr H S (upd H p o) (put S p c') :=
  ⟨fun a u h z => by rw [upd_ne (fun q => by rw [q, e] at z; cases z)]; exact h, fun a h _ => by rw [put_ne (fun q => by rw [q, e] at h; cases h)]; exact h⟩
theorem is_write {c c' : Cell} (e : S p = some c) (I : IsH K H S) (h : RepC K (upd H p o) (Av (put S p c')) p c') : IsH K (upd H p o) (put S p c') := fun q c2 z => by
  by_cases hq : q = p
  · subst hq
    rw [put_same] at z
    cases z
    exact h
  · rw [put_ne hq] at z
    exact RepC.tr I (tr_write e) (fun u h => by rw [upd_ne hq]; exact h) (I q c2 z)
end

section
variable {X : Cx} {W : WX}
/-! ### expressions -/
def aVar (i : Nat) : AE := fun γ S P _ => slot γ i fun d => P d S
def aC (d : D) : AE := fun _ S P _ => P d S
theorem av (i : Nat) {x : Str} {pos : Pos} (hN : X.N[i]? = some x := by rfl) (hv : Vis X.env.scope x := by first | exact Or.inl rfl | exact Or.inr (Or.inl rfl) | exact Or.inr (Or.inr rfl)) (hd : (x == ("__debug__" : Str)) = false := by decide)
    (hcd : (x == ("__classdict__" : Str)) = false := by decide) : PE X (.Name x pos) (cE X.K W (aVar i)) :=
  L2.PE.imp (L2.pv i hN hv hd hcd) fun σ H Q ⟨γ, S, Post, x, I, h, q, _⟩ => by
    obtain ⟨d, e, p⟩ := slot_of h
    obtain ⟨v, e2, r⟩ := I.sl i d e
    exact ⟨v, e2, q v H d S (.refl _ _) I.h r p⟩
theorem c_of {e : Expr} {v : V} {d : D} (h : PE X e (tC v)) (r : ∀ H A, Rep X.K H A v d) : PE X e (cE X.K W (aC d)) :=
  h.imp fun σ H Q ⟨γ, S, Post, x, I, p, q, _⟩ => q v H d S (.refl _ _) I.h (r _ _) p
theorem a_int {i j pos} : PE X (.Constant (.int i) j pos) (cE X.K W (aC (.int i))) := c_of pe_int fun _ _ => .int i
theorem a_bl {b j pos} : PE X (.Constant (.bool b) j pos) (cE X.K W (aC (.bl b))) := c_of pe_bl fun _ _ => .bl b
theorem a_non {j pos} : PE X (.Constant .none j pos) (cE X.K W (aC .non)) := c_of pe_non fun _ _ => .non
theorem a_str {x j pos} : PE X (.Constant (.str x) j pos) (cE X.K W (aC (.str x))) := c_of pe_str fun _ _ => .str x
/-- a module's int -/
theorem a_glob {x : Str} {i : Int} {pos : Pos} (hg : Gl X x) (hm : ∃ t, X.mg x = some (.int i t)) (hd : (x == ("__debug__" : Str)) = false := by decide) : PE X (.Name x pos) (cE X.K W (aC (.int i))) := by
  obtain ⟨t, e⟩ := hm
  exact c_of (pe_glob (v := .int i) hg e ⟨t, rfl⟩ hd) fun _ _ => .int i
/-- two-place operations by data -/
abbrev AR2 := D → D → Sg → (D → Sg → Prop) → Prop
def OpS (K : PySem.W.Frag) (r : R2) (rr : AR2) : Prop := ∀ (H : Hp) (S : Sg) (x y : V) (d e : D) (P : D → Sg → Prop) (Q : VK), IsH K H S → Rep K H (Av S) x d → Rep K H (Av S) y e → rr d e S P → okV K H S P Q → r x y H Q
def aBin (rr : AR2) (a b : AE) : AE := fun γ S P x => a γ S (fun d S1 => b γ S1 (fun e S2 => rr d e S2 P) x) x
theorem bin_imp {K : PySem.W.Frag} {r : R2} {rr : AR2} {aa ab : AE} (s : OpS K r rr) : ∀ σ H Q, cE K W (aBin rr aa ab) σ H Q → tOp r (cE K W aa) (cE K W ab) σ H Q := fun σ H Q ⟨γ, S, P, x, I, h, q, qx⟩ =>
  ⟨γ, S, _, x, I, h, fun v H1 d S1 t J r p => ⟨γ, S1, _, x, I.tr t J, p, fun u H2 e S2 t2 J2 r2 p2 => s H2 S2 v u d e P Q J2 (r.tr J t2) r2 p2 (q.tr (t.trans t2)), qx.tr t⟩, qx⟩
theorem a_op {op : Operator} {r : R2} {rr : AR2} {a b : Expr} {aa ab : AE} {pos : Pos} (ho : OpR X (binaryOp op) r) (s : OpS X.K r rr) (ha : PE X a (cE X.K W aa)) (hb : PE X b (cE X.K W ab)) : PE X (.BinOp a op b pos) (cE X.K W (aBin rr aa ab)) :=
  (pe_op ho ha hb).imp (bin_imp s)
theorem a_cmp {op : CmpOp} {r : R2} {rr : AR2} {a b : Expr} {aa ab : AE} {pos : Pos} (ho : OpR X (compareOp op) r) (s : OpS X.K r rr) (ha : PE X a (cE X.K W aa)) (hb : PE X b (cE X.K W ab)) (hm : behindInMarks op b = false) : PE X (.Compare a [op] [b] pos) (cE X.K W (aBin rr aa ab)) :=
  (pe_cmpR ho ha hb hm).imp (bin_imp s)
theorem a_ix {r : R2} {rr : AR2} {a b : Expr} {aa ab : AE} {pos : Pos} (ho : IxR X r) (s : OpS X.K r rr) (ha : PE X a (cE X.K W aa)) (hb : PE X b (cE X.K W ab)) (hs : PlainIx b := by exact fun _ _ => rfl) : PE X (.Subscript a b pos) (cE X.K W (aBin rr aa ab)) :=
  (pe_ix ho ha hb hs).imp (bin_imp s)
/-- ints to a value -/
def rrI (C : Int → Int → Prop) (g : Int → Int → D) : AR2 := fun d e S P => asInt d fun i => asInt e fun j => C i j ∧ P (g i j) S
def rrI0 (g : Int → Int → D) : AR2 := fun d e S P => asInt d fun i => asInt e fun j => P (g i j) S
theorem ops_I {K : PySem.W.Frag} {C : Int → Int → Prop} {g : Int → Int → V} {gd : Int → Int → D} (hr : ∀ i j H A, Rep K H A (g i j) (gd i j)) : OpS K (rI C g) (rrI C gd) := fun H S x y d e P Q I r1 r2 h q => by
  obtain ⟨i, e1, h1⟩ := asInt_of h
  obtain ⟨j, e2, c, h2⟩ := asInt_of h1
  subst e1 e2
  exact ⟨i, j, rep_int r1, rep_int r2, c, q _ _ _ _ (.refl _ _) I (hr i j _ _) h2⟩
theorem ops_I0 {K : PySem.W.Frag} {g : Int → Int → V} {gd : Int → Int → D} (hr : ∀ i j H A, Rep K H A (g i j) (gd i j)) : OpS K (rI0 g) (rrI0 gd) := fun H S x y d e P Q I r1 r2 h q => by
  obtain ⟨i, e1, h1⟩ := asInt_of h
  obtain ⟨j, e2, h2⟩ := asInt_of h1
  subst e1 e2
  exact ⟨i, j, rep_int r1, rep_int r2, q _ _ _ _ (.refl _ _) I (hr i j _ _) h2⟩
variable {a b c : Expr} {aa ab ac : AE} {pos : Pos}
def aAdd : AE → AE → AE := aBin (rrI0 fun i j => .int (i + j))
def aSub : AE → AE → AE := aBin (rrI0 fun i j => .int (i - j))
def aMul : AE → AE → AE := aBin (rrI CMul fun i j => .int (i * j))
def aMulW : AE → AE → AE := aBin (rrI CMulW fun i j => .int (i * j))
def aMod : AE → AE → AE := aBin (rrI (fun _ j => 0 < j) fun i j => .int (i % j))
def aFdiv : AE → AE → AE := aBin (rrI CDiv fun i j => .int (i / j))
def aFdivW : AE → AE → AE := aBin (rrI CDivW fun i j => .int (i / j))
def aPow : AE → AE → AE := aBin (rrI CPow fun i j => .int (i ^ j.toNat))
def aShl : AE → AE → AE := aBin (rrI CPow fun i j => .int (i * 2 ^ j.toNat))
def aShr : AE → AE → AE := aBin (rrI (fun _ j => 0 ≤ j) fun i j => .int (i / 2 ^ j.toNat))
theorem a_add (ha : PE X a (cE X.K W aa)) (hb : PE X b (cE X.K W ab)) : PE X (.BinOp a .Add b pos) (cE X.K W (aAdd aa ab)) := a_op op_add (ops_I0 fun _ _ _ _ => .int _) ha hb
theorem a_sub (ha : PE X a (cE X.K W aa)) (hb : PE X b (cE X.K W ab)) : PE X (.BinOp a .Sub b pos) (cE X.K W (aSub aa ab)) := a_op op_sub (ops_I0 fun _ _ _ _ => .int _) ha hb
theorem a_mul (ha : PE X a (cE X.K W aa)) (hb : PE X b (cE X.K W ab)) : PE X (.BinOp a .Mult b pos) (cE X.K W (aMul aa ab)) := a_op op_mul (ops_I fun _ _ _ _ => .int _) ha hb
theorem a_mulW (ha : PE X a (cE X.K W aa)) (hb : PE X b (cE X.K W ab)) : PE X (.BinOp a .Mult b pos) (cE X.K W (aMulW aa ab)) := a_op op_mulW (ops_I fun _ _ _ _ => .int _) ha hb
theorem a_mod (ha : PE X a (cE X.K W aa)) (hb : PE X b (cE X.K W ab)) : PE X (.BinOp a .Mod b pos) (cE X.K W (aMod aa ab)) := a_op op_mod (ops_I fun _ _ _ _ => .int _) ha hb
theorem a_fdiv (ha : PE X a (cE X.K W aa)) (hb : PE X b (cE X.K W ab)) : PE X (.BinOp a .FloorDiv b pos) (cE X.K W (aFdiv aa ab)) := a_op op_fdiv (ops_I fun _ _ _ _ => .int _) ha hb
theorem a_fdivW (ha : PE X a (cE X.K W aa)) (hb : PE X b (cE X.K W ab)) : PE X (.BinOp a .FloorDiv b pos) (cE X.K W (aFdivW aa ab)) := a_op op_fdivW (ops_I fun _ _ _ _ => .int _) ha hb
theorem a_pow (ha : PE X a (cE X.K W aa)) (hb : PE X b (cE X.K W ab)) : PE X (.BinOp a .Pow b pos) (cE X.K W (aPow aa ab)) := a_op op_pow (ops_I fun _ _ _ _ => .int _) ha hb
theorem a_shl (ha : PE X a (cE X.K W aa)) (hb : PE X b (cE X.K W ab)) : PE X (.BinOp a .LShift b pos) (cE X.K W (aShl aa ab)) := a_op op_shl (ops_I fun _ _ _ _ => .int _) ha hb
theorem a_shr (ha : PE X a (cE X.K W aa)) (hb : PE X b (cE X.K W ab)) : PE X (.BinOp a .RShift b pos) (cE X.K W (aShr aa ab)) := a_op op_shr (ops_I fun _ _ _ _ => .int _) ha hb
def aLt : AE → AE → AE := aBin (rrI0 fun i j => .bl (decide (i < j)))
def aLe : AE → AE → AE := aBin (rrI0 fun i j => .bl (decide (i ≤ j)))
def aGt : AE → AE → AE := aBin (rrI0 fun i j => .bl (decide (j < i)))
def aGe : AE → AE → AE := aBin (rrI0 fun i j => .bl (decide (j ≤ i)))
theorem a_lt (ha : PE X a (cE X.K W aa)) (hb : PE X b (cE X.K W ab)) : PE X (.Compare a [.Lt] [b] pos) (cE X.K W (aLt aa ab)) := a_cmp op_lt (ops_I0 fun _ _ _ _ => .bl _) ha hb (nomark _)
theorem a_le (ha : PE X a (cE X.K W aa)) (hb : PE X b (cE X.K W ab)) : PE X (.Compare a [.LtE] [b] pos) (cE X.K W (aLe aa ab)) := a_cmp op_le (ops_I0 fun _ _ _ _ => .bl _) ha hb (nomark _)
theorem a_gt (ha : PE X a (cE X.K W aa)) (hb : PE X b (cE X.K W ab)) : PE X (.Compare a [.Gt] [b] pos) (cE X.K W (aGt aa ab)) := a_cmp op_gt (ops_I0 fun _ _ _ _ => .bl _) ha hb (nomark _)
theorem a_ge (ha : PE X a (cE X.K W aa)) (hb : PE X b (cE X.K W ab)) : PE X (.Compare a [.GtE] [b] pos) (cE X.K W (aGe aa ab)) := a_cmp op_ge (ops_I0 fun _ _ _ _ => .bl _) ha hb (nomark _)
/-! ### == of scalars: none, ints, bools, texts of one kind -/
def eqS : D → D → (Bool → Prop) → Prop
  | .non, .non, k => k true
  | .int i, .int j, k => k (decide (i = j))
  | .bl i, .bl j, k => k (decide (i = j))
  | .str i, .str j, k => k (decide (i = j))
  | .non, .int _, k => k false | .int _, .non, k => k false | .non, .bl _, k => k false | .bl _, .non, k => k false | .non, .str _, k => k false | .str _, .non, k => k false
  | .int _, .str _, k => k false | .str _, .int _, k => k false | .bl _, .str _, k => k false | .str _, .bl _, k => k false
  | _, _, _ => False
theorem eqS_of {K : PySem.W.Frag} {H : Hp} {S : Sg} {x y : V} {d e : D} {k : Bool → Prop} (r1 : Rep K H (Av S) x d) (r2 : Rep K H (Av S) y e) (h : eqS d e k) : scal x y = true ∧ k (decide (x = y)) := by
  cases r1 <;> cases r2 <;> first
    | exact h.elim
    | exact ⟨rfl, by simpa [eqS] using h⟩
def aEqS : AE → AE → AE := aBin fun d e S P => eqS d e fun c => P (.bl c) S
def aNeS : AE → AE → AE := aBin fun d e S P => eqS d e fun c => P (.bl (!c)) S
theorem a_eqS (ha : PE X a (cE X.K W aa)) (hb : PE X b (cE X.K W ab)) : PE X (.Compare a [.Eq] [b] pos) (cE X.K W (aEqS aa ab)) :=
  a_cmp op_eq (fun H S x y d e P Q I r1 r2 h q => let ⟨z, h⟩ := eqS_of r1 r2 h; ⟨z, q _ _ _ _ (.refl _ _) I (.bl _) h⟩) ha hb (nomark _)
theorem a_neS (ha : PE X a (cE X.K W aa)) (hb : PE X b (cE X.K W ab)) : PE X (.Compare a [.NotEq] [b] pos) (cE X.K W (aNeS aa ab)) :=
  a_cmp op_ne (fun H S x y d e P Q I r1 r2 h q => let ⟨z, h⟩ := eqS_of r1 r2 h; ⟨z, q _ _ _ _ (.refl _ _) I (.bl _) h⟩) ha hb (nomark _)
/-! ### one-place -/
def aUn (rr : D → Sg → (D → Sg → Prop) → Prop) (a : AE) : AE := fun γ S P x => a γ S (fun d S1 => rr d S1 P) x
def aNeg : AE → AE := aUn fun d S P => asInt d fun i => P (.int (-i)) S
theorem a_neg (ha : PE X a (cE X.K W aa)) : PE X (.UnaryOp .USub a pos) (cE X.K W (aNeg aa)) :=
  (pe_un un_neg ha).imp fun σ H Q ⟨γ, S, P, x, I, h, q, qx⟩ => ⟨γ, S, _, x, I, h, fun v H1 d S1 t J r p => by
    obtain ⟨i, rfl, h⟩ := asInt_of p
    exact ⟨i, rep_int r, q _ _ _ _ t J (.int _) h⟩, qx⟩
/-! ### tests -/
def aTV (a : AE) : AT := fun γ S P x => a γ S (fun d S1 => asBl d fun b => P b S1) x
theorem t_val {e : Expr} (h : PE X e (cE X.K W aa)) (he : ∀ whole, isTrue e X.env whole = (do let v ← whole; standAt e.pos; holding [v] (truthy v)) := by intro _; rfl) : PT X e (cT X.K W (aTV aa)) :=
  (pt_val h he).imp fun σ H Q ⟨γ, S, P, x, I, h, q, qx⟩ => ⟨γ, S, _, x, I, h, fun v H1 d S1 t J r p => by
    obtain ⟨i, rfl, h⟩ := asBl_of p
    exact ⟨i, rep_bl r, q _ _ _ t J h⟩, qx⟩
def aNot (t : AT) : AT := fun γ S P x => t γ S (fun b S1 => P (!b) S1) x
def aAnd (t u : AT) : AT := fun γ S P x => t γ S (fun b S1 => bc b (u γ S1 P x) (P false S1)) x
def aOr (t u : AT) : AT := fun γ S P x => t γ S (fun b S1 => bc b (P true S1) (u γ S1 P x)) x
variable {tA tB' : AT} {rest : List Expr}
theorem t_not (ha : PT X a (cT X.K W tA)) : PT X (.UnaryOp .Not a pos) (cT X.K W (aNot tA)) :=
  (pt_not ha).imp fun σ H Q ⟨γ, S, P, x, I, h, q, qx⟩ => ⟨γ, S, _, x, I, h, fun b H1 S1 t J p => q _ _ _ t J p, qx⟩
theorem w_and1 (ha : PT X a (cT X.K W tA)) : PW X (.BoolOp .And [a] pos) (cT X.K W tA) := pw_and1 ha
theorem w_or1 (ha : PT X a (cT X.K W tA)) : PW X (.BoolOp .Or [a] pos) (cT X.K W tA) := pw_or1 ha
theorem w_and (ha : PT X a (cT X.K W tA)) (hb : PW X (.BoolOp .And (b :: rest) pos) (cT X.K W tB')) : PW X (.BoolOp .And (a :: b :: rest) pos) (cT X.K W (aAnd tA tB')) :=
  (pw_and ha hb).imp fun σ H Q ⟨γ, S, P, x, I, h, q, qx⟩ => ⟨γ, S, _, x, I, h, fun b H1 S1 t J p => by
    cases b with
    | true => exact L2.iteT ⟨γ, S1, _, x, I.tr t J, bcT p, q.tr t, qx.tr t⟩
    | false => exact L2.iteF (q _ _ _ t J (bcF p)), qx⟩
theorem w_or (ha : PT X a (cT X.K W tA)) (hb : PW X (.BoolOp .Or (b :: rest) pos) (cT X.K W tB')) : PW X (.BoolOp .Or (a :: b :: rest) pos) (cT X.K W (aOr tA tB')) :=
  (pw_or ha hb).imp fun σ H Q ⟨γ, S, P, x, I, h, q, qx⟩ => ⟨γ, S, _, x, I, h, fun b H1 S1 t J p => by
    cases b with
    | true => exact L2.iteT (q _ _ _ t J (bcT p))
    | false => exact L2.iteF ⟨γ, S1, _, x, I.tr t J, bcF p, q.tr t, qx.tr t⟩, qx⟩
/-! .. as values (bools) -/
def aAndV (a b : AE) : AE := fun γ S P x => a γ S (fun d S1 => asBl d fun c => bc c (b γ S1 P x) (P (.bl false) S1)) x
def aOrV (a b : AE) : AE := fun γ S P x => a γ S (fun d S1 => asBl d fun c => bc c (P (.bl true) S1) (b γ S1 P x)) x
def aNotV (a : AE) : AE := fun γ S P x => a γ S (fun d S1 => asBl d fun c => P (.bl (!c)) S1) x
theorem a_one {op} (h : PE X a (cE X.K W aa)) : PE X (.BoolOp op [a] pos) (cE X.K W aa) := pe_one h
theorem a_andV (ha : PE X a (cE X.K W aa)) (hb : PE X (.BoolOp .And (b :: rest) pos) (cE X.K W ab)) : PE X (.BoolOp .And (a :: b :: rest) pos) (cE X.K W (aAndV aa ab)) :=
  (pe_and ha hb).imp fun σ H Q ⟨γ, S, P, x, I, h, q, qx⟩ => ⟨γ, S, _, x, I, h, fun v H1 d S1 t J r p => by
    obtain ⟨c, rfl, h⟩ := asBl_of p
    refine ⟨c, rep_bl r, ?_⟩
    cases c with
    | true => exact L2.iteT ⟨γ, S1, _, x, I.tr t J, bcT h, q.tr t, qx.tr t⟩
    | false => exact L2.iteF (q _ _ _ _ t J (.bl _) (bcF h)), qx⟩
theorem a_orV (ha : PE X a (cE X.K W aa)) (hb : PE X (.BoolOp .Or (b :: rest) pos) (cE X.K W ab)) : PE X (.BoolOp .Or (a :: b :: rest) pos) (cE X.K W (aOrV aa ab)) :=
  (pe_or ha hb).imp fun σ H Q ⟨γ, S, P, x, I, h, q, qx⟩ => ⟨γ, S, _, x, I, h, fun v H1 d S1 t J r p => by
    obtain ⟨c, rfl, h⟩ := asBl_of p
    refine ⟨c, rep_bl r, ?_⟩
    cases c with
    | true => exact L2.iteT (q _ _ _ _ t J (.bl _) (bcT h))
    | false => exact L2.iteF ⟨γ, S1, _, x, I.tr t J, bcF h, q.tr t, qx.tr t⟩, qx⟩
theorem a_notV (ha : PE X a (cE X.K W aa)) : PE X (.UnaryOp .Not a pos) (cE X.K W (aNotV aa)) :=
  (pe_not ha).imp fun σ H Q ⟨γ, S, P, x, I, h, q, qx⟩ => ⟨γ, S, _, x, I, h, fun v H1 d S1 t J r p => by
    obtain ⟨c, rfl, h⟩ := asBl_of p
    exact ⟨c, rep_bl r, q _ _ _ _ t J (.bl _) h⟩, qx⟩
def aIf (t : AT) (a b : AE) : AE := fun γ S P x => t γ S (fun c S1 => bc c (a γ S1 P x) (b γ S1 P x)) x
theorem a_if (hc : PT X c (cT X.K W tA)) (ha : PE X a (cE X.K W aa)) (hb : PE X b (cE X.K W ab)) : PE X (.IfExp c a b pos) (cE X.K W (aIf tA aa ab)) :=
  (pe_ifExp hc ha hb).imp fun σ H Q ⟨γ, S, P, x, I, h, q, qx⟩ => ⟨γ, S, _, x, I, h, fun c H1 S1 t J p => by
    cases c with
    | true => exact L2.iteT ⟨γ, S1, _, x, I.tr t J, bcT p, q.tr t, qx.tr t⟩
    | false => exact L2.iteF ⟨γ, S1, _, x, I.tr t J, bcF p, q.tr t, qx.tr t⟩, qx⟩
/-! ### arguments, displays -/
def aNil : AA := fun _ S P _ => P [] S
def aCons (a : AE) (r : AA) : AA := fun γ S P x => a γ S (fun d S1 => r γ S1 (fun ds S2 => P (d :: ds) S2) x) x
variable {e : Expr} {es : List Expr} {ae : AE} {ar : AA}
theorem g_nil : PA X [] (cA X.K W aNil) := pa_nil.imp fun σ H Q ⟨γ, S, P, x, I, h, q, qx⟩ => q _ _ _ _ (.refl _ _) I.h .nil h
theorem cons_imp {K : PySem.W.Frag} : ∀ σ H Q, cA K W (aCons ae ar) σ H Q → tCons (cE K W ae) (cA K W ar) σ H Q := fun σ H Q ⟨γ, S, P, x, I, h, q, qx⟩ =>
  ⟨γ, S, _, x, I, h, fun v H1 d S1 t J r p => ⟨γ, S1, _, x, I.tr t J, p, fun vs H2 ds S2 t2 J2 r2 p2 => q _ _ _ _ (t.trans t2) J2 (.cons (r.tr J t2) r2) p2, qx.tr t⟩, qx⟩
theorem g_cons (ha : PE X e (cE X.K W ae)) (hr : PA X es (cA X.K W ar)) (hs : starEach (e :: es) X.env = (false, eval e X.env) :: starEach es X.env := by rfl) : PA X (e :: es) (cA X.K W (aCons ae ar)) := (pa_cons ha hr hs).imp cons_imp
def aTup (g : AA) : AE := fun γ S P x => g γ S (fun ds S1 => ds.length ≤ 100000 ∧ P (.tup ds) S1) x
/-- a new list that stays untracked; a new list that is tracked -/
def aLst (g : AA) : AE := fun γ S P x => g γ S (fun ds S1 => ds.length ≤ 100000 ∧ P (.lst ds) S1) x
def aLstN (g : AA) : AE := fun γ S P x => g γ S (fun ds S1 => ds.length ≤ 100000 ∧ ∀ p, S1 p = none → P (.ptr p) (put S1 p (.lst ds))) x
theorem sz {n : Nat} (h : n ≤ 100000) : n ≤ sizeLine := by rw [sizeLine_eq]; omega
/-- the ends of rules that make a new object -/
theorem new_tup {K : PySem.W.Frag} {H : Hp} {S : Sg} {P : D → Sg → Prop} {Q : VK} {xs : List V} {ds : List D} (q : okV K H S P Q) (I : IsH K H S) (r : RepL K H (Av S) xs ds) (p : P (.tup ds) S) : ∀ p, H p = none → Q (.ref p) (upd H p (.tup xs)) :=
  fun b n => q _ _ _ _ (tr_new n I) (is_new n I) (rep_new_tup n I r) p
theorem new_lst {K : PySem.W.Frag} {H : Hp} {S : Sg} {P : D → Sg → Prop} {Q : VK} {xs : List V} {ds : List D} (q : okV K H S P Q) (I : IsH K H S) (r : RepL K H (Av S) xs ds) (p : P (.lst ds) S) : ∀ p, H p = none → Q (.ref p) (upd H p (.lst xs)) :=
  fun b n => q _ _ _ _ (tr_new n I) (is_new n I) (rep_new_lst n I r) p
theorem new_lstN {K : PySem.W.Frag} {H : Hp} {S : Sg} {P : D → Sg → Prop} {Q : VK} {xs : List V} {ds : List D} (q : okV K H S P Q) (I : IsH K H S) (r : RepL K H (Av S) xs ds) (p : ∀ p, S p = none → P (.ptr p) (put S p (.lst ds))) : ∀ p, H p = none → Q (.ref p) (upd H p (.lst xs)) :=
  fun b n => q _ _ _ _ (tr_put (c := .lst ds) n I) (is_put (c := .lst ds) n I ⟨xs, upd_same, r.tr I (tr_put n I)⟩) (.ptr b) (p b (I.none_of n))
theorem a_tup {x1} (h : PA X es (cA X.K W ar)) : PE X (.Tuple es x1 pos) (cE X.K W (aTup ar)) :=
  (pe_tup h).imp fun σ H Q ⟨γ, S, P, x, I, h, q, qx⟩ => ⟨γ, S, _, x, I, h, fun vs H1 ds S1 t J r p => ⟨by rw [r.length]; exact sz p.1, new_tup (q.tr t) J r p.2⟩, qx⟩
theorem a_lst (h : PA X es (cA X.K W ar)) : PE X (.List es pos) (cE X.K W (aLst ar)) :=
  (pe_lst h).imp fun σ H Q ⟨γ, S, P, x, I, h, q, qx⟩ => ⟨γ, S, _, x, I, h, fun vs H1 ds S1 t J r p => ⟨by rw [r.length]; exact sz p.1, new_lst (q.tr t) J r p.2⟩, qx⟩
theorem a_lstN (h : PA X es (cA X.K W ar)) : PE X (.List es pos) (cE X.K W (aLstN ar)) :=
  (pe_lst h).imp fun σ H Q ⟨γ, S, P, x, I, h, q, qx⟩ => ⟨γ, S, _, x, I, h, fun vs H1 ds S1 t J r p => ⟨by rw [r.length]; exact sz p.1, new_lstN (q.tr t) J r p.2⟩, qx⟩
end

/-! ### promises -/
abbrev ASp := List D → Sg → (D → Sg → Prop) → XP → Prop
/-- a promise over data, as one over values; n: how many arguments -/
def cSp (K : PySem.W.Frag) (n : Nat) (asp : ASp) : Sp := fun vs H Q E => ∃ ds S P x, IsH K H S ∧ RepL K H (Av S) vs ds ∧ ds.length = n ∧ asp ds S P x ∧ okV K H S P Q ∧ ∀ C dd H' S', Tr H S H' S' → IsH K H' S' → x C dd S' → E (.ref C) (some dd) H'
theorem cSp_len {K : PySem.W.Frag} {n : Nat} {asp : ASp} {vs : List V} {H : Hp} {Q : VK} {E : XK} (h : cSp K n asp vs H Q E) : vs.length = n := by
  obtain ⟨ds, S, P, x, I, r, l, _⟩ := h
  rw [r.length, l]
def aCall (asp : ASp) (g : AA) : AE := fun γ S P x => g γ S (fun ds S1 => asp ds S1 P x) x
theorem call_imp {K : PySem.W.Frag} {W : WX} {n : Nat} {asp : ASp} {ar : AA} {E : L2.St → XK} (hl : ∀ γ S P x, ar γ S P x → ar γ S (fun ds S' => ds.length = n ∧ P ds S') x) (hE : ∀ cls d σ H, W cls d σ H → E σ cls d H) :
    ∀ σ H Q, cE K W (aCall asp ar) σ H Q → cA K W ar σ H fun vs H1 => cSp K n asp vs H1 Q (E σ) := fun σ H Q ⟨γ, S, P, x, I, h, q, qx⟩ =>
  ⟨γ, S, _, x, I, hl _ _ _ _ h, fun vs H1 ds S1 t J r p => ⟨ds, S1, P, x, J, r, p.1, p.2, q.tr t, fun C dd H2 S2 t2 J2 z => hE _ _ _ _ (qx C dd H2 S2 (t.trans t2) J2 z)⟩, qx⟩
end FB

set_option maxHeartbeats 4000000
/-! FB3: statements, loops, comprehensions, defs. -/
namespace FB
open PySem L2
section
variable {X : Cx} {W : WX} {st : Stmt} {rest : List Stmt} {ta tb : ATS} {e a b : Expr} {ae aa ab : AE} {pos : Pos}
/-! ### plain statements -/
def aNext : ATS := fun Da γ S => Da.nx γ S
def aSeq (t u : ATS) : ATS := fun Da γ S => t { Da with nx := fun γ' S' => u Da γ' S' } γ S
theorem z_nil : PSs X [] (cS X.K W aNext) := pss_nil.imp fun Dc σ H ⟨γ, S, Da, I, h, ok⟩ => ok.nx σ H γ S (.refl _ _) I h
theorem z_cons (h1 : PS X st (cS X.K W ta)) (h2 : PSs X rest (cS X.K W tb)) : PSs X (st :: rest) (cS X.K W (aSeq ta tb)) :=
  (pss_cons h1 h2).imp fun Dc σ H ⟨γ, S, Da, I, h, ok⟩ => ⟨γ, S, _, I, h, ⟨fun σ' H' γ' S' t J p => ⟨γ', S', Da, J, p, ok.tr t⟩, ok.rt, ok.bk, ok.ct, ok.ex⟩⟩
theorem z_one (h1 : PS X st (cS X.K W ta)) : PSs X [st] (cS X.K W ta) := pss_one h1
def aBreak : ATS := fun Da γ S => Da.bk γ S
def aCont : ATS := fun Da γ S => Da.ct γ S
theorem s_pass : PS X (.Pass pos) (cS X.K W aNext) := ps_pass.imp fun Dc σ H ⟨γ, S, Da, I, h, ok⟩ => ok.nx σ H γ S (.refl _ _) I h
theorem s_break : PS X (.Break pos) (cS X.K W aBreak) := ps_break.imp fun Dc σ H ⟨γ, S, Da, I, h, ok⟩ => ok.bk σ H γ S (.refl _ _) I h
theorem s_continue : PS X (.Continue pos) (cS X.K W aCont) := ps_continue.imp fun Dc σ H ⟨γ, S, Da, I, h, ok⟩ => ok.ct σ H γ S (.refl _ _) I h
def aDrop (a : AE) : ATS := fun Da γ S => a γ S (fun _ S1 => Da.nx γ S1) (Da.ex γ)
theorem s_expr (he : PE X e (cE X.K W ae)) (hs : swapsWith e none pos.line X.env = pure false := by rfl) : PS X (.Expr e pos) (cS X.K W (aDrop ae)) :=
  (ps_expr he hs).imp fun Dc σ H ⟨γ, S, Da, I, h, ok⟩ => ⟨γ, S, _, _, I, h, fun v H1 d S1 t J r p => ok.nx σ H1 γ S1 t (I.tr t J) p, ok.ex.at I⟩
def aRet (a : AE) : ATS := fun Da γ S => a γ S Da.rt (Da.ex γ)
theorem s_ret (he : PE X e (cE X.K W ae)) : PS X (.Return (some e) pos) (cS X.K W (aRet ae)) :=
  (ps_ret he).imp fun Dc σ H ⟨γ, S, Da, I, h, ok⟩ => ⟨γ, S, _, _, I, h, ok.rt, ok.ex.at I⟩
def aRetN : ATS := fun Da γ S => Da.rt .non S
theorem s_retN : PS X (.Return none pos) (cS X.K W aRetN) := ps_retN.imp fun Dc σ H ⟨γ, S, Da, I, h, ok⟩ => ok.rt _ H _ S (.refl _ _) I.h .non h
def aIfS (c : AT) (t u : ATS) : ATS := fun Da γ S => c γ S (fun b S1 => bc b (t Da γ S1) (u Da γ S1)) (Da.ex γ)
theorem s_if {c : Expr} {x y : List Stmt} {tc : AT} (hc : PT X c (cT X.K W tc)) (ha : PSs X x (cS X.K W ta)) (hb : PSs X y (cS X.K W tb)) : PS X (.If c x y pos) (cS X.K W (aIfS tc ta tb)) :=
  (ps_if hc ha hb).imp fun Dc σ H ⟨γ, S, Da, I, h, ok⟩ => ⟨γ, S, _, _, I, h, fun c H1 S1 t J p => by
    cases c with
    | true => exact L2.iteT ⟨γ, S1, Da, I.tr t J, bcT p, ok.tr t⟩
    | false => exact L2.iteF ⟨γ, S1, Da, I.tr t J, bcF p, ok.tr t⟩, ok.ex.at I⟩
/-! ### stores -/
abbrev AG := D → Ga → Sg → (Ga → Sg → Prop) → Prop
/-- a target by data; vs: only slots of vs are stored -/
def GS (K : PySem.W.Frag) (g : TG) (ag : AG) : Prop := ∀ (x : V) (d : D) (σ : L2.St) (H : Hp) (γ : Ga) (S : Sg) (k : Ga → Sg → Prop) (Q : L2.St → Hp → Prop), Is K σ H γ S → Rep K H (Av S) x d → ag d γ S k → okN K H S k Q → g x σ H Q
def agName (i : Nat) : AG := fun d γ S k => k (γ.set i (some d)) S
theorem gs_name {K : PySem.W.Frag} {i : Nat} : GS K (gName i) (agName i) := fun x d σ H γ S k Q I r h q => q _ _ _ _ (.refl _ _) (I.set i r) h
def agTup (n : Nat) (u : List D → Ga → Sg → (Ga → Sg → Prop) → Prop) : AG := fun d γ S k => asTup d fun ds => ds.length = n ∧ u ds γ S k
def GSs (K : PySem.W.Frag) (g : TGs) (ag : List D → Ga → Sg → (Ga → Sg → Prop) → Prop) : Prop := ∀ (xs : List V) (ds : List D) (σ : L2.St) (H : Hp) (γ : Ga) (S : Sg) (k : Ga → Sg → Prop) (Q : L2.St → Hp → Prop), Is K σ H γ S → RepL K H (Av S) xs ds → ag ds γ S k → okN K H S k Q → g xs σ H Q
def agNil : List D → Ga → Sg → (Ga → Sg → Prop) → Prop := fun ds γ S k => ds = [] ∧ k γ S
def agCons (g : AG) (u : List D → Ga → Sg → (Ga → Sg → Prop) → Prop) : List D → Ga → Sg → (Ga → Sg → Prop) → Prop
  | d :: ds, γ, S, k => g d γ S fun γ1 S1 => u ds γ1 S1 k
  | [], _, _, _ => False
theorem gss_nil {K : PySem.W.Frag} : GSs K gNil agNil := fun xs ds σ H γ S k Q I r h q => by
  obtain ⟨rfl, h⟩ := h
  cases r
  exact ⟨rfl, q _ _ _ _ (.refl _ _) I h⟩
theorem gss_cons {K : PySem.W.Frag} {g : TG} {ag : AG} {u : TGs} {au : List D → Ga → Sg → (Ga → Sg → Prop) → Prop} (h1 : GS K g ag) (h2 : GSs K u au) : GSs K (gCons g u) (agCons ag au) := fun xs ds σ H γ S k Q I r h q => by
  cases r with
  | nil => exact h.elim
  | cons r1 r2 => exact ⟨_, _, rfl, h1 _ _ _ _ _ _ _ _ I r1 h fun σ' H' γ' S' t J p => h2 _ _ _ _ _ _ _ _ J (r2.tr I.h t) p (q.tr t)⟩
theorem gs_tup {K : PySem.W.Frag} {n : Nat} {u : TGs} {au : List D → Ga → Sg → (Ga → Sg → Prop) → Prop} (h2 : GSs K u au) : GS K (gTup K n u) (agTup n au) := fun x d σ H γ S k Q I r h q => by
  obtain ⟨ds, e, hl, h1⟩ := asTup_of h
  subst e
  obtain ⟨a, xs, e, s, r2⟩ := rep_tup r
  exact ⟨a, xs, e, s, by rw [r2.length]; exact hl, h2 _ _ _ _ _ _ _ _ I r2 h1 q⟩
def aAsg (a : AE) (g : AG) : ATS := fun Da γ S => a γ S (fun d S1 => g d γ S1 Da.nx) (Da.ex γ)
theorem asg_imp {K : PySem.W.Frag} {g : TG} {ag : AG} (gs : GS K g ag) : ∀ Dc σ H, cS K W (aAsg ae ag) Dc σ H → tAsg (cE K W ae) g Dc σ H := fun Dc σ H ⟨γ, S, Da, I, h, ok⟩ =>
  ⟨γ, S, _, _, I, h, fun v H1 d S1 t J r p => gs _ _ _ _ _ _ _ _ (I.tr t J) r p (ok.nx.tr t), ok.ex.at I⟩
theorem s_set {i : Nat} {x : Str} {pos' : Pos} (hN : X.N.Nodup) (hi : X.N[i]? = some x) (hx : Loc X.env.scope x) (he : PE X e (cE X.K W ae)) (hs : swapsWith e (some (.Name x pos')) pos.line X.env = pure false := by rfl) (hf : X.fn x = true ∨ X.env.scope.names.lookup x = some .local := by first | exact .inl rfl | exact .inr rfl | assumption) :
    PS X (.Assign [.Name x pos'] e pos) (cS X.K W (aAsg ae (agName i))) := (ps_set hN hi hx he hs hf).imp (asg_imp gs_name)
theorem s_asg {tg : Expr} {g : TG} {ag : AG} (he : PE X e (cE X.K W ae)) (hg : PG X tg g) (gs : GS X.K g ag) (hs : swapsWithSole [tg] e pos.line X.env = pure false := by rfl) (hw : swappedStores [tg] e X.env = pure none := by rfl)
    (h1 : (assignEach [tg] X.env).map (·.2) = [assign tg X.env] := by rfl) : PS X (.Assign [tg] e pos) (cS X.K W (aAsg ae ag)) := (ps_asg he hg hs hw h1).imp (asg_imp gs)
/-- a, b = x, y (local names) -/
def aPar (i j : Nat) (g : AA) : ATS := fun Da γ S => g γ S (fun ds S1 => match ds with
  | [d, e] => Da.nx ((γ.set i (some d)).set j (some e)) S1
  | _ => False) (Da.ex γ)
theorem s_par {i j : Nat} {x y : Str} {ga : AA} {px py pt : Pos} {kt k2 pt2} (hc : X.calm = true) (hN : X.N.Nodup) (hi : X.N[i]? = some x) (hj : X.N[j]? = some y) (hij : i ≠ j)
    (hx : X.env.scope.names.lookup x = some .local) (hy : X.env.scope.names.lookup y = some .local) (ha : PA X [a, b] (cA X.K W ga))
    (hw : swappedStores [.Tuple [.Name x px, .Name y py] kt pt] (.Tuple [a, b] k2 pt2) X.env = pure (some [x, y]))
    (hs : swapsWithSole [.Tuple [.Name x px, .Name y py] kt pt] (.Tuple [a, b] k2 pt2) pos.line X.env = pure false := by rfl) :
    PS X (.Assign [.Tuple [.Name x px, .Name y py] kt pt] (.Tuple [a, b] k2 pt2) pos) (cS X.K W (aPar i j ga)) :=
  (ps_par hc hN hi hj hij hx hy ha hw hs).imp fun Dc σ H ⟨γ, S, Da, I, h, ok⟩ => ⟨γ, S, _, _, I, h, fun vs H1 ds S1 t J r p => by
    cases r with
    | nil => exact p.elim
    | cons r1 r =>
      cases r with
      | nil => exact p.elim
      | cons r2 r =>
        cases r with
        | nil => exact ⟨_, _, rfl, ok.nx _ _ _ _ t (((I.tr t J).set i r1).set j r2) p⟩
        | cons r3 r => exact p.elim, ok.ex.at I⟩
def aPar3 (i j l : Nat) (g : AA) : ATS := fun Da γ S => g γ S (fun ds S1 => match ds with
  | [d, e, f] => Da.nx (((γ.set i (some d)).set j (some e)).set l (some f)) S1
  | _ => False) (Da.ex γ)
theorem s_par3 {i j l : Nat} {x y z : Str} {c : Expr} {ga : AA} {px py pz pt : Pos} {kt k2 pt2} (hc : X.calm = true) (hN : X.N.Nodup) (hi : X.N[i]? = some x) (hj : X.N[j]? = some y) (hl : X.N[l]? = some z) (hij : i ≠ j) (hil : i ≠ l) (hjl : j ≠ l)
    (hx : X.env.scope.names.lookup x = some .local) (hy : X.env.scope.names.lookup y = some .local) (hz : X.env.scope.names.lookup z = some .local) (ha : PA X [a, b, c] (cA X.K W ga))
    (hw : swappedStores [.Tuple [.Name x px, .Name y py, .Name z pz] kt pt] (.Tuple [a, b, c] k2 pt2) X.env = pure (some [x, y, z]))
    (hs : swapsWithSole [.Tuple [.Name x px, .Name y py, .Name z pz] kt pt] (.Tuple [a, b, c] k2 pt2) pos.line X.env = pure false := by rfl) :
    PS X (.Assign [.Tuple [.Name x px, .Name y py, .Name z pz] kt pt] (.Tuple [a, b, c] k2 pt2) pos) (cS X.K W (aPar3 i j l ga)) :=
  (ps_par3 hc hN hi hj hl hij hil hjl hx hy hz ha hw hs).imp fun Dc σ H ⟨γ, S, Da, I, h, ok⟩ => ⟨γ, S, _, _, I, h, fun vs H1 ds S1 t J r p => by
    cases r with
    | nil => exact p.elim
    | cons r1 r =>
      cases r with
      | nil => exact p.elim
      | cons r2 r =>
        cases r with
        | nil => exact p.elim
        | cons r3 r =>
          cases r with
          | nil => exact ⟨_, _, _, rfl, ok.nx _ _ _ _ t ((((I.tr t J).set i r1).set j r2).set l r3) p⟩
          | cons r4 r => exact p.elim, ok.ex.at I⟩
/-- name op= e on ints -/
def aAug (i : Nat) (rr : AR2) (a : AE) : ATS := fun Da γ S => slot γ i fun d => a γ S (fun e S1 => rr d e S1 fun f S2 => Da.nx (γ.set i (some f)) S2) (Da.ex γ)
theorem s_aug {i : Nat} {x : Str} {op : Operator} {r : R2} {rr : AR2} {pos' : Pos} (hN : X.N.Nodup) (hi : X.N[i]? = some x) (hx : Loc X.env.scope x) (ho : OpR X (inplaceOp op) r) (s : OpS X.K r rr) (he : PE X e (cE X.K W ae)) (hf : X.fn x = true ∨ X.env.scope.names.lookup x = some .local := by first | exact .inl rfl | exact .inr rfl | assumption) :
    PS X (.AugAssign (.Name x pos') op e pos) (cS X.K W (aAug i rr ae)) :=
  (ps_aug (ti := r) hN hi hx he (fun pins s σ H x y v u Q I rx ry q => augR ho I rx ry q) hf).imp fun Dc σ H ⟨γ, S, Da, I, h, ok⟩ => by
    obtain ⟨d, e1, h1⟩ := slot_of h
    obtain ⟨v, e2, r1⟩ := I.sl i d e1
    exact ⟨v, e2, γ, S, _, _, I, h1, fun u H1 f S1 t J r2 p => s _ _ _ _ _ _ _ _ J (r1.tr I.h t) r2 p fun z H2 g S2 t2 J2 r3 p2 => ok.nx _ _ _ _ (t.trans t2) ((I.tr (t.trans t2) J2).set i r3) p2, ok.ex.at I⟩
/-! ### while -/
def aWhile (c : AT) (t : ATS) : ATS := fun Da γ S => ∃ Iv : Nat → Ga → Sg → Prop, (∃ m, Iv m γ S) ∧ ∀ m γ S, Iv m γ S → c γ S (fun b S1 => bc b (t { Da with nx := fun γ' S' => ∃ m', m' < m ∧ Iv m' γ' S', ct := fun γ' S' => ∃ m', m' < m ∧ Iv m' γ' S', bk := Da.nx } γ S1) (Da.nx γ S1)) (Da.ex γ)
theorem s_while {c : Expr} {body : List Stmt} {tc : AT} (hp : PassesOwn (model X.prog X.w) X.A X.env X.xe) (hc : PT X c (cT X.K W tc)) (hb : PSs X body (cS X.K W ta)) : PS X (.While c body [] pos) (cS X.K W (aWhile tc ta)) :=
  (ps_while hp hc hb).imp fun Dc σ H ⟨γ, S, Da, I, ⟨Iv, ⟨m0, h0⟩, hs⟩, ok⟩ => by
    refine ⟨fun m σ' H' => ∃ γ' S', Tr H S H' S' ∧ Is X.K σ' H' γ' S' ∧ Iv m γ' S', ⟨m0, γ, S, .refl _ _, I, h0⟩, fun m σ' H' ⟨γ', S', t, J, hI⟩ => ?_⟩
    refine ⟨γ', S', _, _, J, hs m γ' S' hI, fun b H2 S2 t2 J2 p => ?_, (ok.tr t).ex.at J⟩
    cases b with
    | true =>
      refine L2.iteT ⟨fun σ3 H3 => ∃ m', m' < m ∧ ∃ γ3 S3, Tr H S H3 S3 ∧ Is X.K σ3 H3 γ3 S3 ∧ Iv m' γ3 S3, fun σ3 H3 z => z, γ', S2, _, J.tr t2 J2, bcT p, ?_⟩
      have t' := t.trans t2
      exact ⟨fun σ3 H3 γ3 S3 t3 J3 ⟨m', hm, hi⟩ => ⟨m', hm, γ3, S3, t'.trans t3, J3, hi⟩, (ok.tr t').rt, (ok.tr t').nx, fun σ3 H3 γ3 S3 t3 J3 ⟨m', hm, hi⟩ => ⟨m', hm, γ3, S3, t'.trans t3, J3, hi⟩, (ok.tr t').ex⟩
    | false => exact L2.iteF ((ok.tr (t.trans t2)).nx _ _ _ _ (.refl _ _) (J.tr t2 J2) (bcF p))
end

/-! ### what is walked -/
/-- a walk over data: the items, a guard of the state (a tracked list stays), the heap's side Z -/
structure AW (K : PySem.W.Frag) (J : It) (ds : List D) (G : Sg → Prop) (Z : Hp → Sg → Prop) : Prop where
  st : ∀ H S H' S', Z H S → IsH K H S → Tr H S H' S' → IsH K H' S' → G S' → Z H' S'
  go : ∀ i H S, i < ds.length → Z H S → IsH K H S → J.go i H
  yl : ∀ i H S x H', i < ds.length → Z H S → IsH K H S → J.yld i H x H' → ∃ d, ds[i]? = some d ∧ Tr H S H' S ∧ IsH K H' S ∧ Rep K H' (Av S) x d
  sp : ∀ H S, Z H S → IsH K H S → J.stop ds.length H
abbrev AI := Ga → Sg → (List D → (Sg → Prop) → Sg → Prop) → XP → Prop
def cI (K : PySem.W.Frag) (W : WX) (ai : AI) : TI := fun σ H R => ∃ γ S P x, Is K σ H γ S ∧ ai γ S P x ∧ okX K W σ H S x ∧
  ∀ J H' S' ds G Z, Tr H S H' S' → IsH K H' S' → AW K J ds G Z → Z H' S' → P ds G S' → R J H'
theorem _root_.L2.PI.imp {X : Cx} {tg e : Expr} {t t' : TI} (h : PI X tg e t) (i : ∀ σ H Q, t' σ H Q → t σ H Q) : PI X tg e t' := ⟨fun pins s σ H Q I z => h.run pins s σ H Q I (i σ H Q z)⟩
def aForGo (g : AG) (body : ATS) (G : Sg → Prop) (Da : AEnds) : List D → Ga → Sg → Prop
  | [], γ, S => G S ∧ Da.nx γ S
  | d :: ds, γ, S => G S ∧ g d γ S fun γ1 S1 => body { Da with nx := fun γ' S' => aForGo g body G Da ds γ' S', ct := fun γ' S' => aForGo g body G Da ds γ' S', bk := Da.nx } γ1 S1
def aFor (ai : AI) (g : AG) (body : ATS) : ATS := fun Da γ S => ai γ S (fun ds G S1 => aForGo g body G Da ds γ S1) (Da.ex γ)
section
variable {X : Cx} {W : WX} {ta : ATS} {pos : Pos}
theorem forGo_G {g : AG} {body : ATS} {G : Sg → Prop} {Da : AEnds} : ∀ {ds : List D} {γ : Ga} {S : Sg}, aForGo g body G Da ds γ S → G S
  | [], _, _, h => h.1
  | _ :: _, _, _, h => h.1
theorem s_for {tg iter : Expr} {body : List Stmt} {ai : AI} {g : TG} {ag : AG} (hp : PassesOwn (model X.prog X.w) X.A X.env X.xe) (hc : X.calm = true) (hi : PI X tg iter (cI X.K W ai)) (hg : PG X tg g) (gs : GS X.K g ag) (hb : PSs X body (cS X.K W ta))
    (hs : ∀ x, foldedSetIterable iter X.env x = pure x := by intro _; rfl) : PS X (.For tg iter body [] pos) (cS X.K W (aFor ai ag ta)) :=
  (ps_for hp hc hi hg hb hs).imp fun Dc σ H ⟨γ, S, Da, I, h, ok⟩ => by
    refine ⟨γ, S, _, _, I, h, ok.ex.at I, fun J H1 S1 ds G Z t1 J1 aw hz p => ?_⟩
    refine ⟨fun i m σ' H' => i ≤ ds.length ∧ m = ds.length - i ∧ ∃ γ' S', Tr H S H' S' ∧ Is X.K σ' H' γ' S' ∧ Z H' S' ∧ aForGo ag ta G Da (ds.drop i) γ' S', ⟨_, Nat.zero_le _, rfl, γ, S1, t1, I.tr t1 J1, hz, by simpa using p⟩, ?_⟩
    rintro i m σ' H' ⟨hi, rfl, γ', S', t, Is', hz', hf⟩
    by_cases hl : i = ds.length
    · subst hl
      rw [List.drop_length] at hf
      exact .inl ⟨aw.sp _ _ hz' Is'.h, ok.nx _ _ _ _ t Is' hf.2⟩
    · have hlt : i < ds.length := by omega
      refine .inr ⟨aw.go i _ _ hlt hz' Is'.h, fun σ3 H3 => i + 1 ≤ ds.length ∧ ∃ γ3 S3, Tr H S H3 S3 ∧ Is X.K σ3 H3 γ3 S3 ∧ Z H3 S3 ∧ aForGo ag ta G Da (ds.drop (i + 1)) γ3 S3, ?_, ?_⟩
      · rintro σ3 H3 ⟨_, γ3, S3, t3, J3, z3, f3⟩
        exact ⟨ds.length - (i + 1), by omega, by omega, rfl, γ3, S3, t3, J3, z3, f3⟩
      · intro x H2 hy
        obtain ⟨d, hd, t2, J2, r⟩ := aw.yl i _ _ x H2 hlt hz' Is'.h hy
        have hdrop : ds.drop i = d :: ds.drop (i + 1) := by
          rw [List.drop_eq_getElem_cons hlt]
          congr 1
          rw [List.getElem?_eq_getElem hlt] at hd
          exact Option.some.inj hd
        rw [hdrop] at hf
        obtain ⟨hG, hf⟩ := hf
        have z2 : Z H2 S' := aw.st _ _ _ _ hz' Is'.h t2 J2 hG
        have tt : Tr H S H2 S' := t.trans t2
        refine gs _ _ _ _ _ _ _ _ (Is'.tr t2 J2) r hf fun σ4 H4 γ4 S4 t4 J4 p4 => ?_
        refine ⟨γ4, S4, _, J4, p4, ?_⟩
        have t5 := tt.trans t4
        have stp : okN X.K H4 S4 (fun γ' S' => aForGo ag ta G Da (ds.drop (i + 1)) γ' S') (fun σ3 H3 => i + 1 ≤ ds.length ∧ ∃ γ3 S3, Tr H S H3 S3 ∧ Is X.K σ3 H3 γ3 S3 ∧ Z H3 S3 ∧ aForGo ag ta G Da (ds.drop (i + 1)) γ3 S3) :=
          fun σ6 H6 γ6 S6 t6 J6 p6 => ⟨by omega, γ6, S6, t5.trans t6, J6, aw.st _ _ _ _ z2 J2 (t4.trans t6) J6.h (forGo_G p6), p6⟩
        exact ⟨stp, (ok.tr t5).rt, (ok.tr t5).nx, stp, (ok.tr t5).ex⟩
end

/-! ### comprehensions -/
def wipeA (γ : Ga) : List Nat → Ga
  | [] => γ
  | v :: vs => (wipeA γ vs).set v none
theorem Is.wipe {K : PySem.W.Frag} {σ : L2.St} {H : Hp} {γ : Ga} {S : Sg} (I : Is K σ H γ S) : ∀ vs : List Nat, Is K (L2.wipe σ vs) H (wipeA γ vs) S
  | [] => I
  | v :: vs => (Is.wipe I vs).forget v
theorem wipe_set {σ : L2.St} {j : Nat} {x : Option V} : ∀ {vs : List Nat}, j ∈ vs → L2.wipe (σ.set j x) vs = L2.wipe σ vs
  | v :: vs, h => by
    show (L2.wipe (σ.set j x) vs).set v none = (L2.wipe σ vs).set v none
    by_cases e : j ∈ vs
    · rw [wipe_set e]
    · have ev : j = v := by
        rcases List.mem_cons.mp h with h | h
        · exact h
        · exact absurd h e
      subst ev
      have k : ∀ {us : List Nat} {τ : L2.St}, j ∉ us → L2.wipe (τ.set j x) us = (L2.wipe τ us).set j x := by
        intro us
        induction us with
        | nil => intro τ _; rfl
        | cons u us ih =>
          intro τ hn
          show (L2.wipe (τ.set j x) us).set u none = ((L2.wipe τ us).set u none).set j x
          rw [ih (fun z => hn (List.mem_cons_of_mem _ z))]
          exact List.set_comm _ _ (fun z => hn (by rw [z]; exact List.mem_cons_self))
      rw [k e, List.set_set]
theorem wipe_idem {σ : L2.St} : ∀ (vs us : List Nat), (∀ v ∈ us, v ∈ vs) → L2.wipe (L2.wipe σ us) vs = L2.wipe σ vs
  | vs, [], _ => rfl
  | vs, u :: us, h => by
    show L2.wipe ((L2.wipe σ us).set u none) vs = L2.wipe σ vs
    rw [wipe_set (h u List.mem_cons_self)]
    exact wipe_idem vs us fun v hv => h v (List.mem_cons_of_mem _ hv)
/-- a target that stores slots of vs alone -/
def GW (K : PySem.W.Frag) (g : TG) (ag : AG) (vs : List Nat) : Prop := ∀ (x : V) (d : D) (σ : L2.St) (H : Hp) (γ : Ga) (S : Sg) (k : Ga → Sg → Prop) (Q : L2.St → Hp → Prop), Is K σ H γ S → Rep K H (Av S) x d → ag d γ S k →
  (∀ σ' H' γ' S', L2.wipe σ' vs = L2.wipe σ vs → Tr H S H' S' → Is K σ' H' γ' S' → k γ' S' → Q σ' H') → g x σ H Q
theorem gw_name {K : PySem.W.Frag} {i : Nat} {vs : List Nat} (h : i ∈ vs) : GW K (gName i) (agName i) vs := fun x d σ H γ S k Q I r hk q => q _ _ _ _ (wipe_set h) (.refl _ _) (I.set i r) hk
theorem gw_two {K : PySem.W.Frag} {i j : Nat} {vs : List Nat} (hi : i ∈ vs) (hj : j ∈ vs) : GW K (gTup K 2 (gCons (gName i) (gCons (gName j) gNil))) (agTup 2 (agCons (agName i) (agCons (agName j) agNil))) vs := fun x d σ H γ S k Q I r h q => by
  obtain ⟨ds, e, hl, h1⟩ := asTup_of h
  subst e
  obtain ⟨a, xs, e, s, r2⟩ := rep_tup r
  cases r2 with
  | nil => cases hl
  | cons r1 r2 =>
    cases r2 with
    | nil => cases hl
    | cons r2 r3 =>
      cases r3 with
      | cons _ _ => simp at hl
      | nil =>
        obtain ⟨_, hk⟩ : ([] : List D) = [] ∧ k _ _ := h1
        exact ⟨a, _, e, s, rfl, _, _, rfl, _, _, rfl, rfl, q _ _ _ _ (by rw [wipe_set hj, wipe_set hi]) (.refl _ _) ((I.set i r1).set j r2) hk⟩
def aLcGo (g : AG) (t : AT) (elt : AE) (γ0 : Ga) (G : Sg → Prop) (Dl : Addr) (P : List D → Sg → Prop) : List D → List D → Sg → Prop
  | [], acc, S => G S ∧ P acc S
  | d :: ds, acc, S => G S ∧ g d γ0 S fun γ1 S1 => t γ1 S1 (fun b S2 => bc b (elt γ1 S2 (fun e S3 => acc.length < 100000 ∧ S3 Dl = some (.lst acc) ∧ aLcGo g t elt γ0 G Dl P ds (acc ++ [e]) (put S3 Dl (.lst (acc ++ [e])))) (fun _ _ _ => False))
      (S2 Dl = some (.lst acc) ∧ aLcGo g t elt γ0 G Dl P ds acc S2)) (fun _ _ _ => False)
/-- the list, untracked from here on -/
def lcFin (P : D → Sg → Prop) (Dl : Addr) (acc : List D) (S2 : Sg) : Prop := ∃ S3 : Sg, S3 Dl = none ∧ S2 = put S3 Dl (.lst acc) ∧ P (.lst acc) S3
def lcFinN (P : D → Sg → Prop) (Dl : Addr) (acc : List D) (S2 : Sg) : Prop := S2 Dl = some (.lst acc) ∧ P (.ptr Dl) S2
def aLc (ai : AI) (g : AG) (t : AT) (elt : AE) (vs : List Nat) : AE := fun γ S P x => ai γ S (fun ds G S1 => ∀ Dl, S1 Dl = none → aLcGo g t elt (wipeA γ vs) G Dl (lcFin P Dl) ds [] (put S1 Dl (.lst []))) x
/-- tracked -/
def aLcN (ai : AI) (g : AG) (t : AT) (elt : AE) (vs : List Nat) : AE := fun γ S P x => ai γ S (fun ds G S1 => ∀ Dl, S1 Dl = none → aLcGo g t elt (wipeA γ vs) G Dl (lcFinN P Dl) ds [] (put S1 Dl (.lst []))) x
theorem lcGo_G {g : AG} {t : AT} {elt : AE} {γ0 : Ga} {G : Sg → Prop} {Dl : Addr} {P : List D → Sg → Prop} : ∀ {ds acc : List D} {S : Sg}, aLcGo g t elt γ0 G Dl P ds acc S → G S
  | [], _, _, h => h.1
  | _ :: _, _, _, h => h.1
/-- a list that is tracked may go untracked -/
theorem untrack {K : PySem.W.Frag} {H : Hp} {S : Sg} {p : Addr} {ds : List D} (n : S p = none) (I : IsH K H (put S p (.lst ds))) : IsH K H S ∧ Rep K H (Av S) (.ref p) (.lst ds) := by
  have w : ∀ a, Av (put S p (.lst ds)) a → Av S a := fun a h => by
    by_cases e : a = p
    · rw [e]; exact n
    · have h' : put S p (.lst ds) a = none := h
      rw [put_ne e] at h'
      exact h'
  have m : ∀ {vs : List V} {es : List D}, RepL K H (Av (put S p (.lst ds))) vs es → RepL K H (Av S) vs es := fun r => r.mono (fun _ _ h => h) (fun a xs ha h => ⟨h, w a ha⟩) (fun a xs ha h => ⟨h, w a ha⟩) fun _ _ _ h => h
  have mc : ∀ {q : Addr} {c : Cell}, RepC K H (Av (put S p (.lst ds))) q c → RepC K H (Av S) q c := fun {q c} h => by
    cases c with
    | lst es => obtain ⟨xs, e, r⟩ := h; exact ⟨xs, e, m r⟩
    | dct ks es => obtain ⟨xs, e, z, r⟩ := h; exact ⟨xs, e, z, m r⟩
    | xd fs es => obtain ⟨xs, e, z, r⟩ := h; exact ⟨xs, e, z, m r⟩
  refine ⟨fun q c e => mc (I q c ?_), ?_⟩
  · rw [put_ne (fun z => by rw [z, n] at e; cases e)]
    exact e
  · obtain ⟨xs, e, r⟩ := I p _ put_same
    exact .lst e n (m r)
section
variable {X : Cx} {W : WX} {pos : Pos}
theorem lc_imp {K : PySem.W.Frag} {ai : AI} {g : TG} {ag : AG} {at_ : AT} {ae : AE} {vs : List Nat} (gw : GW K g ag vs) {σ : L2.St} {H : Hp} {γ : Ga} {S : Sg} {x : XP} {Q : VK} {P : Addr → List D → Sg → Prop} (I : Is K σ H γ S)
    (h : ai γ S (fun ds G S1 => ∀ Dl, S1 Dl = none → aLcGo ag at_ ae (wipeA γ vs) G Dl (P Dl) ds [] (put S1 Dl (.lst []))) x) (qx : okX K W σ H S x)
    (fin : ∀ Dl acc H' S', Tr H S H' S' → IsH K H' S' → S' Dl = some (.lst acc) → P Dl acc S' → Q (.ref Dl) H') : tLc (cI K W ai) g (cT K WF at_) (cE K WF ae) vs σ H Q := by
  refine ⟨γ, S, _, _, I, h, qx, fun J H1 S1 ds G Z t1 J1 aw hz p Dl nD => ?_⟩
  have nS := J1.none_of nD
  have tD : Tr H1 S1 (upd H1 Dl (.lst [])) (put S1 Dl (.lst [])) := tr_put nD J1
  have JD : IsH K (upd H1 Dl (.lst [])) (put S1 Dl (.lst [])) := is_put nD J1 ⟨[], upd_same, .nil⟩
  have pD := p Dl nS
  have zD : Z (upd H1 Dl (.lst [])) (put S1 Dl (.lst [])) := aw.st _ _ _ _ hz J1 tD JD (lcGo_G pD)
  refine ⟨fun i m H' => i ≤ ds.length ∧ m = ds.length - i ∧ ∃ S' acc, Tr H S H' S' ∧ IsH K H' S' ∧ Z H' S' ∧ S' Dl = some (.lst acc) ∧ aLcGo ag at_ ae (wipeA γ vs) G Dl (P Dl) (ds.drop i) acc S', ⟨_, Nat.zero_le _, rfl, _, [], t1.trans tD, JD, zD, put_same, by simpa using pD⟩, ?_⟩
  rintro i m H' ⟨hi, rfl, S', acc, t, J', hz', eD, hf⟩
  by_cases hl : i = ds.length
  · subst hl
    rw [List.drop_length] at hf
    exact .inl ⟨aw.sp _ _ hz' J', fin _ _ _ _ t J' eD hf.2⟩
  · have hlt : i < ds.length := by omega
    refine .inr ⟨aw.go i _ _ hlt hz' J', fun H3 => i + 1 ≤ ds.length ∧ ∃ S3 acc, Tr H S H3 S3 ∧ IsH K H3 S3 ∧ Z H3 S3 ∧ S3 Dl = some (.lst acc) ∧ aLcGo ag at_ ae (wipeA γ vs) G Dl (P Dl) (ds.drop (i + 1)) acc S3, ?_, ?_⟩
    · rintro H3 ⟨_, S3, acc3, t3, J3, z3, e3, f3⟩
      exact ⟨ds.length - (i + 1), by omega, by omega, rfl, S3, acc3, t3, J3, z3, e3, f3⟩
    · intro y H2 hy
      obtain ⟨d, hd, t2, J2, r⟩ := aw.yl i _ _ y H2 hlt hz' J' hy
      have hdrop : ds.drop i = d :: ds.drop (i + 1) := by
        rw [List.drop_eq_getElem_cons hlt]
        congr 1
        rw [List.getElem?_eq_getElem hlt] at hd
        exact Option.some.inj hd
      rw [hdrop] at hf
      obtain ⟨hG, hf⟩ := hf
      have z2 : Z H2 S' := aw.st _ _ _ _ hz' J' t2 J2 hG
      have tt : Tr H S H2 S' := t.trans t2
      have I2 : Is K (L2.wipe σ vs) H2 (wipeA γ vs) S' := (I.tr tt J2).wipe vs
      refine gw _ _ _ _ _ _ _ _ I2 r hf fun σ4 H4 γ4 S4 ew t4 J4 p4 => ⟨by rw [ew]; exact wipe_idem vs vs fun _ h => h, ?_⟩
      refine ⟨γ4, S4, _, _, J4, p4, fun b H5 S5 t5 J5 p5 => ?_, fun _ _ _ _ _ _ z => False.elim z⟩
      have t45 := (tt.trans t4).trans t5
      cases b with
      | true =>
        refine L2.iteT ⟨γ4, S5, _, _, J4.tr t5 J5, bcT p5, fun v H6 e S6 t6 J6 r6 p6 => ?_, fun _ _ _ _ _ _ z => False.elim z⟩
        obtain ⟨hacc, eD6, p6⟩ := p6
        obtain ⟨xs, eH, rx⟩ := J6 _ _ eD6
        have t7 : Tr H6 S6 (upd H6 Dl (.lst (xs ++ [v]))) (put S6 Dl (.lst (acc ++ [e]))) := tr_write eD6
        have J7 : IsH K (upd H6 Dl (.lst (xs ++ [v]))) (put S6 Dl (.lst (acc ++ [e]))) := is_write eD6 J6 ⟨_, upd_same, (rx.append (.cons r6 .nil)).tr J6 t7⟩
        refine ⟨xs, eH, by rw [rx.length, sizeLine_eq]; omega, by omega, _, _, (t45.trans t6).trans t7, J7, aw.st _ _ _ _ z2 J2 (((t4.trans t5).trans t6).trans t7) J7 (lcGo_G p6), put_same, p6⟩
      | false =>
        have p5' : S5 Dl = some (.lst acc) ∧ aLcGo ag at_ ae (wipeA γ vs) G Dl (P Dl) (ds.drop (i + 1)) acc S5 := bcF p5
        exact L2.iteF ⟨by omega, S5, acc, t45, J5, aw.st _ _ _ _ z2 J2 (t4.trans t5) J5 (lcGo_G p5'.2), p5'.1, p5'.2⟩
end
end FB

set_option maxHeartbeats 4000000
/-! FB4: what is walked, operators by kind, slices, built-ins, methods, calls, defs. -/
namespace FB
open PySem PySem.Spec PyProof.Rows L2
/-! ### walks over data -/
section
variable {K : PySem.W.Frag} {a : Addr} {ds : List D}
abbrev gT : Sg → Prop := fun _ => True
theorem len_of {H : Hp} {A : Addr → Prop} {xs : List V} (r : RepL K H A xs ds) {i : Nat} (h : i < ds.length) : ∃ x, xs[i]? = some x := ⟨_, List.getElem?_eq_getElem (by rw [r.length]; exact h)⟩
/-- an untracked list -/
theorem aw_lst : AW K (Itl K a) ds gT (fun H S => ∃ xs, H a = some (.lst xs) ∧ S a = none ∧ RepL K H (Av S) xs ds) where
  st := fun H S H' S' ⟨xs, h, n, r⟩ I t J _ => ⟨xs, t.keep a _ h n, t.free a n (by rw [h]; exact fun z => nomatch z), r.tr I t⟩
  go := fun i H S hi ⟨xs, h, n, r⟩ I => let ⟨x, e⟩ := len_of r hi; ⟨xs, x, SqL.of h, e⟩
  yl := fun i H S x H' hi ⟨xs, h, n, r⟩ I ⟨e, y⟩ => by
    subst e
    obtain ⟨d, e, q⟩ := r.getV (y xs (SqL.of h))
    exact ⟨d, e, .refl _ _, I, q⟩
  sp := fun H S ⟨xs, h, n, r⟩ I => ⟨xs, SqL.of h, by rw [r.length]; exact Nat.le_refl _⟩
/-- a tracked list: it stays as it is -/
theorem aw_ptr : AW K (Itl K a) ds (fun S => S a = some (.lst ds)) (fun _ S => S a = some (.lst ds)) where
  st := fun H S H' S' _ _ _ _ g => g
  go := fun i H S hi e I => by
    obtain ⟨xs, h, r⟩ := I a _ e
    obtain ⟨x, e⟩ := len_of r hi
    exact ⟨xs, x, SqL.of h, e⟩
  yl := fun i H S x H' hi e I ⟨e', y⟩ => by
    subst e'
    obtain ⟨xs, h, r⟩ := I a _ e
    obtain ⟨d, e, q⟩ := r.getV (y xs (SqL.of h))
    exact ⟨d, e, .refl _ _, I, q⟩
  sp := fun H S e I => by
    obtain ⟨xs, h, r⟩ := I a _ e
    exact ⟨xs, SqL.of h, by rw [r.length]; exact Nat.le_refl _⟩
theorem aw_tup : AW K (Itt K a) ds gT (fun H S => Rep K H (Av S) (.ref a) (.tup ds)) where
  st := fun H S H' S' r I t J _ => r.tr I t
  go := fun i H S hi r I => by
    obtain ⟨b, xs, e, s, q⟩ := rep_tup r
    cases e
    obtain ⟨x, e⟩ := len_of q hi
    exact ⟨xs, x, s, e⟩
  yl := fun i H S x H' hi r I ⟨e', y⟩ => by
    subst e'
    obtain ⟨b, xs, e, s, q⟩ := rep_tup r
    cases e
    obtain ⟨d, e, q⟩ := q.getV (y xs s)
    exact ⟨d, e, .refl _ _, I, q⟩
  sp := fun H S r I => by
    obtain ⟨b, xs, e, s, q⟩ := rep_tup r
    cases e
    exact ⟨xs, s, by rw [q.length]; exact Nat.le_refl _⟩
def rg (lo : Int) (n : Nat) : List D := (List.range n).map fun i => .int (lo + (i : Nat))
theorem rg_len (lo : Int) (n : Nat) : (rg lo n).length = n := by unfold rg; rw [List.length_map, List.length_range]
theorem rg_get {lo : Int} {n i : Nat} (h : i < n) : (rg lo n)[i]? = some (.int (lo + (i : Nat))) := by
  unfold rg; rw [List.getElem?_map, List.getElem?_range h]; rfl
theorem aw_range {lo : Int} {n : Nat} : AW K (Itr lo n) (rg lo n) gT (fun _ _ => True) where
  st := fun _ _ _ _ _ _ _ _ _ => trivial
  go := fun i H S hi _ _ => by rw [rg_len] at hi; exact hi
  yl := fun i H S x H' hi _ I ⟨e, y⟩ => by
    subst e y
    rw [rg_len] at hi
    exact ⟨_, rg_get hi, .refl _ _, I, .int _⟩
  sp := fun H S _ I => by rw [rg_len]; exact Nat.le_refl _
def rgC (lo c : Int) (n : Nat) : List D := (List.range n).map fun i => .int (lo + (i : Nat) * c)
theorem rgC_len (lo c : Int) (n : Nat) : (rgC lo c n).length = n := by unfold rgC; rw [List.length_map, List.length_range]
theorem rgC_get {lo c : Int} {n i : Nat} (h : i < n) : (rgC lo c n)[i]? = some (.int (lo + (i : Nat) * c)) := by
  unfold rgC; rw [List.getElem?_map, List.getElem?_range h]; rfl
theorem aw_rangeC {lo c : Int} {n : Nat} : AW K (Itc lo c n) (rgC lo c n) gT (fun _ _ => True) where
  st := fun _ _ _ _ _ _ _ _ _ => trivial
  go := fun i H S hi _ _ => by rw [rgC_len] at hi; exact hi
  yl := fun i H S x H' hi _ I ⟨e, y⟩ => by
    subst e y
    rw [rgC_len] at hi
    exact ⟨_, rgC_get hi, .refl _ _, I, .int _⟩
  sp := fun H S _ I => by rw [rgC_len]; exact Nat.le_refl _
/-- the signs of a text -/
def sg (z : Str) : List D := z.cps.toList.map fun c => .str ⟨#[c]⟩
theorem sg_len (z : Str) : (sg z).length = z.cps.size := by unfold sg; rw [List.length_map, Array.length_toList]
theorem sg_get {z : Str} {i : Nat} {c : Nat} (h : z.cps[i]? = some c) : (sg z)[i]? = some (.str ⟨#[c]⟩) := by
  unfold sg; rw [List.getElem?_map, Array.getElem?_toList, h]; rfl
theorem aw_str {z : Str} : AW K (Its z) (sg z) gT (fun _ _ => True) where
  st := fun _ _ _ _ _ _ _ _ _ => trivial
  go := fun i H S hi _ _ => by rw [sg_len] at hi; exact hi
  yl := fun i H S x H' hi _ I ⟨e, c, y, e2⟩ => by
    subst e e2
    exact ⟨_, sg_get y, .refl _ _, I, .str _⟩
  sp := fun H S _ I => by rw [sg_len]; exact Nat.le_refl _
theorem rev_get {α : Type} {l : List α} {i : Nat} (h : i < l.length) : l.reverse[i]? = l[l.length - 1 - i]? := by
  rw [List.getElem?_reverse h]
theorem aw_revS {z : Str} : AW K (ItsR z) (sg z).reverse gT (fun _ _ => True) where
  st := fun _ _ _ _ _ _ _ _ _ => trivial
  go := fun i H S hi _ _ => by rw [List.length_reverse, sg_len] at hi; exact hi
  yl := fun i H S x H' hi _ I ⟨e, c, y, e2⟩ => by
    subst e e2
    rw [List.length_reverse] at hi
    refine ⟨_, ?_, .refl _ _, I, .str _⟩
    rw [rev_get hi, sg_len]
    exact sg_get y
  sp := fun H S _ I => by rw [List.length_reverse, sg_len]; exact Nat.le_refl _
theorem aw_revT : AW K (RT.ItvT K a ds.length) ds.reverse gT (fun H S => Rep K H (Av S) (.ref a) (.tup ds)) where
  st := fun H S H' S' r I t J _ => r.tr I t
  go := fun i H S hi r I => by
    rw [List.length_reverse] at hi
    obtain ⟨b, xs, e, s, q⟩ := rep_tup r
    cases e
    obtain ⟨x, e⟩ := len_of q (i := ds.length - 1 - i) (by omega)
    exact ⟨hi, xs, x, s, e⟩
  yl := fun i H S x H' hi r I ⟨e', y⟩ => by
    subst e'
    rw [List.length_reverse] at hi
    obtain ⟨b, xs, e, s, q⟩ := rep_tup r
    cases e
    obtain ⟨d, e, q⟩ := q.getV (y xs s)
    exact ⟨d, by rw [rev_get hi]; exact e, .refl _ _, I, q⟩
  sp := fun H S r I => by rw [List.length_reverse]; exact Nat.le_refl _
theorem aw_revL : AW K (Itv K a ds.length) ds.reverse gT (fun H S => ∃ xs, H a = some (.lst xs) ∧ S a = none ∧ RepL K H (Av S) xs ds) where
  st := fun H S H' S' ⟨xs, h, n, r⟩ I t J _ => ⟨xs, t.keep a _ h n, t.free a n (by rw [h]; exact fun z => nomatch z), r.tr I t⟩
  go := fun i H S hi ⟨xs, h, n, r⟩ I => by
    rw [List.length_reverse] at hi
    obtain ⟨x, e⟩ := len_of r (i := ds.length - 1 - i) (by omega)
    have w := walk_rev (K := K) (a := a) (xs := xs)
    have := w.goes i H (by rw [r.length]; exact hi) (SqL.of h)
    rw [r.length] at this
    exact this
  yl := fun i H S x H' hi ⟨xs, h, n, r⟩ I y => by
    rw [List.length_reverse] at hi
    have w := walk_rev (K := K) (a := a) (xs := xs)
    rw [← r.length] at y
    obtain ⟨e, z⟩ := w.yields i H x H' (by rw [r.length]; exact hi) (SqL.of h) y
    subst e
    obtain ⟨d, e, q⟩ := r.getV z
    exact ⟨d, by rw [rev_get hi, ← r.length]; exact e, .refl _ _, I, q⟩
  sp := fun H S ⟨xs, h, n, r⟩ I => by
    have w := walk_rev (K := K) (a := a) (xs := xs)
    have := w.stops H (SqL.of h)
    rw [r.length] at this
    rw [List.length_reverse]
    exact this
/-- pairs of two lists -/
def zp : List D → List D → List D
  | d :: ds, e :: es => .tup [d, e] :: zp ds es
  | _, _ => []
theorem zp_len : ∀ ds es : List D, (zp ds es).length = min ds.length es.length
  | [], es => by simp [zp]
  | d :: ds, [] => by simp [zp]
  | d :: ds, e :: es => by simp [zp, zp_len ds es] <;> omega
theorem zp_get : ∀ {ds es : List D} {i : Nat} {d e : D}, ds[i]? = some d → es[i]? = some e → (zp ds es)[i]? = some (.tup [d, e])
  | d :: ds, e :: es, 0, _, _, h1, h2 => by simp at h1 h2; subst h1 h2; rfl
  | d :: ds, e :: es, i + 1, _, _, h1, h2 => by
    show (zp ds es)[i]? = _
    exact zp_get (by simpa using h1) (by simpa using h2)
  | [], _, _, _, _, h1, _ => by simp at h1
  | _ :: _, [], _, _, _, _, h2 => by simp at h2
end
section
variable {X : Cx} {W : WX} {tg e : Expr} {ae : AE} {p pos : Pos}
/-! ### what a for walks -/
/-- a list, a tuple, a text -/
def aiAny (a : AE) : AI := fun γ S P x => a γ S (fun d S1 => match d with
  | .tup ds => P ds gT S1
  | .lst ds => P ds gT S1
  | .str z => P (sg z) gT S1
  | .ptr p => ∃ ds, S1 p = some (.lst ds) ∧ P ds (fun S => S p = some (.lst ds)) S1
  | _ => False) x
theorem i_any (he : PE X e (cE X.K W ae)) : PI X tg e (cI X.K W (aiAny ae)) := by
  refine ⟨fun pins s σ H R I ⟨γ, S, P, x, Is, h, qx, fin⟩ => ?_⟩
  refine thn (he.run pins s σ H (fun v H1 => ∃ S1, Tr H S H1 S1 ∧ IsH X.K H1 S1 ∧ ∃ d, Rep X.K H1 (Av S1) v d ∧ _) I ⟨γ, S, _, x, Is, h, fun v H' d S' t J r p => ⟨S', t, J, d, r, p⟩, qx⟩) fun v s1 ⟨y, H1, I1, r1, S1, t, J, d, r, q⟩ => ?_
  cases r with
  | tup st rl =>
    cases r1
    obtain ⟨its, rv, p', hz⟩ := I1.tuple st
    refine wpAny_pyIter_tuple (show s1.heap.IsTuple _ its.toArray from p') ?_
    exact ⟨s1.heap.objs.size, [s1.heap.objs.size], _, _, H1, rfl, I1.kept (t' := s1.toks) fun b o e => Heap.get?_push_of_some _ e, turn_tuple _ _, ⟨_, Heap.get?_push_size _ rfl, rfl, rfl⟩, fun b hb => by
      have e : b = s1.heap.objs.size := by simpa using hb
      subst e
      exact I1.fpOk (Nat.le_refl _) (I1.hok.fresh (Nat.le_refl _)), fin _ _ _ _ _ _ t J aw_tup (.tup st rl) q⟩
  | lst hl ha rl =>
    cases r1
    obtain ⟨its, rv, p', hz⟩ := I1.list (SqL.of hl)
    refine wpAny_pyIter_list p'.isList ?_
    exact ⟨s1.heap.objs.size, [s1.heap.objs.size], _, _, H1, rfl, I1.kept (t' := s1.toks) fun b o e => Heap.get?_push_of_some _ e, turn_list _ _, ⟨_, Heap.get?_push_size _ rfl, rfl, rfl⟩, fun b hb => by
      have e : b = s1.heap.objs.size := by simpa using hb
      subst e
      exact I1.fpOk (Nat.le_refl _) (I1.hok.fresh (Nat.le_refl _)), fin _ _ _ _ _ _ t J aw_lst ⟨_, hl, ha, rl⟩ q⟩
  | ptr p =>
    cases r1
    obtain ⟨ds, ep, q⟩ := q
    obtain ⟨xs, hl, rl⟩ := J _ _ ep
    obtain ⟨its, rv, p', hz⟩ := I1.list (SqL.of hl)
    refine wpAny_pyIter_list p'.isList ?_
    exact ⟨s1.heap.objs.size, [s1.heap.objs.size], _, _, H1, rfl, I1.kept (t' := s1.toks) fun b o e => Heap.get?_push_of_some _ e, turn_list _ _, ⟨_, Heap.get?_push_size _ rfl, rfl, rfl⟩, fun b hb => by
      have e : b = s1.heap.objs.size := by simpa using hb
      subst e
      exact I1.fpOk (Nat.le_refl _) (I1.hok.fresh (Nat.le_refl _)), fin _ _ _ _ _ _ t J aw_ptr ep q⟩
  | str z =>
    obtain ⟨t0, rfl⟩ := r1
    cases ha : z.cps.all (· < 128)
    · exact wpAny_pyIter_wide ha (pi_one (tk := s1.toks) I1 _ (turn_str _ z t0 "str_iterator" (.inr rfl)) ⟨_, Heap.get?_push_size _ rfl, rfl, rfl⟩ (fin _ _ _ _ _ _ t J aw_str trivial q))
    · exact wpAny_pyIter_ascii ha (pi_one (tk := s1.toks) I1 _ (turn_str _ z t0 "str_ascii_iterator" (.inl rfl)) ⟨_, Heap.get?_push_size _ rfl, rfl, rfl⟩ (fin _ _ _ _ _ _ t J aw_str trivial q))
  | non => exact q.elim
  | bl => exact q.elim
  | int => exact q.elim
  | dct => exact q.elim
  | scr => exact q.elim
end
end FB

set_option maxHeartbeats 4000000
/-! FB5: ranges, reversed, zip; operators by kind; slices; subscripts; built-ins; methods. -/
namespace FB
open PySem PySem.Spec PyProof.Rows L2
section
variable {X : Cx} {W : WX} {tg e a b : Expr} {ae aa ab : AE} {ar : AA} {es : List Expr} {p pos : Pos}
def one (k : D → Prop) : List D → Prop
  | [d] => k d
  | _ => False
def two (k : D → D → Prop) : List D → Prop
  | [d, e] => k d e
  | _ => False
def three (k : D → D → D → Prop) : List D → Prop
  | [d, e, f] => k d e f
  | _ => False
theorem one_of {k : D → Prop} {ds : List D} (h : one k ds) : ∃ d, ds = [d] ∧ k d := by
  match ds, h with
  | [d], h => exact ⟨d, rfl, h⟩
theorem two_of {k : D → D → Prop} {ds : List D} (h : two k ds) : ∃ d e, ds = [d, e] ∧ k d e := by
  match ds, h with
  | [d, e], h => exact ⟨d, e, rfl, h⟩
theorem three_of {k : D → D → D → Prop} {ds : List D} (h : three k ds) : ∃ d e f, ds = [d, e, f] ∧ k d e f := by
  match ds, h with
  | [d, e, f], h => exact ⟨d, e, f, rfl, h⟩
theorem repL_one {K : PySem.W.Frag} {H : Hp} {A : Addr → Prop} {vs : List V} {d : D} (r : RepL K H A vs [d]) : ∃ v, vs = [v] ∧ Rep K H A v d := by
  cases r with
  | cons r1 r2 => cases r2; exact ⟨_, rfl, r1⟩
theorem repL_two {K : PySem.W.Frag} {H : Hp} {A : Addr → Prop} {vs : List V} {d e : D} (r : RepL K H A vs [d, e]) : ∃ v u, vs = [v, u] ∧ Rep K H A v d ∧ Rep K H A u e := by
  cases r with
  | cons r1 r2 =>
    obtain ⟨u, e, q⟩ := repL_one r2
    subst e
    exact ⟨_, _, rfl, r1, q⟩
theorem repL_three {K : PySem.W.Frag} {H : Hp} {A : Addr → Prop} {vs : List V} {d e f : D} (r : RepL K H A vs [d, e, f]) : ∃ v u w, vs = [v, u, w] ∧ Rep K H A v d ∧ Rep K H A u e ∧ Rep K H A w f := by
  cases r with
  | cons r1 r2 =>
    obtain ⟨u, w, e, q, q2⟩ := repL_two r2
    subst e
    exact ⟨_, _, _, rfl, r1, q, q2⟩
/-! ### ranges -/
def aiR1 (g : AA) : AI := fun γ S P x => g γ S (fun ds S1 => one (fun d => asInt d fun n => n ≤ 1000000000 ∧ -1000000000 ≤ n ∧ P (rg 0 n.toNat) gT S1) ds) x
theorem i_r1 (hg : Gl X "range") (hm : X.mg "range" = none) (ha : PA X [a] (cA X.K W ar)) (hs : starEach [a] X.env = [(false, eval a X.env)] := by rfl) : PI X tg (.Call (.Name "range" p) [a] [] pos) (cI X.K W (aiR1 ar)) :=
  (pi_range1 hg hm ha hs).imp fun σ H R ⟨γ, S, P, x, Is, h, qx, fin⟩ => ⟨γ, S, _, x, Is, h, fun vs H1 ds S1 t J r q => by
    obtain ⟨d, e1, q1⟩ := one_of q
    obtain ⟨i, e2, q2, q3, q4⟩ := asInt_of q1
    subst e1 e2
    obtain ⟨v, e, r1⟩ := repL_one r
    exact ⟨i, by rw [e, rep_int r1], by omega, by omega, fin _ _ _ _ _ _ t J aw_range trivial q4⟩, qx⟩
def aiR2 (g : AA) : AI := fun γ S P x => g γ S (fun ds S1 => two (fun d e => asInt d fun i => asInt e fun j => (-1000000000 ≤ i ∧ i ≤ 1000000000 ∧ -1000000000 ≤ j ∧ j ≤ 1000000000) ∧ P (rg i (j - i).toNat) gT S1) ds) x
theorem i_r2 (hg : Gl X "range") (hm : X.mg "range" = none) (ha : PA X [a, b] (cA X.K W ar)) (hs : starEach [a, b] X.env = [(false, eval a X.env), (false, eval b X.env)] := by rfl) (hs2 : starEach [b] X.env = [(false, eval b X.env)] := by rfl) :
    PI X tg (.Call (.Name "range" p) [a, b] [] pos) (cI X.K W (aiR2 ar)) :=
  (pi_range2 hg hm ha hs hs2).imp fun σ H R ⟨γ, S, P, x, Is, h, qx, fin⟩ => ⟨γ, S, _, x, Is, h, fun vs H1 ds S1 t J r q => by
    obtain ⟨d, e, ee, q0⟩ := two_of q
    obtain ⟨i, e1, q1⟩ := asInt_of q0
    obtain ⟨j, e2, q2, q3⟩ := asInt_of q1
    subst ee e1 e2
    obtain ⟨v, u, e, r1, r2⟩ := repL_two r
    exact ⟨i, j, by rw [e, rep_int r1, rep_int r2], by omega, fin _ _ _ _ _ _ t J aw_range trivial q3⟩, qx⟩
/-- the number of turns of range(i, j, c) -/
def rgN (i j c : Int) : Nat := if 0 < c then ((j - i + c - 1) / c).toNat else if c < 0 then ((i - j + (-c) - 1) / (-c)).toNat else 0
def aiR3 (g : AA) : AI := fun γ S P x => g γ S (fun ds S1 => three (fun d e f => asInt d fun i => asInt e fun j => asInt f fun c => ∃ n, RgC i j c n ∧ P (rgC i c n) gT S1) ds) x
theorem i_r3 {c : Expr} (hg : Gl X "range") (hm : X.mg "range" = none) (ha : PA X [a, b, c] (cA X.K W ar)) (hs : starEach [a, b, c] X.env = (false, eval a X.env) :: starEach [b, c] X.env := by rfl) (hpl : (backTo pos (starEach [b, c] X.env)).any (·.1) = false := by rfl) :
    PI X tg (.Call (.Name "range" p) [a, b, c] [] pos) (cI X.K W (aiR3 ar)) :=
  (pi_range3 hg hm ha hs hpl).imp fun σ H R ⟨γ, S, P, x, Is, h, qx, fin⟩ => ⟨γ, S, _, x, Is, h, fun vs H1 ds S1 t J r q => by
    obtain ⟨d, e, f, ee, q0⟩ := three_of q
    obtain ⟨i, e1, q1⟩ := asInt_of q0
    obtain ⟨j, e2, q2⟩ := asInt_of q1
    obtain ⟨k, e3, n, q3, q4⟩ := asInt_of q2
    subst ee e1 e2 e3
    obtain ⟨v, u, w, e, r1, r2, r3⟩ := repL_three r
    exact ⟨i, j, k, n, by rw [e, rep_int r1, rep_int r2, rep_int r3], q3, fin _ _ _ _ _ _ t J aw_rangeC trivial q4⟩, qx⟩
/-! ### reversed of a text; of a list, a tuple -/
def aiRevS (a : AE) : AI := fun γ S P x => a γ S (fun d S1 => asStr d fun z => z.length ≤ 1000000 ∧ P (sg z).reverse gT S1) x
theorem i_revS (hg : Gl X "reversed") (hm : X.mg "reversed" = none) (he : PE X e (cE X.K W ae)) (hs : starEach [e] X.env = (false, eval e X.env) :: starEach [] X.env := by rfl) : PI X tg (.Call (.Name "reversed" p) [e] [] pos) (cI X.K W (aiRevS ae)) :=
  (pi_revS hg hm he hs).imp fun σ H R ⟨γ, S, P, x, Is, h, qx, fin⟩ => ⟨γ, S, _, x, Is, h, fun v H1 d S1 t J r q => by
    obtain ⟨z, e, q1, q2⟩ := asStr_of q
    subst e
    exact ⟨z, rep_str r, by rw [sizeLine_eq]; omega, fin _ _ _ _ _ _ t J aw_revS trivial q2⟩, qx⟩
def aiRev (a : AE) : AI := fun γ S P x => a γ S (fun d S1 => match d with
  | .tup ds => P ds.reverse gT S1
  | .lst ds => P ds.reverse gT S1
  | _ => False) x
theorem i_rev (hg : Gl X "reversed") (hm : X.mg "reversed" = none) (he : PE X e (cE X.K W ae)) (hs : starEach [e] X.env = (false, eval e X.env) :: starEach [] X.env := by rfl) : PI X tg (.Call (.Name "reversed" p) [e] [] pos) (cI X.K W (aiRev ae)) :=
  (RT.pi_revA hg hm he hs).imp fun σ H R ⟨γ, S, P, x, Is, h, qx, fin⟩ => ⟨γ, S, _, x, Is, h, fun v H1 d S1 t J r q => by
    cases r with
    | tup st rl =>
      refine ⟨_, _, rfl, .inr ⟨st, ?_⟩⟩
      rw [rl.length]
      exact fin _ _ _ _ _ _ t J aw_revT (.tup st rl) q
    | lst hl ha rl =>
      refine ⟨_, _, rfl, .inl ⟨SqL.of hl, ?_⟩⟩
      rw [rl.length]
      exact fin _ _ _ _ _ _ t J aw_revL ⟨_, hl, ha, rl⟩ q
    | ptr p => exact q.elim
    | str z => exact q.elim
    | non => exact q.elim
    | bl => exact q.elim
    | int => exact q.elim
    | dct => exact q.elim
    | scr => exact q.elim, qx⟩
/-! ### zip of two lists, of two tuples (untracked) -/
theorem aw_zipT {K : PySem.W.Frag} {a b : Addr} {ds es : List D} : AW K (RZ.ItzT K a b) (zp ds es) gT (fun H S => Rep K H (Av S) (.ref a) (.tup ds) ∧ Rep K H (Av S) (.ref b) (.tup es)) where
  st := fun H S H' S' ⟨r, q⟩ I t J _ => ⟨r.tr I t, q.tr I t⟩
  go := fun i H S hi ⟨r, q⟩ I => by
    rw [zp_len] at hi
    obtain ⟨_, xs, e, s1, q1⟩ := rep_tup r
    cases e
    obtain ⟨_, ys, e, s2, q2⟩ := rep_tup q
    cases e
    obtain ⟨x, e1⟩ := len_of q1 (i := i) (by omega)
    obtain ⟨y, e2⟩ := len_of q2 (i := i) (by omega)
    exact ⟨xs, ys, x, y, s1, s2, e1, e2⟩
  yl := fun i H S v H' hi ⟨r, q⟩ I ⟨T, x, y, e1, e2, e3, h1, h2⟩ => by
    subst e1 e3
    obtain ⟨_, xs, e, s1, q1⟩ := rep_tup r
    cases e
    obtain ⟨_, ys, e, s2, q2⟩ := rep_tup q
    cases e
    obtain ⟨d, f1, g1⟩ := q1.getV (h1 xs s1)
    obtain ⟨e, f2, g2⟩ := q2.getV (h2 ys s2)
    exact ⟨_, zp_get f1 f2, tr_new e2 I, is_new e2 I, rep_new_tup e2 I (.cons g1 (.cons g2 .nil))⟩
  sp := fun H S ⟨r, q⟩ I => by
    obtain ⟨_, xs, e, s1, q1⟩ := rep_tup r
    cases e
    obtain ⟨_, ys, e, s2, q2⟩ := rep_tup q
    cases e
    refine ⟨xs, ys, s1, s2, ?_⟩
    rw [zp_len, q1.length, q2.length]
    omega
theorem aw_zipL {K : PySem.W.Frag} {a b : Addr} {ds es : List D} : AW K (Itz K a b) (zp ds es) gT (fun H S => (∃ xs, H a = some (.lst xs) ∧ S a = none ∧ RepL K H (Av S) xs ds) ∧ ∃ xs, H b = some (.lst xs) ∧ S b = none ∧ RepL K H (Av S) xs es) where
  st := fun H S H' S' ⟨⟨xs, h, n, r⟩, ys, h', n', r'⟩ I t J _ => ⟨⟨xs, t.keep a _ h n, t.free a n (by rw [h]; exact fun z => nomatch z), r.tr I t⟩, ys, t.keep b _ h' n', t.free b n' (by rw [h']; exact fun z => nomatch z), r'.tr I t⟩
  go := fun i H S hi ⟨⟨xs, h, n, q1⟩, ys, h', n', q2⟩ I => by
    rw [zp_len] at hi
    obtain ⟨x, e1⟩ := len_of q1 (i := i) (by omega)
    obtain ⟨y, e2⟩ := len_of q2 (i := i) (by omega)
    exact ⟨xs, ys, x, y, SqL.of h, SqL.of h', e1, e2⟩
  yl := fun i H S v H' hi ⟨⟨xs, h, n, q1⟩, ys, h', n', q2⟩ I ⟨T, x, y, e1, e2, e3, h1, h2⟩ => by
    subst e1 e3
    obtain ⟨d, f1, g1⟩ := q1.getV (h1 xs (SqL.of h))
    obtain ⟨e, f2, g2⟩ := q2.getV (h2 ys (SqL.of h'))
    exact ⟨_, zp_get f1 f2, tr_new e2 I, is_new e2 I, rep_new_tup e2 I (.cons g1 (.cons g2 .nil))⟩
  sp := fun H S ⟨⟨xs, h, n, q1⟩, ys, h', n', q2⟩ I => by
    refine ⟨xs, ys, SqL.of h, SqL.of h', ?_⟩
    rw [zp_len, q1.length, q2.length]
    omega
def aiZip (g : AA) : AI := fun γ S P x => g γ S (fun ds S1 => two (fun d e => match d, e with
  | .tup a, .tup b => P (zp a b) gT S1
  | .lst a, .lst b => P (zp a b) gT S1
  | _, _ => False) ds) x
theorem i_zip {elts : List Expr} {kk : Nat} {tpos : Pos} (hg : Gl X "zip") (hm : X.mg "zip" = none) (ha : PA X [a, b] (cA X.K W ar))
    (hs : starEach [a, b] X.env = (false, eval a X.env) :: starEach [b] X.env := by rfl) (hpl : (backTo pos (starEach [b] X.env)).any (·.1) = false := by rfl) :
    PI X (.Tuple elts kk tpos) (.Call (.Name "zip" p) [a, b] [] pos) (cI X.K W (aiZip ar)) :=
  (RZ.pi_zipA hg hm ha hs hpl).imp fun σ H R ⟨γ, S, P, x, Is, h, qx, fin⟩ => ⟨γ, S, _, x, Is, h, fun vs H1 ds S1 t J r q => by
    obtain ⟨d, e, ee, q0⟩ := two_of q
    subst ee
    obtain ⟨v, u, ee, r1, r2⟩ := repL_two r
    subst ee
    cases r1 with
    | tup s1 q1 =>
      cases r2 with
      | tup s2 q2 => exact ⟨_, _, _, _, rfl, .inr ⟨s1, s2, fin _ _ _ _ _ _ t J aw_zipT ⟨.tup s1 q1, .tup s2 q2⟩ q⟩⟩
      | _ => exact q.elim
    | lst h1 n1 q1 =>
      cases r2 with
      | lst h2 n2 q2 => exact ⟨_, _, _, _, rfl, .inl ⟨SqL.of h1, SqL.of h2, fin _ _ _ _ _ _ t J aw_zipL ⟨⟨_, h1, n1, q1⟩, _, h2, n2, q2⟩ q⟩⟩
      | _ => exact q.elim
    | _ => exact q.elim, qx⟩
end
end FB

set_option maxHeartbeats 4000000
/-! FB6: operators by kind, slices, subscripts, built-ins, methods. -/
namespace FB
open PySem PySem.Spec PyProof.Rows L2
section
variable {X : Cx} {W : WX} {a b e : Expr} {aa ab ae : AE} {ar : AA} {es : List Expr} {p pos p2 : Pos}
/-! ### + -/
def plusD (S : Sg) (P : D → Sg → Prop) : D → D → Prop
  | .int i, e => asInt e fun j => P (.int (i + j)) S
  | .str x, e => asStr e fun y => x.length + y.length ≤ 1000000 ∧ P (.str (x ++ y)) S
  | .tup xs, e => asTup e fun ys => xs.length + ys.length ≤ 1000000 ∧ P (.tup (xs ++ ys)) S
  | .lst xs, e => asLst S e fun ys => xs.length + ys.length ≤ 1000000 ∧ P (.lst (xs ++ ys)) S
  | .ptr p, e => ∃ xs, S p = some (.lst xs) ∧ asLst S e fun ys => xs.length + ys.length ≤ 1000000 ∧ P (.lst (xs ++ ys)) S
  | _, _ => False
def plusN (S : Sg) (P : D → Sg → Prop) (d e : D) : Prop := asLst S d fun xs => asLst S e fun ys => xs.length + ys.length ≤ 1000000 ∧ ∀ p, S p = none → P (.ptr p) (put S p (.lst (xs ++ ys)))
def aPlus : AE → AE → AE := aBin fun d e S P => plusD S P d e
def aPlusN : AE → AE → AE := aBin fun d e S P => plusN S P d e
theorem szm {n : Nat} (h : n ≤ 1000000) : n ≤ sizeLine := by rw [sizeLine_eq]; omega
theorem a_plus (ha : PE X a (cE X.K W aa)) (hb : PE X b (cE X.K W ab)) : PE X (.BinOp a .Add b pos) (cE X.K W (aPlus aa ab)) :=
  a_op (OpR.or op_add (OpR.or op_add_str (OpR.or op_catA op_cat))) (fun H S x y d e P Q I r1 r2 h q => by
    have lists : ∀ {xs : List D}, asLst S d (fun zs => zs = xs) → (asLst S e fun ys => xs.length + ys.length ≤ 1000000 ∧ P (.lst (xs ++ ys)) S) → rCat x y H Q := fun {xs} h1 h2 => by
      obtain ⟨a1, v1, d1, e1, g1, q1, z1⟩ := asLst_of I r1 h1
      obtain ⟨a2, v2, d2, e2, g2, q2, z2, z3⟩ := asLst_of I r2 h2
      subst z1
      exact ⟨a1, a2, v1, v2, e1, e2, g1, g2, by rw [q1.length, q2.length]; exact szm z2, new_lst q I (q1.append q2) z3⟩
    cases r1 with
    | int i =>
      obtain ⟨j, e1, h1⟩ := asInt_of h
      subst e1
      exact .inl ⟨i, j, rfl, rep_int r2, q _ _ _ _ (.refl _ _) I (.int _) h1⟩
    | str z =>
      obtain ⟨j, e1, h1, h2⟩ := asStr_of h
      subst e1
      exact .inr (.inl ⟨z, j, rfl, rep_str r2, szm h1, q _ _ _ _ (.refl _ _) I (.str _) h2⟩)
    | @tup a1 v1 d1 s1 q1 =>
      obtain ⟨d2, e1, h1, h2⟩ := asTup_of h
      subst e1
      obtain ⟨a2, v2, e2, s2, q2⟩ := rep_tup r2
      refine .inr (.inr (.inl ⟨a1, a2, v1, v2, rfl, e2, s1, s2, by rw [q1.length, q2.length]; exact szm h1, fun z => ?_, fun _ z => ?_, fun _ _ => new_tup q I (q1.append q2) h2⟩))
      · subst z
        cases q1
        exact q _ _ _ _ (.refl _ _) I (.tup s2 q2) h2
      · subst z
        cases q2
        exact q _ _ _ _ (.refl _ _) I (.tup s1 (by rw [List.append_nil]; exact q1)) h2
    | lst g1 n1 q1 => exact .inr (.inr (.inr (lists rfl h)))
    | ptr p =>
      obtain ⟨xs, e1, h1⟩ := h
      exact .inr (.inr (.inr (lists ⟨xs, e1, rfl⟩ h1)))
    | non => exact h.elim
    | bl => exact h.elim
    | dct => exact h.elim
    | scr => exact h.elim) ha hb
theorem a_plusN (ha : PE X a (cE X.K W aa)) (hb : PE X b (cE X.K W ab)) : PE X (.BinOp a .Add b pos) (cE X.K W (aPlusN aa ab)) :=
  a_op op_cat (fun H S x y d e P Q I r1 r2 h q => by
    obtain ⟨a1, v1, d1, e1, g1, q1, z1⟩ := asLst_of I r1 h
    obtain ⟨a2, v2, d2, e2, g2, q2, z2, z3⟩ := asLst_of I r2 z1
    exact ⟨a1, a2, v1, v2, e1, e2, g1, g2, by rw [q1.length, q2.length]; exact szm z2, new_lstN q I (q1.append q2) z3⟩) ha hb
/-! ### * -/
def timesD (S : Sg) (P : D → Sg → Prop) : D → D → Prop
  | .int i, e => asInt e fun j => (CMul i j ∨ CMulW i j) ∧ P (.int (i * j)) S
  | .str x, e => asInt e fun k => (-1000000 ≤ k ∧ k ≤ 1000000 ∧ x.length ≤ 1000000 ∧ x.length * k.toNat ≤ 1000000) ∧ P (.str (repS x k.toNat)) S
  | .tup xs, e => asInt e fun k => (-1000000 ≤ k ∧ k ≤ 1000 ∧ xs.length ≤ 1000) ∧ P (.tup (List.replicate k.toNat xs).flatten) S
  | .lst xs, e => asInt e fun k => (-1000000 ≤ k ∧ k ≤ 1000000 ∧ xs.length * k.toNat ≤ 1000000) ∧ P (.lst (List.replicate k.toNat xs).flatten) S
  | .ptr p, e => ∃ xs, S p = some (.lst xs) ∧ asInt e fun k => (-1000000 ≤ k ∧ k ≤ 1000000 ∧ xs.length * k.toNat ≤ 1000000) ∧ P (.lst (List.replicate k.toNat xs).flatten) S
  | _, _ => False
def timesN (S : Sg) (P : D → Sg → Prop) (d e : D) : Prop := asLst S d fun xs => asInt e fun k => (-1000000 ≤ k ∧ k ≤ 1000000 ∧ xs.length * k.toNat ≤ 1000000) ∧ ∀ p, S p = none → P (.ptr p) (put S p (.lst (List.replicate k.toNat xs).flatten))
def aTimes : AE → AE → AE := aBin fun d e S P => timesD S P d e
def aTimesN : AE → AE → AE := aBin fun d e S P => timesN S P d e
theorem a_times (ha : PE X a (cE X.K W aa)) (hb : PE X b (cE X.K W ab)) : PE X (.BinOp a .Mult b pos) (cE X.K W (aTimes aa ab)) :=
  a_op (OpR.or op_mul (OpR.or op_mulW (OpR.or op_repS (OpR.or op_repTA op_rep)))) (fun H S x y d e P Q I r1 r2 h q => by
    have lists : ∀ {xs : List D}, asLst S d (fun zs => zs = xs) → (asInt e fun k => (-1000000 ≤ k ∧ k ≤ 1000000 ∧ xs.length * k.toNat ≤ 1000000) ∧ P (.lst (List.replicate k.toNat xs).flatten) S) → rRep x y H Q := fun {xs} h1 h2 => by
      obtain ⟨a1, v1, d1, e1, g1, q1, z1⟩ := asLst_of I r1 h1
      obtain ⟨k, e2, ⟨z2, z3, z4⟩, z5⟩ := asInt_of h2
      subst z1 e2
      exact ⟨a1, k, v1, e1, rep_int r2, g1, by omega, by omega, by rw [q1.length]; exact szm z4, new_lst q I (q1.rep _) z5⟩
    cases r1 with
    | int i =>
      obtain ⟨j, e1, h1, h2⟩ := asInt_of h
      subst e1
      rcases h1 with h1 | h1
      · exact .inl ⟨i, j, rfl, rep_int r2, h1, q _ _ _ _ (.refl _ _) I (.int _) h2⟩
      · exact .inr (.inl ⟨i, j, rfl, rep_int r2, h1, q _ _ _ _ (.refl _ _) I (.int _) h2⟩)
    | str z =>
      obtain ⟨k, e1, ⟨h1, h2, h3, h4⟩, h5⟩ := asInt_of h
      subst e1
      exact .inr (.inr (.inl ⟨z, k, rfl, rep_int r2, h1, h2, h3, h4, q _ _ _ _ (.refl _ _) I (.str _) h5⟩))
    | @tup a1 v1 d1 s1 q1 =>
      obtain ⟨k, e1, ⟨h1, h2, h3⟩, h5⟩ := asInt_of h
      subst e1
      refine .inr (.inr (.inr (.inl ⟨a1, k, v1, rfl, rep_int r2, s1, h1, h2, by rw [q1.length]; exact h3, fun z => ?_, fun _ z => ?_, fun _ _ => new_tup q I (q1.rep _) h5⟩)))
      · refine q _ _ _ _ (.refl _ _) I (.tup s1 ?_) h5
        rcases z with z | z
        · subst z
          cases q1
          rw [PyProof.Rows.lm_rep_nil]
          exact .nil
        · subst z
          rw [show (1 : Int).toNat = 1 from rfl]
          simpa using q1
      · have e0 : k.toNat = 0 := by omega
        rw [e0] at h5
        exact new_tup q I .nil h5
    | lst g1 n1 q1 => exact .inr (.inr (.inr (.inr (lists rfl h))))
    | ptr p =>
      obtain ⟨xs, e1, h1⟩ := h
      exact .inr (.inr (.inr (.inr (lists ⟨xs, e1, rfl⟩ h1))))
    | non => exact h.elim
    | bl => exact h.elim
    | dct => exact h.elim
    | scr => exact h.elim) ha hb
theorem a_timesN (ha : PE X a (cE X.K W aa)) (hb : PE X b (cE X.K W ab)) : PE X (.BinOp a .Mult b pos) (cE X.K W (aTimesN aa ab)) :=
  a_op op_rep (fun H S x y d e P Q I r1 r2 h q => by
    obtain ⟨a1, v1, d1, e1, g1, q1, z1⟩ := asLst_of I r1 h
    obtain ⟨k, e2, ⟨z2, z3, z4⟩, z5⟩ := asInt_of z1
    subst e2
    exact ⟨a1, k, v1, e1, rep_int r2, g1, by omega, by omega, by rw [q1.length]; exact szm z4, new_lstN q I (q1.rep _) z5⟩) ha hb
/-! ### // of any size -/
def aFdivA : AE → AE → AE := aBin (rrI (fun i j => CDiv i j ∨ CDivW i j) fun i j => .int (i / j))
theorem a_fdivA (ha : PE X a (cE X.K W aa)) (hb : PE X b (cE X.K W ab)) : PE X (.BinOp a .FloorDiv b pos) (cE X.K W (aFdivA aa ab)) :=
  a_op (OpR.or op_fdiv op_fdivW) (fun H S x y d e P Q I r1 r2 h q => by
    obtain ⟨i, e1, h1⟩ := asInt_of h
    obtain ⟨j, e2, c, h2⟩ := asInt_of h1
    subst e1 e2
    rcases c with c | c
    · exact .inl ⟨i, j, rep_int r1, rep_int r2, c, q _ _ _ _ (.refl _ _) I (.int _) h2⟩
    · exact .inr ⟨i, j, rep_int r1, rep_int r2, c, q _ _ _ _ (.refl _ _) I (.int _) h2⟩) ha hb
/-! ### subscripts -/
def atD (ds : List D) (i : Int) (k : D → Prop) : Prop := ∃ d, atI ds i = some d ∧ k d
def atS (z : Str) (i : Int) (k : Str → Prop) : Prop := ∃ c, atI z.cps.toList i = some c ∧ k ⟨#[c]⟩
def ixD (S : Sg) (P : D → Sg → Prop) : D → D → Prop
  | .str z, e => asInt e fun i => z.length ≤ 1000000 ∧ atS z i fun c => P (.str c) S
  | .tup xs, e => asInt e fun i => atD xs i fun d => P d S
  | .lst xs, e => asInt e fun i => atD xs i fun d => P d S
  | .scr xs, e => asInt e fun i => atD xs i fun d => P d S
  | .ptr p, e => ∃ xs, S p = some (.lst xs) ∧ asInt e fun i => atD xs i fun d => P d S
  | _, _ => False
def aIx : AE → AE → AE := aBin fun d e S P => ixD S P d e
theorem atI_rep {K : PySem.W.Frag} {H : Hp} {A : Addr → Prop} {xs : List V} {ds : List D} (r : RepL K H A xs ds) {i : Int} {k : D → Prop} (h : atD ds i k) : ∃ v d, atI xs i = some v ∧ Rep K H A v d ∧ k d := by
  obtain ⟨d, e, h⟩ := h
  unfold atI at e ⊢
  rw [r.length]
  cases e2 : ixN ds.length i with
  | none => rw [e2] at e; cases e
  | some j =>
    rw [e2] at e
    obtain ⟨v, g, q⟩ := r.get (show ds[j]? = some d from e)
    exact ⟨v, d, g, q, h⟩
theorem a_ixA (ha : PE X a (cE X.K W aa)) (hb : PE X b (cE X.K W ab)) (hs : PlainIx b := by exact fun _ _ => rfl) : PE X (.Subscript a b pos) (cE X.K W (aIx aa ab)) :=
  a_ix ix_seq (fun H S x y d e P Q I r1 r2 h q => by
    cases r1 with
    | str z =>
      obtain ⟨i, e1, h1, c, e2, h2⟩ := asInt_of h
      subst e1
      exact .inr (.inr ⟨z, i, c, rfl, rep_int r2, szm h1, e2, q _ _ _ _ (.refl _ _) I (.str _) h2⟩)
    | @tup a1 v1 d1 s1 q1 =>
      obtain ⟨i, e1, h1⟩ := asInt_of h
      subst e1
      obtain ⟨v, d, e2, r, h2⟩ := atI_rep q1 h1
      exact .inr (.inl ⟨a1, v1, i, v, rfl, rep_int r2, s1, e2, q _ _ _ _ (.refl _ _) I r h2⟩)
    | @lst a1 v1 d1 g1 n1 q1 =>
      obtain ⟨i, e1, h1⟩ := asInt_of h
      subst e1
      obtain ⟨v, d, e2, r, h2⟩ := atI_rep q1 h1
      exact .inl ⟨a1, v1, i, v, rfl, rep_int r2, SqL.of g1, e2, q _ _ _ _ (.refl _ _) I r h2⟩
    | ptr p =>
      obtain ⟨ds, e0, h0⟩ := h
      obtain ⟨i, e1, h1⟩ := asInt_of h0
      subst e1
      obtain ⟨v1, g1, q1⟩ := I _ _ e0
      obtain ⟨v, d, e2, r, h2⟩ := atI_rep q1 h1
      exact .inl ⟨p, v1, i, v, rfl, rep_int r2, SqL.of g1, e2, q _ _ _ _ (.refl _ _) I r h2⟩
    | non => exact h.elim
    | bl => exact h.elim
    | int => exact h.elim
    | dct => exact h.elim
    | @scr a1 v1 d1 g1 q1 =>
      obtain ⟨i, e1, h1⟩ := asInt_of h
      subst e1
      obtain ⟨v, d, e2, r, h2⟩ := atI_rep q1 h1
      exact .inl ⟨a1, v1, i, v, rfl, rep_int r2, g1.sq, e2, q _ _ _ _ (.refl _ _) I r h2⟩) ha hb hs
/-! ### slices -/
abbrev AO := Ga → Sg → (Option Int → Sg → Prop) → XP → Prop
def cO (K : PySem.W.Frag) (W : WX) (a : AO) : TO := fun σ H Q => ∃ γ S Post x, Is K σ H γ S ∧ a γ S Post x ∧ (∀ o H' S', Tr H S H' S' → IsH K H' S' → Post o S' → Q o H') ∧ okX K W σ H S x
theorem _root_.L2.PO.imp {X : Cx} {e : Option Expr} {t t' : TO} (h : PO X e t) (i : ∀ σ H Q, t' σ H Q → t σ H Q) : PO X e t' := ⟨fun pins s σ H Q I z => h.run pins s σ H Q I (i σ H Q z)⟩
def aNo : AO := fun _ S P _ => P none S
def aPt (a : AE) : AO := fun γ S P x => a γ S (fun d S1 => asInt d fun i => P (some i) S1) x
theorem o_none : PO X none (cO X.K W aNo) := po_none.imp fun σ H Q ⟨γ, S, P, x, I, h, q, qx⟩ => q _ _ _ (.refl _ _) I.h h
theorem o_some (h : PE X e (cE X.K W ae)) : PO X (some e) (cO X.K W (aPt ae)) := (po_some h).imp fun σ H Q ⟨γ, S, P, x, I, h, q, qx⟩ => ⟨γ, S, _, x, I, h, fun v H1 d S1 t J r p => by
  obtain ⟨i, e1, h1⟩ := asInt_of p
  subst e1
  exact ⟨i, rep_int r, q _ _ _ t J h1⟩, qx⟩
def cutD (xs : List D) (lo hi : Option Int) : List D := (xs.drop (HT.sIx xs.length 0 lo)).take (HT.sIx xs.length xs.length hi - HT.sIx xs.length 0 lo)
theorem cut_rep {K : PySem.W.Frag} {H : Hp} {A : Addr → Prop} {xs : List V} {ds : List D} (r : RepL K H A xs ds) (lo hi : Option Int) : RepL K H A (cutV xs lo hi) (cutD ds lo hi) := by
  unfold cutV cutD
  rw [r.length]
  exact (r.drop _).take _
def slD (S : Sg) (lo hi : Option Int) (P : D → Sg → Prop) : D → Prop
  | .str z => z.length ≤ 1000000 ∧ P (.str (cutS z lo hi)) S
  | .tup ds => P (.tup (cutD ds lo hi)) S
  | .lst ds => P (.lst (cutD ds lo hi)) S
  | .scr ds => P (.lst (cutD ds lo hi)) S
  | .ptr p => ∃ ds, S p = some (.lst ds) ∧ P (.lst (cutD ds lo hi)) S
  | _ => False
def aSl (a : AE) (l h : AO) : AE := fun γ S P x => a γ S (fun d S1 => l γ S1 (fun lo S2 => h γ S2 (fun hi S3 => slD S3 lo hi P d) x) x) x
def aSlN (a : AE) (l h : AO) : AE := fun γ S P x => a γ S (fun d S1 => l γ S1 (fun lo S2 => h γ S2 (fun hi S3 => asLst S3 d fun ds => ∀ p, S3 p = none → P (.ptr p) (put S3 p (.lst (cutD ds lo hi)))) x) x) x
variable {lo hi : Option Expr} {al ah : AO}
theorem cut_whole {ds : List D} {lo hi : Option Int} (h : HT.sIx ds.length 0 lo = 0 ∧ HT.sIx ds.length ds.length hi = ds.length) : cutD ds lo hi = ds := by
  unfold cutD
  rw [h.1, h.2, List.drop_zero, Nat.sub_zero, List.take_length]
theorem a_sl (he : PE X e (cE X.K W ae)) (hl : PO X lo (cO X.K W al)) (hh : PO X hi (cO X.K W ah)) : PE X (.Subscript e (.Slice lo hi none p2) pos) (cE X.K W (aSl ae al ah)) :=
  (pe_slice (SlR.or (SlR.or sl_list sl_tupA) sl_str) he hl hh).imp fun σ H Q ⟨γ, S, P, x, I, h, q, qx⟩ =>
    ⟨γ, S, _, x, I, h, fun v H1 d S1 t J r p => ⟨γ, S1, _, x, I.tr t J, p, fun o1 H2 S2 t2 J2 p2 => ⟨γ, S2, _, x, I.tr (t.trans t2) J2, p2, fun o2 H3 S3 t3 J3 p3 => by
      have r' := (r.tr J t2).tr J2 t3
      have q' := q.tr ((t.trans t2).trans t3)
      cases r' with
      | str z => exact .inr ⟨z, rfl, szm p3.1, q' _ _ _ _ (.refl _ _) J3 (.str _) p3.2⟩
      | @tup a1 v1 d1 s1 q1 =>
        refine .inl (.inr ⟨a1, v1, rfl, s1, fun z => ?_, fun _ => new_tup q' J3 (cut_rep q1 _ _) p3⟩)
        rw [q1.length] at z
        exact q' _ _ _ _ (.refl _ _) J3 (.tup s1 (by rw [cut_whole z]; exact q1)) p3
      | lst g1 n1 q1 => exact .inl (.inl ⟨_, _, rfl, SqL.of g1, new_lst q' J3 (cut_rep q1 _ _) p3⟩)
      | ptr p =>
        obtain ⟨ds, e0, h0⟩ := p3
        obtain ⟨v1, g1, q1⟩ := J3 _ _ e0
        exact .inl (.inl ⟨_, _, rfl, SqL.of g1, new_lst q' J3 (cut_rep q1 _ _) h0⟩)
      | non => exact p3.elim
      | bl => exact p3.elim
      | int => exact p3.elim
      | dct => exact p3.elim
      | scr g1 q1 => exact .inl (.inl ⟨_, _, rfl, g1.sq, new_lst q' J3 (cut_rep q1 _ _) p3⟩), qx.tr (t.trans t2)⟩, qx.tr t⟩, qx⟩
theorem a_slN (he : PE X e (cE X.K W ae)) (hl : PO X lo (cO X.K W al)) (hh : PO X hi (cO X.K W ah)) : PE X (.Subscript e (.Slice lo hi none p2) pos) (cE X.K W (aSlN ae al ah)) :=
  (pe_slice sl_list he hl hh).imp fun σ H Q ⟨γ, S, P, x, I, h, q, qx⟩ =>
    ⟨γ, S, _, x, I, h, fun v H1 d S1 t J r p => ⟨γ, S1, _, x, I.tr t J, p, fun o1 H2 S2 t2 J2 p2 => ⟨γ, S2, _, x, I.tr (t.trans t2) J2, p2, fun o2 H3 S3 t3 J3 p3 => by
      have r' := (r.tr J t2).tr J2 t3
      have q' := q.tr ((t.trans t2).trans t3)
      obtain ⟨a1, v1, ds, e1, g1, q1, h1⟩ := asLst_of J3 r' p3
      exact ⟨a1, v1, e1, SqL.of g1, new_lstN q' J3 (cut_rep q1 _ _) h1⟩, qx.tr (t.trans t2)⟩, qx.tr t⟩, qx⟩
/-- xs[i] = v, a tracked list -/
def agSub (o i : AE) (x : XP) : AG := fun d γ S k => o γ S (fun q S1 => i γ S1 (fun j S2 => asPtr S2 q fun p ds => asInt j fun n => match ixN ds.length n with
  | some m => k γ (put S2 p (.lst (ds.set m d)))
  | none => False) x) x
end
end FB

set_option maxHeartbeats 4000000
/-! FB7: stores by place, built-ins, isinstance, in, ==, methods. -/
namespace FB
open PySem PySem.Spec PyProof.Rows L2
section
variable {X : Cx} {W : WX} {a b e o i : Expr} {aa ab ae ao ai : AE} {ar : AA} {es : List Expr} {p pos p2 pos' : Pos} {x : Str} {bid T : String}
/-! ### xs[i] = v -/
def setD (S : Sg) (q j d : D) (k : Sg → Prop) : Prop := asPtr S q fun p ds => asInt j fun n => ∃ m, ixN ds.length n = some m ∧ k (put S p (.lst (ds.set m d)))
def aSetIx (o i v : AE) : ATS := fun Da γ S => v γ S (fun d S1 => o γ S1 (fun q S2 => i γ S2 (fun j S3 => setD S3 q j d fun S4 => Da.nx γ S4) (Da.ex γ)) (Da.ex γ)) (Da.ex γ)
theorem s_setIx (ho : PE X o (cE X.K W ao)) (hi : PE X i (cE X.K W ai)) (he : PE X e (cE X.K W ae))
    (ha : ∀ v, assign (.Subscript o i pos') X.env v = (do
      let ov ← holding [v] (eval o X.env)
      let iv ← holding [v, ov] (eval i X.env)
      standAt pos'
      holding [v, ov, iv] (setItem ov iv v)
      release [v, ov, iv] []) := by intro _; rfl)
    (hs : swapsWithSole [.Subscript o i pos'] e pos.line X.env = pure false := by rfl) (hw : swappedStores [.Subscript o i pos'] e X.env = pure none := by rfl) (h1 : (assignEach [.Subscript o i pos'] X.env).map (·.2) = [assign (.Subscript o i pos') X.env] := by rfl) :
    PS X (.Assign [.Subscript o i pos'] e pos) (cS X.K W (aSetIx ao ai ae)) :=
  (ps_asg he (pg_sub ho hi set_list ha) hs hw h1).imp fun Dc σ H ⟨γ, S, Da, I, h, ok⟩ =>
    ⟨γ, S, _, _, I, h, fun v H1 d S1 t1 J1 r1 q1 => ⟨γ, S1, _, _, I.tr t1 J1, q1, fun w H2 q S2 t2 J2 r2 q2 => ⟨γ, S2, _, _, I.tr (t1.trans t2) J2, q2, fun u H3 j S3 t3 J3 r3 q3 => by
      obtain ⟨p, ds, e1, e2, q4⟩ := asPtr_of q3
      obtain ⟨n, e3, m, e4, q5⟩ := asInt_of q4
      subst e1 e3
      obtain ⟨xs, g, rl⟩ := J3 _ _ e2
      · have t4 : Tr H3 S3 (upd H3 p (.lst (xs.set m v))) (put S3 p (.lst (ds.set m d))) := tr_write e2
        have rd : Rep X.K H3 (Av S3) v d := (r1.tr J1 t2).tr J2 t3
        refine ⟨p, xs, n, m, rep_ptr (r2.tr J2 t3), rep_int r3, g, by rw [rl.length]; exact e4, ?_⟩
        have J4 : IsH X.K (upd H3 p (.lst (xs.set m v))) (put S3 p (.lst (ds.set m d))) := is_write e2 J3 ⟨_, upd_same, (rl.set m rd).tr J3 t4⟩
        exact ok.nx _ _ _ _ (((t1.trans t2).trans t3).trans t4) (I.tr (((t1.trans t2).trans t3).trans t4) J4) q5, (ok.ex.at I).tr (t1.trans t2)⟩, (ok.ex.at I).tr t1⟩, ok.ex.at I⟩
/-! ### built-ins -/
def CallS (K : PySem.W.Frag) (r : List V → Hp → VK → Prop) (rr : List D → Sg → (D → Sg → Prop) → Prop) : Prop := ∀ (H : Hp) (S : Sg) (xs : List V) (ds : List D) (P : D → Sg → Prop) (Q : VK), IsH K H S → RepL K H (Av S) xs ds → rr ds S P → okV K H S P Q → r xs H Q
def aCB (rr : List D → Sg → (D → Sg → Prop) → Prop) (g : AA) : AE := fun γ S P x => g γ S (fun ds S1 => rr ds S1 P) x
theorem cb_imp {K : PySem.W.Frag} {r : List V → Hp → VK → Prop} {rr : List D → Sg → (D → Sg → Prop) → Prop} (s : CallS K r rr) : ∀ σ H Q, cE K W (aCB rr ar) σ H Q → tCB r (cA K W ar) σ H Q := fun σ H Q ⟨γ, S, P, x, I, h, q, qx⟩ =>
  ⟨γ, S, _, x, I, h, fun vs H1 ds S1 t J r p => s _ _ _ _ _ _ J r p (q.tr t), qx⟩
theorem a_callB {r : List V → Hp → VK → Prop} {rr : List D → Sg → (D → Sg → Prop) → Prop} (hc : CallR X (.builtin bid) r) (s : CallS X.K r rr) (hg : Gl X x) (hm : X.mg x = none) (hv : bootBuiltins x = some (.builtin bid)) (ha : PA X (e :: es) (cA X.K W ar)) (hn : x ≠ "__name__" := by decide) (hdb : (x == ("__debug__" : Str)) = false := by decide)
    (he : starEach (e :: es) X.env = (false, eval e X.env) :: starEach es X.env := by rfl) (hpl : (backTo pos (starEach es X.env)).any (·.1) = false := by rfl) : PE X (.Call (.Name x p) (e :: es) [] pos) (cE X.K W (aCB rr ar)) :=
  (pe_callB hc hg hm hv ha hn hdb he hpl).imp (cb_imp s)
theorem a_callTy {r : List V → Hp → VK → Prop} {rr : List D → Sg → (D → Sg → Prop) → Prop} (hc : CallR X (.type T) r) (s : CallS X.K r rr) (hg : Gl X x) (hm : X.mg x = none) (hv : bootBuiltins x = some (.type T)) (ha : PA X (e :: es) (cA X.K W ar)) (hn : x ≠ "__name__" := by decide) (hdb : (x == ("__debug__" : Str)) = false := by decide)
    (he : starEach (e :: es) X.env = (false, eval e X.env) :: starEach es X.env := by rfl) (hpl : (backTo pos (starEach es X.env)).any (·.1) = false := by rfl) : PE X (.Call (.Name x p) (e :: es) [] pos) (cE X.K W (aCB rr ar)) :=
  (pe_callTy hc hg hm hv ha hn hdb he hpl).imp (cb_imp s)
/-- len -/
def lenD (S : Sg) : D → (Nat → Prop) → Prop
  | .str z, k => z.length ≤ 1000000 ∧ k z.length
  | .tup ds, k => k ds.length
  | .lst ds, k => k ds.length
  | .dct ks _, k => k ks.length
  | .scr ds, k => k ds.length
  | .ptr p, k => ∃ ds, S p = some (.lst ds) ∧ k ds.length
  | _, _ => False
theorem call_lenRd {X : Cx} : CallR X (.builtin "len") (fun xs H Q => ∃ a kvs, xs = [V.ref a] ∧ Rd H a (.dK kvs) ∧ Q (.int kvs.length) H) := by
  intro pins s σ H xs us Q I r h
  obtain ⟨a, kvs, rfl, ha, q⟩ := h
  obtain ⟨u, rfl, ru⟩ := vals1 r
  cases ru
  exact d_len I ha fun t s' I' => ⟨.int kvs.length, H, I', ⟨t, rfl⟩, q⟩
abbrev rLenA (K : PySem.W.Frag) : List V → Hp → VK → Prop := fun xs H Q => (∃ x n, xs = [x] ∧ LenV K x H n ∧ Q (.int n) H) ∨ ∃ a kvs, xs = [V.ref a] ∧ Rd H a (.dK kvs) ∧ Q (.int kvs.length) H
theorem call_lenA {X : Cx} : CallR X (.builtin "len") (rLenA X.K) := fun pins s σ H xs us Q I r h => h.elim (call_len pins s σ H xs us Q I r) (call_lenRd pins s σ H xs us Q I r)
def bLen : List D → Sg → (D → Sg → Prop) → Prop := fun ds S P => one (fun d => lenD S d fun n => P (.int n) S) ds
theorem cs_len {K : PySem.W.Frag} : CallS K (rLenA K) bLen := fun H S xs ds P Q I r h q => by
  obtain ⟨d, e1, h1⟩ := one_of h
  subst e1
  obtain ⟨v, e2, r1⟩ := repL_one r
  subst e2
  cases r1 with
  | str z => exact .inl ⟨_, _, rfl, ⟨szm h1.1, rfl⟩, q _ _ _ _ (.refl _ _) I (.int _) h1.2⟩
  | tup s1 q1 => exact .inl ⟨_, _, rfl, .inr ⟨_, s1, rfl⟩, q _ _ _ _ (.refl _ _) I (.int _) (by rw [q1.length]; exact h1)⟩
  | lst g1 n1 q1 => exact .inl ⟨_, _, rfl, .inl ⟨_, SqL.of g1, rfl⟩, q _ _ _ _ (.refl _ _) I (.int _) (by rw [q1.length]; exact h1)⟩
  | ptr p =>
    obtain ⟨ds, e0, h0⟩ := h1
    obtain ⟨v1, g1, q1⟩ := I _ _ e0
    exact .inl ⟨_, _, rfl, .inl ⟨_, SqL.of g1, rfl⟩, q _ _ _ _ (.refl _ _) I (.int _) (by rw [q1.length]; exact h0)⟩
  | non => exact h1.elim
  | bl => exact h1.elim
  | int => exact h1.elim
  | scr g1 q1 => exact .inl ⟨_, _, rfl, .inl ⟨_, g1.sq, rfl⟩, q _ _ _ _ (.refl _ _) I (.int _) (by rw [q1.length]; exact h1)⟩
  | @dct a kvs es g n q1 => exact .inr ⟨a, kvs, rfl, g, q _ _ _ _ (.refl _ _) I (.int _) (by rw [← List.length_map (f := fun q : Key × V => q.1)]; exact h1)⟩
/-- int(n), int(flag) -/
def bInt : List D → Sg → (D → Sg → Prop) → Prop := fun ds S P => one (fun d => match d with
  | .int i => P (.int i) S
  | .bl k => P (.int (if k then 1 else 0)) S
  | _ => False) ds
theorem cs_int {K : PySem.W.Frag} : CallS K (fun xs H Q => (∃ i, xs = [.int i] ∧ Q (.int i) H) ∨ ∃ k, xs = [.bl k] ∧ Q (.int (if k then 1 else 0)) H) bInt := fun H S xs ds P Q I r h q => by
  obtain ⟨d, e1, h1⟩ := one_of h
  subst e1
  obtain ⟨v, e2, r1⟩ := repL_one r
  subst e2
  cases r1 with
  | int i => exact .inl ⟨i, rfl, q _ _ _ _ (.refl _ _) I (.int _) h1⟩
  | bl k => exact .inr ⟨k, rfl, q _ _ _ _ (.refl _ _) I (.int _) h1⟩
  | _ => exact h1.elim
def bAbs : List D → Sg → (D → Sg → Prop) → Prop := fun ds S P => one (fun d => asInt d fun i => P (.int (if i < 0 then -i else i)) S) ds
theorem cs_abs {K : PySem.W.Frag} : CallS K (fun xs H Q => ∃ i, xs = [.int i] ∧ Q (.int (if i < 0 then -i else i)) H) bAbs := fun H S xs ds P Q I r h q => by
  obtain ⟨d, e1, h1⟩ := one_of h
  obtain ⟨i, e2, h2⟩ := asInt_of h1
  subst e1 e2
  obtain ⟨v, e3, r1⟩ := repL_one r
  exact ⟨i, by rw [e3, rep_int r1], q _ _ _ _ (.refl _ _) I (.int _) h2⟩
def bMax2 : List D → Sg → (D → Sg → Prop) → Prop := fun ds S P => two (fun d e => asInt d fun i => asInt e fun j => P (.int (if j > i then j else i)) S) ds
def bMin2 : List D → Sg → (D → Sg → Prop) → Prop := fun ds S P => two (fun d e => asInt d fun i => asInt e fun j => P (.int (if j < i then j else i)) S) ds
theorem cs_max2 {K : PySem.W.Frag} : CallS K (fun xs H Q => ∃ i j, xs = [.int i, .int j] ∧ Q (.int (if j > i then j else i)) H) bMax2 := fun H S xs ds P Q I r h q => by
  obtain ⟨d, e, e1, h1⟩ := two_of h
  obtain ⟨i, e2, h2⟩ := asInt_of h1
  obtain ⟨j, e3, h3⟩ := asInt_of h2
  subst e1 e2 e3
  obtain ⟨v, u, e3, r1, r2⟩ := repL_two r
  exact ⟨i, j, by rw [e3, rep_int r1, rep_int r2], q _ _ _ _ (.refl _ _) I (.int _) h3⟩
theorem cs_min2 {K : PySem.W.Frag} : CallS K (fun xs H Q => ∃ i j, xs = [.int i, .int j] ∧ Q (.int (if j < i then j else i)) H) bMin2 := fun H S xs ds P Q I r h q => by
  obtain ⟨d, e, e1, h1⟩ := two_of h
  obtain ⟨i, e2, h2⟩ := asInt_of h1
  obtain ⟨j, e3, h3⟩ := asInt_of h2
  subst e1 e2 e3
  obtain ⟨v, u, e3, r1, r2⟩ := repL_two r
  exact ⟨i, j, by rw [e3, rep_int r1, rep_int r2], q _ _ _ _ (.refl _ _) I (.int _) h3⟩
/-- lists of ints, of texts, of truth values -/
theorem repL_ints {K : PySem.W.Frag} {H : Hp} {A : Addr → Prop} : ∀ {ns : List Int} {vs : List V}, RepL K H A vs (ns.map D.int) → vs = ns.map V.int
  | [], _, .nil => rfl
  | n :: ns, _, .cons r t => by
    cases r
    rw [repL_ints t]; rfl
theorem repL_strs {K : PySem.W.Frag} {H : Hp} {A : Addr → Prop} : ∀ {ns : List Str} {vs : List V}, RepL K H A vs (ns.map D.str) → vs = ns.map V.str
  | [], _, .nil => rfl
  | n :: ns, _, .cons r t => by
    cases r
    rw [repL_strs t]; rfl
theorem repL_bls {K : PySem.W.Frag} {H : Hp} {A : Addr → Prop} : ∀ {ns : List Bool} {vs : List V}, RepL K H A vs (ns.map D.bl) → vs = ns.map V.bl
  | [], _, .nil => rfl
  | n :: ns, _, .cons r t => by
    cases r
    rw [repL_bls t]; rfl
def bSum : List D → Sg → (D → Sg → Prop) → Prop := fun ds S P => one (fun d => asLst S d fun es => ∃ ns : List Int, es = ns.map D.int ∧ P (.int ns.sum) S) ds
theorem cs_sum {K : PySem.W.Frag} : CallS K (rSum K) bSum := fun H S xs ds P Q I r h q => by
  obtain ⟨d, e1, h1⟩ := one_of h
  subst e1
  obtain ⟨v, e2, r1⟩ := repL_one r
  obtain ⟨a1, zs, es, e3, g1, q1, ns, e4, h2⟩ := asLst_of I r1 h1
  subst e2 e3 e4
  have := repL_ints q1
  subst this
  exact ⟨a1, ns, rfl, SqL.of g1, q _ _ _ _ (.refl _ _) I (.int _) h2⟩
def bAll : List D → Sg → (D → Sg → Prop) → Prop := fun ds S P => one (fun d => asLst S d fun es => ∃ bs : List Bool, es = bs.map D.bl ∧ P (.bl (bs.all id)) S) ds
def bAny : List D → Sg → (D → Sg → Prop) → Prop := fun ds S P => one (fun d => asLst S d fun es => ∃ bs : List Bool, es = bs.map D.bl ∧ P (.bl (bs.any id)) S) ds
theorem cs_all {K : PySem.W.Frag} : CallS K (rAll K) bAll := fun H S xs ds P Q I r h q => by
  obtain ⟨d, e1, h1⟩ := one_of h
  subst e1
  obtain ⟨v, e2, r1⟩ := repL_one r
  obtain ⟨a1, zs, es, e3, g1, q1, ns, e4, h2⟩ := asLst_of I r1 h1
  subst e2 e3 e4
  have := repL_bls q1
  subst this
  exact ⟨a1, ns, rfl, SqL.of g1, q _ _ _ _ (.refl _ _) I (.bl _) h2⟩
theorem cs_any {K : PySem.W.Frag} : CallS K (rAny K) bAny := fun H S xs ds P Q I r h q => by
  obtain ⟨d, e1, h1⟩ := one_of h
  subst e1
  obtain ⟨v, e2, r1⟩ := repL_one r
  obtain ⟨a1, zs, es, e3, g1, q1, ns, e4, h2⟩ := asLst_of I r1 h1
  subst e2 e3 e4
  have := repL_bls q1
  subst this
  exact ⟨a1, ns, rfl, SqL.of g1, q _ _ _ _ (.refl _ _) I (.bl _) h2⟩
/-- list(xs), tuple(xs) -/
def bList : List D → Sg → (D → Sg → Prop) → Prop := fun ds S P => one (fun d => asSeq S d fun es => P (.lst es) S) ds
def bListN : List D → Sg → (D → Sg → Prop) → Prop := fun ds S P => one (fun d => asSeq S d fun es => ∀ p, S p = none → P (.ptr p) (put S p (.lst es))) ds
def bTuple : List D → Sg → (D → Sg → Prop) → Prop := fun ds S P => one (fun d => asSeq S d fun es => P (.tup es) S) ds
theorem cs_list {K : PySem.W.Frag} : CallS K (fun xs H Q => ∃ p ys, xs = [.ref p] ∧ (SqL K H p ys ∨ SqT K H p ys) ∧ ∀ l, H l = none → Q (.ref l) (upd H l (.lst ys))) bList := fun H S xs ds P Q I r h q => by
  obtain ⟨d, e1, h1⟩ := one_of h
  subst e1
  obtain ⟨v, e2, r1⟩ := repL_one r
  obtain ⟨a1, zs, es, e3, g1, q1, h2⟩ := asSeq_of I r1 h1
  subst e2 e3
  exact ⟨a1, zs, rfl, g1.imp SqL.of _root_.id, new_lst q I q1 h2⟩
theorem cs_listN {K : PySem.W.Frag} : CallS K (fun xs H Q => ∃ p ys, xs = [.ref p] ∧ (SqL K H p ys ∨ SqT K H p ys) ∧ ∀ l, H l = none → Q (.ref l) (upd H l (.lst ys))) bListN := fun H S xs ds P Q I r h q => by
  obtain ⟨d, e1, h1⟩ := one_of h
  subst e1
  obtain ⟨v, e2, r1⟩ := repL_one r
  obtain ⟨a1, zs, es, e3, g1, q1, h2⟩ := asSeq_of I r1 h1
  subst e2 e3
  exact ⟨a1, zs, rfl, g1.imp SqL.of _root_.id, new_lstN q I q1 h2⟩
theorem cs_tuple {K : PySem.W.Frag} : CallS K (fun xs H Q => ∃ p ys, xs = [.ref p] ∧ ((SqL K H p ys ∧ ∀ l, H l = none → Q (.ref l) (upd H l (.tup ys))) ∨ (SqT K H p ys ∧ Q (.ref p) H))) bTuple := fun H S xs ds P Q I r h q => by
  obtain ⟨d, e1, h1⟩ := one_of h
  subst e1
  obtain ⟨v, e2, r1⟩ := repL_one r
  subst e2
  cases r1 with
  | tup s1 q1 => exact ⟨_, _, rfl, .inr ⟨s1, q _ _ _ _ (.refl _ _) I (.tup s1 q1) h1⟩⟩
  | lst g1 n1 q1 => exact ⟨_, _, rfl, .inl ⟨SqL.of g1, new_tup q I q1 h1⟩⟩
  | ptr p =>
    obtain ⟨ds, e0, h0⟩ := h1
    obtain ⟨v1, g1, q1⟩ := I _ _ e0
    exact ⟨_, _, rfl, .inl ⟨SqL.of g1, new_tup q I q1 h0⟩⟩
  | _ => exact h1.elim
/-! ### isinstance -/
def tyD (S : Sg) : D → Option String
  | .non => some "NoneType"
  | .bl _ => some "bool"
  | .int _ => some "int"
  | .str _ => some "str"
  | .tup _ => some "tuple"
  | .lst _ => some "list"
  | .dct _ _ => some "dict"
  | .scr _ => none
  | .ptr p => match S p with
    | some (.lst _) => some "list"
    | some (.dct _ _) => some "dict"
    | _ => none
def subB (t n : String) : Bool := t == n || (t == "bool" && n == "int")
def tysB : List String := ["NoneType", "bool", "int", "str", "tuple", "list", "dict"]
theorem kit_all : (tysB.all fun t => ["bool", "int", "str", "tuple", "list", "dict"].all fun n => decide (kitB t n = some (subB t n))) = true := by decide +kernel
theorem kit_of2 {t n : String} (ht : t ∈ tysB) (hn : n ∈ ["bool", "int", "str", "tuple", "list", "dict"]) : kitB t n = some (subB t n) :=
  of_decide_eq_true (List.all_eq_true.mp (List.all_eq_true.mp kit_all t ht) n hn)
theorem ty_of {K : PySem.W.Frag} {H : Hp} {S : Sg} {v : V} {d : D} {t : String} (I : IsH K H S) (r : Rep K H (Av S) v d) (h : tyD S d = some t) : TyX K H v (.type t) ∧ t ∈ tysB := by
  cases r with
  | non => cases h; exact ⟨.base .non, by decide⟩
  | bl b => cases h; exact ⟨.base (.bl b), by decide⟩
  | int i => cases h; exact ⟨.base (.int i), by decide⟩
  | str z => cases h; exact ⟨.base (.str z), by decide⟩
  | tup s q =>
    cases h
    refine ⟨?_, by decide⟩
    rcases s with s | ⟨o, its, n, e, c, _⟩
    · rcases s with s | ⟨o, s⟩
      · exact .base (.tup s)
      · exact .fTuple s
    · exact .kTuple e c
  | lst g n q => cases h; exact ⟨.base (.lst g), by decide⟩
  | scr => cases h
  | dct g n q =>
    cases h
    refine ⟨?_, by decide⟩
    rcases g with s | ⟨o, s⟩
    · exact .base (.dK s)
    · exact .fDict s
  | ptr p =>
    simp only [tyD] at h
    cases e : S p with
    | none => rw [e] at h; cases h
    | some c =>
      have J := I p c e
      rw [e] at h
      cases c with
      | lst ds =>
        cases h
        obtain ⟨xs, g, _⟩ := J
        exact ⟨.base (.lst g), by decide⟩
      | dct ks ds =>
        cases h
        obtain ⟨xs, g, _⟩ := J
        exact ⟨.base (.dK g), by decide⟩
      | xd _ _ => cases h
def isD (S : Sg) (n : String) (d : D) (k : Bool → Prop) : Prop := ∃ t, tyD S d = some t ∧ k (subB t n)
def aIsi (n : String) (a : AE) : AE := fun γ S P x => a γ S (fun d S1 => isD S1 n d fun b => P (.bl b) S1) x
theorem a_isi {n : String} {y : Str} {p1 : Pos} (hm : X.mg "isinstance" = none) (hg : Gl X "isinstance") (he : PE X e (cE X.K W ae)) (hg2 : Gl X y) (hm2 : X.mg y = none) (hv2 : bootBuiltins y = some (.type n)) (hn : n ∈ ["bool", "int", "str", "tuple", "list", "dict"] := by decide)
    (hn2 : y ≠ "__name__" := by decide) (hd2 : (y == ("__debug__" : Str)) = false := by decide)
    (hs : starEach [e, .Name y p1] X.env = (false, eval e X.env) :: starEach [.Name y p1] X.env := by rfl) (hs2 : starEach [.Name y p1] X.env = (false, eval (.Name y p1) X.env) :: starEach [] X.env := by rfl) (hpl : (backTo pos (starEach [.Name y p1] X.env)).any (·.1) = false := by rfl) :
    PE X (.Call (.Name "isinstance" p) [e, .Name y p1] [] pos) (cE X.K W (aIsi n ae)) :=
  (pe_callB call_isi hg hm (by decide +kernel) (pa_cons he (pa_cons (pe_bltn (v := .ty n) hg2 hm2 hv2 rfl hn2 hd2) pa_nil hs2) hs) (by decide) (by decide) hs hpl).imp fun σ H Q ⟨γ, S, P, x, I, h, q, qx⟩ =>
    ⟨γ, S, _, x, I, h, fun v H1 d S1 t J r q1 => by
      obtain ⟨tn, e1, q1⟩ := q1
      · obtain ⟨ty, ht⟩ := ty_of J r e1
        exact ⟨v, .ty n, _, _, _, rfl, .ty n, ty, kit_ty (kit_of2 ht hn), q _ _ _ _ t J (.bl _) q1⟩, qx⟩
def aIsi2 (n m : String) (a : AE) : AE := fun γ S P x => a γ S (fun d S1 => isD S1 n d fun b => isD S1 m d fun c => P (.bl (b || c)) S1) x
theorem a_isi2 {n m : String} {y z : Str} {p1 p2 p3 : Pos} {kk : Nat} (hm : X.mg "isinstance" = none) (hg : Gl X "isinstance") (he : PE X e (cE X.K W ae)) (hg2 : Gl X y) (hm2 : X.mg y = none) (hv2 : bootBuiltins y = some (.type n)) (hg3 : Gl X z) (hm3 : X.mg z = none) (hv3 : bootBuiltins z = some (.type m))
    (hn : n ∈ ["bool", "int", "str", "tuple", "list", "dict"] := by decide) (hnm : m ∈ ["bool", "int", "str", "tuple", "list", "dict"] := by decide)
    (hn2 : y ≠ "__name__" := by decide) (hd2 : (y == ("__debug__" : Str)) = false := by decide) (hn3 : z ≠ "__name__" := by decide) (hd3 : (z == ("__debug__" : Str)) = false := by decide)
    (hs : starEach [e, .Tuple [.Name y p1, .Name z p2] kk p3] X.env = (false, eval e X.env) :: starEach [.Tuple [.Name y p1, .Name z p2] kk p3] X.env := by rfl)
    (hs2 : starEach [.Tuple [.Name y p1, .Name z p2] kk p3] X.env = (false, eval (.Tuple [.Name y p1, .Name z p2] kk p3) X.env) :: starEach [] X.env := by rfl)
    (hs3 : starEach [.Name y p1, .Name z p2] X.env = (false, eval (.Name y p1) X.env) :: starEach [.Name z p2] X.env := by rfl) (hs4 : starEach [.Name z p2] X.env = (false, eval (.Name z p2) X.env) :: starEach [] X.env := by rfl)
    (hpl : (backTo pos (starEach [.Tuple [.Name y p1, .Name z p2] kk p3] X.env)).any (·.1) = false := by rfl) :
    PE X (.Call (.Name "isinstance" p) [e, .Tuple [.Name y p1, .Name z p2] kk p3] [] pos) (cE X.K W (aIsi2 n m ae)) :=
  (pe_callB call_isiT hg hm (by decide +kernel) (pa_cons he (pa_cons (pe_tup (pa_cons (pe_bltn (v := .ty n) hg2 hm2 hv2 rfl hn2 hd2) (pa_cons (pe_bltn (v := .ty m) hg3 hm3 hv3 rfl hn3 hd3) pa_nil hs4) hs3)) pa_nil hs2) hs) (by decide) (by decide) hs hpl).imp fun σ H Q ⟨γ, S, P, x, I, h, q, qx⟩ =>
    ⟨γ, S, _, x, I, h, fun v H1 d S1 t J r q1 => ⟨by show 2 ≤ sizeLine; rw [sizeLine_eq]; decide, fun tp ntp => by
      obtain ⟨tn, e1, tn2, e12, q1⟩ := q1
      have eq2 := e1.symm.trans e12
      cases eq2
      · have tn' := tr_new (o := .tup [V.ty n, V.ty m]) ntp J
        have J' : IsH X.K (upd H1 tp (.tup [V.ty n, V.ty m])) S1 := is_new ntp J
        obtain ⟨ty, ht⟩ := ty_of J' (r.tr J tn') e1
        refine ⟨v, tp, _, _, _, (subB tn n || subB tn m), rfl, upd_same, .cons (.ty n) (.cons (.ty m) .nil), ty, ?_, q _ _ _ _ (t.trans tn') J' (.bl _) q1⟩
        refine kitAny_cons (kit_ty (kit_of2 ht hn)) (fun z => ?_) (fun z => by rw [z]; rfl)
        rw [z, Bool.false_or]
        exact kitAny_cons (kit_ty (kit_of2 ht hnm)) (fun z => by rw [z]; exact kitAny_nil) (fun z => by rw [z])⟩, qx⟩
end
end FB

set_option maxHeartbeats 4000000
/-! FB8: in, ==, is, methods, comprehensions, calls, defs. -/
namespace FB
open PySem PySem.Spec PyProof.Rows L2
section
variable {X : Cx} {W : WX} {a b e o i elt iter tg : Expr} {aa ab ae ao : AE} {ar : AA} {es : List Expr} {p pos p2 pos' apos cpos : Pos} {x : Str} {bid T : String}
/-! ### c in a text (c one sign) -/
def inS (S : Sg) (neg : Bool) (P : D → Sg → Prop) (d e : D) : Prop := asStr d fun c => asStr e fun z => ∃ n, c = ⟨#[n]⟩ ∧ P (.bl (if neg then !decide (n ∈ z.cps.toList) else decide (n ∈ z.cps.toList))) S
def aInS (neg : Bool) : AE → AE → AE := aBin fun d e S P => inS S neg P d e
theorem a_inS (ha : PE X a (cE X.K W aa)) (hb : PE X b (cE X.K W ab)) (hm : behindInMarks .In b = false := by rfl) : PE X (.Compare a [.In] [b] pos) (cE X.K W (aInS false aa ab)) :=
  a_cmp op_inS (fun H S x y d e P Q I r1 r2 h q => by
    obtain ⟨c, e1, h1⟩ := asStr_of h
    obtain ⟨z, e2, n, e3, h2⟩ := asStr_of h1
    subst e1 e2 e3
    exact ⟨n, z, rep_str r1, rep_str r2, q _ _ _ _ (.refl _ _) I (.bl _) h2⟩) ha hb hm
theorem a_notInS (ha : PE X a (cE X.K W aa)) (hb : PE X b (cE X.K W ab)) (hm : behindInMarks .NotIn b = false := by rfl) : PE X (.Compare a [.NotIn] [b] pos) (cE X.K W (aInS true aa ab)) :=
  a_cmp op_notInS (fun H S x y d e P Q I r1 r2 h q => by
    obtain ⟨c, e1, h1⟩ := asStr_of h
    obtain ⟨z, e2, n, e3, h2⟩ := asStr_of h1
    subst e1 e2 e3
    exact ⟨n, z, rep_str r1, rep_str r2, q _ _ _ _ (.refl _ _) I (.bl _) h2⟩) ha hb hm
/-! ### is -/
def isD1 (S : Sg) (P : D → Sg → Prop) (neg : Bool) : D → D → Prop
  | d, .non => match d with
    | .non => P (.bl (!neg)) S
    | _ => P (.bl neg) S
  | .bl c, .bl k => P (.bl (if neg then !decide (c = k) else decide (c = k))) S
  | _, _ => False
def aIs (neg : Bool) : AE → AE → AE := aBin fun d e S P => isD1 S P neg d e
theorem is_non {K : PySem.W.Frag} {H : Hp} {S : Sg} {x : V} {d : D} {P : D → Sg → Prop} {neg : Bool} (r : Rep K H (Av S) x d) (h : isD1 S P neg d .non) : P (.bl (if neg then !decide (x = .non) else decide (x = .non))) S := by
  cases r <;> cases neg <;> simpa [isD1] using h
theorem a_is (ha : PE X a (cE X.K W aa)) (hb : PE X b (cE X.K W ab)) : PE X (.Compare a [.Is] [b] pos) (cE X.K W (aIs false aa ab)) :=
  a_cmp (OpR.or op_isN op_isBl) (fun H S x y d e P Q I r1 r2 h q => by
    cases r2 with
    | non => exact .inl ⟨rfl, q _ _ _ _ (.refl _ _) I (.bl _) (is_non r1 h)⟩
    | bl k =>
      cases r1 with
      | bl c => exact .inr ⟨c, k, rfl, rfl, q _ _ _ _ (.refl _ _) I (.bl _) h⟩
      | _ => exact h.elim
    | _ => cases r1 <;> exact h.elim) ha hb (nomark _)
theorem a_isNot (ha : PE X a (cE X.K W aa)) (hb : PE X b (cE X.K W ab)) : PE X (.Compare a [.IsNot] [b] pos) (cE X.K W (aIs true aa ab)) :=
  a_cmp (OpR.or op_notN op_notBl) (fun H S x y d e P Q I r1 r2 h q => by
    cases r2 with
    | non => exact .inl ⟨rfl, q _ _ _ _ (.refl _ _) I (.bl _) (is_non r1 h)⟩
    | bl k =>
      cases r1 with
      | bl c => exact .inr ⟨c, k, rfl, rfl, q _ _ _ _ (.refl _ _) I (.bl _) h⟩
      | _ => exact h.elim
    | _ => cases r1 <;> exact h.elim) ha hb (nomark _)
/-! ### == of data -/
mutual
inductive Py (S : Sg) : D → PyData → Prop
  | non : Py S .non .none
  | bl (b : Bool) : Py S (.bl b) (.bool b)
  | int (i : Int) : Py S (.int i) (.int i)
  | str (x : Str) : Py S (.str x) (.str x)
  | lst {ds : List D} {ps : List PyData} : PyL S ds ps → Py S (.lst ds) (.list ps)
  | tup {ds : List D} {ps : List PyData} : PyL S ds ps → Py S (.tup ds) (.tuple ps)
  | ptr {p : Addr} {ds : List D} {ps : List PyData} : S p = some (.lst ds) → PyL S ds ps → Py S (.ptr p) (.list ps)
inductive PyL (S : Sg) : List D → List PyData → Prop
  | nil : PyL S [] []
  | cons {d : D} {ds : List D} {p : PyData} {ps : List PyData} : Py S d p → PyL S ds ps → PyL S (d :: ds) (p :: ps)
end
mutual
theorem Py.dp {K : PySem.W.Frag} {H : Hp} {S : Sg} (I : IsH K H S) : ∀ {d : D} {q : PyData} {v : V}, Py S d q → Rep K H (Av S) v d → Dp K H v q
  | _, _, _, .non, .non => .non
  | _, _, _, .bl b, .bl _ => .bl b
  | _, _, _, .int b, .int _ => .int b
  | _, _, _, .str b, .str _ => .str b
  | _, _, _, .lst l, .lst g n r => .lst (SqL.of g) (PyL.dp I l r)
  | _, _, _, .tup l, .tup g r => .tup g (PyL.dp I l r)
  | _, _, _, .ptr e l, .ptr _ => by
    obtain ⟨xs, g, r⟩ := I _ _ e
    exact .lst (SqL.of g) (PyL.dp I l r)
theorem PyL.dp {K : PySem.W.Frag} {H : Hp} {S : Sg} (I : IsH K H S) : ∀ {ds : List D} {qs : List PyData} {vs : List V}, PyL S ds qs → RepL K H (Av S) vs ds → DpAll K H vs qs
  | _, _, _, .nil, .nil => .nil
  | _, _, _, .cons a l, .cons r t => .cons (Py.dp I a r) (PyL.dp I l t)
end
/-- the answer of d == e: of scalars, or by their data -/
def eqA (S : Sg) (d e : D) (k : Bool → Prop) : Prop := ∃ q r, Py S d q ∧ Py S e r ∧ SeqAt.shaped q = true ∧ SeqAt.shaped r = true ∧ k (PyData.eqv q r)
def aEq : AE → AE → AE := aBin fun d e S P => eqA S d e fun c => P (.bl c) S
def aNe : AE → AE → AE := aBin fun d e S P => eqA S d e fun c => P (.bl (!c)) S
theorem a_eq (hu : X.A.units + 64 < cLine) (ha : PE X a (cE X.K W aa)) (hb : PE X b (cE X.K W ab)) : PE X (.Compare a [.Eq] [b] pos) (cE X.K W (aEq aa ab)) :=
  a_cmp (op_eqD hu) (fun H S x y d e P Q I r1 r2 ⟨q1, q2, p1, p2, s1, s2, h⟩ q => ⟨q1, q2, p1.dp I r1, p2.dp I r2, s1, s2, q _ _ _ _ (.refl _ _) I (.bl _) h⟩) ha hb (nomark _)
theorem a_ne (hu : X.A.units + 64 < cLine) (ha : PE X a (cE X.K W aa)) (hb : PE X b (cE X.K W ab)) : PE X (.Compare a [.NotEq] [b] pos) (cE X.K W (aNe aa ab)) :=
  a_cmp (op_neD hu) (fun H S x y d e P Q I r1 r2 ⟨q1, q2, p1, p2, s1, s2, h⟩ q => ⟨q1, q2, p1.dp I r1, p2.dp I r2, s1, s2, q _ _ _ _ (.refl _ _) I (.bl _) h⟩) ha hb (nomark _)
/-! ### chains of int comparisons -/
def aChain (f g : Int → Int → Bool) (a b c : AE) : AE := fun γ S P x => a γ S (fun d S1 => b γ S1 (fun e S2 => asInt d fun i => asInt e fun j => bc (f i j) (c γ S2 (fun h S3 => asInt h fun k => P (.bl (g j k)) S3) x) (P (.bl false) S2)) x) x
theorem a_chain {op op' : CmpOp} {f g : Int → Int → Bool} {c : Expr} {ac : AE} (ho : OpR X (compareOp op) (rI0 fun i j => .bl (f i j))) (ho' : OpR X (compareOp op') (rI0 fun i j => .bl (g i j))) (ha : PE X a (cE X.K W aa)) (hb : PE X b (cE X.K W ab)) (hc : PE X c (cE X.K W ac))
    (hm : lastMarks [op, op'] [b, c] = false := by with_unfolding_all rfl) : PE X (.Compare a [op, op'] [b, c] pos) (cE X.K W (aChain f g aa ab ac)) :=
  (pe_chain ho ho' ha hb hc hm).imp fun σ H Q ⟨γ, S, P, x, I, h, q, qx⟩ => ⟨γ, S, _, x, I, h, fun v H1 d S1 t1 J1 r1 q1 => ⟨γ, S1, _, x, I.tr t1 J1, q1, fun u H2 e S2 t2 J2 r2 q2 => by
    obtain ⟨i, e1, h1⟩ := asInt_of q2
    obtain ⟨j, e2, h2⟩ := asInt_of h1
    subst e1 e2
    refine ⟨i, j, rep_int r1, rep_int r2, f i j, rfl, ?_⟩
    cases hf : f i j with
    | true =>
      rw [hf] at h2
      refine L2.iteT ⟨γ, S2, _, x, I.tr (t1.trans t2) J2, bcT h2, fun w H3 k S3 t3 J3 r3 q3 => ?_, qx.tr (t1.trans t2)⟩
      obtain ⟨n, e3, h3⟩ := asInt_of q3
      subst e3
      exact ⟨j, n, rep_int r2, rep_int r3, q _ _ _ _ ((t1.trans t2).trans t3) J3 (.bl _) h3⟩
    | false =>
      rw [hf] at h2
      exact L2.iteF (q _ _ _ _ (t1.trans t2) J2 (.bl _) (bcF h2)), qx.tr t1⟩, qx⟩
/-! ### methods of lists -/
def isLst (S : Sg) (d : D) : Prop := asLst S d fun _ => True
theorem lst_ty {K : PySem.W.Frag} {H : Hp} {S : Sg} {v : V} {d : D} (I : IsH K H S) (r : Rep K H (Av S) v d) (h : isLst S d) : tyV K "list" v H := by
  obtain ⟨a, xs, ds, e, g, _⟩ := asLst_of I r h
  subst e
  exact .inl ⟨rfl, _, SqL.of g⟩
/-- a method that changes a tracked list -/
def MtS (K : PySem.W.Frag) (r : V → List V → Hp → VK → Prop) (rr : List D → List D → (List D → D → Prop) → Prop) : Prop := ∀ (H : Hp) (S : Sg) (p : Addr) (xs vs : List V) (ds es : List D) (k : List D → D → Prop) (Q : VK), IsH K H S → H p = some (.lst xs) → RepL K H (Av S) xs ds → RepL K H (Av S) vs es → rr ds es k →
  (∀ ys fs v d, RepL K H (Av S) ys fs → Rep K H (Av S) v d → k fs d → Q v (upd H p (.lst ys))) → r (.ref p) vs H Q
def mtD (rr : List D → List D → (List D → D → Prop) → Prop) (S : Sg) (q : D) (es : List D) (P : D → Sg → Prop) : Prop := asPtr S q fun p ds => rr ds es fun fs d => P d (put S p (.lst fs))
def aMt (rr : List D → List D → (List D → D → Prop) → Prop) (o : AE) (g : AA) : AE := fun γ S P x => o γ S (fun q S1 => isLst S1 q ∧ g γ S1 (fun es S2 => mtD rr S2 q es P) x) x
theorem mt_end {K : PySem.W.Frag} {r : V → List V → Hp → VK → Prop} {rr : List D → List D → (List D → D → Prop) → Prop} (s : MtS K r rr) {H : Hp} {S : Sg} {v : V} {q : D} {vs : List V} {es : List D} {P : D → Sg → Prop} {Q : VK} (I : IsH K H S) (rv : Rep K H (Av S) v q) (rs : RepL K H (Av S) vs es) (h : mtD rr S q es P) (hq : okV K H S P Q) : r v vs H Q := by
  obtain ⟨p, ds, e, e2, h1⟩ := asPtr_of h
  subst e
  obtain rfl := rep_ptr rv
  obtain ⟨xs, g, rl⟩ := I _ _ e2
  refine s H S p xs vs ds es _ Q I g rl rs h1 fun ys fs w d r1 r2 k => ?_
  have t : Tr H S (upd H p (.lst ys)) (put S p (.lst fs)) := tr_write e2
  exact hq _ _ _ _ t (is_write e2 I ⟨_, upd_same, r1.tr I t⟩) (r2.tr I t) k
theorem a_mt {name : Str} {r : V → List V → Hp → VK → Prop} {rr : List D → List D → (List D → D → Prop) → Prop} (slot : Slot "list" name bid) (hty : typeOf (.builtin bid) = pure (.type "method_descriptor")) (hm : MtR X bid r) (s : MtS X.K r rr) (ho : PE X o (cE X.K W ao)) (ha : PA X (e :: es) (cA X.K W ar))
    (hbase : attributeBase o name X.env (eval o X.env) = eval o X.env := by rfl)
    (hfew : ((backTo cpos (starEach (e :: es) X.env)).all (fun x => !x.1) && (backToKw cpos (keywordEach [] X.env)).all (fun x => x.1.isSome)
      && decide ((e :: es).length + ([] : List Keyword).length + (if ([] : List Keyword).isEmpty then 0 else 1) < 30)) = true := by rfl)
    (hline : (apos.endLine == cpos.line) = true := by rfl) (hs : starEach (e :: es) X.env = (false, eval e X.env) :: starEach es X.env := by rfl) (hplain : (backTo cpos (starEach es X.env)).any (·.1) = false := by rfl) :
    PE X (.Call (.Attribute o name apos) (e :: es) [] cpos) (cE X.K W (aMt rr ao ar)) :=
  (pe_bm PySem.F.plainAttrs_list slot hty hm ho ha hbase hfew hline hs hplain).imp fun σ H Q ⟨γ, S, P, x, I, h, q, qx⟩ => ⟨γ, S, _, x, I, h, fun v H1 d S1 t1 J1 r1 q1 =>
    ⟨lst_ty J1 r1 q1.1, γ, S1, _, x, I.tr t1 J1, q1.2, fun vs H2 es S2 t2 J2 r2 q2 => mt_end s J2 (r1.tr J1 t2) r2 q2 (q.tr (t1.trans t2)), qx.tr t1⟩, qx⟩
def aMt0 (rr : List D → List D → (List D → D → Prop) → Prop) (o : AE) : AE := fun γ S P x => o γ S (fun q S1 => mtD rr S1 q [] P) x
theorem a_mt0 {name : Str} {r : V → List V → Hp → VK → Prop} {rr : List D → List D → (List D → D → Prop) → Prop} (slot : Slot "list" name bid) (hty : typeOf (.builtin bid) = pure (.type "method_descriptor")) (hm : MtR X bid r) (s : MtS X.K r rr) (ho : PE X o (cE X.K W ao))
    (hbase : attributeBase o name X.env (eval o X.env) = eval o X.env := by rfl) (hline : (apos.endLine == cpos.line) = true := by rfl) : PE X (.Call (.Attribute o name apos) [] [] cpos) (cE X.K W (aMt0 rr ao)) :=
  (pe_bm0 PySem.F.plainAttrs_list slot hty hm ho hbase hline).imp fun σ H Q ⟨γ, S, P, x, I, h, q, qx⟩ => ⟨γ, S, _, x, I, h, fun v H1 d S1 t1 J1 r1 q1 => by
    have il : isLst S1 d := by
      obtain ⟨p, ds, e, e2, _⟩ := asPtr_of q1
      subst e
      exact ⟨ds, e2, trivial⟩
    exact ⟨lst_ty J1 r1 il, mt_end s J1 r1 .nil q1 (q.tr t1)⟩, qx⟩
def mAppend : List D → List D → (List D → D → Prop) → Prop := fun ds es k => one (fun d => ds.length < 1000000 ∧ k (ds ++ [d]) .non) es
theorem ms_append {K : PySem.W.Frag} : MtS K rAppend mAppend := fun H S p xs vs ds es k Q I g r1 r2 h q => by
  obtain ⟨d, e1, h1, h2⟩ := one_of h
  subst e1
  obtain ⟨v, e2, r3⟩ := repL_one r2
  subst e2
  exact ⟨p, xs, v, rfl, rfl, g, by rw [r1.length, sizeLine_eq]; omega, q _ _ _ _ (r1.append (.cons r3 .nil)) .non h2⟩
def mPop : List D → List D → (List D → D → Prop) → Prop := fun ds _ k => ∃ d, ds[ds.length - 1]? = some d ∧ k ds.dropLast d
theorem ms_pop {K : PySem.W.Frag} : MtS K (fun x _ H Q => rPop x [] H Q) mPop := fun H S p xs vs ds es k Q I g r1 r2 ⟨d, e, h⟩ q => by
  rw [← r1.length] at e
  obtain ⟨v, e2, r3⟩ := r1.get e
  exact ⟨p, xs, v, rfl, rfl, g, e2, q _ _ _ _ r1.dropLast r3 h⟩
theorem mt_pop' {X : Cx} : MtR X "list.pop" (fun x xs H Q => xs = [] ∧ rPop x [] H Q) := fun pins s σ H x xs v us Q I r rs ⟨e, h⟩ => by
  subst e
  exact mt_pop pins s σ H x [] v us Q I r rs h
theorem ms_pop' {K : PySem.W.Frag} : MtS K (fun x xs H Q => xs = [] ∧ rPop x [] H Q) (fun ds es k => es = [] ∧ mPop ds es k) := fun H S p xs vs ds es k Q I g r1 r2 ⟨e, h⟩ q => by
  subst e
  cases r2
  exact ⟨rfl, ms_pop H S p xs [] ds [] k Q I g r1 .nil h q⟩
def mReverse : List D → List D → (List D → D → Prop) → Prop := fun ds es k => es = [] ∧ k ds.reverse .non
theorem ms_reverse {K : PySem.W.Frag} : MtS K rReverse mReverse := fun H S p xs vs ds es k Q I g r1 r2 h q => by
  obtain ⟨e, h1⟩ := h
  subst e
  cases r2
  exact ⟨p, xs, rfl, rfl, g, q _ _ _ _ r1.reverse .non h1⟩
def mInsert : List D → List D → (List D → D → Prop) → Prop := fun ds es k => two (fun d e => asInt d fun i => (ds.length < 1000000 ∧ 0 ≤ i ∧ i < 1000000) ∧ k (ds.take i.toNat ++ [e] ++ ds.drop i.toNat) .non) es
theorem ms_insert {K : PySem.W.Frag} : MtS K (fun x vs H Q => ∃ (l : Addr) (xs : List V) (i : Int) (y : V), x = .ref l ∧ vs = [.int i, y] ∧ H l = some (.lst xs) ∧ xs.length < sizeLine ∧ 0 ≤ i ∧ i < 2 ^ 63 ∧ Q .non (upd H l (.lst (xs.take i.toNat ++ [y] ++ xs.drop i.toNat)))) mInsert := fun H S p xs vs ds es k Q I g r1 r2 h q => by
  obtain ⟨d, e, e1, h1⟩ := two_of h
  obtain ⟨i, e2, ⟨h2, h3, h4⟩, h5⟩ := asInt_of h1
  subst e1 e2
  obtain ⟨v, u, e3, r3, r4⟩ := repL_two r2
  obtain rfl := rep_int r3
  exact ⟨p, xs, i, u, rfl, e3, g, by rw [r1.length, sizeLine_eq]; omega, h3, by omega, q _ _ _ _ (((r1.take _).append (.cons r4 .nil)).append (r1.drop _)) .non h5⟩
def mPopAt : List D → List D → (List D → D → Prop) → Prop := fun ds es k => one (fun d => asInt d fun i => (0 ≤ i ∧ i < 1000000) ∧ ∃ d, ds[i.toNat]? = some d ∧ k (ds.eraseIdx i.toNat) d) es
theorem ms_popAt {K : PySem.W.Frag} : MtS K rPopAt mPopAt := fun H S p xs vs ds es k Q I g r1 r2 h q => by
  obtain ⟨d, e1, h1⟩ := one_of h
  obtain ⟨i, e2, ⟨h2, h3⟩, d', e, h4⟩ := asInt_of h1
  subst e1 e2
  obtain ⟨v, e3, r3⟩ := repL_one r2
  obtain rfl := rep_int r3
  obtain ⟨u, e2, r4⟩ := r1.get e
  have hl : i.toNat < xs.length := (List.getElem?_eq_some_iff.mp e2).1
  exact ⟨p, xs, i, i.toNat, u, rfl, e3, g, by omega, by omega, PySem.seqIndex_of (by omega) (by omega), e2, q _ _ _ _ (r1.eraseIdx _) r4 h4⟩
/-! ### sep.join -/
def aJoin (o a : AE) : AE := fun γ S P x => o γ S (fun d S1 => asStr d fun z => a γ S1 (fun e S2 => asSeq S2 e fun es => ∃ ys : List Str, es = ys.map D.str ∧ (ys.map (·.length)).sum + ys.length * z.length ≤ 16777216 ∧ P (.str (Txt.join z ys)) S2) x) x
theorem a_join (ho : PE X o (cE X.K W ao)) (he : PE X e (cE X.K W ae)) (hs : starEach [e] X.env = [(false, eval e X.env)] := by rfl) (hbase : attributeBase o "join" X.env (eval o X.env) = eval o X.env := by rfl) (hline : (apos.endLine == pos.line) = true := by rfl) :
    PE X (.Call (.Attribute o "join" apos) [e] [] pos) (cE X.K W (aJoin ao ae)) :=
  (pe_join ho he hs hbase hline).imp fun σ H Q ⟨γ, S, P, x, I, h, q, qx⟩ => ⟨γ, S, _, x, I, h, fun v H1 d S1 t1 J1 r1 q1 => by
    obtain ⟨z, e1, h1⟩ := asStr_of q1
    subst e1
    obtain rfl := rep_str r1
    refine ⟨⟨z, rfl⟩, γ, S1, _, x, I.tr t1 J1, h1, fun u H2 e S2 t2 J2 r2 q2 => ?_, qx.tr t1⟩
    obtain ⟨a1, zs, es, e3, g1, q3, ys, e4, h2, h3⟩ := asSeq_of J2 r2 q2
    subst e3 e4
    have e5 := repL_strs q3
    subst e5
    exact ⟨z, a1, ys, rfl, rfl, g1.imp SqL.of _root_.id, h2, q _ _ _ _ (t1.trans t2) J2 (.str _) h3⟩, qx⟩
/-! ### comprehensions -/
variable {ifs : List Expr} {scope : Scope} {own : List (Str × Nat)} {ai : AI} {g : TG} {ag : AG} {at_ : AT}
def cY (K : PySem.W.Frag) : AT := fun _ S P _ => P true S
theorem y_nil {X : Cx} : PTs X [] (cT X.K WF (fun _ S P _ => P true S)) := ⟨fun pins s σ H Q I ⟨γ, S, P, x, Is, h, q, _⟩ => pts_nil.run pins s σ H Q I (q _ _ _ (.refl _ _) Is.h h)⟩
theorem y_one {X : Cx} {c : Expr} {t : AT} (h : PT X c (cT X.K WF t)) : PTs X [c] (cT X.K WF t) := pts_one h
abbrev aYes : AT := fun _ S P _ => P true S
theorem a_lc (hc : X.calm = true) (hN : X.N.Nodup) (hi : PI X tg iter (cI X.K W ai)) (ok : BlkOk X.N X.env.scope scope own)
    (hg : ∀ (s : Shared) (H : Hp) (C : Addr) (cl : List (Str × Addr)) (fp : List Addr), PG (X.blk s H scope (compEnvC scope cl C X.env) fp) tg g) (gw : GW X.K g ag (own.map (·.2)))
    (ht : ∀ (s : Shared) (H : Hp) (C : Addr) (cl : List (Str × Addr)) (fp : List Addr), PTs (X.blk s H scope (compEnvC scope cl C X.env) fp) ifs (cT X.K WF at_))
    (he : ∀ (s : Shared) (H : Hp) (C : Addr) (cl : List (Str × Addr)) (fp : List Addr), PE (X.blk s H scope (compEnvC scope cl C X.env) fp) elt (cE X.K WF ae)) (hs : ∀ x, foldedSetIterable iter X.env x = pure x := by intro _; rfl) :
    PE X (.ListComp elt [⟨tg, iter, ifs, 0⟩] scope pos) (cE X.K W (aLc ai ag at_ ae (own.map (·.2)))) :=
  (pe_lc hc hN hi ok hg ht he hs).imp fun σ H Q ⟨γ, S, P, x, I, h, q, qx⟩ => lc_imp gw (P := fun Dl acc S2 => ∃ S3 : Sg, S3 Dl = none ∧ S2 = put S3 Dl (.lst acc) ∧ P (.lst acc) S3) I h qx fun Dl acc H' S' t J e ⟨S3, n, e2, p⟩ => by
    subst e2
    obtain ⟨J3, r⟩ := untrack n J
    refine q _ _ _ _ ⟨t.keep, fun a h1 h2 => ?_⟩ J3 r p
    have := t.free a h1 h2
    by_cases ea : a = Dl
    · rw [ea]; exact n
    · rw [put_ne ea] at this; exact this
theorem a_lcN (hc : X.calm = true) (hN : X.N.Nodup) (hi : PI X tg iter (cI X.K W ai)) (ok : BlkOk X.N X.env.scope scope own)
    (hg : ∀ (s : Shared) (H : Hp) (C : Addr) (cl : List (Str × Addr)) (fp : List Addr), PG (X.blk s H scope (compEnvC scope cl C X.env) fp) tg g) (gw : GW X.K g ag (own.map (·.2)))
    (ht : ∀ (s : Shared) (H : Hp) (C : Addr) (cl : List (Str × Addr)) (fp : List Addr), PTs (X.blk s H scope (compEnvC scope cl C X.env) fp) ifs (cT X.K WF at_))
    (he : ∀ (s : Shared) (H : Hp) (C : Addr) (cl : List (Str × Addr)) (fp : List Addr), PE (X.blk s H scope (compEnvC scope cl C X.env) fp) elt (cE X.K WF ae)) (hs : ∀ x, foldedSetIterable iter X.env x = pure x := by intro _; rfl) :
    PE X (.ListComp elt [⟨tg, iter, ifs, 0⟩] scope pos) (cE X.K W (aLcN ai ag at_ ae (own.map (·.2)))) :=
  (pe_lc hc hN hi ok hg ht he hs).imp fun σ H Q ⟨γ, S, P, x, I, h, q, qx⟩ => lc_imp gw (P := fun Dl acc S2 => S2 Dl = some (.lst acc) ∧ P (.ptr Dl) S2) I h qx fun Dl acc H' S' t J e ⟨_, p⟩ => q _ _ _ _ t J (.ptr _) p
theorem s_setLc {i : Nat} {y : Str} {py spos : Pos} (hc : X.calm = true) (hN : X.N.Nodup) (hy : X.N[i]? = some y) (hyl : X.env.scope.names.lookup y = some .local)
    (hsw : swapsWith (.ListComp elt [⟨tg, iter, ifs, 0⟩] scope pos) (some (.Name y py)) spos.line X.env = pure true) (hi : PI X tg iter (cI X.K W ai)) (ok : BlkOk X.N X.env.scope scope own)
    (hg : ∀ (s : Shared) (H : Hp) (C : Addr) (cl : List (Str × Addr)) (fp : List Addr), PG (X.blk s H scope (compEnvC scope cl C X.env) fp) tg g) (gw : GW X.K g ag (own.map (·.2)))
    (ht : ∀ (s : Shared) (H : Hp) (C : Addr) (cl : List (Str × Addr)) (fp : List Addr), PTs (X.blk s H scope (compEnvC scope cl C X.env) fp) ifs (cT X.K WF at_))
    (he : ∀ (s : Shared) (H : Hp) (C : Addr) (cl : List (Str × Addr)) (fp : List Addr), PE (X.blk s H scope (compEnvC scope cl C X.env) fp) elt (cE X.K WF ae)) (hs : ∀ x, foldedSetIterable iter X.env x = pure x := by intro _; rfl) :
    PS X (.Assign [.Name y py] (.ListComp elt [⟨tg, iter, ifs, 0⟩] scope pos) spos) (cS X.K W (aAsg (aLc ai ag at_ ae (own.map (·.2))) (agName i))) :=
  (ps_setLc hc hN hy hyl hsw hi ok hg ht he hs).imp fun Dc σ H ⟨γ, S, Da, I, h, ok'⟩ => lc_imp gw (P := fun Dl acc S2 => ∃ S3 : Sg, S3 Dl = none ∧ S2 = put S3 Dl (.lst acc) ∧ Da.nx (γ.set i (some (.lst acc))) S3) I h (ok'.ex.at I) fun Dl acc H' S' t J e ⟨S3, n, e2, p⟩ => by
    subst e2
    obtain ⟨J3, r⟩ := untrack n J
    have t3 : Tr H S H' S3 := ⟨t.keep, fun a h1 h2 => by
      have := t.free a h1 h2
      by_cases ea : a = Dl
      · rw [ea]; exact n
      · rw [put_ne ea] at this; exact this⟩
    exact ok'.nx _ _ _ _ t3 ((I.tr t3 J3).set i r) p
theorem s_setLcN {i : Nat} {y : Str} {py spos : Pos} (hc : X.calm = true) (hN : X.N.Nodup) (hy : X.N[i]? = some y) (hyl : X.env.scope.names.lookup y = some .local)
    (hsw : swapsWith (.ListComp elt [⟨tg, iter, ifs, 0⟩] scope pos) (some (.Name y py)) spos.line X.env = pure true) (hi : PI X tg iter (cI X.K W ai)) (ok : BlkOk X.N X.env.scope scope own)
    (hg : ∀ (s : Shared) (H : Hp) (C : Addr) (cl : List (Str × Addr)) (fp : List Addr), PG (X.blk s H scope (compEnvC scope cl C X.env) fp) tg g) (gw : GW X.K g ag (own.map (·.2)))
    (ht : ∀ (s : Shared) (H : Hp) (C : Addr) (cl : List (Str × Addr)) (fp : List Addr), PTs (X.blk s H scope (compEnvC scope cl C X.env) fp) ifs (cT X.K WF at_))
    (he : ∀ (s : Shared) (H : Hp) (C : Addr) (cl : List (Str × Addr)) (fp : List Addr), PE (X.blk s H scope (compEnvC scope cl C X.env) fp) elt (cE X.K WF ae)) (hs : ∀ x, foldedSetIterable iter X.env x = pure x := by intro _; rfl) :
    PS X (.Assign [.Name y py] (.ListComp elt [⟨tg, iter, ifs, 0⟩] scope pos) spos) (cS X.K W (aAsg (aLcN ai ag at_ ae (own.map (·.2))) (agName i))) :=
  (ps_setLc hc hN hy hyl hsw hi ok hg ht he hs).imp fun Dc σ H ⟨γ, S, Da, I, h, ok'⟩ => lc_imp gw (P := fun Dl acc S2 => S2 Dl = some (.lst acc) ∧ Da.nx (γ.set i (some (.ptr Dl))) S2) I h (ok'.ex.at I) fun Dl acc H' S' t J e ⟨_, p⟩ => ok'.nx _ _ _ _ t ((I.tr t J).set i (.ptr _)) p
end
end FB

set_option maxHeartbeats 4000000
/-! FB9: defs, calls, errors. -/
namespace FB
open PySem PySem.Spec PyProof.Rows L2
/-! ### letting go of what was tracked -/
theorem forget {K : PySem.W.Frag} {H : Hp} {S : Sg} {p : Addr} {c : Cell} (n : S p = none) (I : IsH K H (put S p c)) : IsH K H S ∧ ∀ {v : V} {d : D}, Rep K H (Av (put S p c)) v d → Rep K H (Av S) v d := by
  have w : ∀ a, Av (put S p c) a → Av S a := fun a h => by
    by_cases e : a = p
    · rw [e]; exact n
    · have h' : put S p c a = none := h
      rw [put_ne e] at h'
      exact h'
  have m1 : ∀ {v : V} {d : D}, Rep K H (Av (put S p c)) v d → Rep K H (Av S) v d := fun r => r.mono (fun _ _ h => h) (fun a xs ha h => ⟨h, w a ha⟩) (fun a xs ha h => ⟨h, w a ha⟩) fun _ _ _ h => h
  have m : ∀ {vs : List V} {es : List D}, RepL K H (Av (put S p c)) vs es → RepL K H (Av S) vs es := fun r => r.mono (fun _ _ h => h) (fun a xs ha h => ⟨h, w a ha⟩) (fun a xs ha h => ⟨h, w a ha⟩) fun _ _ _ h => h
  have mc : ∀ {q : Addr} {c' : Cell}, RepC K H (Av (put S p c)) q c' → RepC K H (Av S) q c' := fun {q c'} h => by
    cases c' with
    | lst es => obtain ⟨xs, e, r⟩ := h; exact ⟨xs, e, m r⟩
    | dct ks es => obtain ⟨xs, e, z, r⟩ := h; exact ⟨xs, e, z, m r⟩
    | xd fs es => obtain ⟨xs, e, z, r⟩ := h; exact ⟨xs, e, z, m r⟩
  refine ⟨fun q c' e => mc (I q c' ?_), m1⟩
  rw [put_ne (fun z => by rw [z, n] at e; cases e)]
  exact e
def WkR (d : D) (S : Sg) (d' : D) (S' : Sg) : Prop := (∀ a, S a = none → S' a = none) ∧ ∀ K H v, IsH K H S → Rep K H (Av S) v d → IsH K H S' ∧ Rep K H (Av S') v d'
def Wk (d : D) (S : Sg) (P : D → Sg → Prop) : Prop := ∃ d' S', WkR d S d' S' ∧ P d' S'
theorem Wk.ret {d : D} {S : Sg} {P : D → Sg → Prop} (h : P d S) : Wk d S P := ⟨d, S, ⟨fun _ z => z, fun _ _ _ I r => ⟨I, r⟩⟩, h⟩
theorem put_none {S : Sg} {p : Addr} {c : Cell} (n : S p = none) (a : Addr) (h : put S p c a = none) : S a = none := by
  by_cases e : a = p
  · rw [e]; exact n
  · rw [put_ne e] at h; exact h
theorem Wk.drop {p : Addr} {ds : List D} {S : Sg} {P : D → Sg → Prop} (n : S p = none) (h : Wk (.lst ds) S P) : Wk (.ptr p) (put S p (.lst ds)) P := by
  obtain ⟨d', S', ⟨w1, w2⟩, q⟩ := h
  refine ⟨d', S', ⟨fun a z => w1 a (put_none n a z), fun K H v I r => ?_⟩, q⟩
  obtain rfl := rep_ptr r
  obtain ⟨J, r'⟩ := untrack n I
  exact w2 K H _ J r'
theorem Wk.gone {p : Addr} {c : Cell} {d : D} {S : Sg} {P : D → Sg → Prop} (n : S p = none) (h : Wk d S P) : Wk d (put S p c) P := by
  obtain ⟨d', S', ⟨w1, w2⟩, q⟩ := h
  refine ⟨d', S', ⟨fun a z => w1 a (put_none n a z), fun K H v I r => ?_⟩, q⟩
  obtain ⟨J, m⟩ := forget n I
  exact w2 K H v J (m r)
def WkX (S : Sg) (x : Sg → Prop) : Prop := ∃ S', ((∀ a, S a = none → S' a = none) ∧ ∀ K H, IsH K H S → IsH K H S') ∧ x S'
theorem WkX.ret {S : Sg} {x : Sg → Prop} (h : x S) : WkX S x := ⟨S, ⟨fun _ z => z, fun _ _ I => I⟩, h⟩
theorem WkX.gone {p : Addr} {c : Cell} {S : Sg} {x : Sg → Prop} (n : S p = none) (h : WkX S x) : WkX (put S p c) x := by
  obtain ⟨S', ⟨w1, w2⟩, q⟩ := h
  exact ⟨S', ⟨fun a z => w1 a (put_none n a z), fun K H I => w2 K H (forget n I).1⟩, q⟩
theorem Tr.weak {H H' : Hp} {S S1 S2 : Sg} (t : Tr H S H' S1) (w : ∀ a, S1 a = none → S2 a = none) : Tr H S H' S2 := ⟨t.keep, fun a h1 h2 => w a (t.free a h1 h2)⟩
theorem put_comm {S : Sg} {p q : Addr} {c d : Cell} (h : p ≠ q) : put (put S p c) q d = put (put S q d) p c := by
  funext b
  unfold put
  by_cases e : b = q
  · have e2 : b ≠ p := fun z => h (z.symm.trans e)
    rw [if_pos e, if_neg e2, if_pos e]
  · rw [if_neg e]
    by_cases e2 : b = p
    · rw [if_pos e2, if_pos e2]
    · rw [if_neg e2, if_neg e2, if_neg e]

/-! ### promises -/
abbrev ASp0 := List D → Sg → (D → Sg → Prop) → Prop
def cSp0 (K : PySem.W.Frag) (asp : ASp0) : Sp := fun vs H Q _ => ∃ ds S P, IsH K H S ∧ RepL K H (Av S) vs ds ∧ asp ds S P ∧ okV K H S P Q
def cSpX (K : PySem.W.Frag) (asp : ASp) : Sp := fun vs H Q E => ∃ ds S P x, IsH K H S ∧ RepL K H (Av S) vs ds ∧ asp ds S P x ∧ okV K H S P Q ∧ ∀ C dd H' S', Tr H S H' S' → IsH K H' S' → x C dd S' → E (.ref C) (some dd) H'
def aCall0 (asp : ASp0) (g : AA) : AE := fun γ S P x => g γ S (fun ds S1 => asp ds S1 P) x
def aCallX (asp : ASp) (g : AA) : AE := fun γ S P x => g γ S (fun ds S1 => asp ds S1 P x) x
def startA (N : List Str) (ds : List D) : Ga := ds.map some ++ List.replicate (N.length - ds.length) none
def fin0 (P : D → Sg → Prop) : AEnds := ⟨fun _ S => Wk .non S P, fun d S => Wk d S P, fun _ _ => False, fun _ _ => False, fun _ _ _ _ => False⟩
def finX (P : D → Sg → Prop) (x : XP) : AEnds := ⟨fun _ S => Wk .non S P, fun d S => Wk d S P, fun _ _ => False, fun _ _ => False, fun _ C dd S => WkX S (x C dd)⟩
theorem is_start {K : PySem.W.Frag} {H : Hp} {S : Sg} {N : List Str} {vs : List V} {ds : List D} (I : IsH K H S) (r : RepL K H (Av S) vs ds) : Is K (L2.start N vs) H (startA N ds) S where
  h := I
  len := by
    unfold L2.start startA
    rw [List.length_append, List.length_append, List.length_map, List.length_map, List.length_replicate, List.length_replicate, r.length]
  sl := fun i d h => by
    unfold startA at h
    unfold L2.start
    by_cases hi : i < ds.length
    · rw [List.getElem?_append_left (by rw [List.length_map]; exact hi), List.getElem?_map] at h
      cases e : ds[i]? with
      | none => rw [e] at h; cases h
      | some d' =>
        rw [e] at h
        cases h
        obtain ⟨v, e2, q⟩ := r.get e
        refine ⟨v, ?_, q⟩
        rw [List.getElem?_append_left (by rw [List.length_map, r.length]; exact hi), List.getElem?_map, e2]
        rfl
    · rw [List.getElem?_append_right (by rw [List.length_map]; omega)] at h
      rw [List.getElem?_replicate] at h
      split at h <;> cases h
theorem wk_ok {K : PySem.W.Frag} {H : Hp} {S : Sg} {P : D → Sg → Prop} {Q : VK} (q : okV K H S P Q) : okV K H S (fun d S' => Wk d S' P) Q := fun v H' d S' t J r ⟨d', S2, ⟨w1, w2⟩, p⟩ =>
  let ⟨J2, r2⟩ := w2 K H' v J r
  q v H' d' S2 (t.weak w1) J2 r2 p
section
variable {P : Program} {w : World} {K : PySem.W.Frag} {mg : Str → Option Value} {base : Heap} {nm qual : Str} {params : Arguments} {body : List Stmt} {scope : Scope} {f : Addr} {fd : FuncData} {N ps : List Str} {k : Nat} {ab : ATS}
/-- a def that lets nothing out -/
theorem def0 {asp : ASp0} (F : FunD K nm qual params body scope [] [] f fd) (Sc : FnScope N ps scope) (hl : ∀ ds S P, asp ds S P → ds.length = ps.length)
    (hb : ∀ (cdv : Value) (A : Around) (outer : List Env) (s : Shared) (H : Hp) (E : XK), Room k (A.deeper (envOfC qual scope s.heap.objs.size f cdv)) → PSs (cxOf CX0 P w K mg base N qual scope f cdv A outer s H E).nox body (cS K WF ab))
    (h : ∀ ds S P, asp ds S P → ab (fin0 P) (startA N ds) S) : FnOk P w K mg base CX0 (k + 1) f fd ps (cSp0 K asp) := by
  refine F.ok Sc (fun vs H Q E ⟨ds, S, P, I, r, a, _⟩ => by rw [r.length]; exact hl _ _ _ a) (fun cdv A outer s H vs Q E hr ⟨ds, S, P', I, r, a, q⟩ => ⟨_, PSs.nox (hb cdv A outer s H E hr), ?_⟩)
  refine ⟨startA N ds, S, fin0 P', is_start I r, h _ _ _ a, ⟨fun σ' H' γ' S' t J p => wk_ok q _ _ _ _ t J.h .non p, wk_ok q, fun _ _ _ _ _ _ z => z.elim, fun _ _ _ _ _ _ z => z.elim, fun _ _ _ _ _ _ _ _ z => z.elim⟩⟩
/-- a def that may raise -/
theorem defX {asp : ASp} (F : FunD K nm qual params body scope [] [] f fd) (Sc : FnScope N ps scope) (hl : ∀ ds S P x, asp ds S P x → ds.length = ps.length)
    (hb : ∀ (cdv : Value) (A : Around) (outer : List Env) (s : Shared) (H : Hp) (E : XK), Room k (A.deeper (envOfC qual scope s.heap.objs.size f cdv)) → PSs (cxOf (L2.CX P w) P w K mg base N qual scope f cdv A outer s H E) body (cS K (fun cls d _ H => E cls d H) ab))
    (h : ∀ ds S P x, asp ds S P x → ab (finX P x) (startA N ds) S) : FnOk P w K mg base (L2.CX P w) (k + 1) f fd ps (cSpX K asp) := by
  refine F.ok Sc (fun vs H Q E ⟨ds, S, P, x, I, r, a, _⟩ => by rw [r.length]; exact hl _ _ _ _ a) (fun cdv A outer s H vs Q E hr ⟨ds, S, P', x, I, r, a, q, qx⟩ => ⟨_, hb cdv A outer s H E hr, ?_⟩)
  refine ⟨startA N ds, S, finX P' x, is_start I r, h _ _ _ _ a, ⟨fun σ' H' γ' S' t J p => wk_ok q _ _ _ _ t J.h .non p, wk_ok q, fun _ _ _ _ _ _ z => z.elim, fun _ _ _ _ _ _ z => z.elim, ?_⟩⟩
  rintro C dd σ' H' γ' S' t J ⟨S2, ⟨w1, w2⟩, z⟩
  exact qx C dd H' S2 (t.weak w1) (w2 K H' J.h) z
end
/-! ### calls -/
section
variable {X : Cx} {W : WX} {CX : CXT} {k : Nat} {f C : Addr} {fd : FuncData} {ps : List Str} {x : Str} {p pos p1 p2 : Pos} {e : Expr} {es : List Expr} {ar : AA}
theorem a_call0 {asp : ASp0} (F : FnOk X.prog X.w X.K X.mg X.base CX0 k f fd ps (cSp0 X.K asp)) (hr : Room k X.A) (hg : Gl X x) (hm : X.mg x = some (.ref f)) (hk : PySem.W.keepIn X.K (.ref f) = true) (hb : Binds X.K fd ps [])
    (ha : PA X (e :: es) (cA X.K W ar)) (hdb : (x == ("__debug__" : Str)) = false := by decide) (he : starEach (e :: es) X.env = (false, eval e X.env) :: starEach es X.env := by rfl) (hpl : (backTo pos (starEach es X.env)).any (·.1) = false := by rfl) :
    PE X (.Call (.Name x p) (e :: es) [] pos) (cE X.K W (aCall0 asp ar)) :=
  (pe_call F hr hg hm hk hb .nil pass0 ha hdb he hpl).imp fun σ H Q ⟨γ, S, P, x, I, h, q, qx⟩ =>
    ⟨γ, S, _, x, I, h, fun vs H1 ds S1 t J r p => ⟨ds, S1, P, J, by rw [List.append_nil]; exact r, p, q.tr t⟩, qx⟩
theorem a_call00 {asp : ASp0} (F : FnOk X.prog X.w X.K X.mg X.base CX0 k f fd ps (cSp0 X.K asp)) (hr : Room k X.A) (hg : Gl X x) (hm : X.mg x = some (.ref f)) (hk : PySem.W.keepIn X.K (.ref f) = true) (hb : Binds X.K fd ps [])
    (hdb : (x == ("__debug__" : Str)) = false := by decide) : PE X (.Call (.Name x p) [] [] pos) (cE X.K W (aCall0 asp aNil)) :=
  (pe_call0 F hr hg hm hk hb .nil pass0 hdb).imp fun σ H Q ⟨γ, S, P, x, I, h, q, qx⟩ => ⟨[], S, P, I.h, .nil, h, q⟩
/-- a callee that may raise; W: what is wished of its errors -/
theorem a_callX {asp : ASp} (F : FnOk X.prog X.w X.K X.mg X.base (L2.CX X.prog X.w) k f fd ps (cSpX X.K asp)) (hr : Room k X.A) (tk : Takes X W) (hg : Gl X x) (hm : X.mg x = some (.ref f)) (hk : PySem.W.keepIn X.K (.ref f) = true) (hb : Binds X.K fd ps [])
    (ha : PA X (e :: es) (cA X.K W ar)) (hdb : (x == ("__debug__" : Str)) = false := by decide) (he : starEach (e :: es) X.env = (false, eval e X.env) :: starEach es X.env := by rfl) (hpl : (backTo pos (starEach es X.env)).any (·.1) = false := by rfl) :
    PE X (.Call (.Name x p) (e :: es) [] pos) (cE X.K W (aCallX asp ar)) :=
  (pe_callSD (E := WE W) F hr hg hm hk hb .nil (fun σ => passAt tk σ) ha hdb he hpl).imp fun σ H Q ⟨γ, S, P, x, I, h, q, qx⟩ =>
    ⟨γ, S, _, x, I, h, fun vs H1 ds S1 t J r p => ⟨ds, S1, P, x, J, by rw [List.append_nil]; exact r, p, q.tr t, fun C dd H2 S2 t2 J2 z => qx C dd H2 S2 (t.trans t2) J2 z⟩, qx⟩
/-! by keywords alone -/
structure KB (K : PySem.W.Frag) (fd : FuncData) (ps ks : List Str) (g : List Value → List Value) : Prop where
  to : ∀ (s : Shared) (ws : List Value), K.In s.heap → ws.length = ks.length → BindsTo s fd ⟨[], ks.zip ws⟩ (ps.zip (g ws))
theorem bindsK {K : PySem.W.Frag} {nm qual : Str} {params : Arguments} {body : List Stmt} {scope : Scope} {kws : List (Str × V)} {ks : List Str} {g : List Value → List Value} (F : FunD K nm qual params body scope [] kws f fd)
    (h : ∀ (kV doc pm : Value) (an : Option Addr) (cdv ct : Value) (ws : List Value), ws.length = ks.length → bindArgs (PySem.W.fnOf nm qual params body scope .none kV doc pm an cdv ct) ⟨[], ks.zip ws⟩ = pure (ps.zip (g ws))) : KB K fd ps ks g := by
  obtain ⟨oc, od, dV, kV, doc, pm, an, cdv, ct, osl, e, _, _, hd, _⟩ := F.ex
  subst e
  rcases hd with ⟨_, e⟩ | ⟨n, _⟩
  · subst e
    exact ⟨fun s ws _ hl => .of_eq (h _ _ _ _ _ _ ws hl)⟩
  · exact absurd rfl n
theorem run_fnKS {sp : Sp} {ks : List Str} {g : List Value → List Value} {gV : List V → List V} {E : L2.St → XK} {pins : List (Addr × Obj)} {σ : L2.St} {H : Hp} {s : Shared} {Q : VK} {ws : List Value} {zs : List V} (F : FnOk X.prog X.w X.K X.mg X.base CX k f fd ps sp) (hr : Room k X.A) (hb : KB X.K fd ps ks g) (hrel : Vals zs ws → Vals (gV zs) (g ws)) (hx : PassesAt CX X σ (E σ))
    (I : Inv X pins σ H s) (r : Vals zs ws) (l2 : zs.length = ks.length) (h : sp (gV zs) H Q (E σ)) : wpAny (model X.prog X.w) X.A (call (.ref f) [] (ks.zip ws)) (EP X pins σ Q) X.xe s := by
  refine wpAny_call (codeAny_mono (F.run X.A X.stack s H ⟨[], ks.zip ws⟩ (g ws) (gV zs) Q (E σ) hr I.env0 (hb.to s ws I.kIn (r.length.symm.trans l2)) (hrel r) h) fun r s' hq => ?_)
  cases r with
  | error e => exact hx pins H s e s' I hq
  | ok fl =>
    cases fl with
    | ret u => exact I.after hq
    | next => exact False.elim hq
    | brk => exact False.elim hq
    | cont => exact False.elim hq
def tCallKS (m : Nat) (sp : Sp) (gV : List V → List V) (E : L2.St → XK) (tk : TA) : TE := fun σ H Q => tk σ H fun zs H1 => zs.length = m ∧ sp (gV zs) H1 Q (E σ)
theorem pe_callKS {sp : Sp} {kws : List Keyword} {tk : TA} {ks : List Str} {g : List Value → List Value} {gV : List V → List V} {E : L2.St → XK} (F : FnOk X.prog X.w X.K X.mg X.base CX k f fd ps sp) (hr : Room k X.A) (hg : Gl X x) (hm : X.mg x = some (.ref f)) (hk : PySem.W.keepIn X.K (.ref f) = true) (hb : KB X.K fd ps ks g)
    (hrel : ∀ {zs : List V} {ws : List Value}, Vals zs ws → Vals (gV zs) (g ws)) (hx : ∀ σ, PassesAt CX X σ (E σ)) (hkw : PK X kws tk)
    (hall : (backToKw pos (keywordEach kws X.env)).all (·.1.isSome) = true := by rfl) (hks : (backToKw pos (keywordEach kws X.env)).filterMap (·.1) = ks := by rfl) (hdb : (x == ("__debug__" : Str)) = false := by decide)
    (hpl : ((backTo pos (starEach [] X.env)).any (·.1) || (backToKw pos (keywordEach kws X.env)).any (·.1.isNone)) = false := by rfl) :
    PE X (.Call (.Name x p) [] kws pos) (tCallKS ks.length sp gV E tk) := by
  refine ⟨fun pins s σ H Q I h => ?_⟩
  refine wpAny_Call_Name_kw (ld_glob I hg hm ?_ hdb)
  refine PySem.W.callWith_KW0 (h₀ := X.base) I.ok.mod.kin hk hall ?_ hpl
  refine thn (hkw.run pos pins s σ H _ I h) fun ws s2 ⟨zs, H2, I2, rz, l2, q2⟩ => ⟨I2.kIn, ?_⟩
  rw [hks]
  exact run_fnKS F hr hb hrel (hx σ) I2 rz l2 q2
/-- the keywords' values -/
theorem k_nil : PK X [] (cA X.K W aNil) := pk_nil.imp fun σ H Q ⟨γ, S, P, x, I, h, q, qx⟩ => q _ _ _ _ (.refl _ _) I.h .nil h
theorem k_cons {kws : List Keyword} {ae : AE} {nm : Option Str} {kpos : Pos} (ha : PE X e (cE X.K W ae)) (hr : PK X kws (cA X.K W ar)) : PK X (⟨nm, e, kpos⟩ :: kws) (cA X.K W (aCons ae ar)) := (pk_cons ha hr).imp cons_imp
/-- how keywords come to the parameters, of any kind of things -/
structure Turn' (m : Nat) (g : List Value → List Value) (gV : List V → List V) (gD : List D → List D) : Prop where
  v : ∀ {zs : List V} {ws : List Value}, Vals zs ws → Vals (gV zs) (g ws)
  d : ∀ {K : PySem.W.Frag} {H : Hp} {A : Addr → Prop} {vs : List V} {ds : List D}, RepL K H A vs ds → RepL K H A (gV vs) (gD ds)
theorem turn1 : Turn' 1 id id id := ⟨fun h => h, fun h => h⟩
def aCallKX (m : Nat) (asp : ASp) (gD : List D → List D) (g : AA) : AE := fun γ S P x => g γ S (fun ds S1 => ds.length = m ∧ asp (gD ds) S1 P x) x
theorem a_callKX {asp : ASp} {kws : List Keyword} {ks : List Str} {g : List Value → List Value} {gV : List V → List V} {gD : List D → List D} (F : FnOk X.prog X.w X.K X.mg X.base (L2.CX X.prog X.w) k f fd ps (cSpX X.K asp)) (hr : Room k X.A) (tk : Takes X W) (hg : Gl X x) (hm : X.mg x = some (.ref f)) (hk : PySem.W.keepIn X.K (.ref f) = true)
    (hb : KB X.K fd ps ks g) (T : Turn' ks.length g gV gD) (hkw : PK X kws (cA X.K W ar))
    (hall : (backToKw pos (keywordEach kws X.env)).all (·.1.isSome) = true := by rfl) (hks : (backToKw pos (keywordEach kws X.env)).filterMap (·.1) = ks := by rfl) (hdb : (x == ("__debug__" : Str)) = false := by decide)
    (hpl : ((backTo pos (starEach [] X.env)).any (·.1) || (backToKw pos (keywordEach kws X.env)).any (·.1.isNone)) = false := by rfl) :
    PE X (.Call (.Name x p) [] kws pos) (cE X.K W (aCallKX ks.length asp gD ar)) :=
  (pe_callKS (E := WE W) F hr hg hm hk hb T.v (fun σ => passAt tk σ) hkw hall hks hdb hpl).imp fun σ H Q ⟨γ, S, P, x, I, h, q, qx⟩ =>
    ⟨γ, S, _, x, I, h, fun vs H1 ds S1 t J r p => ⟨by rw [r.length]; exact p.1, gD ds, S1, P, x, J, T.d r, p.2, q.tr t, fun C dd H2 S2 t2 J2 z => qx C dd H2 S2 (t.trans t2) J2 z⟩, qx⟩
def aCallK0 (m : Nat) (asp : ASp0) (gD : List D → List D) (g : AA) : AE := fun γ S P x => g γ S (fun ds S1 => ds.length = m ∧ asp (gD ds) S1 P) x
theorem a_callK0 {asp : ASp0} {kws : List Keyword} {ks : List Str} {g : List Value → List Value} {gV : List V → List V} {gD : List D → List D} (F : FnOk X.prog X.w X.K X.mg X.base CX0 k f fd ps (cSp0 X.K asp)) (hr : Room k X.A) (hg : Gl X x) (hm : X.mg x = some (.ref f)) (hk : PySem.W.keepIn X.K (.ref f) = true)
    (hb : KB X.K fd ps ks g) (T : Turn' ks.length g gV gD) (hkw : PK X kws (cA X.K W ar))
    (hall : (backToKw pos (keywordEach kws X.env)).all (·.1.isSome) = true := by rfl) (hks : (backToKw pos (keywordEach kws X.env)).filterMap (·.1) = ks := by rfl) (hdb : (x == ("__debug__" : Str)) = false := by decide)
    (hpl : ((backTo pos (starEach [] X.env)).any (·.1) || (backToKw pos (keywordEach kws X.env)).any (·.1.isNone)) = false := by rfl) :
    PE X (.Call (.Name x p) [] kws pos) (cE X.K W (aCallK0 ks.length asp gD ar)) :=
  (pe_callKS (E := fun _ => E0) F hr hg hm hk hb T.v (fun σ pins H s e s' I c => c.elim) hkw hall hks hdb hpl).imp fun σ H Q ⟨γ, S, P, x, I, h, q, qx⟩ =>
    ⟨γ, S, _, x, I, h, fun vs H1 ds S1 t J r p => ⟨by rw [r.length]; exact p.1, gD ds, S1, P, J, T.d r, p.2, q.tr t⟩, qx⟩
end
end FB

set_option maxHeartbeats 4000000
/-! FB10: several except clauses, with and without a name; own errors made, raised, read. -/
namespace FB
open PySem PySem.Spec PyProof.Rows L2
abbrev Cl := Value × Option Nat × (Addr → Value → Option Addr → TS)
/-- what the clauses wish of an exception of the body; the middle: the slot of the clause's name -/
def wMix (K : PySem.W.Frag) (Wout : WX) (D : L2.Ends) : List Cl → WX
  | [] => Wout
  | (c, none, ts) :: r => fun cls d σ H => ∃ b, PySem.W.exmOne K cls c = some b ∧ (b = true → ∀ a, H a = none → ts a cls d D σ H) ∧ (b = false → wMix K Wout D r cls d σ H)
  | (c, some i, ts) :: r => fun cls d σ H => ∃ b, PySem.W.exmOne K cls c = some b ∧ (b = true → ∀ a, H a = none → ts a cls d { nx := fun σ' H' => D.nx (σ'.set i none) H', rt := D.rt, bk := fun σ' H' => D.bk (σ'.set i none) H', ct := fun σ' H' => D.ct (σ'.set i none) H' } (σ.set i (some (.ref a))) H) ∧ (b = false → wMix K Wout D r cls d σ H)
abbrev Su (X : Cx) (st : List Stmt) (ts : Addr → Value → Option Addr → TS) : Prop := ∀ (a : Addr) (oe : Obj) (cls : Value) (d : Option Addr) (pn : List (Addr × Obj)), Zc cls d oe → (∃ vs, oe.data = .fields vs) → PSs (X.suite a ((a, oe) :: pn)) st (ts a cls d)
inductive HdsX (X : Cx) : List ExceptHandler → List Cl → Prop
  | nil : HdsX X [] []
  | cons {x : Str} {c : Value} {ts : Addr → Value → Option Addr → TS} {b₀ : Stmt} {suite : List Stmt} {np pos' : Pos} {hds : List ExceptHandler} {l : List Cl} (hc : Names X x c)
      (hsu : Su X (b₀ :: suite) ts) (r : HdsX X hds l) :
      HdsX X (.ExceptHandler (some (.Name x np)) none (b₀ :: suite) pos' :: hds) ((c, none, ts) :: l)
  | consAs {x n : Str} {i : Nat} {c : Value} {ts : Addr → Value → Option Addr → TS} {b₀ : Stmt} {suite : List Stmt} {np pos' : Pos} {hds : List ExceptHandler} {l : List Cl} (hc : Names X x c)
      (hN : X.N.Nodup) (hi : X.N[i]? = some n) (hln : X.env.kindOf n = some .local)
      (hsu : Su X (b₀ :: suite) ts) (r : HdsX X hds l) :
      HdsX X (.ExceptHandler (some (.Name x np)) (some n) (b₀ :: suite) pos' :: hds) ((c, some i, ts) :: l)
section
variable {X : Cx} {body : List Stmt} {h₀ : ExceptHandler} {hds : List ExceptHandler} {l : List Cl} {pos : Pos} {tb : WX → TS} {Wout : WX}
theorem ps_try_mix (hs : X.stack = X.env :: X.outer) (hf : X.env.frame = some X.env.locals) (tk : Takes X Wout)
    (hb : ∀ (W : WX) (pn : List (Addr × Obj)) (xe : Value → Shared → Prop), Takes (X.tr pn xe) W → PassesOwn (model X.prog X.w) X.A X.env xe → PSs (X.tr pn xe) body (tb W))
    (hh : HdsX X (h₀ :: hds) l) : PS X (.Try body (h₀ :: hds) [] [] pos) (fun D σ H => tb (wMix X.K Wout D l) D σ H) := by
  refine ⟨fun pins s σ H D I h => ?_⟩
  have ok := I.ok
  have hfr : X.A.frames = some (X.env :: X.outer) := by rw [ok.frames, hs]
  refine wpAny_Try_except ?_
  refine wpAny_mono ((hb (wMix X.K Wout D l) (X.pn ++ pins) (fun e s₁ => wpAny (model X.prog X.w) X.A (noteFrame e X.env) (fun _ s₂ => wpAny (model X.prog X.w) X.A (setFlight e none) (fun _ s₃ =>
    wpAny (model X.prog X.w) X.A (handleBy e X.env (h₀ :: hds)) (SP X pins D) X.xe s₃) X.xe s₂) X.xe s₁) (fun u s' xx => ?_) PassesOwn.looking).run [] s σ H D (I.toTry _) h) (fun f s1 hsp => ?_) (fun e s1 he => he)
  · obtain ⟨a, B, sI, pins', σ', H', cls, d, rfl, J', nb, up, sky, na, os, ag, w⟩ := xx
    have J : Inv X pins σ' H' sI := J'.ofTry ok
    have sky' : Sky B (X.env :: X.outer) a (Zc cls d) X.env.locals s'.heap := by rw [← hs]; exact sky
    show wpAny (model X.prog X.w) X.A (noteFrame (.ref a) X.env) _ _ _
    refine Sky.land Zc.steady hfr hf sky' fun h3 fl3 up3 => ?_
    have J3 : Inv X pins σ' H' { s' with heap := h3 } := J.landed nb fl3.1 (up.trans up3) os ag
    obtain ⟨oe3, vs3, he3, hz3, hd3⟩ := fl3.there
    have notFr : ∀ {h : Heap} {o : Obj} {vs : Array Value}, h.FunFrames B (X.env :: X.outer) → h.get? a = some o → o.data = .fields vs → a ∉ frs (X.env :: X.outer) := fun {h o vs} ff e dd hm => by
      obtain ⟨_, o', e', hnf⟩ := ff.mem hm
      rw [e] at e'; cases e'
      exact hnf _ dd
    have nfr := notFr fl3.2.2.1 he3 hd3
    have nL : a ≠ X.env.locals := fun z => nfr (List.mem_filterMap.mpr ⟨X.env, List.mem_cons_self, by rw [hf, z]⟩)
    have nF : a ∉ X.fs := fun hm => by
      obtain ⟨e, he, q⟩ := List.mem_filterMap.mp hm
      exact nfr (List.mem_filterMap.mpr ⟨e, List.mem_cons_of_mem _ he, q⟩)
    have S3 := J3.suite he3 hd3 na nL nF
    have test0 : ∀ {x : Str} {c : Value} {np : Pos} {Q : Value → Shared → Prop} {E : Value → Shared → Prop}, Names X x c → Q c { s' with heap := h3 } → wpAny (model X.prog X.w) (X.A.mark (some (.ref a))) (eval (.Name x np) X.env) Q E { s' with heap := h3 } := fun {x c np Q E} hc q => by
      obtain ⟨hg, hdbg, hm | ⟨hm, hv, hnn⟩⟩ := hc
      · exact ld_glob (X := X.suite a ((a, oe3) :: (X.pn ++ pins))) S3 hg hm q hdbg
      · exact ld_blt (X := X.suite a ((a, oe3) :: (X.pn ++ pins))) S3 hg hm hv q hnn hdbg
    have LT : PySem.W.Looks (model X.prog X.w) h3 (typeOf (.ref a)) cls := fun A Q E s k q => wpAny_typeOf_ref (k _ _ he3) (by rw [hz3.1]; exact q)
    have go : ∀ {hds' : List ExceptHandler} {l' : List Cl}, HdsX X hds' l' → wMix X.K Wout D l' cls d σ' H' →
        wpAny (model X.prog X.w) X.A (handleBy (.ref a) X.env hds') (SP X pins D) X.xe { s' with heap := h3 } := by
      intro hds' l' hk
      induction hk with
      | nil =>
        intro w
        refine wpAny_handleBy_nil ?_
        obtain ⟨k1, k2, k3, oe, vs, T, oT, ts', he, hz, hd, h1, hr⟩ := id fl3
        unfold PySem.passOn
        refine wpAny_bind (wpAny_field he hd h1 ?_)
        rw [if_neg (show ¬ ((Value.ref T == Value.none) = true) from by simp)]
        have fin : wpAny (model X.prog X.w) X.A (setFlight (.ref a) X.env.frame) (fun _ s4 => wpAny (model X.prog X.w) X.A (throw (.ref a) : Sem Flow) (SP X pins D) X.xe s4) X.xe { s' with heap := h3 } := by
          rw [hf]
          refine HandSPX.setFlight_upZ fl3 fun h4 hh4 up4 => wpAny_throw (tk _ _ ?_)
          exact ⟨a, B, sI, pins, σ', H', cls, d, rfl, J, nb, (up.trans up3).trans up4, .inr (.inr (by rw [hs]; exact hh4)), na, os, ag, w⟩
        first
          | exact wpAny_bind (wpAny_pure (wpAny_bind fin))
          | exact wpAny_bind fin
      | @cons x c ts b₀ suite np pos' hds2 l2 hc hsu r ih =>
        intro w
        obtain ⟨b, hb1, hyes, hno⟩ := w
        refine wpAny_handleBy_cons (codeAny_handlers_test ?_) (by intro q; cases q)
        have LM := PySem.W.exm_one (M := model X.prog X.w) (J3.kIn) LT hb1
        refine test0 hc (LM.here ?_)
        cases b with
        | true =>
          refine codeAny_handlers_suite ?_
          refine HandSPX.lands_againZ fl3 fun h4 fl4 up4 => ?_
          have J4 : Inv X pins σ' H' { s' with heap := h4 } := J.landed nb fl4.1 ((up.trans up3).trans up4) os ag
          obtain ⟨oe4, vs4, he4, hz4, hd4⟩ := fl4.there
          have S4 := J4.suite he4 hd4 na nL nF
          refine wpAny_mono ((hsu a oe4 cls d (X.pn ++ pins) hz4 ⟨_, hd4⟩).run [] _ _ H' _ S4 (hyes rfl a na)) (fun f s6 hsp => ?_) (fun _ _ z => False.elim z)
          cases f with
          | next =>
            obtain ⟨σ6, H6, S6, q6⟩ := hsp
            exact ⟨_, _, S6.unsuite ok, q6⟩
          | brk =>
            obtain ⟨σ6, H6, S6, q6⟩ := hsp
            exact ⟨_, _, S6.unsuite ok, q6⟩
          | cont =>
            obtain ⟨σ6, H6, S6, q6⟩ := hsp
            exact ⟨_, _, S6.unsuite ok, q6⟩
          | ret u =>
            obtain ⟨v6, σ6, H6, S6, r6, q6⟩ := hsp
            exact ⟨_, _, _, S6.unsuite ok, r6, q6⟩
        | false =>
          show wpAny _ X.A (handleBy (.ref a) X.env hds2) _ _ _
          exact ih (hno rfl)
      | @consAs x n i c ts b₀ suite np pos' hds2 l2 hc hN hi hln hsu r ih =>
        intro w
        obtain ⟨b, hb1, hyes, hno⟩ := w
        have hloc : Loc X.env.scope n := .inl hln
        refine wpAny_handleBy_cons (codeAny_handlers_test ?_) (by intro q; cases q)
        have LM := PySem.W.exm_one (M := model X.prog X.w) (J3.kIn) LT hb1
        refine test0 hc (LM.here ?_)
        cases b with
        | true =>
          refine codeAny_handlers_suite_as ?_
          refine HandSPX.lands_againZ fl3 fun h4 fl4 up4 => ?_
          have J4 : Inv X pins σ' H' { s' with heap := h4 } := J.landed nb fl4.1 ((up.trans up3).trans up4) os ag
          obtain ⟨oe4, vs4, he4, hz4, hd4⟩ := fl4.there
          have S4 := J4.suite he4 hd4 na nL nF
          refine store_ok (X := X.suite a ((a, oe4) :: (X.pn ++ pins))) (v := .ref a) S4 hN hi hloc rfl (fun s5 S5 => ?_) (.inr hln)
          refine wpAny_mono ((hsu a oe4 cls d (X.pn ++ pins) hz4 ⟨_, hd4⟩).run [] s5 _ H' _ S5 (hyes rfl a na)) (fun f s6 hsp => ?_) (fun _ _ z => False.elim z)
          have end_ : ∀ {σ6 : L2.St} {H6 : Hp} {Q : Shared → Prop}, Inv (X.suite a ((a, oe4) :: (X.pn ++ pins))) [] σ6 H6 s6 → (∀ s7, Inv X pins (σ6.set i none) H6 s7 → Q s7) →
              wpAny (model X.prog X.w) X.A (do bindName X.env n .none; unbindBehindTheSuite X.env n pos') (fun _ s7 => Q s7) X.xe s6 := fun {σ6 H6 Q} S6 hq => gone_ok (S6.unsuite ok) hN hi hln hq
          cases f with
          | next =>
            obtain ⟨σ6, H6, S6, q6⟩ := hsp
            exact end_ S6 fun s7 J7 => ⟨_, _, J7, q6⟩
          | brk =>
            obtain ⟨σ6, H6, S6, q6⟩ := hsp
            exact end_ S6 fun s7 J7 => ⟨_, _, J7, q6⟩
          | cont =>
            obtain ⟨σ6, H6, S6, q6⟩ := hsp
            exact end_ S6 fun s7 J7 => ⟨_, _, J7, q6⟩
          | ret u =>
            obtain ⟨v6, σ6, H6, S6, r6, q6⟩ := hsp
            exact end_ S6 fun s7 J7 => ⟨_, _, _, J7, r6, q6⟩
        | false =>
          show wpAny _ X.A (handleBy (.ref a) X.env hds2) _ _ _
          exact ih (hno rfl)
    exact go hh w
  · cases f with
    | next =>
      obtain ⟨σ', H', J', q⟩ := hsp
      exact wpAny_execs_nil ⟨σ', H', J'.ofTry ok, q⟩
    | brk =>
      obtain ⟨σ', H', J', q⟩ := hsp
      exact ⟨σ', H', J'.ofTry ok, q⟩
    | cont =>
      obtain ⟨σ', H', J', q⟩ := hsp
      exact ⟨σ', H', J'.ofTry ok, q⟩
    | ret u =>
      obtain ⟨v, σ', H', J', r, q⟩ := hsp
      exact ⟨v, σ', H', J'.ofTry ok, r, q⟩
end
/-! ### own errors -/
section
variable {X : Cx} {e : Expr} {es : List Expr} {ta : TA} {p1 p2 pos : Pos} {x : Str}
/-- RowError.__init__(self, ..) -/
theorem pe_rowinit {R : Addr} {pl : Sem Bool} (hg : Gl X "RowError") (hm : X.mg "RowError" = some (.ref R)) (ga : PySem.W.specialIn X.K (.ref R) "__getattribute__" = some (some (.builtin "type.__getattribute__"))) (hr : PySem.W.readsIn X.K R (.type "type") = true)
    (vV : PySem.W.findCls X.K (.ref R) (.type "type") "__init__" = some (.val (.builtin "ValueError.__init__"))) (ha : PA X (e :: es) ta)
    (hc : eval (.Call (.Attribute (.Name "RowError" p1) "__init__" p2) (e :: es) [] pos) X.env = (do
      let ov ← eval (.Name "RowError" p1) X.env
      standAt p2.atName
      let (f, first) ← holding [ov] (getMethod ov "__init__" pl)
      callWith pos f first (backTo pos (starEach (e :: es) X.env)) (backToKw pos (keywordEach [] X.env))) := by rfl)
    (he : starEach (e :: es) X.env = (false, eval e X.env) :: starEach es X.env := by rfl) (hpl : (backTo pos (starEach es X.env)).any (·.1) = false := by rfl) :
    PE X (.Call (.Attribute (.Name "RowError" p1) "__init__" p2) (e :: es) [] pos) (tVeI X.K ta) := by
  refine ⟨fun pins s σ H Q I h => ?_⟩
  refine PySem.W.methodCall_KW (ld_glob I hg hm ?_ (by decide)) hc
  refine PySem.W.method_cls I.kIn ga (PySem.W.cls_value I.kIn hr vV (by decide +kernel) ?_)
  show wpAny _ _ (callWith pos (Value.builtin "ValueError.__init__") [] (backTo pos (starEach (e :: es) X.env)) []) _ _ _
  refine PyProof.Rows.callWith_method1 (thn (ha.run pos pins _ σ H _ (I.tok _) h) fun us s1 ⟨vs, H1, I1, r1, a, C, ws, ev, hl, T, ea, q⟩ => ?_) he hpl
  subst ev
  cases r1 with
  | @cons _ u0 _ ur ra rw' =>
    obtain rfl : u0 = Value.ref a := ra
    have hlen : ur.length ≤ sizeLine := by
      rw [← Paired.length rw', sizeLine_eq]
      omega
    exact oinit_ok T I1 ea hlen fun s' J => ⟨.non, H1, J, rfl, q⟩
end
/-- what the text's RowError must have -/
structure RowE (K : PySem.W.Frag) (R : Addr) : Prop where
  ga : PySem.W.specialIn K (.ref R) "__getattribute__" = some (some (.builtin "type.__getattribute__"))
  rd : PySem.W.readsIn K R (.type "type") = true
  vV : PySem.W.findCls K (.ref R) (.type "type") "__init__" = some (.val (.builtin "ValueError.__init__"))
/-- an own error class, its __init__ at fI, its field f -/
structure Err (K : PySem.W.Frag) (C fI : Addr) (f : Str) : Prop where
  oex : OexC K C
  xf : XfC K C
  ini : PySem.W.findIn K (.ref C) "__init__" = some (some (.ref fI))
  ty : PySem.W.typeIn K (.ref fI) = some (.type "function")
  no : PySem.W.findIn K (.ref C) f = some none
def spIni (C : Addr) (f : Str) : Sp := fun vs H Q _ => ∃ a y, vs = [.ref a, y] ∧ H a = some (exo a C none) ∧ ∀ dx, H dx = none → dx ≠ a → Q .non (upd (upd H dx (exd dx [(f, y)])) a (exo a C (some dx)))
section
variable {P : Program} {w : World} {K : PySem.W.Frag} {mg : Str → Option Value} {base : Heap} {qual g f msg : Str} {params : Arguments} {body : List Stmt} {scope : Scope} {fI R C : Addr} {fd : FuncData} {j} {p1 p2 p3 p4 p5 p6 p7 p8 p9 pa : Pos}
theorem ini_ok (F : FunD K "__init__" qual params [.Expr (.Call (.Attribute (.Name "RowError" p1) "__init__" p2) [.Name "self" p3, .Constant (.str msg) j p4] [] p5) p6, .Assign [.Attribute (.Name "self" p7) f p8] (.Name g p9) pa] scope [] [] fI fd)
    (Sc : FnScope ["self", g] ["self", g] scope) (h1 : scope.names.lookup ("self" : Str) = some .local) (h2 : scope.names.lookup g = some .local) (h3 : scope.names.lookup ("RowError" : Str) = some .globalImplicit) (hg : (g == ("__debug__" : Str)) = false) (hg2 : (g == ("__classdict__" : Str)) = false)
    (hm : mg "RowError" = some (.ref R)) (Re : RowE K R) (Er : Err K C fI f)
    (hc : ∀ env : Env, ∃ pl : Sem Bool, eval (.Call (.Attribute (.Name "RowError" p1) "__init__" p2) [.Name "self" p3, .Constant (.str msg) j p4] [] p5) env = (do
      let ov ← eval (.Name "RowError" p1) env
      standAt p2.atName
      let (f, first) ← holding [ov] (getMethod ov "__init__" pl)
      callWith p5 f first (backTo p5 (starEach [.Name "self" p3, .Constant (.str msg) j p4] env)) (backToKw p5 (keywordEach [] env)))) : FnOk P w K mg base CX0 1 fI fd ["self", g] (spIni C f) := by
  refine F.ok Sc (fun vs H Q E h => ?_) (fun cdv A outer s H vs Q E hr h => ⟨tSeq (tDrop (tVeI K (tCons (tVar 0) (tCons (tC (.str msg)) tNil)))) (tOst K f (tVar 0) (tVar 1)), PSs.nox ?_, ?_⟩)
  · obtain ⟨a, y, rfl, _⟩ := h
    rfl
  · obtain ⟨pl, hc⟩ := hc (envOfC qual scope s.heap.objs.size fI cdv)
    refine pss_cons (ps_expr (pe_rowinit (hc := hc) (show scope.names.lookup _ = _ from h3) hm Re.ga Re.rd Re.vV (pa_cons (pe_var (i := 0) rfl (.inl h1)) (pa_cons pe_str pa_nil)))) (pss_one (ps_ost (pe_var (i := 0) rfl (.inl h1)) (pe_var (i := 1) rfl (.inl h2) hg hg2)))
  · obtain ⟨a, y, rfl, ea, q⟩ := h
    refine ⟨_, rfl, a, C, _, rfl, by simp, Er.oex, ea, ?_⟩
    exact ⟨_, rfl, _, rfl, a, C, rfl, Er.oex, Er.no, .inl ⟨ea, q⟩⟩
end
end FB

set_option maxHeartbeats 4000000
/-! FB11: raise, try, an error's field. -/
namespace FB
open PySem PySem.Spec PyProof.Rows L2
def aRaise (C : Addr) (f : Str) (ae : AE) : ATS := fun Da γ S => ae γ S (fun d S1 => ∀ dd, S1 dd = none → Da.ex γ C dd (put S1 dd (.xd [f] [d]))) (Da.ex γ)
section
variable {X : Cx} {W : WX} {e o : Expr} {es : List Expr} {ae : AE} {p pos pos' : Pos} {x f g : Str} {C fI : Addr} {fd : FuncData}
theorem del_upd {H : Hp} {a dx : Addr} {u v : HO} {z : HO} {y : HO} (ha : H a = none) (hne : dx ≠ a) : upd (del (upd (upd (upd H a u) dx v) a z) a) dx y = upd H dx y := by
  funext b
  unfold upd del
  by_cases e1 : b = dx
  · rw [if_pos e1, if_pos e1]
  · rw [if_neg e1, if_neg e1]
    by_cases e2 : b = a
    · rw [if_pos e2, e2, ha]
    · rw [if_neg e2]
      show (if b = a then some z else if b = dx then some v else if b = a then some u else H b) = H b
      rw [if_neg e2, if_neg e1, if_neg e2]
theorem s_raise (Er : Err X.K C fI f) (F1 : FnOk X.prog X.w X.K X.mg X.base CX0 1 fI fd ["self", g] (spIni C f)) (hr : Room 2 X.A) (hb : Binds X.K fd ["self", g] []) (hc : X.calm = true) (tk : Takes X W) (hg : Gl X x) (hm : X.mg x = some (.ref C)) (ha : PE X e (cE X.K W ae))
    (hdb : (x == ("__debug__" : Str)) = false := by decide) (he : starEach [e] X.env = (false, eval e X.env) :: starEach [] X.env := by rfl) :
    PS X (.Raise (some (.Call (.Name x p) [e] [] pos)) none pos') (cS X.K W (aRaise C f ae)) := by
  refine (ps_raise hc tk (pmk_oex Er.oex Er.ini Er.ty F1 hr hb .nil pass0 hg hm (pa_cons ha pa_nil (hs := he)) hdb he rfl)).imp fun Dc σ H ⟨γ, S, Da, I, h, ok⟩ => ?_
  refine ⟨γ, S, _, _, I, h, fun v H1 d S1 t J r q => ?_, ok.ex.at I⟩
  refine ⟨by simp, fun a na => ⟨a, v, rfl, upd_same, fun dx hdx ne => ⟨rfl, dx, [(f, v)], upd_same, (upd_ne ne).trans upd_same, ?_, ?_⟩⟩⟩
  · rw [upd_ne ne] at hdx
    exact hdx
  · rw [upd_ne ne] at hdx
    rw [del_upd na ne]
    have t2 : Tr H1 S1 (upd H1 dx (.xd [(f, v)])) (put S1 dx (.xd [f] [d])) := tr_put hdx J
    have J2 : IsH X.K (upd H1 dx (.xd [(f, v)])) (put S1 dx (.xd [f] [d])) := is_put hdx J ⟨[(f, v)], upd_same, rfl, .cons (r.tr J t2) .nil⟩
    exact ok.ex _ _ σ _ γ _ (t.trans t2) (I.tr (t.trans t2) J2) (q dx (J.none_of hdx))
end
/-! ### try -/
abbrev ACl := Value × Option Nat × (Addr → Value → Option Addr → ATS)
def cl (K : PySem.W.Frag) (l : List ACl) : List Cl := l.map fun q => (q.1, q.2.1, fun a cls d => cS K WF (q.2.2 a cls d))
def noEx (Da : AEnds) : AEnds := { Da with ex := fun _ _ _ _ => False }
def noExAs (i : Nat) (Da : AEnds) : AEnds := ⟨fun γ S => Da.nx (γ.set i none) S, Da.rt, fun γ S => Da.bk (γ.set i none) S, fun γ S => Da.ct (γ.set i none) S, fun _ _ _ _ => False⟩
def aMix (K : PySem.W.Frag) (Da : AEnds) : List ACl → Ga → XP
  | [] => Da.ex
  | (c, none, as) :: r => fun γ C dd S => ∃ b, PySem.W.exmOne K (.ref C) c = some b ∧ (b = true → ∀ a, S a = none → as a (.ref C) (some dd) (noEx Da) γ S) ∧ (b = false → aMix K Da r γ C dd S)
  | (c, some i, as) :: r => fun γ C dd S => ∃ b, PySem.W.exmOne K (.ref C) c = some b ∧ (b = true → ∀ a, S a = none → as a (.ref C) (some dd) (noExAs i Da) (γ.set i (some (.ptr a))) S) ∧ (b = false → aMix K Da r γ C dd S)
def aTry (K : PySem.W.Frag) (l : List ACl) (ab : ATS) : ATS := fun Da γ S => ab { Da with ex := aMix K Da l } γ S
theorem okN.forget {K : PySem.W.Frag} {H : Hp} {S : Sg} {P : Ga → Sg → Prop} {Q : L2.St → Hp → Prop} (q : okN K H S P Q) (i : Nat) : okN K H S (fun γ S => P (γ.set i none) S) (fun σ H => Q (σ.set i none) H) :=
  fun σ' H' γ' S' t J p => q _ _ _ _ t (J.forget i) p
theorem mix_imp {K : PySem.W.Frag} {Wout : WX} {H : Hp} {S : Sg} {Da : AEnds} {Dc : L2.Ends} (ok : okD K Wout H S Da Dc) {C dd : Addr} {σ : L2.St} {H' : Hp} {γ : Ga} {S' : Sg} (t : Tr H S H' S') (J : Is K σ H' γ S') :
    ∀ {l : List ACl}, aMix K Da l γ C dd S' → wMix K Wout Dc (cl K l) (.ref C) (some dd) σ H'
  | [], h => ok.ex _ _ _ _ _ _ t J h
  | (c, none, as) :: r, ⟨b, e, h1, h2⟩ => ⟨b, e, fun hb a na => ⟨γ, S', noEx Da, J, h1 hb a (J.h.none_of na), ⟨ok.nx.tr t, ok.rt.tr t, ok.bk.tr t, ok.ct.tr t, fun _ _ _ _ _ _ _ _ z => z.elim⟩⟩, fun hb => mix_imp ok t J (l := r) (h2 hb)⟩
  | (c, some i, as) :: r, ⟨b, e, h1, h2⟩ => ⟨b, e, fun hb a na => ⟨γ.set i (some (.ptr a)), S', noExAs i Da, J.set i (.ptr a), h1 hb a (J.h.none_of na), ⟨(ok.nx.tr t).forget i, ok.rt.tr t, (ok.bk.tr t).forget i, (ok.ct.tr t).forget i, fun _ _ _ _ _ _ _ _ z => z.elim⟩⟩, fun hb => mix_imp ok t J (l := r) (h2 hb)⟩
section
variable {X : Cx} {W : WX} {body : List Stmt} {h₀ : ExceptHandler} {hds : List ExceptHandler} {l : List ACl} {pos : Pos} {ab : ATS}
theorem s_try (hs : X.stack = X.env :: X.outer) (hf : X.env.frame = some X.env.locals) (tk : Takes X W)
    (hb : ∀ (W : WX) (pn : List (Addr × Obj)) (xe : Value → Shared → Prop), Takes (X.tr pn xe) W → PassesOwn (model X.prog X.w) X.A X.env xe → PSs (X.tr pn xe) body (cS X.K W ab))
    (hh : HdsX X (h₀ :: hds) (cl X.K l)) : PS X (.Try body (h₀ :: hds) [] [] pos) (cS X.K W (aTry X.K l ab)) := by
  refine (ps_try_mix hs hf tk hb hh).imp fun Dc σ H ⟨γ, S, Da, I, h, ok⟩ => ?_
  exact ⟨γ, S, _, I, h, ⟨ok.nx, ok.rt, ok.bk, ok.ct, fun C dd σ' H' γ' S' t J p => mix_imp ok t J p⟩⟩
theorem h_nil : HdsX X [] (cl X.K []) := .nil
theorem h_cons {x : Str} {c : Value} {as : Addr → Value → Option Addr → ATS} {b₀ : Stmt} {suite : List Stmt} {np pos' : Pos} (hc : Names X x c) (hsu : Su X (b₀ :: suite) fun a cls d => cS X.K WF (as a cls d)) (r : HdsX X hds (cl X.K l)) :
    HdsX X (.ExceptHandler (some (.Name x np)) none (b₀ :: suite) pos' :: hds) (cl X.K ((c, none, as) :: l)) := .cons hc hsu r
theorem h_as {x n : Str} {i : Nat} {c : Value} {as : Addr → Value → Option Addr → ATS} {b₀ : Stmt} {suite : List Stmt} {np pos' : Pos} (hc : Names X x c) (hN : X.N.Nodup) (hi : X.N[i]? = some n) (hln : X.env.kindOf n = some .local)
    (hsu : Su X (b₀ :: suite) fun a cls d => cS X.K WF (as a cls d)) (r : HdsX X hds (cl X.K l)) :
    HdsX X (.ExceptHandler (some (.Name x np)) (some n) (b₀ :: suite) pos' :: hds) (cl X.K ((c, some i, as) :: l)) := .consAs hc hN hi hln hsu r
end
/-! ### e.f -/
def xfD (f : Str) (P : D → Prop) : List Str → List D → Prop
  | g :: gs, d :: ds => if f = g then P d else xfD f P gs ds
  | _, _ => False
def aXf (a : Addr) (cls : Value) (d : Option Addr) (C : Addr) (f : Str) (ae : AE) : AE := fun γ S P x => ae γ S (fun z S1 => z = .ptr a ∧ cls = .ref C ∧ ∃ dd fs ds, d = some dd ∧ S1 dd = some (.xd fs ds) ∧ xfD f (fun z => P z S1) fs ds) x
theorem xf_of {K : PySem.W.Frag} {H : Hp} {A : Addr → Prop} {f : Str} {P : D → Prop} : ∀ {gs : List (Str × V)} {ds : List D}, RepL K H A (gs.map (·.2)) ds → xfD f P (gs.map (·.1)) ds → ∃ v d, gs.lookup f = some v ∧ Rep K H A v d ∧ P d
  | [], _, _, h => by simp [xfD] at h
  | (g, v) :: gs, _, .cons r rs, h => by
    simp only [List.map_cons, xfD] at h
    by_cases e : f = g
    · rw [if_pos e] at h
      exact ⟨v, _, by simp [e], r, h⟩
    · rw [if_neg e] at h
      obtain ⟨u, d, h1, h2, h3⟩ := xf_of rs h
      refine ⟨u, d, ?_, h2, h3⟩
      rw [List.lookup_cons]
      have : (f == g) = false := by simpa using e
      rw [this]
      exact h1
theorem a_xf {X : Cx} {W : WX} {a C : Addr} {oe : Obj} {cls : Value} {d : Option Addr} {pn : List (Addr × Obj)} {e : Expr} {ae : AE} {pos : Pos} {n : Str} (T : XfC X.K C) (hno : PySem.W.findIn X.K (.ref C) n = some none)
    (hz : Zc cls d oe) (hf : ∃ vs, oe.data = .fields vs) (he : PE (X.suite a ((a, oe) :: pn)) e (cE X.K W ae)) (hb : attributeBase e n X.env (eval e X.env) = eval e X.env := by rfl) :
    PE (X.suite a ((a, oe) :: pn)) (.Attribute e n pos) (cE X.K W (aXf a cls d C n ae)) :=
  (pe_xf T hno hz hf he hb).imp fun σ H Q ⟨γ, S, P, x, I, h, q, qx⟩ => by
    refine ⟨γ, S, _, x, I, h, fun v H1 z S1 t J r p => ?_, qx⟩
    obtain ⟨e1, e2, dd, fs, ds, e3, e4, e5⟩ := p
    subst e1
    obtain rfl := rep_ptr r
    obtain ⟨gs, g1, g2, g3⟩ := J dd _ e4
    subst g2
    obtain ⟨u, z2, l1, l2, l3⟩ := xf_of g3 e5
    exact ⟨rfl, e2, dd, gs, u, e3, g1, l1, q _ _ _ _ t J l2 l3⟩
end FB

set_option maxHeartbeats 4000000
/-! FB12: dicts. -/
namespace FB
open PySem PySem.Spec PyProof.Rows L2
def keyD : Key → D
  | .inl i => .int i
  | .inr x => .str x
def keyOf : D → (Key → Prop) → Prop
  | .int i, k => k (.inl i)
  | .str x, k => k (.inr x)
  | _, _ => False
def dGet : List Key → List D → Key → Option D
  | k' :: ks, d :: ds, k => if k' = k then some d else dGet ks ds k
  | _, _, _ => none
def asDct (S : Sg) : D → (List Key → List D → Prop) → Prop
  | .dct ks ds, k => k ks ds
  | .ptr p, k => ∃ ks ds, S p = some (.dct ks ds) ∧ k ks ds
  | _, _ => False
def dSet (z : List (Key × D)) (k : Key) (v : D) : List (Key × D) := if (z.any fun kv => decide (kv.1 = k)) = true then z.map (fun kv => if kv.1 = k then (kv.1, v) else kv) else z ++ [(k, v)]
def dPut (ks : List Key) (ds : List D) (k : Key) (v : D) : Cell := .dct ((dSet (ks.zip ds) k v).map (·.1)) ((dSet (ks.zip ds) k v).map (·.2))
section
variable {K : PySem.W.Frag} {H : Hp} {A : Addr → Prop}
theorem keyOf_of {v : V} {d : D} {k : Key → Prop} (r : Rep K H A v d) (h : keyOf d k) : ∃ y, v = kV y ∧ k y := by
  cases r with
  | int i => exact ⟨.inl i, rfl, h⟩
  | str x => exact ⟨.inr x, rfl, h⟩
  | _ => exact h.elim
theorem rep_key (k : Key) : Rep K H A (kV k) (keyD k) := by
  cases k with
  | inl i => exact .int i
  | inr x => exact .str x
theorem dGet_of (k : Key) : ∀ {kvs : List (Key × V)} {ds : List D}, RepL K H A (kvs.map (·.2)) ds → (∃ d v, dGet (kvs.map (·.1)) ds k = some d ∧ valV kvs k = some v ∧ Rep K H A v d) ∨ (dGet (kvs.map (·.1)) ds k = none ∧ valV kvs k = none)
  | [], _, r => .inr ⟨by cases r; rfl, rfl⟩
  | p :: kvs, _, .cons r rs => by
    by_cases e : p.1 = k
    · exact .inl ⟨_, _, by simp [dGet, e], valV_pos e, r⟩
    · rcases dGet_of k rs with ⟨d, v, h1, h2, h3⟩ | ⟨h1, h2⟩
      · exact .inl ⟨d, v, by simp only [List.map_cons, dGet, if_neg e]; exact h1, (valV_neg e).trans h2, h3⟩
      · exact .inr ⟨by simp only [List.map_cons, dGet, if_neg e]; exact h1, (valV_neg e).trans h2⟩
theorem asDct_of {S : Sg} {v : V} {d : D} {k : List Key → List D → Prop} (I : IsH K H S) (r : Rep K H (Av S) v d) (h : asDct S d k) : ∃ a kvs ds, v = .ref a ∧ Rd H a (.dK kvs) ∧ RepL K H (Av S) (kvs.map (·.2)) ds ∧ k (kvs.map (·.1)) ds := by
  cases r with
  | dct g n q => exact ⟨_, _, _, rfl, g, q, h⟩
  | ptr p =>
    obtain ⟨ks, ds, e, h⟩ := h
    obtain ⟨kvs, g, e2, q⟩ := I _ _ e
    subst e2
    exact ⟨_, _, _, rfl, .inl g, q, h⟩
  | _ => exact h.elim
theorem zip_any (k : Key) : ∀ {kvs : List (Key × V)} {ds : List D}, RepL K H A (kvs.map (·.2)) ds → (kvs.any fun kv => decide (kv.1 = k)) = ((kvs.map (·.1)).zip ds).any fun kv => decide (kv.1 = k)
  | [], _, r => by cases r; rfl
  | p :: kvs, _, .cons r rs => by simp only [List.map_cons, List.zip_cons_cons, List.any_cons, zip_any k rs]
theorem zip_map (k : Key) {y : V} {v : D} (ry : Rep K H A y v) : ∀ {kvs : List (Key × V)} {ds : List D}, RepL K H A (kvs.map (·.2)) ds →
    (kvs.map fun kv => if kv.1 = k then (kv.1, y) else kv).map (·.1) = (((kvs.map (·.1)).zip ds).map fun kv => if kv.1 = k then (kv.1, v) else kv).map (·.1) ∧
    RepL K H A ((kvs.map fun kv => if kv.1 = k then (kv.1, y) else kv).map (·.2)) ((((kvs.map (·.1)).zip ds).map fun kv => if kv.1 = k then (kv.1, v) else kv).map (·.2))
  | [], _, r => by cases r; exact ⟨rfl, .nil⟩
  | p :: kvs, _, .cons r rs => by
    obtain ⟨h1, h2⟩ := zip_map k ry rs
    simp only [List.map_cons, List.zip_cons_cons]
    by_cases e : p.1 = k
    · rw [if_pos e, if_pos e]
      exact ⟨by rw [h1], .cons ry h2⟩
    · rw [if_neg e, if_neg e]
      exact ⟨by rw [h1], .cons r h2⟩
theorem map_zip : ∀ {kvs : List (Key × V)} {ds : List D}, RepL K H A (kvs.map (·.2)) ds → ((kvs.map (·.1)).zip ds).map (·.1) = kvs.map (·.1) ∧ ((kvs.map (·.1)).zip ds).map (·.2) = ds
  | [], _, r => by cases r; exact ⟨rfl, rfl⟩
  | p :: kvs, _, .cons r rs => by
    obtain ⟨h1, h2⟩ := map_zip rs
    simp only [List.map_cons, List.zip_cons_cons, h1, h2, and_self]
theorem dSet_of (k : Key) {y : V} {v : D} (ry : Rep K H A y v) {kvs : List (Key × V)} {ds : List D} (r : RepL K H A (kvs.map (·.2)) ds) :
    (putK kvs k y).map (·.1) = (dSet ((kvs.map (·.1)).zip ds) k v).map (·.1) ∧ RepL K H A ((putK kvs k y).map (·.2)) ((dSet ((kvs.map (·.1)).zip ds) k v).map (·.2)) := by
  unfold putK dSet
  rw [← zip_any k r]
  by_cases e : (kvs.any fun kv => decide (kv.1 = k)) = true
  · rw [if_pos e, if_pos e]
    exact zip_map k ry r
  · rw [if_neg e, if_neg e]
    obtain ⟨h1, h2⟩ := map_zip r
    rw [List.map_append, List.map_append, List.map_append, List.map_append, h1, h2]
    exact ⟨rfl, r.append (.cons ry .nil)⟩
end
section
variable {X : Cx} {W : WX} {o i value : Expr} {ao ai ae : AE} {pos pos' : Pos}
def aDIn (neg : Bool) (ai ao : AE) : AE := fun γ S P x => ai γ S (fun q S1 => ao γ S1 (fun d S2 => keyOf q fun k => asDct S2 d fun ks ds => P (.bl (if neg then !(dGet ks ds k).isSome else (dGet ks ds k).isSome)) S2) x) x
theorem a_dIn (hu : X.A.units + 1 < cLine) (hi : PE X i (cE X.K W ai)) (ho : PE X o (cE X.K W ao)) (hm : behindInMarks .In o = false := by first | exact nobehind _ (by decide) (by decide) | rfl) : PE X (.Compare i [.In] [o] pos) (cE X.K W (aDIn false ai ao)) :=
  (pe_cmp (pc_din hu hi ho) hm).imp fun σ H Q ⟨γ, S, P, x, I, h, q, qx⟩ =>
    ⟨γ, S, _, x, I, h, fun y H1 c S1 t J r p => ⟨γ, S1, _, x, I.tr t J, p, fun z H2 d S2 t2 J2 r2 p2 => by
      obtain ⟨k, e1, p3⟩ := keyOf_of (r.tr J t2) p2
      obtain ⟨a, kvs, ds, e2, g, rl, p4⟩ := asDct_of J2 r2 p3
      subst e1 e2
      refine ⟨a, valV kvs k, rfl, .inl ⟨kvs, k, g, rfl, rfl⟩, ?_⟩
      have e3 : (valV kvs k).isSome = (dGet (kvs.map (·.1)) ds k).isSome := by rcases dGet_of k rl with ⟨d, v, h1, h2, _⟩ | ⟨h1, h2⟩ <;> rw [h1, h2] <;> rfl
      rw [e3]
      exact q _ _ _ _ (t.trans t2) J2 (.bl _) p4, qx.tr t⟩, qx⟩
theorem a_dNotIn (hu : X.A.units + 1 < cLine) (hi : PE X i (cE X.K W ai)) (ho : PE X o (cE X.K W ao)) (hm : behindInMarks .NotIn o = false := by first | exact nobehind _ (by decide) (by decide) | rfl) : PE X (.Compare i [.NotIn] [o] pos) (cE X.K W (aDIn true ai ao)) :=
  (pe_cmp (pc_dnotin hu hi ho) hm).imp fun σ H Q ⟨γ, S, P, x, I, h, q, qx⟩ =>
    ⟨γ, S, _, x, I, h, fun y H1 c S1 t J r p => ⟨γ, S1, _, x, I.tr t J, p, fun z H2 d S2 t2 J2 r2 p2 => by
      obtain ⟨k, e1, p3⟩ := keyOf_of (r.tr J t2) p2
      obtain ⟨a, kvs, ds, e2, g, rl, p4⟩ := asDct_of J2 r2 p3
      subst e1 e2
      refine ⟨a, valV kvs k, rfl, .inl ⟨kvs, k, g, rfl, rfl⟩, ?_⟩
      have e3 : (valV kvs k).isSome = (dGet (kvs.map (·.1)) ds k).isSome := by rcases dGet_of k rl with ⟨d, v, h1, h2, _⟩ | ⟨h1, h2⟩ <;> rw [h1, h2] <;> rfl
      rw [e3]
      exact q _ _ _ _ (t.trans t2) J2 (.bl _) p4, qx.tr t⟩, qx⟩
def aDGet (ao ai : AE) : AE := fun γ S P x => ao γ S (fun d S1 => ai γ S1 (fun q S2 => keyOf q fun k => asDct S2 d fun ks ds => ∃ e, dGet ks ds k = some e ∧ P e S2) x) x
theorem a_dGet (hu : X.A.units + 1 < cLine) (ho : PE X o (cE X.K W ao)) (hi : PE X i (cE X.K W ai)) (hs : NoSl i := by intro _ _; rfl) : PE X (.Subscript o i pos) (cE X.K W (aDGet ao ai)) :=
  (pe_dget hu ho hi hs).imp fun σ H Q ⟨γ, S, P, x, I, h, q, qx⟩ =>
    ⟨γ, S, _, x, I, h, fun y H1 c S1 t J r p => ⟨γ, S1, _, x, I.tr t J, p, (fun z H2 d S2 t2 J2 r2 p2 => by
      obtain ⟨k, e1, p3⟩ := keyOf_of r2 p2
      obtain ⟨a, kvs, ds, e2, g, rl, e, e3, p4⟩ := asDct_of J2 (r.tr J t2) p3
      subst e1 e2
      rcases dGet_of k rl with ⟨d', v, h1, h2, r3⟩ | ⟨h1, h2⟩
      · rw [h1] at e3
        cases e3
        exact ⟨a, v, rfl, .inl ⟨kvs, k, g, rfl, h2.symm⟩, q _ _ _ _ (t.trans t2) J2 r3 p4⟩
      · rw [h1] at e3
        cases e3), qx.tr t⟩, qx⟩
def aDPut (ao ai ae : AE) : ATS := fun Da γ S => ae γ S (fun v S1 => ao γ S1 (fun q S2 => ai γ S2 (fun j S3 => keyOf j fun k => asPtrD S3 q fun p ks ds => ks.length < 100000 ∧ Da.nx γ (put S3 p (dPut ks ds k v))) (Da.ex γ)) (Da.ex γ)) (Da.ex γ)
where asPtrD (S : Sg) : D → (Addr → List Key → List D → Prop) → Prop
  | .ptr p, k => ∃ ks ds, S p = some (.dct ks ds) ∧ k p ks ds
  | _, _ => False
theorem s_dPut (hu : X.A.units + 1 < cLine) (ho : PE X o (cE X.K W ao)) (hi : PE X i (cE X.K W ai)) (hv : PE X value (cE X.K W ae)) (hs : swapsWith value (some (.Subscript o i pos')) pos.line X.env = pure false := by rfl) : PS X (.Assign [.Subscript o i pos'] value pos) (cS X.K W (aDPut ao ai ae)) :=
  (ps_dput hu ho hi hv hs).imp fun Dc σ H ⟨γ, S, Da, I, h, ok⟩ =>
    ⟨γ, S, _, _, I, h, fun v H1 d S1 t1 J1 r1 q1 => ⟨γ, S1, _, _, I.tr t1 J1, q1, fun w H2 q S2 t2 J2 r2 q2 => ⟨γ, S2, _, _, I.tr (t1.trans t2) J2, q2, fun u H3 j S3 t3 J3 r3 q3 => by
      obtain ⟨k, e1, q4⟩ := keyOf_of r3 q3
      subst e1
      cases q with
      | ptr p =>
        obtain ⟨ks, ds, e2, hl, q5⟩ := q4
        obtain rfl := rep_ptr (r2.tr J2 t3)
        obtain ⟨kvs, g, e3, rl⟩ := J3 _ _ e2
        subst e3
        have t4 : Tr H3 S3 (upd H3 p (.dK (putK kvs k v))) (put S3 p (dPut (kvs.map (·.1)) ds k d)) := tr_write e2
        have rd : Rep X.K H3 (Av S3) v d := (r1.tr J1 t2).tr J2 t3
        obtain ⟨z1, z2⟩ := dSet_of k (rd.tr J3 t4) (rl.tr J3 t4)
        have J4 : IsH X.K (upd H3 p (.dK (putK kvs k v))) (put S3 p (dPut (kvs.map (·.1)) ds k d)) := is_write e2 J3 ⟨_, upd_same, z1, z2⟩
        exact ⟨p, _, rfl, .inl ⟨kvs, k, g, rfl, by rw [sizeLine_eq]; rw [List.length_map] at hl; omega, rfl⟩, ok.nx _ _ _ _ (((t1.trans t2).trans t3).trans t4) (I.tr (((t1.trans t2).trans t3).trans t4) J4) q5⟩
      | _ => exact q4.elim, (ok.ex.at I).tr (t1.trans t2)⟩, (ok.ex.at I).tr t1⟩, ok.ex.at I⟩
/-- {} -/
def aDict0N : AE := fun _ S P _ => ∀ p, S p = none → P (.ptr p) (put S p (.dct [] []))
theorem a_dict0N : PE X (.Dict [] [] pos) (cE X.K W aDict0N) :=
  pe_dnewK.imp fun σ H Q ⟨γ, S, P, x, I, h, q, qx⟩ p n => q _ _ _ _ (tr_put (c := .dct [] []) n I.h) (is_put (c := .dct [] []) n I.h ⟨[], upd_same, rfl, .nil⟩) (.ptr p) (h p (I.h.none_of n))
def aDict0 : AE := fun _ S P _ => P (.dct [] []) S
theorem a_dict0 : PE X (.Dict [] [] pos) (cE X.K W aDict0) :=
  pe_dnewK.imp fun σ H Q ⟨γ, S, P, x, I, h, q, qx⟩ p n => q _ _ _ _ (tr_new n I.h) (is_new n I.h) (Rep.dct (kvs := []) (.inl upd_same) (I.h.none_of n) .nil) h
/-- {k: e, ..}, keys that differ -/
def aVals : List (Key × AE) → Ga → Sg → (List D → Sg → Prop) → XP → Prop
  | [], _, S, P, _ => P [] S
  | (_, a) :: r, γ, S, P, x => a γ S (fun d S1 => aVals r γ S1 (fun ds S2 => P (d :: ds) S2) x) x
def aDispN (l : List (Key × AE)) : AE := fun γ S P x => ∀ p, S p = none → aVals l γ (put S p (.dct [] [])) (fun ds S2 => S2 p = some (.dct [] []) ∧ P (.ptr p) (put S2 p (.dct (l.map (·.1)) ds))) x
abbrev cPrs (K : PySem.W.Frag) (W : WX) (l : List (Key × AE)) : List (TE × TE) := l.map fun q => (tC (kV q.1), cE K W q.2)
theorem vals_imp {K : PySem.W.Frag} : ∀ {l : List (Key × AE)} {σ : L2.St} {H : Hp} {γ : Ga} {S : Sg} {P : List D → Sg → Prop} {x : XP} {Q : List (V × V) → Hp → Prop}, Is K σ H γ S → aVals l γ S P x → okX K W σ H S x →
    (∀ vs H' ds S', Tr H S H' S' → IsH K H' S' → RepL K H' (Av S') vs ds → vs.length = l.length → P ds S' → Q ((l.map (·.1)).zip vs |>.map fun q => (kV q.1, q.2)) H') → tPairs (cPrs K W l) σ H Q
  | [], σ, H, γ, S, P, x, Q, I, h, qx, q => q [] H [] S (.refl _ _) I.h .nil rfl h
  | (k, a) :: l, σ, H, γ, S, P, x, Q, I, h, qx, q =>
    ⟨γ, S, _, x, I, h, fun v H1 d S1 t J r p => vals_imp (l := l) (I.tr t J) p (qx.tr t) fun vs H2 ds S2 t2 J2 r2 hl p2 => q (v :: vs) H2 (d :: ds) S2 (t.trans t2) J2 (.cons (r.tr J t2) r2) (by rw [List.length_cons, List.length_cons, hl]) p2, qx⟩
theorem mergeK_nd : ∀ (l acc : List (Key × V)), (l.map (·.1)).Nodup → (∀ p ∈ l, valV acc p.1 = none) → mergeK acc l = acc ++ l
  | [], acc, _, _ => (List.append_nil _).symm
  | p :: l, acc, hn, h => by
    obtain ⟨n1, n2⟩ := List.nodup_cons.mp hn
    show mergeK (putK acc p.1 p.2) l = _
    rw [putK_new _ (h p List.mem_cons_self), mergeK_nd l _ n2 fun q hq => ?_, List.append_assoc]
    · rfl
    · rw [valV_snoc _ _ _ _ (h p List.mem_cons_self), if_neg (fun e => n1 (List.mem_map.mpr ⟨q, hq, e⟩))]
      exact h q (List.mem_cons_of_mem _ hq)
theorem a_dispN {keys : List (Option Expr)} {values : List Expr} {l : List (Key × AE)} (hl : PPs X pos keys values (cPrs X.K W l)) (hn : (l.map (·.1)).Nodup := by decide) (hall : keys.all (·.isSome) = true := by rfl) (h1 : keys.length = values.length := by rfl) (h0 : keys ≠ [] := by intro z; cases z)
    (h15 : keys.length ≤ 15 := by decide) (h15' : l.length ≤ 15 := by decide) : PE X (.Dict keys values pos) (cE X.K W (aDispN l)) :=
  (pe_disp hl hall h1 h0 h15).imp fun σ H Q ⟨γ, S, P, x, I, h, q, qx⟩ p n => by
    have t0 : Tr H S (upd H p (.dK [])) (put S p (.dct [] [])) := tr_put n I.h
    have J0 : IsH X.K (upd H p (.dK [])) (put S p (.dct [] [])) := is_put n I.h ⟨[], upd_same, rfl, .nil⟩
    refine vals_imp (I.tr t0 J0) (h p (I.h.none_of n)) (qx.tr t0) fun vs H2 ds S2 t2 J2 r2 hl ⟨e2, p2⟩ => ?_
    obtain ⟨kvs0, g0, k0, _⟩ := J2 _ _ e2
    obtain rfl : kvs0 = [] := by simpa using k0
    refine ⟨g0, (l.map (·.1)).zip vs, rfl, by rw [List.length_zip, List.length_map]; omega, ?_⟩
    have ez : ((l.map (·.1)).zip vs).map (·.1) = l.map (·.1) := List.map_fst_zip (by rw [List.length_map]; omega)
    have ez2 : ((l.map (·.1)).zip vs).map (·.2) = vs := List.map_snd_zip (by rw [List.length_map]; omega)
    rw [mergeK_nd _ _ (by rw [ez]; exact hn) (fun _ _ => rfl), List.nil_append]
    have t3 : Tr H2 S2 (upd H2 p (.dK ((l.map (·.1)).zip vs))) (put S2 p (.dct (l.map (·.1)) ds)) := tr_write e2
    exact q _ _ _ _ ((t0.trans t2).trans t3) (is_write e2 J2 ⟨_, upd_same, ez, by rw [ez2]; exact r2.tr J2 t3⟩) (.ptr p) p2
theorem d_nil : PPs X pos [] [] (cPrs X.K W []) := pps_nil
theorem d_cons {k v : Expr} {ks : List (Option Expr)} {vs : List Expr} {q : Key} {l : List (Key × AE)} (hk : PE X k (tC (kV q))) (hv : PE X v (cE X.K W ae)) (hr : PPs X pos ks vs (cPrs X.K W l)) : PPs X pos (some k :: ks) (v :: vs) (cPrs X.K W ((q, ae) :: l)) := pps_cons hk hv hr
theorem key_s {x : Str} {j} : PE X (.Constant (.str x) j pos) (tC (kV (.inr x))) := pe_str
def bLenD : List D → Sg → (D → Sg → Prop) → Prop := fun ds S P => one (fun d => asDct S d fun ks _ => P (.int (ks.length : Nat)) S) ds
theorem cs_lenD {K : PySem.W.Frag} : CallS K (fun xs H Q => ∃ a kvs, xs = [V.ref a] ∧ Rd H a (.dK kvs) ∧ Q (.int kvs.length) H) bLenD := fun H S xs ds P Q I r h q => by
  obtain ⟨d, e1, h1⟩ := one_of h
  subst e1
  obtain ⟨v, e2, r1⟩ := repL_one r
  subst e2
  obtain ⟨a, kvs, es, e3, g, _, p⟩ := asDct_of I r1 h1
  subst e3
  exact ⟨a, kvs, rfl, g, q _ _ _ _ (.refl _ _) I (.int _) (by rw [List.length_map] at p; exact p)⟩
end
/-! ### for key in d, d not tracked -/
structure Frz (H H' : Hp) (a : Addr) (kvs : List (Key × V)) (od : Obj) : Prop where
  l : H a = some (.dK kvs)
  r : H' a = some (.frz od (.dK kvs))
  ne : ∀ b, b ≠ a → H' b = H b
section
variable {K : PySem.W.Frag} {H H' : Hp} {A : Addr → Prop} {a : Addr} {kvs : List (Key × V)} {od : Obj}
theorem Frz.to (F : Frz H H' a kvs od) {v : V} {d : D} : Rep K H A v d → Rep K H' A v d :=
  Rep.mono (fun b xs h => by
    by_cases e : b = a
    · subst e
      rcases h with h | ⟨o, h⟩ <;> rw [F.l] at h <;> cases h
    · rcases h with h | ⟨o, h⟩
      · exact .inl (by rw [F.ne b e]; exact h)
      · exact .inr ⟨o, by rw [F.ne b e]; exact h⟩) (fun b xs hA h => ⟨by
    by_cases e : b = a
    · subst e; rw [F.l] at h; cases h
    · rw [F.ne b e]; exact h, hA⟩) (fun b xs hA h => ⟨by
    by_cases e : b = a
    · subst e
      rcases h with h | ⟨o, h⟩
      · rw [F.l] at h; cases h; exact .inr ⟨od, F.r⟩
      · rw [F.l] at h; cases h
    · rcases h with h | ⟨o, h⟩
      · exact .inl (by rw [F.ne b e]; exact h)
      · exact .inr ⟨o, by rw [F.ne b e]; exact h⟩, hA⟩) (fun b o xs h => by
    by_cases e : b = a
    · subst e; rw [F.l] at h; cases h
    · rw [F.ne b e]; exact h)
theorem Frz.back (F : Frz H H' a kvs od) {v : V} {d : D} : Rep K H' A v d → Rep K H A v d :=
  Rep.mono (fun b xs h => by
    by_cases e : b = a
    · subst e
      rcases h with h | ⟨o, h⟩ <;> rw [F.r] at h <;> cases h
    · rcases h with h | ⟨o, h⟩
      · exact .inl (by rw [← F.ne b e]; exact h)
      · exact .inr ⟨o, by rw [← F.ne b e]; exact h⟩) (fun b xs hA h => ⟨by
    by_cases e : b = a
    · subst e; rw [F.r] at h; cases h
    · rw [← F.ne b e]; exact h, hA⟩) (fun b xs hA h => ⟨by
    by_cases e : b = a
    · subst e
      rcases h with h | ⟨o, h⟩
      · rw [F.r] at h; cases h
      · rw [F.r] at h; cases h; exact .inl F.l
    · rcases h with h | ⟨o, h⟩
      · exact .inl (by rw [← F.ne b e]; exact h)
      · exact .inr ⟨o, by rw [← F.ne b e]; exact h⟩, hA⟩) (fun b o xs h => by
    by_cases e : b = a
    · subst e; rw [F.r] at h; cases h
    · rw [← F.ne b e]; exact h)
theorem Frz.toL (F : Frz H H' a kvs od) : ∀ {vs : List V} {ds : List D}, RepL K H A vs ds → RepL K H' A vs ds
  | _, _, .nil => .nil
  | _, _, .cons r rs => .cons (F.to r) (F.toL rs)
theorem Frz.backL (F : Frz H H' a kvs od) : ∀ {vs : List V} {ds : List D}, RepL K H' A vs ds → RepL K H A vs ds
  | _, _, .nil => .nil
  | _, _, .cons r rs => .cons (F.back r) (F.backL rs)
theorem Frz.is (F : Frz H H' a kvs od) {S : Sg} (n : S a = none) (I : IsH K H S) : IsH K H' S := fun p c e => by
  have ne : p ≠ a := fun z => by rw [z, n] at e; cases e
  have R := I p c e
  cases c with
  | lst ds => obtain ⟨xs, g, r⟩ := R; exact ⟨xs, by rw [F.ne p ne]; exact g, F.toL r⟩
  | dct ks ds => obtain ⟨xs, g, z, r⟩ := R; exact ⟨xs, by rw [F.ne p ne]; exact g, z, F.toL r⟩
  | xd ks ds => obtain ⟨xs, g, z, r⟩ := R; exact ⟨xs, by rw [F.ne p ne]; exact g, z, F.toL r⟩
theorem Frz.isB (F : Frz H H' a kvs od) {S : Sg} (n : S a = none) (I : IsH K H' S) : IsH K H S := fun p c e => by
  have ne : p ≠ a := fun z => by rw [z, n] at e; cases e
  have R := I p c e
  cases c with
  | lst ds => obtain ⟨xs, g, r⟩ := R; exact ⟨xs, by rw [← F.ne p ne]; exact g, F.backL r⟩
  | dct ks ds => obtain ⟨xs, g, z, r⟩ := R; exact ⟨xs, by rw [← F.ne p ne]; exact g, z, F.backL r⟩
  | xd ks ds => obtain ⟨xs, g, z, r⟩ := R; exact ⟨xs, by rw [← F.ne p ne]; exact g, z, F.backL r⟩
/-- the walk over the keys of a locked dict -/
theorem aw_keys : AW K (Itk a od kvs) (kvs.map fun q => keyD q.1) gT (fun H S => H a = some (.frz od (.dK kvs)) ∧ S a = none) where
  st := fun H S H' S' ⟨h, n⟩ _ t _ _ => ⟨t.keep a _ h n, t.free a n (by rw [h]; exact fun z => nomatch z)⟩
  go := fun i H S hi ⟨h, n⟩ _ => ⟨h, by rw [List.length_map] at hi; exact hi⟩
  yl := fun i H S x H' hi ⟨h, n⟩ I ⟨e, k, v, e1, e2⟩ => by
    subst e e2
    exact ⟨keyD k, by rw [List.getElem?_map, e1]; rfl, .refl _ _, I, rep_key k⟩
  sp := fun H S ⟨h, n⟩ _ => ⟨h, by rw [List.length_map]; exact Nat.le_refl _⟩
end
/-- the keys of the dict in slot i -/
def iK (i : Nat) : AI := fun γ S P _ => slot γ i fun d => match d with
  | .dct ks _ => P (ks.map keyD) gT S
  | _ => False
theorem _root_.L2.PE.or {X : Cx} {e : Expr} {t u : TE} (h : PE X e t) (g : PE X e u) : PE X e (fun σ H Q => t σ H Q ∨ u σ H Q) := ⟨fun pins s σ H Q I z => z.elim (h.run pins s σ H Q I) (g.run pins s σ H Q I)⟩
section
variable {X : Cx} {W : WX} {pos npos : Pos} {iter elt tg : Expr} {gg : TG} {ag : AG} {at_ : AT} {ae : AE} {ifs : List Expr} {scope : Scope} {own : List (Str × Nat)} {x : Str} {i : Nat}
theorem a_lcK (hc : X.calm = true) (hN : X.N.Nodup) (hx : PE X iter (tVar i)) (ok : BlkOk X.N X.env.scope scope own)
    (hg : ∀ (s : Shared) (H : Hp) (C : Addr) (cl : List (Str × Addr)) (fp : List Addr), PG (X.blk s H scope (compEnvC scope cl C X.env) fp) tg gg) (gw : GW X.K gg ag (own.map (·.2)))
    (ht : ∀ (s : Shared) (H : Hp) (C : Addr) (cl : List (Str × Addr)) (fp : List Addr), PTs (X.blk s H scope (compEnvC scope cl C X.env) fp) ifs (cT X.K WF at_))
    (he : ∀ (s : Shared) (H : Hp) (C : Addr) (cl : List (Str × Addr)) (fp : List Addr), PE (X.blk s H scope (compEnvC scope cl C X.env) fp) elt (cE X.K WF ae)) (hs : ∀ x, foldedSetIterable iter X.env x = pure x := by intro _; rfl) :
    PE X (.ListComp elt [⟨tg, iter, ifs, 0⟩] scope pos) (cE X.K W (aLc (iK i) ag at_ ae (own.map (·.2)))) := by
  have base := pe_lc (pos := pos) hc hN (pi_keys (tg := tg) hx) ok hg ht he hs
  refine (base.or (pe_lock base)).imp fun σ H Q ⟨γ, S, P, x, I, h, q, qx⟩ => ?_
  have h' : iK i γ S (fun ds G S1 => ∀ Dl, S1 Dl = none → aLcGo ag at_ ae (wipeA γ (own.map (·.2))) G Dl (fun acc S2 => ∃ S3 : Sg, S3 Dl = none ∧ S2 = put S3 Dl (.lst acc) ∧ P (.lst acc) S3) ds [] (put S1 Dl (.lst []))) (fun _ _ _ => False) := h
  have key : ∀ {a : Addr} {kvs : List (Key × V)} {od : Obj} {H : Hp} {R : It → Hp → Prop}, σ[i]? = some (some (.ref a)) → H a = some (.frz od (.dK kvs)) → cI X.K W (iK i) σ H R → iKeys (tVar i) σ H R := by
    intro a kvs od H R es eH ⟨γ1, S1, P1, x1, I1, h1, _, run⟩
    obtain ⟨d, e0, h2⟩ := slot_of h1
    obtain ⟨v, e1, r⟩ := I1.sl i d e0
    rw [es] at e1
    cases e1
    cases r with
    | dct g n rr =>
      rename_i kvs1 ds1
      have ek : kvs1 = kvs := by
        rcases g with g | ⟨o, g⟩
        · rw [eH] at g; cases g
        · rw [eH] at g; cases g; rfl
      subst ek
      refine ⟨_, es, a, od, rfl, .inl ⟨_, eH, run _ _ _ _ _ _ (.refl _ _) I1.h (aw_keys (a := a) (od := od)) ⟨eH, n⟩ ?_⟩⟩
      simpa [List.map_map, Function.comp_def] using h2
    | _ => exact h2.elim
  obtain ⟨d, e0, hd⟩ := slot_of h'
  obtain ⟨v, e1, r⟩ := I.sl i d e0
  cases r with
  | dct g n rr =>
    rename_i a kvs ds
    rcases g with g | ⟨od, g⟩
    · refine .inr ⟨a, .dK kvs, g, ?_, fun od => ?_⟩
      · trivial
      have F : Frz H (upd H a (.frz od (.dK kvs))) a kvs od := ⟨g, upd_same, fun b ne => upd_ne ne⟩
      have I2 : Is X.K σ (upd H a (.frz od (.dK kvs))) γ S := ⟨F.is n I.h, I.len, fun j e he => let ⟨u, h1, h2⟩ := I.sl j e he; ⟨u, h1, F.to h2⟩⟩
      refine key e1 upd_same (show tLc (cI X.K W (iK i)) gg (cT X.K WF at_) (cE X.K WF ae) (own.map (·.2)) σ (upd H a (.frz od (.dK kvs))) (fun v H' => H' a = some (.frz od (.dK kvs)) ∧ Q v (upd H' a (.dK kvs))) from lc_imp gw (P := fun Dl acc S2 => ∃ S3 : Sg, S3 Dl = none ∧ S2 = put S3 Dl (.lst acc) ∧ P (.lst acc) S3) I2 h' (fun _ _ _ _ _ _ z => z.elim) fun Dl acc H' S' t J e ⟨S3, n3, e2, p⟩ => ?_)
      subst e2
      obtain ⟨J3, r3⟩ := untrack n3 J
      have ha : H' a = some (.frz od (.dK kvs)) := t.keep a _ upd_same n
      have sa : S3 a = none := put_none n3 a (t.free a n (by rw [upd_same]; exact fun z => nomatch z))
      have F2 : Frz (upd H' a (.dK kvs)) H' a kvs od := ⟨upd_same, ha, fun b ne => (upd_ne ne).symm⟩
      refine ⟨ha, q _ _ _ _ ⟨fun b o hb nb => ?_, fun b h1 h2 => ?_⟩ (F2.isB sa J3) (F2.back r3) p⟩
      · by_cases e : b = a
        · subst e; rw [g] at hb; cases hb; exact upd_same
        · rw [upd_ne e]; exact t.keep b o (by rw [upd_ne e]; exact hb) nb
      · refine put_none n3 b (t.free b h1 ?_)
        by_cases e : b = a
        · subst e; rw [upd_same]; exact fun z => nomatch z
        · rw [upd_ne e]; exact h2
    · refine .inl (key e1 g (show tLc (cI X.K W (iK i)) gg (cT X.K WF at_) (cE X.K WF ae) (own.map (·.2)) σ H Q from lc_imp gw (P := fun Dl acc S2 => ∃ S3 : Sg, S3 Dl = none ∧ S2 = put S3 Dl (.lst acc) ∧ P (.lst acc) S3) I h' (fun _ _ _ _ _ _ z => z.elim) fun Dl acc H' S' t J e ⟨S3, n3, e2, p⟩ => ?_))
      subst e2
      obtain ⟨J3, r3⟩ := untrack n3 J
      exact q _ _ _ _ ⟨t.keep, fun b h1 h2 => put_none n3 b (t.free b h1 h2)⟩ J3 r3 p
  | _ => exact hd.elim
end
end FB

set_option maxHeartbeats 4000000
/-! FB13: the facts of a row, the hook that tells them; promises on frozen data. -/
namespace FB
open PySem PySem.Spec PyProof.Rows L2
/-! ### facts -/
structure Zs (K : PySem.W.Frag) (mg : Str → Option Value) (fn : List He.DefD) (glo free : List Str) (nums : List (Str × Int)) (fds : Nat → FuncData) : Prop where
  fd : ∀ (i : Nat) (d : He.DefD), fn[i]? = some d → FunD K d.name d.qual d.params d.body d.scope (d.dvs K) (d.kws K) (He.fAd K d.at_) (fds i)
  gl : ∀ (i : Nat) (x : Str), glo[i]? = some x → mg x = some (.ref (He.ga K x))
  fr : ∀ (i : Nat) (x : Str), free[i]? = some x → mg x = none
  it : ∀ (i : Nat) (q : Str × Int), nums[i]? = some q → ∃ t, mg q.1 = some (.int q.2 t)
def faOf (glo free : List Str) (nums : List (Str × Int)) : List He.Fa := glo.map .glo ++ free.map .free ++ nums.map fun q => .int q.1 q.2
theorem zs_of {K : PySem.W.Frag} {h : Heap} {mg : Str → Option Value} {fn : List He.DefD} {glo free : List Str} {nums : List (Str × Int)} (X : K.In h) (G : h.Ns mainGlobals mg) (c : He.SaysD (faOf glo free nums) fn K) (hne : fn ≠ []) :
    ∃ fds, Zs K mg fn glo free nums fds := by
  have fact : ∀ f ∈ faOf glo free nums, f.ok K = true := fun f h => He.SaysD.facts c h
  have defs : ∀ i : Nat, ∃ fd : FuncData, ∀ d : He.DefD, fn[i]? = some d → FunD K d.name d.qual d.params d.body d.scope (d.dvs K) (d.kws K) (He.fAd K d.at_) fd := fun i => by
    cases e : fn[i]? with
    | none =>
      obtain ⟨d, l, rfl⟩ := List.exists_cons_of_ne_nil hne
      obtain ⟨fd, _⟩ := He.SaysD.defs c (List.mem_cons_self (a := d) (l := l))
      exact ⟨fd, fun d z => nomatch z⟩
    | some d =>
      obtain ⟨fd, F⟩ := He.SaysD.defs c (List.mem_of_getElem? e)
      exact ⟨fd, fun d' z => by cases z; exact F⟩
  refine ⟨fun i => Classical.choose (defs i), fun i => Classical.choose_spec (defs i), fun i x e => ?_, fun i x e => ?_, fun i q e => ?_⟩
  · exact He.glo_ok X G (fact _ (List.mem_append_left _ (List.mem_append_left _ (List.mem_map.mpr ⟨x, List.mem_of_getElem? e, rfl⟩))))
  · exact He.free_ok X G (fact _ (List.mem_append_left _ (List.mem_append_right _ (List.mem_map.mpr ⟨x, List.mem_of_getElem? e, rfl⟩))))
  · exact He.int_ok X G (fact _ (List.mem_append_right _ (List.mem_map.mpr ⟨q, List.mem_of_getElem? e, rfl⟩)))
/-! the hook: the facts and a test ex of the written part, the interpreter's statics beside -/
abbrev AlF : Type := He.AlD × Bool
def asF (g : Addr → Option Obj) (n : Nat) : List Addr := He.asD g n ++ [cStatics]
def obsF (n : Nat) (fa : List He.Fa) (fn : List He.DefD) (ex : PySem.W.Frag → Bool) (g : Addr → Option Obj) : AlF := (He.obsD fa fn (He.frG g (asF g n)), ex (He.frG g (asF g n)))
def hookF (n : Nat) (fa : List He.Fa) (fn : List He.DefD) (ex : PySem.W.Frag → Bool) : PySem.W.Hook where
  α := AlF
  obs := fun s => obsF n fa fn ex s.heap.get?
  val := fun _ => (He.valD fn, true)
  says := fun _ h => ∃ K : PySem.W.Frag, K.In h ∧ He.SaysD fa fn K ∧ ex K = true
  of := fun _ _ e => ⟨_, He.frG_in, congrArg (fun z : AlF => z.1) e, congrArg (fun z : AlF => z.2) e⟩
  keeps := fun _ _ _ ⟨K, hK, c⟩ k => ⟨K, PySem.W.Frag.In.keeps hK k, c⟩
theorem obsF_eq {n : Nat} {fa : List He.Fa} {fn : List He.DefD} {ex : PySem.W.Frag → Bool} {g : Addr → Option Obj} {s : Shared} (h : ∀ a, g a = s.heap.get? a) : obsF n fa fn ex g = (hookF n fa fn ex).obs s := by
  have e : g = s.heap.get? := funext h
  rw [e] <;> rfl
/-! own errors, told by a test -/
def oexB (K : PySem.W.Frag) (C : Addr) : Bool := (match K.lookup C with
  | some ⟨.type "type", _, .cls cd, sl⟩ => (match cd.mro, sl.toList with
    | .ref C' :: bm, [_, _, _, _, some (.builtin n), _] => C' == C && n == "ValueError.__new__" && !cd.hasDel && cd.hasDict && PySem.HandSPX.refsVE bm
    | _, _ => false)
  | _ => false) && (decide (PySem.W.findIn K (.ref C) "__setattr__" = some (some (.builtin "object.__setattr__"))) && (decide (PySem.W.subIn K (.ref C) (.type "BaseException") = some true) && (decide (PySem.W.typeIn K (.ref C) = some (.type "type")) && PySem.W.keepIn K (.ref C))))
theorem oexB_ok {K : PySem.W.Frag} {C : Addr} (h : oexB K C = true) : OexC K C := by
  unfold oexB at h
  obtain ⟨q, h⟩ := He.ba h
  obtain ⟨h1, h⟩ := He.ba h
  obtain ⟨h2, h⟩ := He.ba h
  obtain ⟨h3, h4⟩ := He.ba h
  refine ⟨?_, of_decide_eq_true h1, of_decide_eq_true h2, of_decide_eq_true h3, h4⟩
  split at q
  · rename_i dd cd sl ho
    split at q
    · rename_i C' bm k0 k1 k2 k3 n k5 hm hs
      simp only [Bool.and_eq_true, beq_iff_eq, Bool.not_eq_true'] at q
      obtain ⟨⟨⟨⟨rfl, rfl⟩, hdel⟩, hd⟩, ht⟩ := q
      obtain ⟨nm, bs, mro, ns, qn, hd', sn, sub, ab, col, del⟩ := cd
      dsimp only at hm hdel hd
      subst hm hdel hd
      have hsl : sl = #[k0, k1, k2, k3, some (.builtin "ValueError.__new__"), k5] := by
        obtain ⟨l⟩ := sl
        simp only at hs
        rw [hs]
      subst hsl
      exact ⟨nm, qn, ns, bs, bm, sn, sub, ab, col, dd, k0, k1, k2, k3, k5, ho, ht⟩
    · cases q
  · cases q
def errB (K : PySem.W.Frag) (C : Addr) (f : Str) : Bool := oexB K C && (xfB K C && (decide (PySem.W.findIn K (.ref C) "__init__" = some (some (.ref (He.ma K C "__init__")))) && (decide (PySem.W.typeIn K (.ref (He.ma K C "__init__")) = some (.type "function")) && decide (PySem.W.findIn K (.ref C) f = some none))))
theorem errB_ok {K : PySem.W.Frag} {C : Addr} {f : Str} (h : errB K C f = true) : Err K C (He.ma K C "__init__") f := by
  unfold errB at h
  obtain ⟨h0, h⟩ := He.ba h
  obtain ⟨h1, h⟩ := He.ba h
  obtain ⟨h2, h⟩ := He.ba h
  obtain ⟨h3, h4⟩ := He.ba h
  exact ⟨oexB_ok h0, xfB_ok h1, of_decide_eq_true h2, of_decide_eq_true h3, of_decide_eq_true h4⟩
def rowB (K : PySem.W.Frag) (R : Addr) : Bool := decide (PySem.W.specialIn K (.ref R) "__getattribute__" = some (some (.builtin "type.__getattribute__"))) && (PySem.W.readsIn K R (.type "type") &&
  (match PySem.W.findCls K (.ref R) (.type "type") "__init__" with
  | some (.val (.builtin n)) => n == "ValueError.__init__"
  | _ => false))
theorem rowB_ok {K : PySem.W.Frag} {R : Addr} (h : rowB K R = true) : RowE K R := by
  unfold rowB at h
  obtain ⟨h0, h⟩ := He.ba h
  obtain ⟨h1, h⟩ := He.ba h
  refine ⟨of_decide_eq_true h0, h1, ?_⟩
  split at h
  · rename_i n e
    rw [e, beq_iff_eq.mp h]
  · cases h
/-- which class's errors a clause takes -/
def exmB (K : PySem.W.Frag) (l : List (Str × Str × Bool)) : Bool := l.all fun q => decide (PySem.W.exmOne K (.ref (He.ga K q.1)) (.ref (He.ga K q.2.1)) = some q.2.2)
theorem exmB_ok {K : PySem.W.Frag} {l : List (Str × Str × Bool)} (h : exmB K l = true) (i : Nat) {q : Str × Str × Bool} (e : l[i]? = some q) : PySem.W.exmOne K (.ref (He.ga K q.1)) (.ref (He.ga K q.2.1)) = some q.2.2 := of_decide_eq_true (List.all_eq_true.mp h q (List.mem_of_getElem? e))
def errsB (K : PySem.W.Frag) (l : List (Str × Str)) : Bool := l.all fun q => errB K (He.ga K q.1) q.2
theorem errsB_ok {K : PySem.W.Frag} {l : List (Str × Str)} (h : errsB K l = true) (i : Nat) {q : Str × Str} (e : l[i]? = some q) : Err K (He.ga K q.1) (He.ma K (He.ga K q.1) "__init__") q.2 := errB_ok (List.all_eq_true.mp h q (List.mem_of_getElem? e))
/-! ### promises on data, all of it frozen -/
abbrev e0 : Sg := fun _ => none
mutual
inductive Rz (S : Sg) : D → D → Prop
  | id (d : D) : Rz S d d
  | tup {ds es : List D} : RzL S ds es → Rz S (.tup ds) (.tup es)
  | lst {ds es : List D} : RzL S ds es → Rz S (.lst ds) (.lst es)
  | dct {ks : List Key} {ds es : List D} : RzL S ds es → Rz S (.dct ks ds) (.dct ks es)
  | pl {p : Addr} {ds es : List D} : S p = some (.lst ds) → RzL S ds es → Rz S (.ptr p) (.lst es)
  | pd {p : Addr} {ks : List Key} {ds es : List D} : S p = some (.dct ks ds) → RzL S ds es → Rz S (.ptr p) (.dct ks es)
inductive RzL (S : Sg) : List D → List D → Prop
  | nil : RzL S [] []
  | cons {d e : D} {ds es : List D} : Rz S d e → RzL S ds es → RzL S (d :: ds) (e :: es)
end
theorem RzL.id {S : Sg} : ∀ (ds : List D), RzL S ds ds
  | [] => .nil
  | d :: ds => .cons (.id d) (RzL.id ds)
section
variable {K : PySem.W.Frag} {H : Hp} {S : Sg}
theorem rep_e0 {v : V} {d : D} (r : Rep K H (Av S) v d) : Rep K H (Av e0) v d := r.mono (fun _ _ h => h) (fun _ _ _ h => ⟨h, rfl⟩) (fun _ _ _ h => ⟨h, rfl⟩) fun _ _ _ h => h
theorem repL_e0 {vs : List V} {ds : List D} (r : RepL K H (Av S) vs ds) : RepL K H (Av e0) vs ds := r.mono (fun _ _ h => h) (fun _ _ _ h => ⟨h, rfl⟩) (fun _ _ _ h => ⟨h, rfl⟩) fun _ _ _ h => h
mutual
theorem Rz.rep (I : IsH K H S) : ∀ {d e : D} {v : V}, Rz S d e → Rep K H (Av S) v d → Rep K H (Av e0) v e
  | _, _, _, .id _, r => rep_e0 r
  | _, _, _, .tup l, .tup s q => .tup s (RzL.rep I l q)
  | _, _, _, .lst l, .lst g n q => .lst g rfl (RzL.rep I l q)
  | _, _, _, .dct l, .dct g n q => .dct g rfl (RzL.rep I l q)
  | _, _, _, .pl e l, r => by
    obtain rfl := rep_ptr r
    obtain ⟨xs, g, q⟩ := I _ _ e
    exact .lst g rfl (RzL.rep I l q)
  | _, _, _, .pd e l, r => by
    obtain rfl := rep_ptr r
    obtain ⟨xs, g, z, q⟩ := I _ _ e
    subst z
    exact .dct (.inl g) rfl (RzL.rep I l q)
theorem RzL.rep (I : IsH K H S) : ∀ {ds es : List D} {vs : List V}, RzL S ds es → RepL K H (Av S) vs ds → RepL K H (Av e0) vs es
  | _, _, _, .nil, .nil => .nil
  | _, _, _, .cons a l, .cons r q => .cons (Rz.rep I a r) (RzL.rep I l q)
end
end
/-- what is the same thing whatever is tracked -/
def flat (d : D) : Prop := ∀ (K : PySem.W.Frag) (H : Hp) (A A' : Addr → Prop) (v : V), Rep K H A v d → Rep K H A' v d
theorem flat_bl (b : Bool) : flat (.bl b) := fun _ _ _ _ _ r => by cases r; exact .bl _
theorem flat_int (i : Int) : flat (.int i) := fun _ _ _ _ _ r => by cases r; exact .int _
theorem flat_str (z : Str) : flat (.str z) := fun _ _ _ _ _ r => by cases r; exact .str _
theorem flat_non : flat .non := fun _ _ _ _ _ r => by cases r; exact .non
theorem flatL : ∀ {ds : List D}, (∀ d ∈ ds, flat d) → ∀ (K : PySem.W.Frag) (H : Hp) (A A' : Addr → Prop) (vs : List V), RepL K H A vs ds → RepL K H A' vs ds
  | [], _, _, _, _, _, _, .nil => .nil
  | d :: ds, h, K, H, A, A', _, .cons r q => .cons (h d List.mem_cons_self K H A A' _ r) (flatL (fun e he => h e (List.mem_cons_of_mem _ he)) K H A A' _ q)
theorem flat_tup {ds : List D} (h : ∀ d ∈ ds, flat d) : flat (.tup ds) := fun K H A A' v r => by
  cases r with
  | tup s q => exact .tup s (flatL h K H A A' _ q)
theorem Tr.all {H H' : Hp} {S S2 : Sg} (t : Tr H e0 H' S2) : Tr H S H' S := ⟨fun a o h _ => t.keep a o h rfl, fun _ h _ => h⟩
theorem IsH.all {K : PySem.W.Frag} {H H' : Hp} {S S2 : Sg} (I : IsH K H S) (t : Tr H e0 H' S2) : IsH K H' S := fun p c e => by
  have kp : ∀ a o, H a = some o → H' a = some o := fun a o h => t.keep a o h rfl
  have m : ∀ {vs : List V} {ds : List D}, RepL K H (Av S) vs ds → RepL K H' (Av S) vs ds := fun r => r.mono (fun a xs h => h.elim (fun h => .inl (kp _ _ h)) fun ⟨o, h⟩ => .inr ⟨o, kp _ _ h⟩) (fun a xs ha h => ⟨kp _ _ h, ha⟩)
    (fun a xs ha h => ⟨h.elim (fun h => .inl (kp _ _ h)) fun ⟨o, h⟩ => .inr ⟨o, kp _ _ h⟩, ha⟩) fun _ _ _ h => kp _ _ h
  have R := I p c e
  cases c with
  | lst ds => obtain ⟨xs, g, r⟩ := R; exact ⟨xs, kp _ _ g, m r⟩
  | dct ks ds => obtain ⟨xs, g, z, r⟩ := R; exact ⟨xs, kp _ _ g, z, m r⟩
  | xd ks ds => obtain ⟨xs, g, z, r⟩ := R; exact ⟨xs, kp _ _ g, z, m r⟩
def aPure (asp : List D → (D → Prop) → Prop) : ASp0 := fun ds S P => ∃ es, RzL S ds es ∧ asp es fun d => flat d ∧ P d S
def pur (asp : List D → (D → Prop) → Prop) : ASp0 := fun ds S P => S = e0 ∧ asp ds fun d => P d e0
theorem pure_ok {P : Program} {w : World} {K : PySem.W.Frag} {mg : Str → Option Value} {base : Heap} {CX : CXT} {k : Nat} {f : Addr} {fd : FuncData} {ps : List Str} {asp : List D → (D → Prop) → Prop}
    (F : FnOk P w K mg base CX k f fd ps (cSp0 K (pur asp))) : FnOk P w K mg base CX k f fd ps (cSp0 K (aPure asp)) :=
  F.imp fun vs H Q E ⟨ds, S, P, I, r, ⟨es, z, a⟩, q⟩ =>
    ⟨es, e0, fun d _ => flat d ∧ P d S, (fun _ _ e => nomatch e), z.rep I r, ⟨rfl, a⟩, fun v H' d S2 t J r2 ⟨fl, p⟩ => q v H' d S t.all (I.all t) (fl _ _ _ _ _ r2) p⟩
end FB

set_option maxHeartbeats 4000000
/-! FB14: comparisons as tests; keywords in another order. -/
namespace FB
open PySem PySem.Spec PyProof.Rows L2
theorem isTrue_eval {M : Model} {A : Around} {E : Value → Shared → Prop} {s : Shared} {env : Env} {l r : Expr} {op : CmpOp} {pos : Pos} {whole : Sem Value} {Q : Bool → Shared → Prop} (hm : behindInMarks op r = false)
    (h : wpAny M A (eval (.Compare l [op] [r] pos) env) (fun c s₁ => wpAny M A (truthy c) Q E s₁) E s) : wpAny M A (isTrue (.Compare l [op] [r] pos) env whole) Q E s := fun Γ p hΓ => by
  have h' := h Γ p hΓ
  simp only [eval_Compare1, markedBehindIn_of_false hm, Sem.wp_bind', Sem.wp_holding, Sem.wp_cmd_standAt, Sem.wp_operate] at h'
  simp only [isTrue_Compare1, markedBehindIn_of_false hm, Sem.wp_bind', Sem.wp_holding, Sem.wp_cmd_standAt, Sem.wp_operate]
  exact Sem.wp_mono M Γ _ (fun a p₁ s₁ h₁ => Sem.wp_mono M Γ _ (fun b _ s₂ h₂ => Sem.wp_mono M Γ _ (fun c p₃ s₃ h₃ => h₃ Γ p₃ hΓ)
    (fun _ _ _ h' => h') _ _ h₂) (fun _ _ _ h' => h') _ _ h₁) (fun _ _ _ h' => h') _ _ h'
theorem t_cmp {X : Cx} {W : WX} {l r : Expr} {op : CmpOp} {pos : Pos} {a : AE} (h : PE X (.Compare l [op] [r] pos) (cE X.K W a)) (hm : behindInMarks op r = false := by first | exact nobehind _ (by decide) (by decide) | with_unfolding_all rfl) : PT X (.Compare l [op] [r] pos) (cT X.K W (aTV a)) := by
  refine ⟨fun pins s σ H Q I ⟨γ, S, P, x, Is, hp, q, qx⟩ => isTrue_eval hm (thn (h.run pins s σ H (fun v H' => ∃ b, v = .bl b ∧ Q b H') I ⟨γ, S, _, x, Is, hp, fun v H1 d S1 t J rr p => ?_, qx⟩) fun c s1 ⟨v, H1, I1, rv, b, e, q1⟩ => ?_)⟩
  · obtain ⟨b, rfl, h2⟩ := asBl_of p
    exact ⟨b, rep_bl rr, q _ _ _ t J h2⟩
  · subst e
    cases rv
    exact wpAny_truthy_bool ⟨H1, I1, q1⟩
theorem t_chain {X : Cx} {W : WX} {a b c : Expr} {aa ab ac : AE} {pos : Pos} {op op' : CmpOp} {f g : Int → Int → Bool} (ho : OpR X (compareOp op) (rI0 fun i j => .bl (f i j))) (ho' : OpR X (compareOp op') (rI0 fun i j => .bl (g i j))) (ha : PE X a (cE X.K W aa)) (hb : PE X b (cE X.K W ab)) (hc : PE X c (cE X.K W ac))
    (hm : lastMarks [op, op'] [b, c] = false := by with_unfolding_all rfl) : PT X (.Compare a [op, op'] [b, c] pos) (cT X.K W (aTV (aChain f g aa ab ac))) :=
  (pt_chain ho ho' ha hb hc hm).imp fun σ H Q ⟨γ, S, P, x, I, h, q, qx⟩ => ⟨γ, S, _, x, I, h, fun v H1 d S1 t1 J1 r1 q1 => ⟨γ, S1, _, x, I.tr t1 J1, q1, fun u H2 e S2 t2 J2 r2 q2 => by
    obtain ⟨i, e1, h1⟩ := asInt_of q2
    obtain ⟨j, e2, h2⟩ := asInt_of h1
    subst e1 e2
    refine ⟨i, j, rep_int r1, rep_int r2, f i j, rfl, ?_⟩
    cases hf : f i j with
    | true =>
      rw [hf] at h2
      refine L2.iteT ⟨γ, S2, _, x, I.tr (t1.trans t2) J2, bcT h2, fun w H3 k S3 t3 J3 r3 q3 => ?_, qx.tr (t1.trans t2)⟩
      obtain ⟨n, e3, h3⟩ := asInt_of q3
      subst e3
      obtain ⟨b, e4, h4⟩ := asBl_of h3
      cases e4
      exact ⟨j, n, rep_int r2, rep_int r3, _, rfl, q _ _ _ ((t1.trans t2).trans t3) J3 h4⟩
    | false =>
      rw [hf] at h2
      refine L2.iteF ⟨_, rfl, q _ _ _ (t1.trans t2) J2 (bcF h2)⟩, qx.tr t1⟩, qx⟩
/-- keywords in the parameters' order or another -/
def perm {α : Type} (is : List Nat) (l : List α) : List α := is.filterMap fun i => l[i]?
theorem vals_get : ∀ {vs : List V} {us : List Value} {i : Nat}, Vals vs us → (vs[i]?).isSome = (us[i]?).isSome ∧ ∀ v u, vs[i]? = some v → us[i]? = some u → RelV v u
  | _, _, _, .nil => ⟨by simp, fun v u h => by simp at h⟩
  | _, _, 0, .cons r _ => ⟨by simp, fun v u h1 h2 => by simp at h1 h2; subst h1 h2; exact r⟩
  | _, _, i + 1, .cons _ t => by simpa using vals_get (i := i) t
theorem perm_vals {vs : List V} {us : List Value} (h : Vals vs us) : ∀ is : List Nat, Vals (perm is vs) (perm is us)
  | [] => .nil
  | i :: is => by
    have ih := perm_vals h is
    obtain ⟨h1, h2⟩ := vals_get (i := i) h
    unfold perm at ih ⊢
    cases e1 : vs[i]? with
    | none =>
      have e2 : us[i]? = none := by rw [e1] at h1; cases e : us[i]? <;> simp_all
      rw [List.filterMap_cons_none (by simpa using e1), List.filterMap_cons_none (by simpa using e2)]
      exact ih
    | some v =>
      obtain ⟨u, e2⟩ : ∃ u, us[i]? = some u := by rw [e1] at h1; cases e : us[i]? <;> simp_all
      rw [List.filterMap_cons_some (by simpa using e1), List.filterMap_cons_some (by simpa using e2)]
      exact .cons (h2 v u e1 e2) ih
theorem repL_get2 {K : PySem.W.Frag} {H : Hp} {A : Addr → Prop} : ∀ {vs : List V} {us : List D} {i : Nat}, RepL K H A vs us → (vs[i]?).isSome = (us[i]?).isSome ∧ ∀ v u, vs[i]? = some v → us[i]? = some u → Rep K H A v u
  | _, _, _, .nil => ⟨by simp, fun v u h => by simp at h⟩
  | _, _, 0, .cons r _ => ⟨by simp, fun v u h1 h2 => by simp at h1 h2; subst h1 h2; exact r⟩
  | _, _, i + 1, .cons _ t => by simpa using repL_get2 (i := i) t
theorem perm_rep {K : PySem.W.Frag} {H : Hp} {A : Addr → Prop} {vs : List V} {us : List D} (h : RepL K H A vs us) : ∀ is : List Nat, RepL K H A (perm is vs) (perm is us)
  | [] => .nil
  | i :: is => by
    have ih := perm_rep h is
    obtain ⟨h1, h2⟩ := repL_get2 (i := i) h
    unfold perm at ih ⊢
    cases e1 : vs[i]? with
    | none =>
      have e2 : us[i]? = none := by rw [e1] at h1; cases e : us[i]? <;> simp_all
      rw [List.filterMap_cons_none (by simpa using e1), List.filterMap_cons_none (by simpa using e2)]
      exact ih
    | some v =>
      obtain ⟨u, e2⟩ : ∃ u, us[i]? = some u := by rw [e1] at h1; cases e : us[i]? <;> simp_all
      rw [List.filterMap_cons_some (by simpa using e1), List.filterMap_cons_some (by simpa using e2)]
      exact .cons (h2 v u e1 e2) ih
theorem turnP (m : Nat) (is : List Nat) : Turn' m (perm is) (perm is) (perm is) := ⟨fun h => perm_vals h is, fun h => perm_rep h is⟩
end FB

set_option maxHeartbeats 4000000
/-! FB15: list(text). -/
namespace FB
open PySem PySem.Spec PyProof.Rows L2
theorem vals_of_get : ∀ {vs : List V} {us : List Value}, vs.length = us.length → (∀ (j : Nat) (v : V) (u : Value), vs[j]? = some v → us[j]? = some u → RelV v u) → Vals vs us
  | [], [], _, _ => .nil
  | [], _ :: _, h, _ => by simp at h
  | _ :: _, [], h, _ => by simp at h
  | v :: vs, u :: us, h, g => .cons (g 0 v u rfl rfl) (vals_of_get (by simpa using h) fun j v' u' h1 h2 => g (j + 1) v' u' (by simpa using h1) (by simpa using h2))
theorem call_listS {X : Cx} (hc : X.calm = true) : CallR X (.type "list") (fun xs H Q => ∃ z : Str, xs = [V.str z] ∧ z.length ≤ sizeLine ∧ ∀ l, H l = none → Q (.ref l) (upd H l (.lst (z.cps.toList.map fun c => V.str ⟨#[c]⟩)))) := by
  intro pins s σ H xs us Q I r h
  obtain ⟨z, rfl, hz, q⟩ := h
  obtain ⟨u, rfl, rx⟩ := vals1 r
  obtain ⟨t, rfl⟩ := rx
  refine call_list_str (I.ok.hd hc) z t (fun h' tk acc' c' hk hS' hacc => ?_) hz
  have hv : Vals (z.cps.toList.map fun c => V.str ⟨#[c]⟩) acc'.toList := by
    refine vals_of_get (by rw [List.length_map, Array.length_toList, Array.length_toList]; exact hacc.1.symm) fun j v u h1 h2 => ?_
    rw [List.getElem?_map, Array.getElem?_toList] at h1
    obtain ⟨c, w, e1, e2⟩ := hacc.2 j u (by rw [← Array.getElem?_toList]; exact h2)
    rw [e1] at h1
    cases h1
    subst e2
    exact ⟨w, rfl⟩
  refine ⟨.ref s.heap.objs.size, _, I.laid (t' := tk) hk (Nat.le_refl _) (show ObjOk X.prog X.w _ h' _ (.lst _) from ⟨?_, acc'.toList, c', hv, ?_⟩), rfl, q _ (I.hok.fresh (Nat.le_refl _))⟩
  · rw [List.length_map, Array.length_toList]; exact hz
  · rw [hS']
theorem sg_rep {K : PySem.W.Frag} {H : Hp} {A : Addr → Prop} : ∀ l : List Nat, RepL K H A (l.map fun c => V.str ⟨#[c]⟩) (l.map fun c => D.str ⟨#[c]⟩)
  | [] => .nil
  | c :: l => .cons (.str _) (sg_rep l)
def bListS : List D → Sg → (D → Sg → Prop) → Prop := fun ds S P => one (fun d => asStr d fun z => z.length ≤ 1000000 ∧ P (.lst (sg z)) S) ds
def bListSN : List D → Sg → (D → Sg → Prop) → Prop := fun ds S P => one (fun d => asStr d fun z => z.length ≤ 1000000 ∧ ∀ p, S p = none → P (.ptr p) (put S p (.lst (sg z)))) ds
theorem cs_listS {K : PySem.W.Frag} : CallS K (fun xs H Q => ∃ z : Str, xs = [V.str z] ∧ z.length ≤ sizeLine ∧ ∀ l, H l = none → Q (.ref l) (upd H l (.lst (z.cps.toList.map fun c => V.str ⟨#[c]⟩)))) bListS := fun H S xs ds P Q I r h q => by
  obtain ⟨d, e1, h1⟩ := one_of h
  obtain ⟨z, e2, hz, h2⟩ := asStr_of h1
  subst e1 e2
  obtain ⟨v, e3, r1⟩ := repL_one r
  obtain rfl := rep_str r1
  exact ⟨z, e3, szm hz, new_lst q I (sg_rep _) h2⟩
theorem cs_listSN {K : PySem.W.Frag} : CallS K (fun xs H Q => ∃ z : Str, xs = [V.str z] ∧ z.length ≤ sizeLine ∧ ∀ l, H l = none → Q (.ref l) (upd H l (.lst (z.cps.toList.map fun c => V.str ⟨#[c]⟩)))) bListSN := fun H S xs ds P Q I r h q => by
  obtain ⟨d, e1, h1⟩ := one_of h
  obtain ⟨z, e2, hz, h2⟩ := asStr_of h1
  subst e1 e2
  obtain ⟨v, e3, r1⟩ := repL_one r
  obtain rfl := rep_str r1
  exact ⟨z, e3, szm hz, new_lstN q I (sg_rep _) h2⟩
end FB

set_option maxHeartbeats 1000000
/-! FQ: pure laws: places, slices, walks, ==. -/
namespace FB
open PySem PySem.Spec PyProof.Rows L2
theorem bc_of {b : Bool} {p q : Prop} (h1 : b = true → p) (h2 : b = false → q) : bc b p q := ⟨h1, h2⟩
theorem atD_nat {ds : List D} {j : Nat} {d : D} {k : D → Prop} (h : ds[j]? = some d) (hk : k d) : atD ds (j : Int) k := ⟨d, atI_nat h, hk⟩
theorem atI_int {α : Type} {ds : List α} {i : Int} {d : α} (h0 : 0 ≤ i) (h : ds[i.toNat]? = some d) : atI ds i = some d := by
  have e : i = (i.toNat : Int) := by omega
  rw [e]; exact atI_nat h
theorem atI_map {α β : Type} {f : α → β} {ds : List α} {i : Int} {d : α} (h : atI ds i = some d) : atI (ds.map f) i = some (f d) := by
  unfold atI at h ⊢
  rw [List.length_map]
  cases e : ixN ds.length i with
  | none => rw [e] at h; cases h
  | some j =>
    rw [e] at h
    show (ds.map f)[j]? = _
    rw [List.getElem?_map, show ds[j]? = some d from h]
    rfl
theorem ixN_int {n : Nat} {i : Int} (h0 : 0 ≤ i) (h : i < n) : ixN n i = some i.toNat := by
  unfold ixN; rw [if_pos h0, if_pos h]
/-! slices -/
theorem cutD_all (ds : List D) : cutD ds none none = ds := by
  unfold cutD
  rw [HT.sIx_none, HT.sIx_none, List.drop_zero, Nat.sub_zero, List.take_length]
theorem cutD_take (ds : List D) (n : Nat) : cutD ds none (some (n : Int)) = ds.take n := by
  unfold cutD
  rw [HT.sIx_none, HT.sIx_nat, List.drop_zero, Nat.sub_zero, List.take_eq_take_iff]
  omega
theorem cutD_drop (ds : List D) (n : Nat) : cutD ds (some (n : Int)) none = ds.drop n := by
  unfold cutD
  rw [HT.sIx_none, HT.sIx_nat]
  by_cases h : n ≤ ds.length
  · rw [Nat.min_eq_left h, List.take_of_length_le (by rw [List.length_drop]; omega)]
  · rw [Nat.min_eq_right (by omega), List.drop_eq_nil_of_le (Nat.le_refl _), List.drop_eq_nil_of_le (by omega), List.take_nil]
theorem cutS_take (z : Str) (n : Nat) : cutS z none (some (n : Int)) = ⟨(z.cps.toList.take n).toArray⟩ := by
  unfold cutS
  rw [HT.sIx_none, HT.sIx_nat, List.drop_zero, Nat.sub_zero]
  congr 2
  rw [List.take_eq_take_iff]
  show min (min n z.cps.size) z.cps.toList.length = _
  rw [Array.length_toList]
  omega
theorem cutS_drop (z : Str) (n : Nat) : cutS z (some (n : Int)) none = ⟨(z.cps.toList.drop n).toArray⟩ := by
  unfold cutS
  rw [HT.sIx_none, HT.sIx_nat]
  congr 2
  have hl : z.length = z.cps.toList.length := by show z.cps.size = _; rw [Array.length_toList]
  rw [hl]
  by_cases h : n ≤ z.cps.toList.length
  · rw [Nat.min_eq_left h, List.take_of_length_le (by rw [List.length_drop]; omega)]
  · rw [Nat.min_eq_right (by omega), List.drop_eq_nil_of_le (Nat.le_refl _), List.drop_eq_nil_of_le (by omega), List.take_nil]
/-! walks -/
theorem for_inv {g : AG} {body : ATS} {G : Sg → Prop} {Da : AEnds} (Iv : List D → Ga → Sg → Prop) (hG : ∀ r γ S, Iv r γ S → G S) (fin : ∀ γ S, Iv [] γ S → Da.nx γ S)
    (step : ∀ d r γ S (nx : Ga → Sg → Prop), Iv (d :: r) γ S → (∀ γ' S', Iv r γ' S' → nx γ' S') → g d γ S fun γ1 S1 => body { Da with nx := nx, ct := nx, bk := Da.nx } γ1 S1) :
    ∀ ds γ S, Iv ds γ S → aForGo g body G Da ds γ S
  | [], γ, S, h => ⟨hG _ _ _ h, fin _ _ h⟩
  | d :: ds, γ, S, h => ⟨hG _ _ _ h, step d ds γ S (fun γ' S' => aForGo g body G Da ds γ' S') h fun γ' S' h' => for_inv Iv hG fin step ds γ' S' h'⟩
/-- a comprehension without a test, in a changing state -/
theorem lc_inv {g : AG} {elt : AE} {γ0 : Ga} {G : Sg → Prop} {Dl : Addr} {P : List D → Sg → Prop} (Iv : List D → List D → Sg → Prop) (hG : ∀ r acc S, Iv r acc S → G S) (fin : ∀ acc S, Iv [] acc S → P acc S)
    (step : ∀ d r acc S (Q : D → Sg → Prop), Iv (d :: r) acc S → (∀ e S3, acc.length < 100000 → S3 Dl = some (.lst acc) → Iv r (acc ++ [e]) (put S3 Dl (.lst (acc ++ [e]))) → Q e S3) → g d γ0 S fun γ1 S1 => elt γ1 S1 Q (fun _ _ _ => False)) :
    ∀ ds acc S, Iv ds acc S → (∀ d γ S k k', (∀ γ' S', k γ' S' → k' γ' S') → g d γ S k → g d γ S k') → aLcGo g aYes elt γ0 G Dl P ds acc S
  | [], acc, S, h, _ => ⟨hG _ _ _ h, fin _ _ h⟩
  | d :: ds, acc, S, h, mono => ⟨hG _ _ _ h, mono _ _ _ _ _ (fun γ' S' z => ⟨fun _ => z, fun z => nomatch z⟩) (step d ds acc S _ h fun e S3 h1 h2 h3 => ⟨h1, h2, lc_inv Iv hG fin step ds _ _ h3 mono⟩)⟩
theorem mono_name {i : Nat} : ∀ (d : D) (γ : Ga) (S : Sg) (k k' : Ga → Sg → Prop), (∀ γ' S', k γ' S' → k' γ' S') → agName i d γ S k → agName i d γ S k' := fun d γ S k k' m h => m _ _ h
/-- .. whose items leave the state as it is -/
theorem lc_go {i : Nat} {elt : AE} {γ0 : Ga} {G : Sg → Prop} {Dl : Addr} {P : List D → Sg → Prop} {S : Sg} (f : D → D) (hG : ∀ acc, G (put S Dl (.lst acc))) :
    ∀ (ds acc : List D), (∀ d ∈ ds, ∀ acc Q, Q (f d) (put S Dl (.lst acc)) → elt (γ0.set i (some d)) (put S Dl (.lst acc)) Q (fun _ _ _ => False)) → acc.length + ds.length ≤ 100000 →
      P (acc ++ ds.map f) (put S Dl (.lst (acc ++ ds.map f))) → aLcGo (agName i) aYes elt γ0 G Dl P ds acc (put S Dl (.lst acc))
  | [], acc, _, _, p => ⟨hG _, by simpa using p⟩
  | d :: ds, acc, h, hl, p => by
    rw [List.length_cons] at hl
    refine ⟨hG _, fun _ => h d List.mem_cons_self acc _ ⟨by omega, put_same, ?_⟩, fun z => nomatch z⟩
    rw [put_put]
    refine lc_go f hG ds (acc ++ [f d]) (fun e he => h e (List.mem_cons_of_mem _ he)) (by rw [List.length_append, List.length_singleton]; omega) ?_
    rw [List.append_assoc]
    exact p
theorem lc_map {i : Nat} {elt : AE} {γ0 : Ga} {P : D → Sg → Prop} {S : Sg} {ds : List D} (f : D → D) (h : ∀ d ∈ ds, ∀ Dl acc Q, S Dl = none → Q (f d) (put S Dl (.lst acc)) → elt (γ0.set i (some d)) (put S Dl (.lst acc)) Q (fun _ _ _ => False))
    (hl : ds.length ≤ 100000) (p : P (.lst (ds.map f)) S) : ∀ Dl, S Dl = none → aLcGo (agName i) aYes elt γ0 gT Dl (lcFin P Dl) ds [] (put S Dl (.lst [])) :=
  fun Dl n => lc_go f (fun _ => trivial) ds [] (fun d hd acc Q q => h d hd Dl acc Q n q) (by simpa using hl) ⟨S, n, rfl, p⟩
/-- .. with a test -/
theorem lc_goF {i : Nat} {t : AT} {elt : AE} {γ0 : Ga} {G : Sg → Prop} {Dl : Addr} {P : List D → Sg → Prop} {S : Sg} (b : D → Bool) (f : D → D) (hG : ∀ acc, G (put S Dl (.lst acc))) :
    ∀ (ds acc : List D), (∀ d ∈ ds, ∀ acc Q, Q (b d) (put S Dl (.lst acc)) → t (γ0.set i (some d)) (put S Dl (.lst acc)) Q (fun _ _ _ => False)) → (∀ d ∈ ds, b d = true → ∀ acc Q, Q (f d) (put S Dl (.lst acc)) → elt (γ0.set i (some d)) (put S Dl (.lst acc)) Q (fun _ _ _ => False)) → acc.length + ds.length ≤ 100000 →
      P (acc ++ (ds.filter b).map f) (put S Dl (.lst (acc ++ (ds.filter b).map f))) → aLcGo (agName i) t elt γ0 G Dl P ds acc (put S Dl (.lst acc))
  | [], acc, _, _, _, p => ⟨hG _, by simpa using p⟩
  | d :: ds, acc, h, h2, hl, p => by
    rw [List.length_cons] at hl
    refine ⟨hG _, h d List.mem_cons_self acc _ (bc_of (fun z => h2 d List.mem_cons_self z acc _ ⟨by omega, put_same, ?_⟩) fun z => ⟨put_same, ?_⟩)⟩
    · rw [put_put]
      refine lc_goF b f hG ds (acc ++ [f d]) (fun e he => h e (List.mem_cons_of_mem _ he)) (fun e he => h2 e (List.mem_cons_of_mem _ he)) (by rw [List.length_append, List.length_singleton]; omega) ?_
      rw [List.filter_cons_of_pos z, List.map_cons] at p
      rw [List.append_assoc]
      exact p
    · refine lc_goF b f hG ds acc (fun e he => h e (List.mem_cons_of_mem _ he)) (fun e he => h2 e (List.mem_cons_of_mem _ he)) (by omega) ?_
      rw [List.filter_cons_of_neg (by rw [z]; exact fun z => nomatch z)] at p
      exact p
theorem lc_mapF {i : Nat} {t : AT} {elt : AE} {γ0 : Ga} {P : D → Sg → Prop} {S : Sg} {ds : List D} (b : D → Bool) (f : D → D) (h : ∀ d ∈ ds, ∀ Dl acc Q, S Dl = none → Q (b d) (put S Dl (.lst acc)) → t (γ0.set i (some d)) (put S Dl (.lst acc)) Q (fun _ _ _ => False))
    (h2 : ∀ d ∈ ds, b d = true → ∀ Dl acc Q, S Dl = none → Q (f d) (put S Dl (.lst acc)) → elt (γ0.set i (some d)) (put S Dl (.lst acc)) Q (fun _ _ _ => False))
    (hl : ds.length ≤ 100000) (p : P (.lst ((ds.filter b).map f)) S) : ∀ Dl, S Dl = none → aLcGo (agName i) t elt γ0 gT Dl (lcFin P Dl) ds [] (put S Dl (.lst [])) :=
  fun Dl n => lc_goF b f (fun _ => trivial) ds [] (fun d hd acc Q q => h d hd Dl acc Q n q) (fun d hd z acc Q q => h2 d hd z Dl acc Q n q) (by simpa using hl) ⟨S, n, rfl, p⟩
/-! == -/
mutual
def toPy : D → PyData
  | .non => .none
  | .bl b => .bool b
  | .int i => .int i
  | .str x => .str x
  | .tup ds => .tuple (toPyL ds)
  | .lst ds => .list (toPyL ds)
  | .dct _ _ => .none
  | .scr _ => .none
  | .ptr _ => .none
def toPyL : List D → List PyData
  | [] => []
  | d :: ds => toPy d :: toPyL ds
end
mutual
/-- what == is asked of: no dicts, nothing tracked, nested less than n deep -/
def okP : Nat → D → Bool
  | _, .non => true
  | _, .bl _ => true
  | _, .int _ => true
  | _, .str x => PyData.strOk x
  | n + 1, .tup ds => okPL n ds
  | n + 1, .lst ds => okPL n ds
  | _, _ => false
def okPL : Nat → List D → Bool
  | _, [] => true
  | n, d :: ds => okP n d && okPL n ds
end
mutual
theorem okP_py {S : Sg} : ∀ {n : Nat} {d : D}, okP n d = true → Py S d (toPy d) ∧ (toPy d).canLay0 = true ∧ (toPy d).depth ≤ n
  | n, .non, _ => ⟨.non, rfl, Nat.zero_le _⟩
  | n, .bl _, _ => ⟨.bl _, rfl, Nat.zero_le _⟩
  | n, .int _, _ => ⟨.int _, rfl, Nat.zero_le _⟩
  | n, .str x, h => ⟨.str x, by simpa [okP, toPy, PyData.canLay0] using h, Nat.zero_le _⟩
  | n + 1, .tup ds, h => by
    obtain ⟨h1, h2, h3⟩ := okPL_py (S := S) (n := n) (ds := ds) (by simpa [okP] using h)
    exact ⟨by rw [toPy]; exact .tup h1, by rw [toPy, PyData.canLay0]; exact h2, by rw [toPy, PyData.depth]; omega⟩
  | n + 1, .lst ds, h => by
    obtain ⟨h1, h2, h3⟩ := okPL_py (S := S) (n := n) (ds := ds) (by simpa [okP] using h)
    exact ⟨by rw [toPy]; exact .lst h1, by rw [toPy, PyData.canLay0]; exact h2, by rw [toPy, PyData.depth]; omega⟩
  | 0, .tup _, h => by simp [okP] at h
  | 0, .lst _, h => by simp [okP] at h
  | _, .dct _ _, h => by simp [okP] at h
  | _, .scr _, h => by simp [okP] at h
  | _, .ptr _, h => by simp [okP] at h
theorem okPL_py {S : Sg} : ∀ {n : Nat} {ds : List D}, okPL n ds = true → PyL S ds (toPyL ds) ∧ PyData.canLayAll0 (toPyL ds) = true ∧ PyData.depthAll (toPyL ds) ≤ n
  | n, [], _ => ⟨.nil, rfl, Nat.zero_le _⟩
  | n, d :: ds, h => by
    obtain ⟨a, b⟩ : okP n d = true ∧ okPL n ds = true := by simpa [okPL] using h
    obtain ⟨h1, h2, h3⟩ := okP_py (S := S) a
    obtain ⟨g1, g2, g3⟩ := okPL_py (S := S) b
    exact ⟨by rw [toPyL]; exact .cons h1 g1, by rw [toPyL, PyData.canLayAll0, h2, g2]; rfl, by rw [toPyL, PyData.depthAll]; omega⟩
end
theorem eqA_of {S : Sg} {d e : D} {k : Bool → Prop} (hd : okP 64 d = true) (he : okP 64 e = true) (h : k (PyData.eqv (toPy d) (toPy e))) : eqA S d e k := by
  obtain ⟨a1, a2, a3⟩ := okP_py (S := S) hd
  obtain ⟨b1, b2, b3⟩ := okP_py (S := S) he
  exact ⟨_, _, a1, b1, by unfold SeqAt.shaped; rw [a2, decide_eq_true a3]; rfl, by unfold SeqAt.shaped; rw [b2, decide_eq_true b3]; rfl, h⟩
theorem okPL_ints (n : Nat) : ∀ l : List Int, okPL n (l.map D.int) = true
  | [] => by simp [okPL]
  | i :: l => by rw [List.map_cons, okPL, okPL_ints n l]; cases n <;> rfl
theorem eqvAll_ints : ∀ l m : List Int, PyData.eqvAll (toPyL (l.map D.int)) (toPyL (m.map D.int)) = decide (l = m)
  | [], [] => by simp [toPyL, PyData.eqvAll]
  | [], _ :: _ => by simp [toPyL, PyData.eqvAll]
  | _ :: _, [] => by simp [toPyL, PyData.eqvAll]
  | i :: l, j :: m => by
    rw [List.map_cons, List.map_cons, toPyL, toPyL, PyData.eqvAll, eqvAll_ints l m, toPy, toPy, PyData.eqv]
    by_cases h1 : i = j <;> by_cases h2 : l = m <;> simp [h1, h2]
/-- two tuples of ints -/
theorem eqA_ints {S : Sg} {l m : List Int} {k : Bool → Prop} (h : k (decide (l = m))) : eqA S (.tup (l.map .int)) (.tup (m.map .int)) k :=
  eqA_of (okPL_ints 63 l) (okPL_ints 63 m) (by rw [toPy, toPy, PyData.eqv, eqvAll_ints]; exact h)
theorem eqA_intsL {S : Sg} {l m : List Int} {k : Bool → Prop} (h : k (decide (l = m))) : eqA S (.lst (l.map .int)) (.lst (m.map .int)) k :=
  eqA_of (okPL_ints 63 l) (okPL_ints 63 m) (by rw [toPy, toPy, PyData.eqv, eqvAll_ints]; exact h)
/-- == [] -/
theorem eqA_nilL {S : Sg} {ds : List D} {k : Bool → Prop} (hd : okPL 63 ds = true) (h : k (ds.isEmpty)) : eqA S (.lst ds) (.lst []) k :=
  eqA_of hd rfl (by
    rw [toPy, toPy, PyData.eqv]
    cases ds with
    | nil => simpa [toPyL, PyData.eqvAll] using h
    | cons d ds => simpa [toPyL, PyData.eqvAll] using h)
end FB

set_option maxHeartbeats 4000000
/-! FB16: xs[::-1]; dict of pairs; max, min of lists and tuples. -/
namespace FB
open PySem PySem.Spec PyProof.Rows L2
/-! ### e[::-1] -/
theorem fm_congr {α β : Type} {f g : α → Option β} : ∀ {l : List α}, (∀ a ∈ l, f a = g a) → l.filterMap f = l.filterMap g
  | [], _ => rfl
  | a :: l, h => by
    rw [List.filterMap_cons, List.filterMap_cons, h a List.mem_cons_self, fm_congr fun b hb => h b (List.mem_cons_of_mem _ hb)]
section
variable {prog : Program} {w : World} {A : Around} {E : Value → Shared → Prop} {s : Shared}
theorem sliceApplied_rev {sl : Addr} {vl vu vs : Value} {n : Nat} {Q : Int × Int × Nat → Shared → Prop} (hs : s.heap.IsSliceOf sl vl vu vs) (pl : IsPart vl none) (pu : IsPart vu none) (ps : IsPart vs (some (-1)))
    (h : Q (((n : Int) - 1), -1, n) s) : wpAny (model prog w) A (Builtin.Slice.sliceApplied (.ref sl) (pure (n : Int))) Q E s := by
  obtain ⟨os, hos, hcs, hds⟩ := id hs
  unfold Builtin.Slice.sliceApplied Builtin.Slice.sliceFields
  refine wpAny_bind (wpAny_bind (wpAny_field hos hds (x := vl) rfl (wpAny_bind (wpAny_field hos hds (x := vu) rfl (wpAny_bind (wpAny_field hos hds (x := vs) rfl (wpAny_pure ?_)))))))
  refine wpAny_bind (HT.slicePart_ ps ?_)
  show wpAny _ _ (if ((-1 : Int) == 0) = true then _ else _) _ _ s
  rw [if_neg (by decide)]
  refine wpAny_bind (HT.slicePart_ pl (wpAny_bind (HT.slicePart_ pu (wpAny_bind (wpAny_pure ?_)))))
  show wpAny _ _ (pure (((n : Int) - 1), (-1 : Int), Builtin.Slice.slicePlaces ((n : Int) - 1) (-1) (-1))) _ _ s
  have e : Builtin.Slice.slicePlaces ((n : Int) - 1) (-1) (-1) = n := by
    unfold Builtin.Slice.slicePlaces
    rw [if_neg (by decide), show (-(-1 : Int)) = 1 from rfl, Int.ediv_one]
    split <;> omega
  rw [e]
  exact wpAny_pure h
theorem pick_rev (xs : Array Value) : ((List.range xs.size).filterMap fun (m : Nat) => xs[(((xs.size : Int) - 1) + (m : Int) * (-1)).toNat]?).toArray = xs.toList.reverse.toArray := by
  have h := PySem.W.krv_pick xs
  unfold slicePick at h
  rw [PySem.W.krv_bounds] at h
  have h2 : ((sliceRange ((xs.size : Int) - 1) (-1) (-1)).filterMap (xs[·]?)).toArray = xs.toList.reverse.toArray := h
  rw [PySem.W.krv_sliceRange, List.filterMap_map] at h2
  rw [← h2]
  congr 1
  refine fm_congr fun m hm => ?_
  have := List.mem_range.mp hm
  show _ = xs[xs.size - 1 - m]?
  congr 1
  omega
theorem getItem_tuple_rev {t sl : Addr} {items : Array Value} {vl vu vs : Value} {Q : Value → Shared → Prop} (ht : IsTup s.heap t items) (hs : s.heap.IsSliceOf sl vl vu vs) (pl : IsPart vl none) (pu : IsPart vu none) (ps : IsPart vs (some (-1)))
    (h : Q (.ref s.heap.objs.size) { s with heap := s.heap.push { cls := .type "tuple", data := .seq items.toList.reverse.toArray } })
    (hsz : items.size ≤ sizeLine) : wpAny (model prog w) A (getItem (.ref t) (.ref sl)) Q E s := by
  have htake : sizeOk (.seq items.toList.reverse.toArray) := by
    show items.toList.reverse.toArray.size ≤ sizeLine
    rw [List.size_toArray, List.length_reverse, Array.length_toList]
    exact hsz
  obtain ⟨os, hos, hcs, hds⟩ := id hs
  have hTs : s.TypeIs (.ref sl) "slice" := ⟨os, hos, hcs⟩
  unfold getItem
  try with_reducible refine wpAny_holding ?_
  first | refine wpAny_bind (wpAny_pure ?_) | skip
  refine wpAny_bind (wpAny_sequenceKey ht.typeIs (by decide) ?_)
  refine wpAny_bind (wpAny_callSpecial?_slot (name := Str.ofString "__getitem__") ht.typeIs PyProof.Rows.slot_tuple_getitem
    (wpAny_call_entry PyProof.Rows.slot_tuple_getitem ht.typeIs entry_tuple_getitem ?_ (args_tuple_getitem _ _)))
  show wpAny _ _ (Builtin.Tuple.tupleItemsOf (.ref t) >>= _) _ _ s
  refine wpAny_bind (tupleItemsOf_ ht ?_)
  refine wpAny_bind (wpAny_typeOf hTs ?_)
  rw [if_pos (by decide)]
  refine wpAny_bind (sliceApplied_rev hs pl pu ps ?_)
  have hno : ¬ ((((items.size : Int) - 1) == 0 && (-1 : Int) == 1 && items.size == items.size) = true) := by
    intro q
    rw [Bool.and_eq_true, Bool.and_eq_true] at q
    exact absurd q.1.2 (by decide)
  show wpAny _ _ (if (((items.size : Int) - 1) == 0 && (-1 : Int) == 1 && items.size == items.size) = true then _ else _) _ _ s
  rw [if_neg hno, pick_rev]
  first
    | exact wpAny_bind (m := Builtin.Tuple.tupleExact _) (wpAny_newObj_type (wpAny_pure ⟨_, rfl, wpAny_pure h⟩) htake)
    | exact wpAny_bind (m := Builtin.Tuple.tupleExact _) (wpAny_newObj_type (wpAny_bind (wpAny_pure (wpAny_pure ⟨_, rfl, wpAny_pure h⟩))) htake)
    | exact wpAny_bind (wpAny_bind (m := Builtin.Tuple.tupleExact _) (wpAny_newObj_type (wpAny_pure (wpAny_pure ⟨_, rfl, wpAny_pure h⟩)) htake))
    | exact wpAny_bind (wpAny_bind (m := Builtin.Tuple.tupleExact _) (wpAny_newObj_type (wpAny_pure ⟨_, rfl, wpAny_pure h⟩) htake))
end
def revS (z : Str) : Str := ⟨z.cps.toList.reverse.toArray⟩
theorem revS_len (z : Str) : (revS z).length = z.length := by
  show z.cps.toList.reverse.toArray.size = z.cps.size
  rw [List.size_toArray, List.length_reverse, Array.length_toList]
theorem picked_revS (z : Str) : ((Builtin.Str.strSliceIndices none none (-1) z.length).filterMap (z.cps[·]?)) = z.cps.toList.reverse := by
  rw [picked_rev, List.filterMap_map]
  refine List.ext_getElem? fun i => ?_
  have e : ((fun x => z.cps[x]?) ∘ fun k => z.length - 1 - k) = fun k => z.cps[z.length - 1 - k]? := rfl
  rw [e]
  have hm : (List.range z.length).filterMap (fun k => z.cps[z.length - 1 - k]?) = (List.range z.length).map fun k => z.cps.getD (z.length - 1 - k) 0 := by
    rw [← List.filterMap_eq_map]
    refine fm_congr fun m hm => ?_
    have := List.mem_range.mp hm
    have hl : z.length - 1 - m < z.cps.size := by show z.cps.size - 1 - m < z.cps.size; change m < z.cps.size at this; omega
    simp [Array.getElem?_eq_getElem hl, Array.getD, hl]
  rw [hm, List.getElem?_map]
  by_cases hi : i < z.length
  · have hz : z.length = z.cps.toList.length := by rw [Array.length_toList]; rfl
    rw [List.getElem?_range hi, List.getElem?_reverse (by rw [← hz]; exact hi), ← hz]
    have hl : z.length - 1 - i < z.cps.size := by show z.cps.size - 1 - i < z.cps.size; change i < z.cps.size at hi; omega
    rw [Array.getElem?_toList, Array.getElem?_eq_getElem hl]
    simp [Array.getD, hl]
  · have hz : z.length = z.cps.toList.length := by rw [Array.length_toList]; rfl
    rw [List.getElem?_eq_none (by rw [List.length_range]; omega), List.getElem?_eq_none (by rw [List.length_reverse, ← hz]; omega)]
    rfl
section
variable {X : Cx} {W : WX} {e a b : Expr} {ae aa ab : AE} {ar : AA} {p pos p1 p2 p3 : Pos}
def RvR (X : Cx) (r : V → Hp → VK → Prop) : Prop :=
  ∀ (pins : List (Addr × Obj)) (s : Shared) (σ : L2.St) (H : Hp) (x : V) (v vl vu vs : Value) (sl : Addr) (Q : VK), Inv X pins σ H s → RelV x v → s.heap.IsSliceOf sl vl vu vs → IsPart vl none → IsPart vu none → IsPart vs (some (-1)) → r x H Q →
    ∃ T id, typeLookup (.type T) "__getitem__" = pure (some (.builtin id)) ∧ s.TypeIs v T ∧ wpAny (model X.prog X.w) X.A (getItem v (.ref sl)) (EP X pins σ Q) X.xe s
theorem RvR.or {r r' : V → Hp → VK → Prop} (h : RvR X r) (h' : RvR X r') : RvR X fun x H Q => r x H Q ∨ r' x H Q := fun pins s σ H x v vl vu vs sl Q I rx hs pl pu ps q =>
  q.elim (h pins s σ H x v vl vu vs sl Q I rx hs pl pu ps) (h' pins s σ H x v vl vu vs sl Q I rx hs pl pu ps)
theorem rv_list : RvR X fun x H Q => ∃ a xs, x = .ref a ∧ SqL X.K H a xs ∧ ∀ p, H p = none → Q (.ref p) (upd H p (.lst xs.reverse)) := by
  intro pins s σ H x v vl vu vs sl Q I rx hs pl pu ps ⟨a, xs, ex, hx, q⟩
  subst ex
  cases rx
  obtain ⟨its, r, ht, hz⟩ := I.list hx
  have hlen := r.length
  refine ⟨"list", _, PySem.slot_list_getitem.lookup, ht.isList.typeIs, ?_⟩
  refine wpAny_getItem_list_slice ht.isList hs pl pu ps (by decide) ?_ (by rw [List.size_toArray]; omega)
  rw [PySem.W.krv_pick]
  refine ⟨.ref _, _, I.laid (t' := s.toks) (o := .lst xs.reverse) (fun b ob q => Heap.get?_push_of_some _ q) (Nat.le_refl _) ?_, rfl, q _ (I.hok.fresh (Nat.le_refl _))⟩
  exact ⟨by rw [List.length_reverse]; exact hz, _, 0, r.reverse, Heap.get?_push_size _ rfl⟩
theorem rv_tup : RvR X fun x H Q => ∃ a xs, x = .ref a ∧ SqT X.K H a xs ∧ ∀ p, H p = none → Q (.ref p) (upd H p (.tup xs.reverse)) := by
  intro pins s σ H x v vl vu vs sl Q I rx hs pl pu ps ⟨a, xs, ex, hx, q⟩
  subst ex
  cases rx
  obtain ⟨its, r, ht, hz⟩ := I.tuple hx
  have hlen := r.length
  refine ⟨"tuple", _, PyProof.Rows.slot_tuple_getitem.lookup, ht.typeIs, ?_⟩
  refine getItem_tuple_rev ht hs pl pu ps ?_ (by rw [List.size_toArray]; omega)
  refine ⟨.ref _, _, I.laid (t' := s.toks) (o := .tup xs.reverse) (fun b ob q => Heap.get?_push_of_some _ q) (Nat.le_refl _) ?_, rfl, q _ (I.hok.fresh (Nat.le_refl _))⟩
  exact ⟨by rw [List.length_reverse]; exact hz, _, r.reverse, IsTup.new _ _⟩
theorem rv_str : RvR X fun x H Q => ∃ z, x = .str z ∧ z.length ≤ sizeLine ∧ Q (.str (revS z)) H := by
  intro pins s σ H x v vl vu vs sl Q I rx hs pl pu ps ⟨z, ex, hz, q⟩
  subst ex
  obtain ⟨t, rfl⟩ := rx
  obtain ⟨os, hos, hcs, hds⟩ := hs
  obtain ⟨l, rfl, el⟩ := IsPart.raw pl
  obtain ⟨u, rfl, eu⟩ := IsPart.raw pu
  obtain ⟨k, rfl, ek⟩ := IsPart.raw ps
  obtain rfl : l = none := by cases l; rfl; simp at el
  obtain rfl : u = none := by cases u; rfl; simp at eu
  obtain ⟨⟨i, tk⟩, rfl⟩ : ∃ q, k = some q := by cases k; simp at ek; exact ⟨_, rfl⟩
  obtain rfl : i = -1 := by simpa using ek
  refine ⟨"str", _, F.slot_str_getitem.lookup, typeIs_str _ _ _, ?_⟩
  refine wpAny_getItem_str_slice (l := none) (u := none) (st := some (-1, tk)) ⟨os, hos, hcs, hds⟩ rfl ?_
  show Made.post (if ((-1 : Int) == 1 && (Builtin.Str.strSliceIndices none none (-1) z.length).length == z.length) = true then Made.val (.str z t)
    else Made.str ⟨((Builtin.Str.strSliceIndices none none (-1) z.length).filterMap (z.cps[·]?)).toArray⟩) (EP X pins σ Q) s
  rw [if_neg (by simp), picked_revS]
  exact ⟨by show (revS z).length ≤ sizeLine; rw [revS_len]; exact hz, .str _, H, I.tok _, ⟨_, rfl⟩, q⟩
theorem pe_rev {r : V → Hp → VK → Prop} {te : TE} {k : Nat} (hr : RvR X r) (he : PE X e te) : PE X (.Subscript e (.Slice none none (some (.UnaryOp .USub (.Constant (.int 1) k p1) p2)) p3) pos) (fun σ H Q => te σ H fun x H1 => r x H1 Q) := by
  refine ⟨fun pins s σ H Q I h => ?_⟩
  refine Subscript_ (thn (he.run pins s σ H _ I h) fun v s1 ⟨x, H1, I1, r1, q1⟩ => ?_)
  have hst : PO X (some (.UnaryOp .USub (.Constant (.int 1) k p1) p2)) (tPart (tUn (rU fun i => .int (-i)) (tC (.int 1)))) := po_some (pe_un un_neg pe_int)
  refine wpAny_Slice (thn (po_none.run pins s1 σ H1 (fun o H2 => o = none ∧ H2 = H1) I1 ⟨rfl, rfl⟩) fun vl s2 ⟨l, H2, I2, pl, el, e2⟩ => ?_)
  subst el e2
  refine thn (po_none.run pins s2 σ H2 (fun o H3 => o = none ∧ H3 = H2) I2 ⟨rfl, rfl⟩) fun vu s3 ⟨u, H3, I3, pu, eu, e3⟩ => ?_
  subst eu e3
  refine thn (hst.run pins s3 σ H3 (fun o H4 => o = some (-1) ∧ H4 = H3) I3 ⟨1, rfl, -1, rfl, rfl, rfl⟩) fun vs s4 ⟨o, H4, I4, ps, eo, e4⟩ => ?_
  subst eo e4
  have I5 : Inv X pins σ H4 { s4 with heap := s4.heap.push { cls := .type "slice", data := .fields #[vl, vu, vs] } } := I4.kept (t' := s4.toks) fun b ob q => Heap.get?_push_of_some _ q
  obtain ⟨T, id, hT, ht, hg⟩ := hr pins { s4 with heap := s4.heap.push { cls := .type "slice", data := .fields #[vl, vu, vs] } } σ H4 x v vl vu vs s4.heap.objs.size Q I5 r1 (Heap.IsSliceOf.new ..) pl pu ps q1
  show wpAny (model X.prog X.w) X.A (subscriptTail e (.Slice none none (some (.UnaryOp .USub (.Constant (.int 1) k p1) p2)) p3) v (.ref s4.heap.objs.size)) (EP X pins σ Q) X.xe { s4 with heap := s4.heap.push { cls := .type "slice", data := .fields #[vl, vu, vs] } }
  exact tail_any (ops := [v, .ref s4.heap.objs.size]) ht hT hg (by with_unfolding_all rfl)
def rvD (S : Sg) (P : D → Sg → Prop) : D → Prop
  | .str z => z.length ≤ 1000000 ∧ P (.str (revS z)) S
  | .tup ds => P (.tup ds.reverse) S
  | .lst ds => P (.lst ds.reverse) S
  | .scr ds => P (.lst ds.reverse) S
  | .ptr p => ∃ ds, S p = some (.lst ds) ∧ P (.lst ds.reverse) S
  | _ => False
def aRv (a : AE) : AE := fun γ S P x => a γ S (fun d S1 => rvD S1 P d) x
theorem a_rv {k : Nat} (he : PE X e (cE X.K W ae)) : PE X (.Subscript e (.Slice none none (some (.UnaryOp .USub (.Constant (.int 1) k p1) p2)) p3) pos) (cE X.K W (aRv ae)) :=
  (pe_rev (RvR.or (RvR.or rv_list rv_tup) rv_str) he).imp fun σ H Q ⟨γ, S, P, x, I, h, q, qx⟩ => ⟨γ, S, _, x, I, h, fun v H1 d S1 t J r p => by
    have q' := q.tr t
    cases r with
    | str z => exact .inr ⟨z, rfl, szm p.1, q' _ _ _ _ (.refl _ _) J (.str _) p.2⟩
    | @tup a1 v1 d1 s1 q1 => exact .inl (.inr ⟨a1, v1, rfl, s1, new_tup q' J q1.reverse p⟩)
    | lst g1 n1 q1 => exact .inl (.inl ⟨_, _, rfl, SqL.of g1, new_lst q' J q1.reverse p⟩)
    | ptr p' =>
      obtain ⟨ds, e0, h0⟩ := p
      obtain ⟨v1, g1, q1⟩ := J _ _ e0
      exact .inl (.inl ⟨_, _, rfl, SqL.of g1, new_lst q' J q1.reverse h0⟩)
    | non => exact p.elim
    | bl => exact p.elim
    | int => exact p.elim
    | dct => exact p.elim
    | scr g1 q1 => exact .inl (.inl ⟨_, _, rfl, g1.sq, new_lst q' J q1.reverse p⟩), qx⟩
end
end FB

set_option maxHeartbeats 4000000
/-! FB17: max, min, sum of lists and tuples; dict of pairs. -/
namespace FB
open PySem PySem.Spec PyProof.Rows L2
section
variable {prog : Program} {w : World} {A : Around} {E : Value → Shared → Prop} {s : Shared} {t : Addr}
theorem min_tup {xs : Array (Int × Tok)} {Q : Value → Shared → Prop} (hh : A.handled = none) (ht : s.heap.IsTuple t (intItems xs)) (hne : 0 < xs.size)
    (h : ∀ v h' tk, (intItems xs)[argBest (fun i j => decide (numAt xs i < numAt xs j)) (xs.size - 1)]? = some v → (∀ b o, s.heap.get? b = some o → h'.get? b = some o) → Q v { s with heap := h', toks := tk }) :
    wpAny (model prog w) A (call (.builtin "min") [.ref t]) Q E s := by
  obtain ⟨o, ho, hc, n, hd⟩ := id ht
  have hne2 : t ≠ s.heap.objs.size := Nat.ne_of_lt (Heap.lt_size ho)
  have W := Walks.tuple (prog := prog) (w := w) (A := A.in1) hh s.heap.objs.size t hne2 (intItems xs)
  refine call_min_walk (wpAny_pyIter_tuple ht ?_)
  refine ⟨s.heap.objs.size, _, _, _, _, _, _, rfl, W, ⟨⟨_, Heap.get?_push_size _ rfl, rfl, rfl⟩, ht.at fun o e => Heap.get?_push_of_some _ e⟩, fun b hb => ?_, by simpa [intItems] using hne, CmpOf.ints_lt (numAt xs) (fun _ _ => intItems_at), fun v h' tk hP hk => ?_⟩
  · rcases List.mem_cons.mp hb with rfl | hb
    · exact Heap.lt_size (Heap.get?_push_size _ rfl)
    · obtain rfl := List.mem_singleton.mp hb
      exact Heap.lt_size (Heap.get?_push_of_some _ ho)
  · exact h v h' tk (by simpa [intItems] using hP) fun b o e => hk b o (fun hm => by
      obtain rfl := List.mem_singleton.mp hm
      exact absurd (Heap.lt_size e) (Nat.lt_irrefl _)) (Heap.get?_push_of_some _ e)
end
section
variable {X : Cx} {W : WX}
def rMinT (K : PySem.W.Frag) : List V → Hp → VK → Prop := fun vs H Q => ∃ (a : Addr) (ns : List Int), vs = [V.ref a] ∧ SqT K H a (ns.map V.int) ∧ 0 < ns.length ∧ ∀ m, m ∈ ns → (∀ y, y ∈ ns → m ≤ y) → Q (.int m) H
def rSumT (K : PySem.W.Frag) : List V → Hp → VK → Prop := fun vs H Q => ∃ (a : Addr) (ns : List Int), vs = [V.ref a] ∧ SqT K H a (ns.map V.int) ∧ Q (.int ns.sum) H
theorem cr_minT (hc : X.calm = true) : CallR X (.builtin "min") (rMinT X.K) := by
  intro pins s σ H vs us Q I r h
  obtain ⟨a, ns, rfl, hs, hne, q⟩ := h
  obtain ⟨its, rv, hl, _⟩ := I.tuple hs
  rw [Vals.ref1 r]
  have hi := rv.ints
  obtain ⟨xs, e⟩ := hi.allInts.items
  have hn : numsOf (intItems xs).toList = ns := by rw [← e]; exact hi.numsOf
  rw [nums_intItems] at hn
  subst hn
  rw [e] at hl
  have hsz : 0 < xs.size := by simpa using hne
  obtain ⟨o, h1, h2, n, h3⟩ := hl
  refine min_tup (I.ok.hd hc) ⟨o, h1, h2, n, h3⟩ hsz fun v h' tk hv hk => ?_
  obtain ⟨t, rfl⟩ := intItems_at hv
  obtain ⟨h1, h2⟩ := argBest_lt (numAt xs) (xs.size - 1)
  refine ⟨.int _, H, I.kept hk, ⟨_, rfl⟩, q _ ?_ fun a ha => ?_⟩
  · rw [numAt_eq]; exact PySem.getD_mem (by rw [List.length_map, Array.length_toList]; omega)
  · obtain ⟨j, hj, rfl⟩ := mem_getD ha
    rw [List.length_map, Array.length_toList] at hj
    rw [← numAt_eq]; exact h2 j (by omega)
theorem cr_sumT (hc : X.calm = true) : CallR X (.builtin "sum") (rSumT X.K) := by
  intro pins s σ H vs us Q I r h
  obtain ⟨a, ns, rfl, hs, q⟩ := h
  obtain ⟨its, rv, hl, _⟩ := I.tuple hs
  rw [Vals.ref1 r]
  have hi := rv.ints
  obtain ⟨xs, e⟩ := hi.allInts.items
  have hn : numsOf (intItems xs).toList = ns := by rw [← e]; exact hi.numsOf
  rw [nums_intItems] at hn
  rw [e] at hl
  obtain ⟨o, h1, h2, n, h3⟩ := hl
  refine PySem.W.ktm_sumG (I.ok.hd hc) ⟨o, h1, h2, n, h3⟩ fun h' tk t' hk => ?_
  rw [preSum_eq, List.take_of_length_le (by simp), hn]
  exact ⟨.int _, H, I.kept hk, ⟨_, rfl⟩, q⟩
theorem CallR.or {f : Value} {r r' : List V → Hp → VK → Prop} (h : CallR X f r) (h' : CallR X f r') : CallR X f fun xs H Q => r xs H Q ∨ r' xs H Q := fun pins s σ H xs us Q I rv q => q.elim (h pins s σ H xs us Q I rv) (h' pins s σ H xs us Q I rv)
/-- ints, in a list or a tuple -/
def asInts (S : Sg) (d : D) (k : List Int → Prop) : Prop := asSeq S d fun es => ∃ ns : List Int, es = ns.map D.int ∧ k ns
theorem asInts_of {K : PySem.W.Frag} {H : Hp} {S : Sg} {v : V} {d : D} {k : List Int → Prop} (I : IsH K H S) (r : Rep K H (Av S) v d) (h : asInts S d k) : ∃ a ns, v = .ref a ∧ (SqL K H a (List.map V.int ns) ∨ SqT K H a (ns.map V.int)) ∧ k ns := by
  obtain ⟨a, xs, ds, e, g, q, ns, e2, h2⟩ := asSeq_of I r h
  subst e e2
  have := repL_ints q
  subst this
  exact ⟨a, ns, rfl, g.imp SqL.of _root_.id, h2⟩
def bMinA : List D → Sg → (D → Sg → Prop) → Prop := fun ds S P => one (fun d => asInts S d fun ns => 0 < ns.length ∧ ∀ m, m ∈ ns → (∀ y, y ∈ ns → m ≤ y) → P (.int m) S) ds
def bMaxL : List D → Sg → (D → Sg → Prop) → Prop := fun ds S P => one (fun d => asLst S d fun es => ∃ ns : List Int, es = ns.map D.int ∧ 0 < ns.length ∧ ∀ m, m ∈ ns → (∀ y, y ∈ ns → y ≤ m) → P (.int m) S) ds
def bSumA : List D → Sg → (D → Sg → Prop) → Prop := fun ds S P => one (fun d => asInts S d fun ns => P (.int ns.sum) S) ds
theorem call_minA (hc : X.calm = true) : CallR X (.builtin "min") (fun xs H Q => rMin X.K xs H Q ∨ rMinT X.K xs H Q) := CallR.or (cr_min hc) (cr_minT hc)
theorem call_sumA (hc : X.calm = true) : CallR X (.builtin "sum") (fun xs H Q => rSum X.K xs H Q ∨ rSumT X.K xs H Q) := CallR.or (cr_sum hc) (cr_sumT hc)
theorem cs_minA {K : PySem.W.Frag} : CallS K (fun xs H Q => rMin K xs H Q ∨ rMinT K xs H Q) bMinA := fun H S xs ds P Q I r h q => by
  obtain ⟨d, e1, h1⟩ := one_of h
  subst e1
  obtain ⟨v, e2, r1⟩ := repL_one r
  obtain ⟨a, ns, e3, g, hl, h2⟩ := asInts_of I r1 h1
  subst e2 e3
  exact g.elim (fun g => .inl ⟨a, ns, rfl, g, hl, fun m h3 h4 => q _ _ _ _ (.refl _ _) I (.int _) (h2 m h3 h4)⟩) fun g => .inr ⟨a, ns, rfl, g, hl, fun m h3 h4 => q _ _ _ _ (.refl _ _) I (.int _) (h2 m h3 h4)⟩
theorem cs_sumA {K : PySem.W.Frag} : CallS K (fun xs H Q => rSum K xs H Q ∨ rSumT K xs H Q) bSumA := fun H S xs ds P Q I r h q => by
  obtain ⟨d, e1, h1⟩ := one_of h
  subst e1
  obtain ⟨v, e2, r1⟩ := repL_one r
  obtain ⟨a, ns, e3, g, h2⟩ := asInts_of I r1 h1
  subst e2 e3
  exact g.elim (fun g => .inl ⟨a, ns, rfl, g, q _ _ _ _ (.refl _ _) I (.int _) h2⟩) fun g => .inr ⟨a, ns, rfl, g, q _ _ _ _ (.refl _ _) I (.int _) h2⟩
theorem cs_maxL {K : PySem.W.Frag} : CallS K (rMax K) bMaxL := fun H S xs ds P Q I r h q => by
  obtain ⟨d, e1, h1⟩ := one_of h
  subst e1
  obtain ⟨v, e2, r1⟩ := repL_one r
  obtain ⟨a1, zs, es, e3, g1, q1, ns, e4, hl, h2⟩ := asLst_of I r1 h1
  subst e2 e3 e4
  have := repL_ints q1
  subst this
  exact ⟨a1, ns, rfl, SqL.of g1, hl, fun m h3 h4 => q _ _ _ _ (.refl _ _) I (.int _) (h2 m h3 h4)⟩
/-! ### dict(pairs) -/
def prs : List Key → List D → List D
  | k :: ks, v :: vs => .tup [keyD k, v] :: prs ks vs
  | _, _ => []
theorem prs_rep {K : PySem.W.Frag} {H : Hp} {S : Sg} : ∀ {ks : List Key} {vs : List D} {xs : List V}, ks.length = vs.length → RepL K H (Av S) xs (prs ks vs) → ∃ (ps : List Addr) (kvs : List (Key × V)), xs = ps.map V.ref ∧ Paired (fun p kv => SqT K H p [kV kv.1, kv.2]) ps kvs ∧ kvs.map (·.1) = ks ∧ RepL K H (Av S) (kvs.map (·.2)) vs
  | [], [], _, _, r => by cases r; exact ⟨[], [], rfl, .nil, rfl, .nil⟩
  | [], _ :: _, _, h, _ => by simp at h
  | _ :: _, [], _, h, _ => by simp at h
  | k :: ks, v :: vs, xs, h, r => by
    have r' : RepL K H (Av S) xs (.tup [keyD k, v] :: prs ks vs) := r
    cases r' with
    | cons r1 r2 =>
      obtain ⟨ps, kvs, e1, p, e2, q⟩ := prs_rep (by simpa using h) r2
      obtain ⟨a, ys, e3, s, q2⟩ := rep_tup r1
      obtain ⟨u, w, e4, q3, q4⟩ := repL_two q2
      subst e1 e2 e3 e4
      have e5 : u = kV k := by
        cases k with
        | inl i => exact rep_int q3
        | inr z => exact rep_str q3
      subst e5
      exact ⟨a :: ps, (k, w) :: kvs, rfl, .cons s p, rfl, .cons q4 q⟩
def bDict : List D → Sg → (D → Sg → Prop) → Prop := fun ds S P => one (fun d => asLst S d fun es => ∃ ks vs, es = prs ks vs ∧ ks.length = vs.length ∧ ks.Nodup ∧ P (.dct ks vs) S) ds
theorem cs_dict {K : PySem.W.Frag} : CallS K (fun xs H Q => ∃ (a : Addr) (ps : List Addr) (kvs : List (Key × V)), xs = [.ref a] ∧ SqL K H a (ps.map V.ref) ∧ Paired (fun p kv => SqT K H p [kV kv.1, kv.2]) ps kvs ∧
    ∀ p, H p = none → Q (.ref p) (upd H p (.dK (mergeK [] kvs)))) bDict := fun H S xs ds P Q I r h q => by
  obtain ⟨d, e1, h1⟩ := one_of h
  subst e1
  obtain ⟨v, e2, r1⟩ := repL_one r
  obtain ⟨a1, zs, es, e3, g1, q1, ks, vs, e4, hl, hn, h2⟩ := asLst_of I r1 h1
  subst e2 e3 e4
  obtain ⟨ps, kvs, e5, p, e6, q2⟩ := prs_rep hl q1
  subst e5 e6
  refine ⟨a1, ps, kvs, rfl, SqL.of g1, p, fun b n => ?_⟩
  rw [mergeK_nd _ _ hn (fun _ _ => rfl), List.nil_append]
  exact q _ _ _ _ (tr_new n I) (is_new n I) (.dct (.inl upd_same) (I.none_of n) (q2.tr I (tr_new n I))) h2

end
end FB

set_option maxHeartbeats 4000000
/-! FB18: list(range(n)). -/
namespace FB
open PySem PySem.Spec PyProof.Rows L2
section
variable {X : Cx} {W : WX} {e : Expr} {ae : AE} {p p2 pos pos2 : Pos}
theorem rgV_rep {K : PySem.W.Frag} {H : Hp} {A : Addr → Prop} (a b : Int) : RepL K H A (rgV a b) (rg a (b - a).toNat) := by
  unfold rgV rg
  generalize List.range (b - a).toNat = l
  induction l with
  | nil => exact .nil
  | cons i l ih => exact .cons (.int _) ih
def aLstRg (a : AE) : AE := fun γ S P x => a γ S (fun d S1 => asInt d fun n => (-1000000 ≤ n ∧ n ≤ 1000000) ∧ P (.lst (rg 0 n.toNat)) S1) x
def aLstRgN (a : AE) : AE := fun γ S P x => a γ S (fun d S1 => asInt d fun n => (-1000000 ≤ n ∧ n ≤ 1000000) ∧ ∀ p, S1 p = none → P (.ptr p) (put S1 p (.lst (rg 0 n.toNat)))) x
theorem a_lstRg (hc : X.calm = true) (hg : Gl X "list") (hm : X.mg "list" = none) (hg2 : Gl X "range") (hm2 : X.mg "range" = none) (ha : PE X e (cE X.K W ae)) (na : starEach [e] X.env = (false, eval e X.env) :: starEach [] X.env := by rfl)
    (nb : starEach [.Call (.Name "range" p2) [e] [] pos2] X.env = (false, eval (.Call (.Name "range" p2) [e] [] pos2) X.env) :: starEach [] X.env := by rfl) : PE X (.Call (.Name "list" p) [.Call (.Name "range" p2) [e] [] pos2] [] pos) (cE X.K W (aLstRg ae)) :=
  (pe_listRg hc hg hm (prg_1 hg2 hm2 ha na) nb).imp fun σ H Q ⟨γ, S, P, x, I, h, q, qx⟩ => ⟨γ, S, _, x, I, h, fun v H1 d S1 t J r p => by
    obtain ⟨n, e1, hb, p1⟩ := asInt_of p
    subst e1
    refine ⟨n, rep_int r, ⟨by omega, by omega, by omega, by omega, by omega⟩, new_lst (q.tr t) J (ds := rg 0 n.toNat) ?_ p1⟩
    have := rgV_rep (K := X.K) (H := H1) (A := Av S1) 0 n
    rw [Int.sub_zero] at this
    exact this, qx⟩
theorem a_lstRgN (hc : X.calm = true) (hg : Gl X "list") (hm : X.mg "list" = none) (hg2 : Gl X "range") (hm2 : X.mg "range" = none) (ha : PE X e (cE X.K W ae)) (na : starEach [e] X.env = (false, eval e X.env) :: starEach [] X.env := by rfl)
    (nb : starEach [.Call (.Name "range" p2) [e] [] pos2] X.env = (false, eval (.Call (.Name "range" p2) [e] [] pos2) X.env) :: starEach [] X.env := by rfl) : PE X (.Call (.Name "list" p) [.Call (.Name "range" p2) [e] [] pos2] [] pos) (cE X.K W (aLstRgN ae)) :=
  (pe_listRg hc hg hm (prg_1 hg2 hm2 ha na) nb).imp fun σ H Q ⟨γ, S, P, x, I, h, q, qx⟩ => ⟨γ, S, _, x, I, h, fun v H1 d S1 t J r p => by
    obtain ⟨n, e1, hb, p1⟩ := asInt_of p
    subst e1
    refine ⟨n, rep_int r, ⟨by omega, by omega, by omega, by omega, by omega⟩, new_lstN (q.tr t) J (ds := rg 0 n.toNat) ?_ p1⟩
    have := rgV_rep (K := X.K) (H := H1) (A := Av S1) 0 n
    rw [Int.sub_zero] at this
    exact this, qx⟩
end
end FB

set_option maxHeartbeats 4000000
/-! FB19: isinstance(e, C) of a caught own error. -/
namespace FB
open PySem PySem.Spec PyProof.Rows L2
section
open PySem.W
variable {prog : Program} {w : World} {A : Around} {E : Value → Shared → Prop} {s : Shared} {K : Frag} {x D : Addr} {ox od : Obj}
theorem clsE {Q : Option Value → Shared → Prop} (hga : findIn K (.ref D) "__getattribute__" = some (some (.builtin "BaseException.__getattribute__"))) (hgt : findIn K (.ref D) "__getattr__" = some none) (hsub : subIn K (.ref D) (.type "BaseException") = some true)
    (hdct : hasDictIn K D = true) (ha : findIn K (.ref D) "__class__" = some (some (.builtin "object.__class__")))
    (hn : specialIn K (.builtin "object.__class__") "__get__" = some (some (.builtin "getset_descriptor.__get__"))) (htk : takesIn K (.builtin "object.__class__") = some true) (hm : mroIn K D (.type "object") = some true)
    (X : K.In s.heap) (I : InstAt s.heap x ox D (some od)) (h : Q (some (.ref D)) { s with toks := s.toks + 1 }) : wpAny (model prog w) A (getAttr? (.ref x) "__class__") Q E s := by
  have hf : findObj K D (some od) "__class__" = some (.bind (.builtin "getset_descriptor.__get__") (.builtin "object.__class__")) := findObj_data (by obtain ⟨cd, hc, _⟩ := any_some hdct; rw [hc]; rfl) ha hn htk
  obtain ⟨hp, g, d, t, os⟩ := s
  have L0 := I.type (M := model prog w)
  have L1 := looks_findIn (M := model prog w) X hga
  have L2 := looks_findIn (M := model prog w) X hgt
  have L3 := looks_find (M := model prog w) X I hf
  have sub : Looks (model prog w) hp (isInstance (.ref x) (.type "BaseException")) true := L0.andThen (looks_subIn X hsub)
  have hx0 : (false && onTheHeap (Value.builtin "BaseException.__getattribute__")) = false := rfl
  have hx2 : (Value.builtin "BaseException.__getattribute__" == Value.builtin "object.__getattribute__") = false := by decide +kernel
  have hx1 : (onTheHeap (Value.ref D) && Value.builtin "BaseException.__getattribute__" == Value.builtin "object.__getattribute__") = false := by rw [hx2]; rfl
  unfold getAttr? getAttrBy? getAttrBy
  refine wpAny_bind (wpAny_mkText (wpAny_bind (wpAny_attempt (wpAny_holding (wpAny_bind (L0.at (wpAny_bind (L1.at ?_))))))))
  show wpAny _ _ (if (onTheHeap (Value.ref D) && Value.builtin "BaseException.__getattribute__" == Value.builtin "object.__getattribute__") = true then _ else _) _ _ _
  rw [hx1, if_neg Bool.false_ne_true]
  unfold getAttrByItsOwn hookBefore
  refine wpAny_bind ?_
  rw [if_pos (show onTheHeap (Value.ref D) = true from rfl)]
  refine L2.at ?_
  refine wpAny_bind (wpAny_attempt (wpAny_holding ?_))
  unfold callGetattribute
  rw [hx0, if_neg Bool.false_ne_true]
  unfold boundAndCalled
  rw [PySem.F.excAttr_ValueError.ga.bind (.ref x)]
  refine wpAny_bind (wpAny_pure ?_)
  show wpAny _ _ (call (.builtin "BaseException.__getattribute__") [.ref x, .str "__class__" t]) _ _ _
  refine wpAny_call (codeAny_call_builtin PySem.F.excAttr_ValueError.ga.plain PySem.F.entry_bexc_ga ?_)
  refine @check_slot (model prog w) _ _ ⟨hp, g, d, t + 1, os⟩ "BaseException.__getattribute__" "BaseException" "__getattribute__" (.ref x) [.str "__class__" t] [] _ (by decide +kernel) (by decide +kernel) sub (PySem.F.args_bexc_ga (.ref x) (.str "__class__" t)) ?_
  unfold Builtin.«object.__getattribute__»
  refine wpAny_bind (wpAny_of_eq (a := ((Value.ref x : Value), [Value.str "__class__" t])) (by first | rfl | (simp only [slotArgs]; rfl)) ?_)
  refine wpAny_bind (wpAny_pure (wpAny_bind (L0.at (wpAny_bind (L3.at ?_)))))
  show wpAny _ _ (holding [Value.builtin "object.__class__"] (call (.builtin "getset_descriptor.__get__") [.builtin "object.__class__", .ref x, .ref D]) >>= ret) _ _ _
  refine wpAny_bind (wpAny_holding (wpAny_call (class_get (s := ⟨hp, g, d, t + 1, os⟩) (ox := ox) (od := some od) X I hm ?_)))
  refine wpAny_pure ?_
  show wpAny _ _ (handedOut (.ref D)) _ _ _
  rw [handedOut_of (v := .ref D) rfl]
  first
    | exact wpAny_pure (wpAny_pure h)
    | exact wpAny_pure h
    | exact wpAny_pure (wpAny_bind (wpAny_pure (wpAny_pure h)))
theorem kitE (hga : findIn K (.ref D) "__getattribute__" = some (some (.builtin "BaseException.__getattribute__"))) (hgt : findIn K (.ref D) "__getattr__" = some none) (hsub : subIn K (.ref D) (.type "BaseException") = some true) (hdct : hasDictIn K D = true) (ha : findIn K (.ref D) "__class__" = some (some (.builtin "object.__class__")))
    (hn : specialIn K (.builtin "object.__class__") "__get__" = some (some (.builtin "getset_descriptor.__get__"))) (htk : takesIn K (.builtin "object.__class__") = some true) (hm : mroIn K D (.type "object") = some true) :
    KitX K (.ref x) (.ref D) (fun h => InstAt h x ox D (some od)) where
  ty := fun _ _ _ I => I.type
  it := fun _ _ X _ => by
    obtain ⟨cdD, hcD, _⟩ := any_some hdct
    unfold clsIn at hcD
    split at hcD
    · rename_i c' d' cd' sl' ho
      intro A' Q' E' s' k q
      unfold isType loadHead
      exact wpAny_bind (wpAny_loadPart (k _ _ (X _ _ ho)) (wpAny_pure q))
    · cases hcD
  ne := fun h tp dd its n sl X htp => by
    obtain ⟨cdD, hcD, _⟩ := any_some hdct
    refine Bool.eq_false_iff.mpr fun q => ?_
    have e : D = tp := Value.ref.inj (beq_iff_eq.mp q)
    subst e
    unfold clsIn at hcD
    split at hcD
    · rename_i c' d' cd' sl' ho
      have z := (X _ _ ho).symm.trans htp
      cases z
    · cases hcD
  ca := fun X I k => clsE hga hgt hsub hdct ha hn htk hm X I k
end
/-- what isinstance asks of an own error's class -/
structure IsE (K : PySem.W.Frag) (C H : Addr) (b : Bool) : Prop where
  xf : XfC K C
  ha : PySem.W.findIn K (.ref C) "__class__" = some (some (.builtin "object.__class__"))
  hn : PySem.W.specialIn K (.builtin "object.__class__") "__get__" = some (some (.builtin "getset_descriptor.__get__"))
  ht : PySem.W.takesIn K (.builtin "object.__class__") = some true
  hm : PySem.W.mroIn K C (.type "object") = some true
  kit : PySem.W.kitOne K (.ref C) (.ref H) = some b
def isB1 (K : PySem.W.Frag) (C H : Addr) (b : Bool) : Bool := xfB K C && (decide (PySem.W.findIn K (.ref C) "__class__" = some (some (.builtin "object.__class__"))) && (decide (PySem.W.specialIn K (.builtin "object.__class__") "__get__" = some (some (.builtin "getset_descriptor.__get__"))) &&
  (decide (PySem.W.takesIn K (.builtin "object.__class__") = some true) && (decide (PySem.W.mroIn K C (.type "object") = some true) && decide (PySem.W.kitOne K (.ref C) (.ref H) = some b)))))
theorem isB1_ok {K : PySem.W.Frag} {C H : Addr} {b : Bool} (h : isB1 K C H b = true) : IsE K C H b := by
  obtain ⟨h1, h⟩ := Bool.and_eq_true_iff.mp h
  obtain ⟨h2, h⟩ := Bool.and_eq_true_iff.mp h
  obtain ⟨h3, h⟩ := Bool.and_eq_true_iff.mp h
  obtain ⟨h4, h⟩ := Bool.and_eq_true_iff.mp h
  obtain ⟨h5, h6⟩ := Bool.and_eq_true_iff.mp h
  exact ⟨xfB_ok h1, of_decide_eq_true h2, of_decide_eq_true h3, of_decide_eq_true h4, of_decide_eq_true h5, of_decide_eq_true h6⟩
def isB (K : PySem.W.Frag) (l : List (Str × Str × Bool)) : Bool := l.all fun q => isB1 K (He.ga K q.1) (He.ga K q.2.1) q.2.2
theorem isB_ok {K : PySem.W.Frag} {l : List (Str × Str × Bool)} (h : isB K l = true) (i : Nat) {q : Str × Str × Bool} (e : l[i]? = some q) : IsE K (He.ga K q.1) (He.ga K q.2.1) q.2.2 := isB1_ok (List.all_eq_true.mp h q (List.mem_of_getElem? e))
section
variable {X : Cx} {W : WX}
/-- a class's name -/
theorem a_cls {x : Str} {C : Addr} {pos : Pos} (hg : Gl X x) (hm : X.mg x = some (.ref C)) (hd : (x == ("__debug__" : Str)) = false := by decide) : PE X (.Name x pos) (cE X.K W (aC (.ptr C))) := c_of (pe_glob (v := .ref C) hg hm rfl hd) fun _ _ => .ptr C
def rIsD (K : PySem.W.Frag) (a C Hh : Addr) (cls : Value) (d : Option Addr) (b : Bool) : List V → Hp → VK → Prop := fun xs H Q => xs = [.ref a, .ref Hh] ∧ cls = .ref C ∧ ∃ dd fs, d = some dd ∧ H dd = some (.xd fs) ∧ Q (.bl b) H
theorem call_isD {a C Hh : Addr} {oe : Obj} {cls : Value} {d : Option Addr} {b : Bool} {pn : List (Addr × Obj)} (T : IsE X.K C Hh b) (hz : Zc cls d oe) (hf : ∃ vs, oe.data = .fields vs) : CallR (X.suite a ((a, oe) :: pn)) (.builtin "isinstance") (rIsD X.K a C Hh cls d b) := by
  intro pins s σ H xs us Q I r h
  obtain ⟨rfl, ec, dd, fs, ed, ea, q⟩ := h
  subst ed ec
  cases r with
  | cons rx rr =>
    cases rr with
    | cons rt rr =>
      cases rr
      cases rx
      cases rt
      obtain ⟨ha, _⟩ := I.pin (a, oe) (List.mem_append.mpr (.inl List.mem_cons_self))
      obtain ⟨vs, hd⟩ := hf
      have hx : ObjOk X.prog X.w H s.heap dd (.xd fs) := I.hok dd _ ea
      obtain ⟨mA, hns, hr⟩ := hx
      obtain ⟨od, ho, hl⟩ := lookIn_ns hns
      have J : PySem.W.InstAt s.heap a oe C (some od) := ⟨ha, hz.1, by unfold PySem.W.notCls; rw [hd] <;> rfl, by rw [hz.2]; exact ho⟩
      exact PySem.W.kia_one (kitE T.xf.ga T.xf.gg T.xf.exC T.xf.hdC T.ha T.hn T.ht T.hm) I.kIn J T.kit (fun z => nomatch z) fun tk => ⟨.bl b, H, I.kept (t' := tk) fun _ _ z => z, rfl, q⟩
def aIsE (a : Addr) (cls : Value) (d : Option Addr) (C : Addr) (b : Bool) (ae : AE) : AE := fun γ S P x => ae γ S (fun z S1 => z = .ptr a ∧ cls = .ref C ∧ ∃ dd fs ds, d = some dd ∧ S1 dd = some (.xd fs ds) ∧ P (.bl b) S1) x
theorem a_isE {a C Hh : Addr} {oe : Obj} {cls : Value} {d : Option Addr} {b : Bool} {pn : List (Addr × Obj)} {e : Expr} {ae : AE} {p p1 pos : Pos} {y : Str} (T : IsE X.K C Hh b) (hz : Zc cls d oe) (hf : ∃ vs, oe.data = .fields vs)
    (hm : X.mg "isinstance" = none) (hg : Gl X "isinstance") (he : PE (X.suite a ((a, oe) :: pn)) e (cE X.K W ae)) (hg2 : Gl X y) (hm2 : X.mg y = some (.ref Hh)) (hd2 : (y == ("__debug__" : Str)) = false := by decide)
    (hs : starEach [e, .Name y p1] X.env = (false, eval e X.env) :: starEach [.Name y p1] X.env := by rfl) (hs2 : starEach [.Name y p1] X.env = (false, eval (.Name y p1) X.env) :: starEach [] X.env := by rfl) (hpl : (backTo pos (starEach [.Name y p1] X.env)).any (·.1) = false := by rfl) :
    PE (X.suite a ((a, oe) :: pn)) (.Call (.Name "isinstance" p) [e, .Name y p1] [] pos) (cE X.K W (aIsE a cls d C b ae)) := by
  exact (pe_callB (X := X.suite a ((a, oe) :: pn)) (call_isD T hz hf) hg hm (by decide +kernel) (pa_cons he (pa_cons (pe_glob (v := .ref Hh) hg2 hm2 rfl hd2) pa_nil hs2) hs) (by decide) (by decide) hs hpl).imp fun σ H Q ⟨γ, S, P, x, I, h, q, qx⟩ =>
    ⟨γ, S, _, x, I, h, fun v H1 z S1 t J r ⟨e1, e0, dd, fs, ds, e2, e3, p⟩ => by
      subst e1
      obtain rfl := rep_ptr r
      obtain ⟨gs, g1, g2, g3⟩ := J dd _ e3
      exact ⟨rfl, e0, dd, gs, e2, g1, q _ _ _ _ t J (.bl _) p⟩, qx⟩
end
end FB

set_option maxHeartbeats 4000000
/-! FB20: sorted of a list of lists of ints. -/
namespace FB
open PySem PySem.Spec PyProof.Rows L2
section
variable {X : Cx} {W : WX}
def rowP (r : List Int) : PyData := .list (r.map .int)
def leR (x y : List Int) : Bool := decide (x ≤ y)
def rSortR (K : PySem.W.Frag) : List V → Hp → VK → Prop := fun xs H Q => ∃ (a : Addr) (zs : List (V × List Int)), xs = [.ref a] ∧ SqL K H a (zs.map (·.1)) ∧ (∀ z ∈ zs, Dp K H z.1 (rowP z.2)) ∧
  ∀ p, H p = none → Q (.ref p) (upd H p (.lst ((zs.mergeSort fun x y => leR x.2 y.2).map (·.1))))
theorem alike_ints : ∀ x y : List Int, PySem.W.alikeAll (x.map .int) (y.map .int) = true
  | [], [] => rfl
  | [], _ :: _ => rfl
  | _ :: _, [] => rfl
  | a :: x, b :: y => by
    have ih := alike_ints x y
    simp only [List.map_cons, PySem.W.alikeAll, ih, PySem.W.alike, Bool.and_true]
theorem alike_rows (x y : List Int) : PySem.W.alike (rowP x) (rowP y) = true := by
  simp only [rowP, PySem.W.alike, alike_ints]
theorem depth_ints : ∀ x : List Int, PyData.depthAll (x.map .int) = 0
  | [] => rfl
  | a :: x => by
    have ih := depth_ints x
    rw [List.map_cons, PyData.depthAll, ih]; rfl
theorem depth_row (x : List Int) : (rowP x).depth ≤ 1 := by
  rw [rowP, PyData.depth, depth_ints]
  exact Nat.le_refl _
theorem each_of {pins : List (Addr × Obj)} {s : Shared} {σ : L2.St} {H : Hp} (I : Inv X pins σ H s) : ∀ {zs : List (V × List Int)} {us : List Value}, Vals (zs.map (·.1)) us → (∀ z ∈ zs, Dp X.K H z.1 (rowP z.2)) →
    PySem.W.EachIs (fun (v : Value) (b : V × List Int) => RelV b.1 v) us zs ∧ PySem.W.EachIs (fun (v : Value) (b : V × List Int) => ∃ as, Reads s.heap v (rowP b.2) as) us zs
  | [], us, r, _ => by cases r; exact ⟨.nil, .nil⟩
  | z :: zs, us, r, h => by
    rw [List.map_cons] at r
    cases r with
    | cons r1 r2 =>
      obtain ⟨e1, e2⟩ := each_of I r2 fun y hy => h y (List.mem_cons_of_mem _ hy)
      exact ⟨.cons r1 e1, .cons (Dp.reads I _ _ _ (h z List.mem_cons_self) r1) e2⟩
theorem vals_each : ∀ {us : List Value} {zs : List (V × List Int)}, PySem.W.EachIs (fun (v : Value) (b : V × List Int) => RelV b.1 v) us zs → Vals (zs.map (·.1)) us
  | _, _, .nil => .nil
  | _, _, .cons h t => .cons h (vals_each t)
theorem cr_sortR (hu : X.A.units + 64 < cLine) : CallR X (.builtin "sorted") (rSortR X.K) := by
  intro pins s σ H vs us Q I r h
  obtain ⟨a, zs, rfl, hs, hz, q⟩ := h
  obtain ⟨its, rv, hl, hlen⟩ := I.list hs
  rw [Vals.ref1 r]
  obtain ⟨e1, e2⟩ := each_of I rv hz
  refine PySem.W.sorted_data (enc := fun b : V × List Int => rowP b.2) (bs := zs) hl.isList e1 e2 (PySem.W.AllAlike.of fun b c => ?_) (PySem.W.Sortable.others fun b => ⟨(fun z => nomatch z), fun _ z => nomatch z⟩) (by rw [List.length_map] at hlen; exact hlen) (fun b _ => ?_) fun out ho eo => ?_
  · exact alike_rows b.2 c.2
  · have : (rowP b.2).depth ≤ 1 := depth_row b.2
    show X.A.units + 2 + (rowP b.2).depth < cLine
    omega
  · rw [show (PySem.W.dataLe false fun b : V × List Int => rowP b.2) = fun p q => leR p.2 q.2 from PySem.W.dataLe_rows fun b : V × List Int => b.2] at eo
    obtain ⟨ep, he'⟩ := PyProof.Rows.sortedAll_at s.heap its out.toArray
    have hv := vals_each eo
    have hl2 : ((zs.mergeSort fun x y => leR x.2 y.2).map (·.1)).length ≤ sizeLine := by rw [List.length_map, List.length_mergeSort]; rw [List.length_map] at hlen; exact hlen
    exact ⟨.ref _, upd H (s.heap.objs.size + 1) (.lst ((zs.mergeSort fun x y => leR x.2 y.2).map (·.1))), I.laid (t' := s.toks) (fun _ _ => PyProof.Rows.sortedAll_old) (Nat.le_succ _) ⟨hl2, out, ep, hv, he'⟩, rfl, q _ (I.hok.fresh (Nat.le_succ _))⟩
abbrev lD (r : List Int) : D := .lst (r.map .int)
theorem toPyL_ints : ∀ l : List Int, toPyL (l.map D.int) = l.map .int
  | [] => by rw [List.map_nil, toPyL]; rfl
  | i :: l => by rw [List.map_cons, toPyL, toPyL_ints l, toPy]; rfl
theorem row_py {S : Sg} (r : List Int) : Py S (lD r) (rowP r) := by
  have h : okP 64 (lD r) = true := by simp [okP, okPL_ints]
  have := (okP_py (S := S) h).1
  rw [lD, toPy, toPyL_ints] at this
  exact this
theorem zipR_of {K : PySem.W.Frag} {H : Hp} {S : Sg} : ∀ {xs : List V} {rows : List (List Int)}, RepL K H (Av S) xs (rows.map lD) → (xs.zip rows).map (·.1) = xs ∧ (xs.zip rows).map (·.2) = rows ∧ ∀ z ∈ xs.zip rows, Rep K H (Av S) z.1 (lD z.2)
  | _, [], .nil => ⟨rfl, rfl, fun _ h => nomatch h⟩
  | _, r :: rows, .cons h t => by
    obtain ⟨e1, e2, e3⟩ := zipR_of t
    refine ⟨by rw [List.zip_cons_cons, List.map_cons, e1], by rw [List.zip_cons_cons, List.map_cons, e2], fun z hz => ?_⟩
    rcases List.mem_cons.mp hz with rfl | hz
    · exact h
    · exact e3 z hz
theorem rep_rows {K : PySem.W.Frag} {H : Hp} {S : Sg} : ∀ {zs : List (V × List Int)}, (∀ z ∈ zs, Rep K H (Av S) z.1 (lD z.2)) → RepL K H (Av S) (zs.map (·.1)) ((zs.map (·.2)).map lD)
  | [], _ => .nil
  | z :: zs, h => .cons (h z List.mem_cons_self) (rep_rows fun y hy => h y (List.mem_cons_of_mem _ hy))
def bSortR : List D → Sg → (D → Sg → Prop) → Prop := fun ds S P => one (fun d => asLst S d fun es => ∃ rows : List (List Int), es = rows.map lD ∧ P (.lst ((rows.mergeSort leR).map lD)) S) ds
theorem cs_sortR {K : PySem.W.Frag} : CallS K (rSortR K) bSortR := fun H S xs ds P Q I r h q => by
  obtain ⟨d, e1, h1⟩ := one_of h
  subst e1
  obtain ⟨v, e2, r1⟩ := repL_one r
  obtain ⟨a1, ws, es, e3, g1, q1, rows, e4, h2⟩ := asLst_of I r1 h1
  subst e2 e3 e4
  obtain ⟨z1, z2, z3⟩ := zipR_of q1
  refine ⟨a1, ws.zip rows, rfl, by rw [z1]; exact SqL.of g1, fun z hz => Py.dp I (row_py z.2) (z3 z hz), ?_⟩
  have hm : ∀ z ∈ (ws.zip rows).mergeSort fun x y => leR x.2 y.2, Rep K H (Av S) z.1 (lD z.2) := fun z hz => z3 z (List.mem_mergeSort.mp hz)
  have er := rep_rows hm
  have em : ((ws.zip rows).mergeSort fun x y => leR x.2 y.2).map (·.2) = rows.mergeSort leR := by
    rw [List.map_mergeSort (s := leR) (f := fun z : V × List Int => z.2) (fun _ _ _ _ => rfl), z2]
  rw [em] at er
  exact new_lst q I er h2
end
end FB

set_option maxHeartbeats 4000000
namespace G
open PySem PySem.Spec PyProof.Rows L2 FB
def top (i : Nat) : Stmt := PySem.Challenge.pw_firstbyone_k20_kth_rows.main.body.getD i (.Pass ⟨0, 0, 0, 0⟩)
abbrev s_is_integer : Stmt := top 6
abbrev s_is_within : Stmt := top 7
abbrev s_turn_by : Stmt := top 9
abbrev s_told_by_word : Stmt := top 10
abbrev s_kth_row : Stmt := top 12
abbrev s__law_cell : Stmt := top 14
abbrev s__law_box : Stmt := top 15
abbrev s__law_take : Stmt := top 16
abbrev s__law_pick : Stmt := top 17
abbrev s__law_same : Stmt := top 18
abbrev s__law_very : Stmt := top 19
abbrev s__law_integers : Stmt := top 20
abbrev s__law_row : Stmt := top 21
abbrev s__law_low : Stmt := top 22
abbrev s__law_two : Stmt := top 23
abbrev s__law_word_at : Stmt := top 24
abbrev s__law_asked : Stmt := top 25
abbrev s__law_one_right : Stmt := top 26
abbrev s__law_all_right : Stmt := top 27
abbrev s__law_refused_right : Stmt := top 28
abbrev s_law : Stmt := top 29
abbrev s_InvalidInteger__init__ : Stmt := inClass (top 2) 0
abbrev s_InvalidIndex__init__ : Stmt := inClass (top 3) 0
def d_is_integer : He.DefD := ⟨("is_integer", none), "is_integer", "is_integer", defArgs s_is_integer, defBody s_is_integer, defScope s_is_integer, [], []⟩
def d_is_within : He.DefD := ⟨("is_within", none), "is_within", "is_within", defArgs s_is_within, defBody s_is_within, defScope s_is_within, [], []⟩
def d_turn_by : He.DefD := ⟨("turn_by", none), "turn_by", "turn_by", defArgs s_turn_by, defBody s_turn_by, defScope s_turn_by, [], []⟩
def d_told_by_word : He.DefD := ⟨("told_by_word", none), "told_by_word", "told_by_word", defArgs s_told_by_word, defBody s_told_by_word, defScope s_told_by_word, [], []⟩
def d_kth_row : He.DefD := ⟨("kth_row", none), "kth_row", "kth_row", defArgs s_kth_row, defBody s_kth_row, defScope s_kth_row, [], []⟩
def d__law_cell : He.DefD := ⟨("_law_cell", none), "_law_cell", "_law_cell", defArgs s__law_cell, defBody s__law_cell, defScope s__law_cell, [], []⟩
def d__law_box : He.DefD := ⟨("_law_box", none), "_law_box", "_law_box", defArgs s__law_box, defBody s__law_box, defScope s__law_box, [], []⟩
def d__law_take : He.DefD := ⟨("_law_take", none), "_law_take", "_law_take", defArgs s__law_take, defBody s__law_take, defScope s__law_take, [], []⟩
def d__law_pick : He.DefD := ⟨("_law_pick", none), "_law_pick", "_law_pick", defArgs s__law_pick, defBody s__law_pick, defScope s__law_pick, [], []⟩
def d__law_same : He.DefD := ⟨("_law_same", none), "_law_same", "_law_same", defArgs s__law_same, defBody s__law_same, defScope s__law_same, [], []⟩
def d__law_very : He.DefD := ⟨("_law_very", none), "_law_very", "_law_very", defArgs s__law_very, defBody s__law_very, defScope s__law_very, [], []⟩
def d__law_integers : He.DefD := ⟨("_law_integers", none), "_law_integers", "_law_integers", defArgs s__law_integers, defBody s__law_integers, defScope s__law_integers, [], []⟩
def d__law_row : He.DefD := ⟨("_law_row", none), "_law_row", "_law_row", defArgs s__law_row, defBody s__law_row, defScope s__law_row, [], []⟩
def d__law_low : He.DefD := ⟨("_law_low", none), "_law_low", "_law_low", defArgs s__law_low, defBody s__law_low, defScope s__law_low, [], []⟩
def d__law_two : He.DefD := ⟨("_law_two", none), "_law_two", "_law_two", defArgs s__law_two, defBody s__law_two, defScope s__law_two, [], []⟩
def d__law_word_at : He.DefD := ⟨("_law_word_at", none), "_law_word_at", "_law_word_at", defArgs s__law_word_at, defBody s__law_word_at, defScope s__law_word_at, [], []⟩
def d__law_asked : He.DefD := ⟨("_law_asked", none), "_law_asked", "_law_asked", defArgs s__law_asked, defBody s__law_asked, defScope s__law_asked, [], []⟩
def d__law_one_right : He.DefD := ⟨("_law_one_right", none), "_law_one_right", "_law_one_right", defArgs s__law_one_right, defBody s__law_one_right, defScope s__law_one_right, [], []⟩
def d__law_all_right : He.DefD := ⟨("_law_all_right", none), "_law_all_right", "_law_all_right", defArgs s__law_all_right, defBody s__law_all_right, defScope s__law_all_right, [], []⟩
def d__law_refused_right : He.DefD := ⟨("_law_refused_right", none), "_law_refused_right", "_law_refused_right", defArgs s__law_refused_right, defBody s__law_refused_right, defScope s__law_refused_right, [], []⟩
def d_law : He.DefD := ⟨("law", none), "law", "law", defArgs s_law, defBody s_law, defScope s_law, [], []⟩
def d_InvalidInteger__init__ : He.DefD := ⟨("InvalidInteger", some "__init__"), "__init__", "InvalidInteger.__init__", defArgs s_InvalidInteger__init__, defBody s_InvalidInteger__init__, defScope s_InvalidInteger__init__, [], []⟩
def d_InvalidIndex__init__ : He.DefD := ⟨("InvalidIndex", some "__init__"), "__init__", "InvalidIndex.__init__", defArgs s_InvalidIndex__init__, defBody s_InvalidIndex__init__, defScope s_InvalidIndex__init__, [], []⟩
def fn : List He.DefD := [d_is_integer, d_is_within, d_turn_by, d_told_by_word, d_kth_row, d__law_cell, d__law_box, d__law_take, d__law_pick, d__law_same, d__law_very, d__law_integers, d__law_row, d__law_low, d__law_two, d__law_word_at, d__law_asked, d__law_one_right, d__law_all_right, d__law_refused_right, d_law, d_InvalidInteger__init__, d_InvalidIndex__init__]
def glo : List Str := (("is_integer" : Str) :: ("is_within" : Str) :: ("turn_by" : Str) :: ("told_by_word" : Str) :: ("kth_row" : Str) :: ("_law_cell" : Str) :: ("_law_box" : Str) :: ("_law_take" : Str) :: ("_law_pick" : Str) :: ("_law_same" : Str) :: ("_law_very" : Str) :: ("_law_integers" : Str) :: ("_law_row" : Str) :: ("_law_low" : Str) :: ("_law_two" : Str) :: ("_law_word_at" : Str) :: ("_law_asked" : Str) :: ("_law_one_right" : Str) :: ("_law_all_right" : Str) :: ("_law_refused_right" : Str) :: ("law" : Str) :: ("RowError" : Str) :: ("InvalidInteger" : Str) :: ("InvalidIndex" : Str) :: [])
def free : List Str := ["isinstance", "int", "bool", "list", "range", "len", "sum", "reversed", "abs", "str", "dict", "tuple", "zip", "sorted", "max", "min"]
def nums : List (Str × Int) := [("MOST_PLACES", 64)]
def errs : List (Str × Str) := [("InvalidInteger", "given"), ("InvalidIndex", "given")]
def exms : List (Str × Str × Bool) := [("InvalidInteger", "InvalidInteger", true), ("InvalidIndex", "InvalidInteger", false), ("InvalidInteger", "InvalidIndex", false), ("InvalidIndex", "InvalidIndex", true)]
def ises : List (Str × Str × Bool) := [("InvalidInteger", "RowError", true), ("InvalidIndex", "RowError", true)]
structure ZZ (K : PySem.W.Frag) (mg : Str → Option Value) (fds : Nat → FuncData) : Prop where
  z : Zs K mg fn glo free nums fds
  row : RowE K (He.ga K "RowError")
  err : ∀ (i : Nat) (q : Str × Str), errs[i]? = some q → Err K (He.ga K q.1) (He.ma K (He.ga K q.1) "__init__") q.2
  exm : ∀ (i : Nat) (q : Str × Str × Bool), exms[i]? = some q → PySem.W.exmOne K (.ref (He.ga K q.1)) (.ref (He.ga K q.2.1)) = some q.2.2
  isx : ∀ (i : Nat) (q : Str × Str × Bool), ises[i]? = some q → IsE K (He.ga K q.1) (He.ga K q.2.1) q.2.2
section
variable {P : Program} {w : World} {K : PySem.W.Frag} {mg : Str → Option Value} {base : Heap} {fds : Nat → FuncData} {k : Nat}
theorem is_InvalidInteger_RowError (Z : ZZ K mg fds) : IsE K (He.ga K "InvalidInteger") (He.ga K "RowError") true := Z.isx 0 _ rfl
theorem is_InvalidIndex_RowError (Z : ZZ K mg fds) : IsE K (He.ga K "InvalidIndex") (He.ga K "RowError") true := Z.isx 1 _ rfl
theorem g_is_integer (Z : ZZ K mg fds) : mg "is_integer" = some (.ref (He.ga K "is_integer")) := Z.z.gl 0 _ rfl
theorem g_is_within (Z : ZZ K mg fds) : mg "is_within" = some (.ref (He.ga K "is_within")) := Z.z.gl 1 _ rfl
theorem g_turn_by (Z : ZZ K mg fds) : mg "turn_by" = some (.ref (He.ga K "turn_by")) := Z.z.gl 2 _ rfl
theorem g_told_by_word (Z : ZZ K mg fds) : mg "told_by_word" = some (.ref (He.ga K "told_by_word")) := Z.z.gl 3 _ rfl
theorem g_kth_row (Z : ZZ K mg fds) : mg "kth_row" = some (.ref (He.ga K "kth_row")) := Z.z.gl 4 _ rfl
theorem g__law_cell (Z : ZZ K mg fds) : mg "_law_cell" = some (.ref (He.ga K "_law_cell")) := Z.z.gl 5 _ rfl
theorem g__law_box (Z : ZZ K mg fds) : mg "_law_box" = some (.ref (He.ga K "_law_box")) := Z.z.gl 6 _ rfl
theorem g__law_take (Z : ZZ K mg fds) : mg "_law_take" = some (.ref (He.ga K "_law_take")) := Z.z.gl 7 _ rfl
theorem g__law_pick (Z : ZZ K mg fds) : mg "_law_pick" = some (.ref (He.ga K "_law_pick")) := Z.z.gl 8 _ rfl
theorem g__law_same (Z : ZZ K mg fds) : mg "_law_same" = some (.ref (He.ga K "_law_same")) := Z.z.gl 9 _ rfl
theorem g__law_very (Z : ZZ K mg fds) : mg "_law_very" = some (.ref (He.ga K "_law_very")) := Z.z.gl 10 _ rfl
theorem g__law_integers (Z : ZZ K mg fds) : mg "_law_integers" = some (.ref (He.ga K "_law_integers")) := Z.z.gl 11 _ rfl
theorem g__law_row (Z : ZZ K mg fds) : mg "_law_row" = some (.ref (He.ga K "_law_row")) := Z.z.gl 12 _ rfl
theorem g__law_low (Z : ZZ K mg fds) : mg "_law_low" = some (.ref (He.ga K "_law_low")) := Z.z.gl 13 _ rfl
theorem g__law_two (Z : ZZ K mg fds) : mg "_law_two" = some (.ref (He.ga K "_law_two")) := Z.z.gl 14 _ rfl
theorem g__law_word_at (Z : ZZ K mg fds) : mg "_law_word_at" = some (.ref (He.ga K "_law_word_at")) := Z.z.gl 15 _ rfl
theorem g__law_asked (Z : ZZ K mg fds) : mg "_law_asked" = some (.ref (He.ga K "_law_asked")) := Z.z.gl 16 _ rfl
theorem g__law_one_right (Z : ZZ K mg fds) : mg "_law_one_right" = some (.ref (He.ga K "_law_one_right")) := Z.z.gl 17 _ rfl
theorem g__law_all_right (Z : ZZ K mg fds) : mg "_law_all_right" = some (.ref (He.ga K "_law_all_right")) := Z.z.gl 18 _ rfl
theorem g__law_refused_right (Z : ZZ K mg fds) : mg "_law_refused_right" = some (.ref (He.ga K "_law_refused_right")) := Z.z.gl 19 _ rfl
theorem g_law (Z : ZZ K mg fds) : mg "law" = some (.ref (He.ga K "law")) := Z.z.gl 20 _ rfl
theorem g_RowError (Z : ZZ K mg fds) : mg "RowError" = some (.ref (He.ga K "RowError")) := Z.z.gl 21 _ rfl
theorem g_InvalidInteger (Z : ZZ K mg fds) : mg "InvalidInteger" = some (.ref (He.ga K "InvalidInteger")) := Z.z.gl 22 _ rfl
theorem g_InvalidIndex (Z : ZZ K mg fds) : mg "InvalidIndex" = some (.ref (He.ga K "InvalidIndex")) := Z.z.gl 23 _ rfl
theorem f_isinstance (Z : ZZ K mg fds) : mg "isinstance" = none := Z.z.fr 0 _ rfl
theorem f_int (Z : ZZ K mg fds) : mg "int" = none := Z.z.fr 1 _ rfl
theorem f_bool (Z : ZZ K mg fds) : mg "bool" = none := Z.z.fr 2 _ rfl
theorem f_list (Z : ZZ K mg fds) : mg "list" = none := Z.z.fr 3 _ rfl
theorem f_range (Z : ZZ K mg fds) : mg "range" = none := Z.z.fr 4 _ rfl
theorem f_len (Z : ZZ K mg fds) : mg "len" = none := Z.z.fr 5 _ rfl
theorem f_sum (Z : ZZ K mg fds) : mg "sum" = none := Z.z.fr 6 _ rfl
theorem f_reversed (Z : ZZ K mg fds) : mg "reversed" = none := Z.z.fr 7 _ rfl
theorem f_abs (Z : ZZ K mg fds) : mg "abs" = none := Z.z.fr 8 _ rfl
theorem f_str (Z : ZZ K mg fds) : mg "str" = none := Z.z.fr 9 _ rfl
theorem f_dict (Z : ZZ K mg fds) : mg "dict" = none := Z.z.fr 10 _ rfl
theorem f_tuple (Z : ZZ K mg fds) : mg "tuple" = none := Z.z.fr 11 _ rfl
theorem f_zip (Z : ZZ K mg fds) : mg "zip" = none := Z.z.fr 12 _ rfl
theorem f_sorted (Z : ZZ K mg fds) : mg "sorted" = none := Z.z.fr 13 _ rfl
theorem f_max (Z : ZZ K mg fds) : mg "max" = none := Z.z.fr 14 _ rfl
theorem f_min (Z : ZZ K mg fds) : mg "min" = none := Z.z.fr 15 _ rfl
theorem i_MOST_PLACES (Z : ZZ K mg fds) : ∃ t, mg "MOST_PLACES" = some (.int 64 t) := Z.z.it 0 _ rfl
abbrev N_is_integer : List Str := ["value"]
abbrev ps_is_integer : List Str := ["value"]
theorem sc_is_integer : FnScope N_is_integer ps_is_integer (defScope s_is_integer) := ⟨rfl, rfl, rfl, by decide +kernel, rfl, by decide +kernel, by decide +kernel⟩
theorem F_is_integer (Z : ZZ K mg fds) : FunD K "is_integer" "is_integer" (defArgs s_is_integer) (defBody s_is_integer) (defScope s_is_integer) [] [] (He.ga K "is_integer") (fds 0) := Z.z.fd 0 _ rfl
theorem b_is_integer (Z : ZZ K mg fds) : L2.Binds K (fds 0) ps_is_integer [] := (F_is_integer Z).bindsN fun _ _ _ _ _ _ us hl => match us, hl with | [_], _ => rfl
abbrev N_is_within : List Str := ["value", "low", "high"]
abbrev ps_is_within : List Str := ["value", "low", "high"]
theorem sc_is_within : FnScope N_is_within ps_is_within (defScope s_is_within) := ⟨rfl, rfl, rfl, by decide +kernel, rfl, by decide +kernel, by decide +kernel⟩
theorem F_is_within (Z : ZZ K mg fds) : FunD K "is_within" "is_within" (defArgs s_is_within) (defBody s_is_within) (defScope s_is_within) [] [] (He.ga K "is_within") (fds 1) := Z.z.fd 1 _ rfl
theorem b_is_within (Z : ZZ K mg fds) : L2.Binds K (fds 1) ps_is_within [] := (F_is_within Z).bindsN fun _ _ _ _ _ _ us hl => match us, hl with | [_, _, _], _ => rfl
abbrev N_turn_by : List Str := ["letter", "integers", "found", "at", "k"]
abbrev ps_turn_by : List Str := ["letter", "integers"]
theorem sc_turn_by : FnScope N_turn_by ps_turn_by (defScope s_turn_by) := ⟨rfl, rfl, rfl, by decide +kernel, rfl, by decide +kernel, by decide +kernel⟩
theorem F_turn_by (Z : ZZ K mg fds) : FunD K "turn_by" "turn_by" (defArgs s_turn_by) (defBody s_turn_by) (defScope s_turn_by) [] [] (He.ga K "turn_by") (fds 2) := Z.z.fd 2 _ rfl
theorem b_turn_by (Z : ZZ K mg fds) : L2.Binds K (fds 2) ps_turn_by [] := (F_turn_by Z).bindsN fun _ _ _ _ _ _ us hl => match us, hl with | [_, _], _ => rfl
abbrev N_told_by_word : List Str := ["word", "found", "letter"]
abbrev ps_told_by_word : List Str := ["word"]
theorem sc_told_by_word : FnScope N_told_by_word ps_told_by_word (defScope s_told_by_word) := ⟨rfl, rfl, rfl, by decide +kernel, rfl, by decide +kernel, by decide +kernel⟩
theorem F_told_by_word (Z : ZZ K mg fds) : FunD K "told_by_word" "told_by_word" (defArgs s_told_by_word) (defBody s_told_by_word) (defScope s_told_by_word) [] [] (He.ga K "told_by_word") (fds 3) := Z.z.fd 3 _ rfl
theorem b_told_by_word (Z : ZZ K mg fds) : L2.Binds K (fds 3) ps_told_by_word [] := (F_told_by_word Z).bindsN fun _ _ _ _ _ _ us hl => match us, hl with | [_], _ => rfl
abbrev N_kth_row : List Str := ["number", "index", "at"]
abbrev ps_kth_row : List Str := ["number", "index"]
theorem sc_kth_row : FnScope N_kth_row ps_kth_row (defScope s_kth_row) := ⟨rfl, rfl, rfl, by decide +kernel, rfl, by decide +kernel, by decide +kernel⟩
theorem F_kth_row (Z : ZZ K mg fds) : FunD K "kth_row" "kth_row" (defArgs s_kth_row) (defBody s_kth_row) (defScope s_kth_row) [] [] (He.ga K "kth_row") (fds 4) := Z.z.fd 4 _ rfl
theorem b_kth_row (Z : ZZ K mg fds) : L2.Binds K (fds 4) ps_kth_row [] := (F_kth_row Z).bindsN fun _ _ _ _ _ _ us hl => match us, hl with | [_, _], _ => rfl
abbrev N__law_cell : List Str := ["script", "k"]
abbrev ps__law_cell : List Str := ["script", "k"]
theorem sc__law_cell : FnScope N__law_cell ps__law_cell (defScope s__law_cell) := ⟨rfl, rfl, rfl, by decide +kernel, rfl, by decide +kernel, by decide +kernel⟩
theorem F__law_cell (Z : ZZ K mg fds) : FunD K "_law_cell" "_law_cell" (defArgs s__law_cell) (defBody s__law_cell) (defScope s__law_cell) [] [] (He.ga K "_law_cell") (fds 5) := Z.z.fd 5 _ rfl
theorem b__law_cell (Z : ZZ K mg fds) : L2.Binds K (fds 5) ps__law_cell [] := (F__law_cell Z).bindsN fun _ _ _ _ _ _ us hl => match us, hl with | [_, _], _ => rfl
abbrev N__law_box : List Str := ["great"]
abbrev ps__law_box : List Str := ["great"]
theorem sc__law_box : FnScope N__law_box ps__law_box (defScope s__law_box) := ⟨rfl, rfl, rfl, by decide +kernel, rfl, by decide +kernel, by decide +kernel⟩
theorem F__law_box (Z : ZZ K mg fds) : FunD K "_law_box" "_law_box" (defArgs s__law_box) (defBody s__law_box) (defScope s__law_box) [] [] (He.ga K "_law_box") (fds 6) := Z.z.fd 6 _ rfl
theorem b__law_box (Z : ZZ K mg fds) : L2.Binds K (fds 6) ps__law_box [] := (F__law_box Z).bindsN fun _ _ _ _ _ _ us hl => match us, hl with | [_], _ => rfl
abbrev N__law_take : List Str := ["box", "many", "digit", "mixed"]
abbrev ps__law_take : List Str := ["box", "many"]
theorem sc__law_take : FnScope N__law_take ps__law_take (defScope s__law_take) := ⟨rfl, rfl, rfl, by decide +kernel, rfl, by decide +kernel, by decide +kernel⟩
theorem F__law_take (Z : ZZ K mg fds) : FunD K "_law_take" "_law_take" (defArgs s__law_take) (defBody s__law_take) (defScope s__law_take) [] [] (He.ga K "_law_take") (fds 7) := Z.z.fd 7 _ rfl
theorem b__law_take (Z : ZZ K mg fds) : L2.Binds K (fds 7) ps__law_take [] := (F__law_take Z).bindsN fun _ _ _ _ _ _ us hl => match us, hl with | [_, _], _ => rfl
abbrev N__law_pick : List Str := ["box", "items"]
abbrev ps__law_pick : List Str := ["box", "items"]
theorem sc__law_pick : FnScope N__law_pick ps__law_pick (defScope s__law_pick) := ⟨rfl, rfl, rfl, by decide +kernel, rfl, by decide +kernel, by decide +kernel⟩
theorem F__law_pick (Z : ZZ K mg fds) : FunD K "_law_pick" "_law_pick" (defArgs s__law_pick) (defBody s__law_pick) (defScope s__law_pick) [] [] (He.ga K "_law_pick") (fds 8) := Z.z.fd 8 _ rfl
theorem b__law_pick (Z : ZZ K mg fds) : L2.Binds K (fds 8) ps__law_pick [] := (F__law_pick Z).bindsN fun _ _ _ _ _ _ us hl => match us, hl with | [_, _], _ => rfl
abbrev N__law_same : List Str := ["given", "due", "key", "k"]
abbrev ps__law_same : List Str := ["given", "due"]
theorem sc__law_same : FnScope N__law_same ps__law_same (defScope s__law_same) := ⟨rfl, rfl, rfl, by decide +kernel, rfl, by decide +kernel, by decide +kernel⟩
theorem F__law_same (Z : ZZ K mg fds) : FunD K "_law_same" "_law_same" (defArgs s__law_same) (defBody s__law_same) (defScope s__law_same) [] [] (He.ga K "_law_same") (fds 9) := Z.z.fd 9 _ rfl
theorem b__law_same (Z : ZZ K mg fds) : L2.Binds K (fds 9) ps__law_same [] := (F__law_same Z).bindsN fun _ _ _ _ _ _ us hl => match us, hl with | [_, _], _ => rfl
abbrev N__law_very : List Str := ["given", "value"]
abbrev ps__law_very : List Str := ["given", "value"]
theorem sc__law_very : FnScope N__law_very ps__law_very (defScope s__law_very) := ⟨rfl, rfl, rfl, by decide +kernel, rfl, by decide +kernel, by decide +kernel⟩
theorem F__law_very (Z : ZZ K mg fds) : FunD K "_law_very" "_law_very" (defArgs s__law_very) (defBody s__law_very) (defScope s__law_very) [] [] (He.ga K "_law_very") (fds 10) := Z.z.fd 10 _ rfl
theorem b__law_very (Z : ZZ K mg fds) : L2.Binds K (fds 10) ps__law_very [] := (F__law_very Z).bindsN fun _ _ _ _ _ _ us hl => match us, hl with | [_, _], _ => rfl
abbrev N__law_integers : List Str := ["word", "many", "top", "bottom", "letter", "moved", "found", "k", "a", "b", "j"]
abbrev ps__law_integers : List Str := ["word", "many"]
theorem sc__law_integers : FnScope N__law_integers ps__law_integers (defScope s__law_integers) := ⟨rfl, rfl, rfl, by decide +kernel, rfl, by decide +kernel, by decide +kernel⟩
theorem F__law_integers (Z : ZZ K mg fds) : FunD K "_law_integers" "_law_integers" (defArgs s__law_integers) (defBody s__law_integers) (defScope s__law_integers) [] [] (He.ga K "_law_integers") (fds 11) := Z.z.fd 11 _ rfl
theorem b__law_integers (Z : ZZ K mg fds) : L2.Binds K (fds 11) ps__law_integers [] := (F__law_integers Z).bindsN fun _ _ _ _ _ _ us hl => match us, hl with | [_, _], _ => rfl
abbrev N__law_row : List Str := ["word"]
abbrev ps__law_row : List Str := ["word"]
theorem sc__law_row : FnScope N__law_row ps__law_row (defScope s__law_row) := ⟨rfl, rfl, rfl, by decide +kernel, rfl, by decide +kernel, by decide +kernel⟩
theorem F__law_row (Z : ZZ K mg fds) : FunD K "_law_row" "_law_row" (defArgs s__law_row) (defBody s__law_row) (defScope s__law_row) [] [] (He.ga K "_law_row") (fds 12) := Z.z.fd 12 _ rfl
theorem b__law_row (Z : ZZ K mg fds) : L2.Binds K (fds 12) ps__law_row [] := (F__law_row Z).bindsN fun _ _ _ _ _ _ us hl => match us, hl with | [_], _ => rfl
abbrev N__law_low : List Str := ["word"]
abbrev ps__law_low : List Str := ["word"]
theorem sc__law_low : FnScope N__law_low ps__law_low (defScope s__law_low) := ⟨rfl, rfl, rfl, by decide +kernel, rfl, by decide +kernel, by decide +kernel⟩
theorem F__law_low (Z : ZZ K mg fds) : FunD K "_law_low" "_law_low" (defArgs s__law_low) (defBody s__law_low) (defScope s__law_low) [] [] (He.ga K "_law_low") (fds 13) := Z.z.fd 13 _ rfl
theorem b__law_low (Z : ZZ K mg fds) : L2.Binds K (fds 13) ps__law_low [] := (F__law_low Z).bindsN fun _ _ _ _ _ _ us hl => match us, hl with | [_], _ => rfl
abbrev N__law_two : List Str := ["many", "found", "turn"]
abbrev ps__law_two : List Str := ["many"]
theorem sc__law_two : FnScope N__law_two ps__law_two (defScope s__law_two) := ⟨rfl, rfl, rfl, by decide +kernel, rfl, by decide +kernel, by decide +kernel⟩
theorem F__law_two (Z : ZZ K mg fds) : FunD K "_law_two" "_law_two" (defArgs s__law_two) (defBody s__law_two) (defScope s__law_two) [] [] (He.ga K "_law_two") (fds 14) := Z.z.fd 14 _ rfl
theorem b__law_two (Z : ZZ K mg fds) : L2.Binds K (fds 14) ps__law_two [] := (F__law_two Z).bindsN fun _ _ _ _ _ _ us hl => match us, hl with | [_], _ => rfl
abbrev N__law_word_at : List Str := ["many", "index", "found", "left", "turn"]
abbrev ps__law_word_at : List Str := ["many", "index"]
theorem sc__law_word_at : FnScope N__law_word_at ps__law_word_at (defScope s__law_word_at) := ⟨rfl, rfl, rfl, by decide +kernel, rfl, by decide +kernel, by decide +kernel⟩
theorem F__law_word_at (Z : ZZ K mg fds) : FunD K "_law_word_at" "_law_word_at" (defArgs s__law_word_at) (defBody s__law_word_at) (defScope s__law_word_at) [] [] (He.ga K "_law_word_at") (fds 15) := Z.z.fd 15 _ rfl
theorem b__law_word_at (Z : ZZ K mg fds) : L2.Binds K (fds 15) ps__law_word_at [] := (F__law_word_at Z).bindsN fun _ _ _ _ _ _ us hl => match us, hl with | [_, _], _ => rfl
abbrev N__law_asked : List Str := ["many", "index", "named", "e"]
abbrev ps__law_asked : List Str := ["many", "index", "named"]
theorem sc__law_asked : FnScope N__law_asked ps__law_asked (defScope s__law_asked) := ⟨rfl, rfl, rfl, by decide +kernel, rfl, by decide +kernel, by decide +kernel⟩
theorem F__law_asked (Z : ZZ K mg fds) : FunD K "_law_asked" "_law_asked" (defArgs s__law_asked) (defBody s__law_asked) (defScope s__law_asked) [] [] (He.ga K "_law_asked") (fds 16) := Z.z.fd 16 _ rfl
theorem b__law_asked (Z : ZZ K mg fds) : L2.Binds K (fds 16) ps__law_asked [] := (F__law_asked Z).bindsN fun _ _ _ _ _ _ us hl => match us, hl with | [_, _, _], _ => rfl
abbrev N__law_one_right : List Str := ["many", "index", "named", "due", "told"]
abbrev ps__law_one_right : List Str := ["many", "index", "named"]
theorem sc__law_one_right : FnScope N__law_one_right ps__law_one_right (defScope s__law_one_right) := ⟨rfl, rfl, rfl, by decide +kernel, rfl, by decide +kernel, by decide +kernel⟩
theorem F__law_one_right (Z : ZZ K mg fds) : FunD K "_law_one_right" "_law_one_right" (defArgs s__law_one_right) (defBody s__law_one_right) (defScope s__law_one_right) [] [] (He.ga K "_law_one_right") (fds 17) := Z.z.fd 17 _ rfl
theorem b__law_one_right (Z : ZZ K mg fds) : L2.Binds K (fds 17) ps__law_one_right [] := (F__law_one_right Z).bindsN fun _ _ _ _ _ _ us hl => match us, hl with | [_, _, _], _ => rfl
abbrev N__law_all_right : List Str := ["many", "named", "due", "index", "k", "one"]
abbrev ps__law_all_right : List Str := ["many", "named"]
theorem sc__law_all_right : FnScope N__law_all_right ps__law_all_right (defScope s__law_all_right) := ⟨rfl, rfl, rfl, by decide +kernel, rfl, by decide +kernel, by decide +kernel⟩
theorem F__law_all_right (Z : ZZ K mg fds) : FunD K "_law_all_right" "_law_all_right" (defArgs s__law_all_right) (defBody s__law_all_right) (defScope s__law_all_right) [] [] (He.ga K "_law_all_right") (fds 18) := Z.z.fd 18 _ rfl
theorem b__law_all_right (Z : ZZ K mg fds) : L2.Binds K (fds 18) ps__law_all_right [] := (F__law_all_right Z).bindsN fun _ _ _ _ _ _ us hl => match us, hl with | [_, _], _ => rfl
abbrev N__law_refused_right : List Str := ["box", "named", "many", "top", "turn", "bad", "told"]
abbrev ps__law_refused_right : List Str := ["box", "named"]
theorem sc__law_refused_right : FnScope N__law_refused_right ps__law_refused_right (defScope s__law_refused_right) := ⟨rfl, rfl, rfl, by decide +kernel, rfl, by decide +kernel, by decide +kernel⟩
theorem F__law_refused_right (Z : ZZ K mg fds) : FunD K "_law_refused_right" "_law_refused_right" (defArgs s__law_refused_right) (defBody s__law_refused_right) (defScope s__law_refused_right) [] [] (He.ga K "_law_refused_right") (fds 19) := Z.z.fd 19 _ rfl
theorem b__law_refused_right (Z : ZZ K mg fds) : L2.Binds K (fds 19) ps__law_refused_right [] := (F__law_refused_right Z).bindsN fun _ _ _ _ _ _ us hl => match us, hl with | [_, _], _ => rfl
abbrev N_law : List Str := ["script", "k", "box", "named", "many", "sizes", "size", "top", "drawn", "index"]
abbrev ps_law : List Str := ["script"]
theorem sc_law : FnScope N_law ps_law (defScope s_law) := ⟨rfl, rfl, rfl, by decide +kernel, rfl, by decide +kernel, by decide +kernel⟩
theorem F_law (Z : ZZ K mg fds) : FunD K "law" "law" (defArgs s_law) (defBody s_law) (defScope s_law) [] [] (He.ga K "law") (fds 20) := Z.z.fd 20 _ rfl
theorem b_law (Z : ZZ K mg fds) : L2.Binds K (fds 20) ps_law [] := (F_law Z).bindsN fun _ _ _ _ _ _ us hl => match us, hl with | [_], _ => rfl
theorem e_InvalidInteger (Z : ZZ K mg fds) : Err K (He.ga K "InvalidInteger") (He.ma K (He.ga K "InvalidInteger") "__init__") "given" := Z.err 0 _ rfl
theorem F_InvalidInteger (Z : ZZ K mg fds) : FunD K "__init__" "InvalidInteger.__init__" (defArgs s_InvalidInteger__init__) (defBody s_InvalidInteger__init__) (defScope s_InvalidInteger__init__) [] [] (He.ma K (He.ga K "InvalidInteger") "__init__") (fds 21) := Z.z.fd 21 _ rfl
theorem sc_InvalidInteger : FnScope ["self", "given"] ["self", "given"] (defScope s_InvalidInteger__init__) := ⟨rfl, rfl, rfl, by decide +kernel, rfl, by decide +kernel, by decide +kernel⟩
theorem ini_InvalidInteger (Z : ZZ K mg fds) : FnOk P w K mg base CX0 1 (He.ma K (He.ga K "InvalidInteger") "__init__") (fds 21) ["self", "given"] (spIni (He.ga K "InvalidInteger") "given") := ini_ok (F_InvalidInteger Z) sc_InvalidInteger rfl rfl rfl (by decide) (by decide) (g_RowError Z) Z.row (e_InvalidInteger Z) (fun env => ⟨_, rfl⟩)
theorem bi_InvalidInteger (Z : ZZ K mg fds) : L2.Binds K (fds 21) ["self", "given"] [] := (F_InvalidInteger Z).bindsN fun _ _ _ _ _ _ us hl => match us, hl with | [_, _], _ => rfl
theorem e_InvalidIndex (Z : ZZ K mg fds) : Err K (He.ga K "InvalidIndex") (He.ma K (He.ga K "InvalidIndex") "__init__") "given" := Z.err 1 _ rfl
theorem F_InvalidIndex (Z : ZZ K mg fds) : FunD K "__init__" "InvalidIndex.__init__" (defArgs s_InvalidIndex__init__) (defBody s_InvalidIndex__init__) (defScope s_InvalidIndex__init__) [] [] (He.ma K (He.ga K "InvalidIndex") "__init__") (fds 22) := Z.z.fd 22 _ rfl
theorem sc_InvalidIndex : FnScope ["self", "given"] ["self", "given"] (defScope s_InvalidIndex__init__) := ⟨rfl, rfl, rfl, by decide +kernel, rfl, by decide +kernel, by decide +kernel⟩
theorem ini_InvalidIndex (Z : ZZ K mg fds) : FnOk P w K mg base CX0 1 (He.ma K (He.ga K "InvalidIndex") "__init__") (fds 22) ["self", "given"] (spIni (He.ga K "InvalidIndex") "given") := ini_ok (F_InvalidIndex Z) sc_InvalidIndex rfl rfl rfl (by decide) (by decide) (g_RowError Z) Z.row (e_InvalidIndex Z) (fun env => ⟨_, rfl⟩)
theorem bi_InvalidIndex (Z : ZZ K mg fds) : L2.Binds K (fds 22) ["self", "given"] [] := (F_InvalidIndex Z).bindsN fun _ _ _ _ _ _ us hl => match us, hl with | [_, _], _ => rfl
theorem x_InvalidInteger_InvalidInteger (Z : ZZ K mg fds) : PySem.W.exmOne K (.ref (He.ga K "InvalidInteger")) (.ref (He.ga K "InvalidInteger")) = some true := Z.exm 0 _ rfl
theorem x_InvalidIndex_InvalidInteger (Z : ZZ K mg fds) : PySem.W.exmOne K (.ref (He.ga K "InvalidIndex")) (.ref (He.ga K "InvalidInteger")) = some false := Z.exm 1 _ rfl
theorem x_InvalidInteger_InvalidIndex (Z : ZZ K mg fds) : PySem.W.exmOne K (.ref (He.ga K "InvalidInteger")) (.ref (He.ga K "InvalidIndex")) = some false := Z.exm 2 _ rfl
theorem x_InvalidIndex_InvalidIndex (Z : ZZ K mg fds) : PySem.W.exmOne K (.ref (He.ga K "InvalidIndex")) (.ref (He.ga K "InvalidIndex")) = some true := Z.exm 3 _ rfl
def ab_is_integer : ATS :=
  (aRet (aAndV (aIsi "int" (aVar 0)) (aNotV (aIsi "bool" (aVar 0)))))
theorem ok_is_integer {asp : ASp0} (Z : ZZ K mg fds) (hl : ∀ ds S P, asp ds S P → ds.length = 1) (h : ∀ ds S P, asp ds S P → ab_is_integer (fin0 P) (startA N_is_integer ds) S) :
    FnOk P w K mg base CX0 (k + 1) (He.ga K "is_integer") (fds 0) ps_is_integer (cSp0 K asp) :=
  def0 (F_is_integer Z) sc_is_integer hl (fun cdv A outer s H E hr => by
  have hu := hr.units
  have hu1 : (A.deeper (envOfC "is_integer" (defScope s_is_integer) s.heap.objs.size (He.ga K "is_integer") cdv)).units + 1 < cLine := by omega
  exact (z_one (s_ret (a_andV (a_isi (f_isinstance Z) rfl (av 0) rfl (f_int Z) (by decide +kernel)) (a_one (a_notV (a_isi (f_isinstance Z) rfl (av 0) rfl (f_bool Z) (by decide +kernel)))))))) h
def ab_is_within (sp_is_integer : ASp0) : ATS :=
  (aRet (aAndV (aCall0 sp_is_integer (aCons (aVar 0) aNil)) (aChain (fun i j => decide (i ≤ j)) (fun i j => decide (i ≤ j)) (aVar 1) (aVar 0) (aVar 2))))
theorem ok_is_within {sp_is_integer : ASp0} {asp : ASp0} (Z : ZZ K mg fds) (G_is_integer : FnOk P w K mg base CX0 k (He.ga K "is_integer") (fds 0) ps_is_integer (cSp0 K sp_is_integer)) (hl : ∀ ds S P, asp ds S P → ds.length = 3) (h : ∀ ds S P, asp ds S P → ab_is_within sp_is_integer (fin0 P) (startA N_is_within ds) S) :
    FnOk P w K mg base CX0 (k + 1) (He.ga K "is_within") (fds 1) ps_is_within (cSp0 K asp) :=
  def0 (F_is_within Z) sc_is_within hl (fun cdv A outer s H E hr => by
  have hu := hr.units
  have hu1 : (A.deeper (envOfC "is_within" (defScope s_is_within) s.heap.objs.size (He.ga K "is_within") cdv)).units + 1 < cLine := by omega
  exact (z_one (s_ret (a_andV (a_call0 G_is_integer hr rfl (g_is_integer Z) (F_is_integer Z).kp (b_is_integer Z) (g_cons (av 0) g_nil)) (a_one (a_chain op_le op_le (av 1) (av 0) (av 2))))))) h
def ab_turn_by_e1 : AE :=
  (aTimes (aIx (aVar 1) (aVar 4)) (aIx (aVar 2) (aSub (aVar 3) (aVar 4))))
def ab_turn_by_b1 : ATS :=
  (aDrop (aMt mAppend (aVar 2) (aCons (aSub (aIx (aVar 1) (aVar 3)) (aCB bSum (aCons (aLc (aiR1 (aCons (aPlus (aVar 3) (aC (.int 1))) aNil)) (agName 4) aYes (ab_turn_by_e1 ) [4]) aNil))) aNil)))
def ab_turn_by : ATS :=
  (aSeq (aIfS (aTV (aEqS (aVar 0) (aC (.str "R")))) (aRet (aPlusN (aLst (aCons (aC (.int 1)) aNil)) (aCB bList (aCons (aVar 1) aNil)))) aNext)
  (aSeq (aAsg (aLstN (aCons (aC (.int 0)) aNil)) (agName 2))
  (aSeq (aFor (aiR1 (aCons (aCB bLen (aCons (aVar 1) aNil)) aNil)) (agName 3) (ab_turn_by_b1 ))
  (aRet (aVar 2)))))
theorem ok_turn_by {asp : ASp0} (Z : ZZ K mg fds) (hl : ∀ ds S P, asp ds S P → ds.length = 2) (h : ∀ ds S P, asp ds S P → ab_turn_by (fin0 P) (startA N_turn_by ds) S) :
    FnOk P w K mg base CX0 (k + 1) (He.ga K "turn_by") (fds 2) ps_turn_by (cSp0 K asp) :=
  def0 (F_turn_by Z) sc_turn_by hl (fun cdv A outer s H E hr => by
  have hu := hr.units
  have hu1 : (A.deeper (envOfC "turn_by" (defScope s_turn_by) s.heap.objs.size (He.ga K "turn_by") cdv)).units + 1 < cLine := by omega
  exact (z_cons (s_if (t_cmp (a_eqS (av 0) a_str)) (z_one (s_ret (a_plusN (a_lst (g_cons a_int g_nil)) (a_callTy call_list_of cs_list rfl (f_list Z) (by decide +kernel) (g_cons (av 1) g_nil))))) z_nil)
  (z_cons (s_set (i := 2) sc_turn_by.nd rfl (by first | exact Or.inl rfl | exact Or.inr (Or.inl rfl) | exact Or.inr rfl) (a_lstN (g_cons a_int g_nil)))
  (z_cons (s_for PassesOwn.never rfl (i_r1 rfl (f_range Z) (g_cons (a_callB call_lenA cs_len rfl (f_len Z) (by decide +kernel) (g_cons (av 1) g_nil)) g_nil)) (pg_name (i := 3) sc_turn_by.nd rfl (by first | exact Or.inl rfl | exact Or.inr (Or.inl rfl) | exact Or.inr rfl)) gs_name (z_one (s_expr (a_mt PySem.F.slot_list_append PySem.F.type_list_append mt_append ms_append (av 2) (g_cons (a_sub (a_ixA (av 1) (av 3)) (a_callB (cr_sum rfl) cs_sum rfl (f_sum Z) (by decide +kernel) (g_cons (a_lc (own := [("k", 4)]) rfl sc_turn_by.nd (i_r1 rfl (f_range Z) (g_cons (a_plus (av 3) a_int) g_nil)) (blkOk_by (by kernel_rfl)) (fun _ _ _ _ _ => (pg_name (i := 4) sc_turn_by.nd rfl (by first | exact Or.inl rfl | exact Or.inr (Or.inl rfl) | exact Or.inr rfl))) (gw_name (by decide)) (fun _ _ _ _ _ => y_nil) (fun _ _ _ _ _ => (a_times (a_ixA (av 1) (av 4)) (a_ixA (av 2) (a_sub (av 3) (av 4)))))) g_nil))) g_nil)))))
  (z_one (s_ret (av 2))))))) h
def ab_told_by_word_b1 (sp_turn_by : ASp0) : ATS :=
  (aAsg (aCall0 sp_turn_by (aCons (aVar 2) (aCons (aVar 1) aNil))) (agName 1))
def ab_told_by_word (sp_turn_by : ASp0) : ATS :=
  (aSeq (aAsg (aLstN aNil) (agName 1))
  (aSeq (aFor (aiRevS (aVar 0)) (agName 2) (ab_told_by_word_b1 sp_turn_by))
  (aRet (aVar 1))))
theorem ok_told_by_word {sp_turn_by : ASp0} {asp : ASp0} (Z : ZZ K mg fds) (G_turn_by : FnOk P w K mg base CX0 k (He.ga K "turn_by") (fds 2) ps_turn_by (cSp0 K sp_turn_by)) (hl : ∀ ds S P, asp ds S P → ds.length = 1) (h : ∀ ds S P, asp ds S P → ab_told_by_word sp_turn_by (fin0 P) (startA N_told_by_word ds) S) :
    FnOk P w K mg base CX0 (k + 1) (He.ga K "told_by_word") (fds 3) ps_told_by_word (cSp0 K asp) :=
  def0 (F_told_by_word Z) sc_told_by_word hl (fun cdv A outer s H E hr => by
  have hu := hr.units
  have hu1 : (A.deeper (envOfC "told_by_word" (defScope s_told_by_word) s.heap.objs.size (He.ga K "told_by_word") cdv)).units + 1 < cLine := by omega
  exact (z_cons (s_set (i := 1) sc_told_by_word.nd rfl (by first | exact Or.inl rfl | exact Or.inr (Or.inl rfl) | exact Or.inr rfl) (a_lstN g_nil))
  (z_cons (s_for PassesOwn.never rfl (i_revS rfl (f_reversed Z) (av 0)) (pg_name (i := 2) sc_told_by_word.nd rfl (by first | exact Or.inl rfl | exact Or.inr (Or.inl rfl) | exact Or.inr rfl)) gs_name (z_one (s_set (i := 1) sc_told_by_word.nd rfl (by first | exact Or.inl rfl | exact Or.inr (Or.inl rfl) | exact Or.inr rfl) (a_call0 G_turn_by hr rfl (g_turn_by Z) (F_turn_by Z).kp (b_turn_by Z) (g_cons (av 2) (g_cons (av 1) g_nil))))))
  (z_one (s_ret (av 1)))))) h
def ab_kth_row_e1 (K : PySem.W.Frag) (sp_told_by_word : ASp0) (sp_is_within : ASp0) : AE :=
  (aIx (aC (.str "LR")) (aMod (aShr (aVar 1) (aSub (aSub (aVar 0) (aC (.int 1))) (aVar 2))) (aC (.int 2))))
def ab_kth_row (K : PySem.W.Frag) (sp_told_by_word : ASp0) (sp_is_within : ASp0) : ATS :=
  (aSeq (aIfS (aNot (aTV (aCall0 sp_is_within (aCons (aVar 0) (aCons (aC (.int 0)) (aCons (aC (.int 64)) aNil)))))) (aRaise (He.ga K "InvalidInteger") "given" (aVar 0)) aNext)
  (aSeq (aIfS (aNot (aTV (aCall0 sp_is_within (aCons (aVar 1) (aCons (aC (.int 0)) (aCons (aSub (aShl (aC (.int 1)) (aVar 0)) (aC (.int 1))) aNil)))))) (aRaise (He.ga K "InvalidIndex") "given" (aVar 1)) aNext)
  (aRet (aCall0 sp_told_by_word (aCons (aJoin (aC (.str "")) (aLc (aiR1 (aCons (aVar 0) aNil)) (agName 2) aYes (ab_kth_row_e1 K sp_told_by_word sp_is_within) [2])) aNil)))))
theorem ok_kth_row {sp_told_by_word : ASp0} {sp_is_within : ASp0} {asp : ASp} (Z : ZZ K mg fds) (G_told_by_word : FnOk P w K mg base CX0 k (He.ga K "told_by_word") (fds 3) ps_told_by_word (cSp0 K sp_told_by_word)) (G_is_within : FnOk P w K mg base CX0 k (He.ga K "is_within") (fds 1) ps_is_within (cSp0 K sp_is_within)) (hk : 2 ≤ k) (hl : ∀ ds S P x, asp ds S P x → ds.length = 2) (h : ∀ ds S P x, asp ds S P x → ab_kth_row K sp_told_by_word sp_is_within (finX P x) (startA N_kth_row ds) S) :
    FnOk P w K mg base (L2.CX P w) (k + 1) (He.ga K "kth_row") (fds 4) ps_kth_row (cSpX K asp) :=
  defX (F_kth_row Z) sc_kth_row hl (fun cdv A outer s H E hr => by
  have hu := hr.units
  have hu1 : (A.deeper (envOfC "kth_row" (defScope s_kth_row) s.heap.objs.size (He.ga K "kth_row") cdv)).units + 1 < cLine := by omega
  have tk := takes_of (X := cxOf (L2.CX P w) P w K mg base N_kth_row "kth_row" (defScope s_kth_row) (He.ga K "kth_row") cdv A outer s H E) rfl rfl rfl rfl
  exact (z_cons (s_if (t_not (t_val (a_call0 G_is_within hr rfl (g_is_within Z) (F_is_within Z).kp (b_is_within Z) (g_cons (av 0) (g_cons a_int (g_cons (a_glob rfl (i_MOST_PLACES Z)) g_nil)))))) (z_one (s_raise (e_InvalidInteger Z) (ini_InvalidInteger Z) (hr.mono hk) (bi_InvalidInteger Z) rfl tk rfl (g_InvalidInteger Z) (av 0))) z_nil)
  (z_cons (s_if (t_not (t_val (a_call0 G_is_within hr rfl (g_is_within Z) (F_is_within Z).kp (b_is_within Z) (g_cons (av 1) (g_cons a_int (g_cons (a_sub (a_shl a_int (av 0)) a_int) g_nil)))))) (z_one (s_raise (e_InvalidIndex Z) (ini_InvalidIndex Z) (hr.mono hk) (bi_InvalidIndex Z) rfl tk rfl (g_InvalidIndex Z) (av 1))) z_nil)
  (z_one (s_ret (a_call0 G_told_by_word hr rfl (g_told_by_word Z) (F_told_by_word Z).kp (b_told_by_word Z) (g_cons (a_join a_str (a_lc (own := [("at", 2)]) rfl sc_kth_row.nd (i_r1 rfl (f_range Z) (g_cons (av 0) g_nil)) (blkOk_by (by kernel_rfl)) (fun _ _ _ _ _ => (pg_name (i := 2) sc_kth_row.nd rfl (by first | exact Or.inl rfl | exact Or.inr (Or.inl rfl) | exact Or.inr rfl))) (gw_name (by decide)) (fun _ _ _ _ _ => y_nil) (fun _ _ _ _ _ => (a_ixA a_str (a_mod (a_shr (av 1) (a_sub (a_sub (av 0) a_int) (av 2))) a_int))))) g_nil))))))) h
def ab__law_cell : ATS :=
  (aRet (aIf (aTV (aLt (aVar 1) (aCB bLen (aCons (aVar 0) aNil)))) (aIx (aVar 0) (aVar 1)) (aPlus (aTimes (aC (.int 7669)) (aVar 1)) (aMod (aCB bInt (aCons (aCB bSum (aCons (aSl (aVar 0) aNo (aPt (aC (.int 1)))) aNil)) aNil)) (aC (.int 1000033))))))
theorem ok__law_cell {asp : ASp0} (Z : ZZ K mg fds) (hl : ∀ ds S P, asp ds S P → ds.length = 2) (h : ∀ ds S P, asp ds S P → ab__law_cell (fin0 P) (startA N__law_cell ds) S) :
    FnOk P w K mg base CX0 (k + 1) (He.ga K "_law_cell") (fds 5) ps__law_cell (cSp0 K asp) :=
  def0 (F__law_cell Z) sc__law_cell hl (fun cdv A outer s H E hr => by
  have hu := hr.units
  have hu1 : (A.deeper (envOfC "_law_cell" (defScope s__law_cell) s.heap.objs.size (He.ga K "_law_cell") cdv)).units + 1 < cLine := by omega
  exact (z_one (s_ret (a_if (t_cmp (a_lt (av 1) (a_callB call_lenA cs_len rfl (f_len Z) (by decide +kernel) (g_cons (av 0) g_nil)))) (a_ixA (av 0) (av 1)) (a_plus (a_times a_int (av 1)) (a_mod (a_callTy call_int1 cs_int rfl (f_int Z) (by decide +kernel) (g_cons (a_callB (cr_sum rfl) cs_sum rfl (f_sum Z) (by decide +kernel) (g_cons (a_sl (av 0) o_none (o_some a_int)) g_nil)) g_nil)) a_int)))))) h
def ab__law_box : ATS :=
  (aRet (aLstN (aCons (aCB bAbs (aCons (aVar 0) aNil)) (aCons (aGe (aCB bAbs (aCons (aVar 0) aNil)) (aPow (aC (.int 10)) (aC (.int 18)))) (aCons (aMod (aCB bInt (aCons (aCB bAbs (aCons (aVar 0) aNil)) aNil)) (aC (.int 2147483629))) (aCons (aC (.int 0)) aNil))))))
theorem ok__law_box {asp : ASp0} (Z : ZZ K mg fds) (hl : ∀ ds S P, asp ds S P → ds.length = 1) (h : ∀ ds S P, asp ds S P → ab__law_box (fin0 P) (startA N__law_box ds) S) :
    FnOk P w K mg base CX0 (k + 1) (He.ga K "_law_box") (fds 6) ps__law_box (cSp0 K asp) :=
  def0 (F__law_box Z) sc__law_box hl (fun cdv A outer s H E hr => by
  have hu := hr.units
  have hu1 : (A.deeper (envOfC "_law_box" (defScope s__law_box) s.heap.objs.size (He.ga K "_law_box") cdv)).units + 1 < cLine := by omega
  exact (z_one (s_ret (a_lstN (g_cons (a_callB call_abs cs_abs rfl (f_abs Z) (by decide +kernel) (g_cons (av 0) g_nil)) (g_cons (a_ge (a_callB call_abs cs_abs rfl (f_abs Z) (by decide +kernel) (g_cons (av 0) g_nil)) (a_pow a_int a_int)) (g_cons (a_mod (a_callTy call_int1 cs_int rfl (f_int Z) (by decide +kernel) (g_cons (a_callB call_abs cs_abs rfl (f_abs Z) (by decide +kernel) (g_cons (av 0) g_nil)) g_nil)) a_int) (g_cons a_int g_nil)))))))) h
def ab__law_take : ATS :=
  (aSeq (aIfS (aAnd (aTV (aIx (aVar 0) (aC (.int 1)))) (aTV (aGt (aIx (aVar 0) (aC (.int 0))) (aC (.int 0))))) (aSeq (aAsg (aMod (aCB bInt (aCons (aIx (aVar 0) (aC (.int 0))) aNil)) (aVar 1)) (agName 2))
  (aSeq (aSetIx (aVar 0) (aC (.int 0)) (aFdivA (aIx (aVar 0) (aC (.int 0))) (aVar 1)))
  (aRet (aVar 2)))) aNext)
  (aSeq (aSetIx (aVar 0) (aC (.int 3)) (aPlus (aIx (aVar 0) (aC (.int 3))) (aC (.int 1))))
  (aSeq (aAsg (aMod (aCB bInt (aCons (aPow (aPlus (aPlus (aIx (aVar 0) (aC (.int 2))) (aTimes (aC (.int 15486193)) (aIx (aVar 0) (aC (.int 3))))) (aC (.int 170356050))) (aC (.int 5))) aNil)) (aC (.int 2147483647))) (agName 3))
  (aRet (aMod (aCB bInt (aCons (aFdivA (aMod (aCB bInt (aCons (aPow (aPlus (aTimes (aVar 3) (aC (.int 48271))) (aTimes (aC (.int 104831)) (aIx (aVar 0) (aC (.int 3))))) (aC (.int 3))) aNil)) (aC (.int 2147483587))) (aC (.int 64))) aNil)) (aVar 1))))))
theorem ok__law_take {asp : ASp0} (Z : ZZ K mg fds) (hl : ∀ ds S P, asp ds S P → ds.length = 2) (h : ∀ ds S P, asp ds S P → ab__law_take (fin0 P) (startA N__law_take ds) S) :
    FnOk P w K mg base CX0 (k + 1) (He.ga K "_law_take") (fds 7) ps__law_take (cSp0 K asp) :=
  def0 (F__law_take Z) sc__law_take hl (fun cdv A outer s H E hr => by
  have hu := hr.units
  have hu1 : (A.deeper (envOfC "_law_take" (defScope s__law_take) s.heap.objs.size (He.ga K "_law_take") cdv)).units + 1 < cLine := by omega
  exact (z_cons (s_if (L2.PW.pt (w_and (t_val (a_ixA (av 0) a_int)) (w_and1 (t_cmp (a_gt (a_ixA (av 0) a_int) a_int))))) (z_cons (s_set (i := 2) sc__law_take.nd rfl (by first | exact Or.inl rfl | exact Or.inr (Or.inl rfl) | exact Or.inr rfl) (a_mod (a_callTy call_int1 cs_int rfl (f_int Z) (by decide +kernel) (g_cons (a_ixA (av 0) a_int) g_nil)) (av 1)))
  (z_cons (s_setIx (av 0) a_int (a_fdivA (a_ixA (av 0) a_int) (av 1)))
  (z_one (s_ret (av 2))))) z_nil)
  (z_cons (s_setIx (av 0) a_int (a_plus (a_ixA (av 0) a_int) a_int))
  (z_cons (s_set (i := 3) sc__law_take.nd rfl (by first | exact Or.inl rfl | exact Or.inr (Or.inl rfl) | exact Or.inr rfl) (a_mod (a_callTy call_int1 cs_int rfl (f_int Z) (by decide +kernel) (g_cons (a_pow (a_plus (a_plus (a_ixA (av 0) a_int) (a_times a_int (a_ixA (av 0) a_int))) a_int) a_int) g_nil)) a_int))
  (z_one (s_ret (a_mod (a_callTy call_int1 cs_int rfl (f_int Z) (by decide +kernel) (g_cons (a_fdivA (a_mod (a_callTy call_int1 cs_int rfl (f_int Z) (by decide +kernel) (g_cons (a_pow (a_plus (a_times (av 3) a_int) (a_times a_int (a_ixA (av 0) a_int))) a_int) g_nil)) a_int) a_int) g_nil)) (av 1)))))))) h
def ab__law_pick (sp__law_take : ASp0) : ATS :=
  (aRet (aIx (aVar 1) (aCall0 sp__law_take (aCons (aVar 0) (aCons (aCB bLen (aCons (aVar 1) aNil)) aNil)))))
theorem ok__law_pick {sp__law_take : ASp0} {asp : ASp0} (Z : ZZ K mg fds) (G__law_take : FnOk P w K mg base CX0 k (He.ga K "_law_take") (fds 7) ps__law_take (cSp0 K sp__law_take)) (hl : ∀ ds S P, asp ds S P → ds.length = 2) (h : ∀ ds S P, asp ds S P → ab__law_pick sp__law_take (fin0 P) (startA N__law_pick ds) S) :
    FnOk P w K mg base CX0 (k + 1) (He.ga K "_law_pick") (fds 8) ps__law_pick (cSp0 K asp) :=
  def0 (F__law_pick Z) sc__law_pick hl (fun cdv A outer s H E hr => by
  have hu := hr.units
  have hu1 : (A.deeper (envOfC "_law_pick" (defScope s__law_pick) s.heap.objs.size (He.ga K "_law_pick") cdv)).units + 1 < cLine := by omega
  exact (z_one (s_ret (a_ixA (av 1) (a_call0 G__law_take hr rfl (g__law_take Z) (F__law_take Z).kp (b__law_take Z) (g_cons (av 0) (g_cons (a_callB call_lenA cs_len rfl (f_len Z) (by decide +kernel) (g_cons (av 1) g_nil)) g_nil))))))) h
def ab__law_same_t1 (sp__law_same : ASp0) : AT :=
  (aNot (aTV (aCall0 sp__law_same (aCons (aIx (aVar 0) (aVar 3)) (aCons (aIx (aVar 1) (aVar 3)) aNil)))))
def ab__law_same_e1 (sp__law_same : ASp0) : AE :=
  (aVar 3)
def ab__law_same_t2 (sp__law_same : ASp0) : AT :=
  (aOr (aTV (aDIn true (aVar 2) (aVar 0))) (aNot (aTV (aCall0 sp__law_same (aCons (aDGet (aVar 0) (aVar 2)) (aCons (aDGet (aVar 1) (aVar 2)) aNil))))))
def ab__law_same_e2 (sp__law_same : ASp0) : AE :=
  (aVar 2)
def ab__law_same (sp__law_same : ASp0) : ATS :=
  (aSeq (aIfS (aOr (aTV (aIs false (aVar 1) (aC .non))) (aTV (aIsi "bool" (aVar 1)))) (aRet (aIf (aTV (aIs false (aVar 1) (aC .non))) (aIs false (aVar 0) (aC .non)) (aAndV (aIsi "bool" (aVar 0)) (aEqS (aIs false (aVar 0) (aC (.bl true))) (aIs false (aVar 1) (aC (.bl true))))))) aNext)
  (aSeq (aIfS (aTV (aIsi "int" (aVar 1))) (aRet (aAndV (aIsi "int" (aVar 0)) (aAndV (aNotV (aIsi "bool" (aVar 0))) (aEqS (aSub (aCB bInt (aCons (aVar 0) aNil)) (aVar 1)) (aC (.int 0)))))) aNext)
  (aSeq (aIfS (aTV (aIsi "str" (aVar 1))) (aRet (aAndV (aIsi "str" (aVar 0)) (aEqS (aVar 0) (aVar 1)))) aNext)
  (aSeq (aIfS (aTV (aIsi "dict" (aVar 1))) (aSeq (aIfS (aOr (aNot (aTV (aIsi "dict" (aVar 0)))) (aTV (aNeS (aCB bLen (aCons (aVar 0) aNil)) (aCB bLen (aCons (aVar 1) aNil))))) (aRet (aC (.bl false))) aNext)
  (aRet (aEq (aLc (iK 1) (agName 2) (ab__law_same_t2 sp__law_same) (ab__law_same_e2 sp__law_same) [2]) (aLst aNil)))) aNext)
  (aSeq (aIfS (aOr (aNot (aTV (aIsi2 "list" "tuple" (aVar 1)))) (aNot (aTV (aIsi2 "list" "tuple" (aVar 0))))) (aRet (aC (.bl false))) aNext)
  (aSeq (aIfS (aOr (aTV (aNeS (aIsi "list" (aVar 0)) (aIsi "list" (aVar 1)))) (aTV (aNeS (aCB bLen (aCons (aVar 0) aNil)) (aCB bLen (aCons (aVar 1) aNil))))) (aRet (aC (.bl false))) aNext)
  (aRet (aEq (aLc (aiR1 (aCons (aCB bLen (aCons (aVar 1) aNil)) aNil)) (agName 3) (ab__law_same_t1 sp__law_same) (ab__law_same_e1 sp__law_same) [3]) (aLst aNil)))))))))
theorem ok__law_same {sp__law_same : ASp0} {asp : ASp0} (Z : ZZ K mg fds) (G__law_same : FnOk P w K mg base CX0 k (He.ga K "_law_same") (fds 9) ps__law_same (cSp0 K sp__law_same)) (hl : ∀ ds S P, asp ds S P → ds.length = 2) (h : ∀ ds S P, asp ds S P → ab__law_same sp__law_same (fin0 P) (startA N__law_same ds) S) :
    FnOk P w K mg base CX0 (k + 1) (He.ga K "_law_same") (fds 9) ps__law_same (cSp0 K asp) :=
  def0 (F__law_same Z) sc__law_same hl (fun cdv A outer s H E hr => by
  have hu := hr.units
  have hu1 : (A.deeper (envOfC "_law_same" (defScope s__law_same) s.heap.objs.size (He.ga K "_law_same") cdv)).units + 1 < cLine := by omega
  exact (z_cons (s_if (L2.PW.pt (w_or (t_cmp (a_is (av 1) a_non)) (w_or1 (t_val (a_isi (f_isinstance Z) rfl (av 1) rfl (f_bool Z) (by decide +kernel)))))) (z_one (s_ret (a_if (t_cmp (a_is (av 1) a_non)) (a_is (av 0) a_non) (a_andV (a_isi (f_isinstance Z) rfl (av 0) rfl (f_bool Z) (by decide +kernel)) (a_one (a_eqS (a_is (av 0) a_bl) (a_is (av 1) a_bl))))))) z_nil)
  (z_cons (s_if (t_val (a_isi (f_isinstance Z) rfl (av 1) rfl (f_int Z) (by decide +kernel))) (z_one (s_ret (a_andV (a_isi (f_isinstance Z) rfl (av 0) rfl (f_int Z) (by decide +kernel)) (a_andV (a_notV (a_isi (f_isinstance Z) rfl (av 0) rfl (f_bool Z) (by decide +kernel))) (a_one (a_eqS (a_sub (a_callTy call_int1 cs_int rfl (f_int Z) (by decide +kernel) (g_cons (av 0) g_nil)) (av 1)) a_int)))))) z_nil)
  (z_cons (s_if (t_val (a_isi (f_isinstance Z) rfl (av 1) rfl (f_str Z) (by decide +kernel))) (z_one (s_ret (a_andV (a_isi (f_isinstance Z) rfl (av 0) rfl (f_str Z) (by decide +kernel)) (a_one (a_eqS (av 0) (av 1)))))) z_nil)
  (z_cons (s_if (t_val (a_isi (f_isinstance Z) rfl (av 1) rfl (f_dict Z) (by decide +kernel))) (z_cons (s_if (L2.PW.pt (w_or (t_not (t_val (a_isi (f_isinstance Z) rfl (av 0) rfl (f_dict Z) (by decide +kernel)))) (w_or1 (t_cmp (a_neS (a_callB call_lenA cs_len rfl (f_len Z) (by decide +kernel) (g_cons (av 0) g_nil)) (a_callB call_lenA cs_len rfl (f_len Z) (by decide +kernel) (g_cons (av 1) g_nil))))))) (z_one (s_ret a_bl)) z_nil)
  (z_one (s_ret (a_eq hu (a_lcK (own := [("key", 2)]) rfl sc__law_same.nd (L2.pv 1) (blkOk_by (by kernel_rfl)) (fun _ _ _ _ _ => (pg_name (i := 2) sc__law_same.nd rfl (by first | exact Or.inl rfl | exact Or.inr (Or.inl rfl) | exact Or.inr rfl))) (gw_name (by decide)) (fun _ _ _ _ _ => (y_one (L2.PW.pt (w_or (t_cmp (a_dNotIn hu1 (av 2) (av 0) (by with_unfolding_all rfl))) (w_or1 (t_not (t_val (a_call0 G__law_same hr rfl (g__law_same Z) (F__law_same Z).kp (b__law_same Z) (g_cons (a_dGet hu1 (av 0) (av 2)) (g_cons (a_dGet hu1 (av 1) (av 2)) g_nil)))))))))) (fun _ _ _ _ _ => (av 2))) (a_lst g_nil))))) z_nil)
  (z_cons (s_if (L2.PW.pt (w_or (t_not (t_val (a_isi2 (f_isinstance Z) rfl (av 1) rfl (f_list Z) (by decide +kernel) rfl (f_tuple Z) (by decide +kernel)))) (w_or1 (t_not (t_val (a_isi2 (f_isinstance Z) rfl (av 0) rfl (f_list Z) (by decide +kernel) rfl (f_tuple Z) (by decide +kernel))))))) (z_one (s_ret a_bl)) z_nil)
  (z_cons (s_if (L2.PW.pt (w_or (t_cmp (a_neS (a_isi (f_isinstance Z) rfl (av 0) rfl (f_list Z) (by decide +kernel)) (a_isi (f_isinstance Z) rfl (av 1) rfl (f_list Z) (by decide +kernel)))) (w_or1 (t_cmp (a_neS (a_callB call_lenA cs_len rfl (f_len Z) (by decide +kernel) (g_cons (av 0) g_nil)) (a_callB call_lenA cs_len rfl (f_len Z) (by decide +kernel) (g_cons (av 1) g_nil))))))) (z_one (s_ret a_bl)) z_nil)
  (z_one (s_ret (a_eq hu (a_lc (own := [("k", 3)]) rfl sc__law_same.nd (i_r1 rfl (f_range Z) (g_cons (a_callB call_lenA cs_len rfl (f_len Z) (by decide +kernel) (g_cons (av 1) g_nil)) g_nil)) (blkOk_by (by kernel_rfl)) (fun _ _ _ _ _ => (pg_name (i := 3) sc__law_same.nd rfl (by first | exact Or.inl rfl | exact Or.inr (Or.inl rfl) | exact Or.inr rfl))) (gw_name (by decide)) (fun _ _ _ _ _ => (y_one (t_not (t_val (a_call0 G__law_same hr rfl (g__law_same Z) (F__law_same Z).kp (b__law_same Z) (g_cons (a_ixA (av 0) (av 3)) (g_cons (a_ixA (av 1) (av 3)) g_nil))))))) (fun _ _ _ _ _ => (av 3))) (a_lst g_nil))))))))))) h
def ab__law_very (sp__law_same : ASp0) : ATS :=
  (aSeq (aIfS (aNot (aTV (aCall0 sp__law_same (aCons (aVar 0) (aCons (aVar 1) aNil))))) (aRet (aC (.bl false))) aNext)
  (aSeq (aIfS (aTV (aIsi "list" (aVar 1))) (aDrop (aMt mAppend (aVar 1) (aCons (aC (.str "more")) aNil))) aNext)
  (aSeq (aIfS (aTV (aIsi "dict" (aVar 1))) (aDPut (aVar 1) (aC (.str "more")) (aC (.int 1))) aNext)
  (aRet (aCall0 sp__law_same (aCons (aVar 0) (aCons (aVar 1) aNil)))))))
theorem ok__law_very {sp__law_same : ASp0} {asp : ASp0} (Z : ZZ K mg fds) (G__law_same : FnOk P w K mg base CX0 k (He.ga K "_law_same") (fds 9) ps__law_same (cSp0 K sp__law_same)) (hl : ∀ ds S P, asp ds S P → ds.length = 2) (h : ∀ ds S P, asp ds S P → ab__law_very sp__law_same (fin0 P) (startA N__law_very ds) S) :
    FnOk P w K mg base CX0 (k + 1) (He.ga K "_law_very") (fds 10) ps__law_very (cSp0 K asp) :=
  def0 (F__law_very Z) sc__law_very hl (fun cdv A outer s H E hr => by
  have hu := hr.units
  have hu1 : (A.deeper (envOfC "_law_very" (defScope s__law_very) s.heap.objs.size (He.ga K "_law_very") cdv)).units + 1 < cLine := by omega
  exact (z_cons (s_if (t_not (t_val (a_call0 G__law_same hr rfl (g__law_same Z) (F__law_same Z).kp (b__law_same Z) (g_cons (av 0) (g_cons (av 1) g_nil))))) (z_one (s_ret a_bl)) z_nil)
  (z_cons (s_if (t_val (a_isi (f_isinstance Z) rfl (av 1) rfl (f_list Z) (by decide +kernel))) (z_one (s_expr (a_mt PySem.F.slot_list_append PySem.F.type_list_append mt_append ms_append (av 1) (g_cons a_str g_nil)))) z_nil)
  (z_cons (s_if (t_val (a_isi (f_isinstance Z) rfl (av 1) rfl (f_dict Z) (by decide +kernel))) (z_one (s_dPut hu1 (av 1) a_str a_int)) z_nil)
  (z_one (s_ret (a_call0 G__law_same hr rfl (g__law_same Z) (F__law_same Z).kp (b__law_same Z) (g_cons (av 0) (g_cons (av 1) g_nil))))))))) h
def ab__law_integers_t1 : AT :=
  (aTV (aNeS (aIx (aVar 3) (aVar 10)) (aC (.int 0))))
def ab__law_integers_e1 : AE :=
  (aTimes (aIx (aVar 3) (aVar 10)) (aIx (aVar 6) (aSub (aVar 7) (aVar 10))))
def ab__law_integers_b1 : ATS :=
  (aDrop (aMt mAppend (aVar 6) (aCons (aSub (aIx (aVar 2) (aVar 7)) (aCB bSum (aCons (aLc (aiR2 (aCons (aC (.int 1)) (aCons (aPlus (aVar 7) (aC (.int 1))) aNil))) (agName 10) (ab__law_integers_t1 ) (ab__law_integers_e1 ) [10]) aNil))) aNil)))
def ab__law_integers_e2 : AE :=
  (aPlus (aVar 8) (aVar 9))
def ab__law_integers_e3 : AE :=
  (aPlus (aVar 8) (aVar 9))
def ab__law_integers_b2 : ATS :=
  (aSeq (aAsg (aIf (aTV (aGt (aVar 1) (aC (.int 0)))) (aPlus (aLst (aCons (aC (.int 0)) aNil)) (aSl (aVar 2) aNo (aPt (aNeg (aC (.int 1)))))) (aLst aNil)) (agName 5))
  (aIfS (aTV (aEqS (aVar 4) (aC (.str "R")))) (aAsg (aLc (aiZip (aCons (aVar 5) (aCons (aVar 3) aNil))) (agTup 2 (agCons (agName 8) (agCons (agName 9) agNil))) aYes (ab__law_integers_e2 ) [8, 9]) (agName 2)) (aAsg (aTup (aCons (aVar 5) (aCons (aLc (aiZip (aCons (aVar 5) (aCons (aVar 3) aNil))) (agTup 2 (agCons (agName 8) (agCons (agName 9) agNil))) aYes (ab__law_integers_e3 ) [8, 9]) aNil))) (agTup 2 (agCons (agName 2) (agCons (agName 3) agNil))))))
def ab__law_integers : ATS :=
  (aSeq (aAsg (aTup (aCons (aTimes (aLst (aCons (aC (.int 0)) aNil)) (aVar 1)) (aCons (aIf (aTV (aGt (aVar 1) (aC (.int 0)))) (aPlus (aLst (aCons (aC (.int 1)) aNil)) (aTimes (aLst (aCons (aC (.int 0)) aNil)) (aSub (aVar 1) (aC (.int 1))))) (aLst aNil)) aNil))) (agTup 2 (agCons (agName 2) (agCons (agName 3) agNil))))
  (aSeq (aFor (aiAny (aRv (aVar 0))) (agName 4) (ab__law_integers_b2 ))
  (aSeq (aAsg (aLstN aNil) (agName 6))
  (aSeq (aFor (aiR1 (aCons (aVar 1) aNil)) (agName 7) (ab__law_integers_b1 ))
  (aRet (aVar 6))))))
theorem ok__law_integers {asp : ASp0} (Z : ZZ K mg fds) (hl : ∀ ds S P, asp ds S P → ds.length = 2) (h : ∀ ds S P, asp ds S P → ab__law_integers (fin0 P) (startA N__law_integers ds) S) :
    FnOk P w K mg base CX0 (k + 1) (He.ga K "_law_integers") (fds 11) ps__law_integers (cSp0 K asp) :=
  def0 (F__law_integers Z) sc__law_integers hl (fun cdv A outer s H E hr => by
  have hu := hr.units
  have hu1 : (A.deeper (envOfC "_law_integers" (defScope s__law_integers) s.heap.objs.size (He.ga K "_law_integers") cdv)).units + 1 < cLine := by omega
  exact (z_cons (s_asg (a_tup (g_cons (a_times (a_lst (g_cons a_int g_nil)) (av 1)) (g_cons (a_if (t_cmp (a_gt (av 1) a_int)) (a_plus (a_lst (g_cons a_int g_nil)) (a_times (a_lst (g_cons a_int g_nil)) (a_sub (av 1) a_int))) (a_lst g_nil)) g_nil))) (pg_tup rfl (pgs_cons (pg_name (i := 2) sc__law_integers.nd rfl (by first | exact Or.inl rfl | exact Or.inr (Or.inl rfl) | exact Or.inr rfl)) (pgs_cons (pg_name (i := 3) sc__law_integers.nd rfl (by first | exact Or.inl rfl | exact Or.inr (Or.inl rfl) | exact Or.inr rfl)) pgs_nil))) (gs_tup (gss_cons gs_name (gss_cons gs_name gss_nil))))
  (z_cons (s_for PassesOwn.never rfl (i_any (a_rv (av 0))) (pg_name (i := 4) sc__law_integers.nd rfl (by first | exact Or.inl rfl | exact Or.inr (Or.inl rfl) | exact Or.inr rfl)) gs_name (z_cons (s_set (i := 5) sc__law_integers.nd rfl (by first | exact Or.inl rfl | exact Or.inr (Or.inl rfl) | exact Or.inr rfl) (a_if (t_cmp (a_gt (av 1) a_int)) (a_plus (a_lst (g_cons a_int g_nil)) (a_sl (av 2) o_none (o_some (a_neg a_int)))) (a_lst g_nil)))
  (z_one (s_if (t_cmp (a_eqS (av 4) a_str)) (z_one (s_setLc (own := [("a", 8), ("b", 9)]) rfl sc__law_integers.nd rfl rfl (by with_unfolding_all rfl) (i_zip rfl (f_zip Z) (g_cons (av 5) (g_cons (av 3) g_nil))) (blkOk_by (by kernel_rfl)) (fun _ _ _ _ _ => (pg_tup rfl (pgs_cons (pg_name (i := 8) sc__law_integers.nd rfl (by first | exact Or.inl rfl | exact Or.inr (Or.inl rfl) | exact Or.inr rfl)) (pgs_cons (pg_name (i := 9) sc__law_integers.nd rfl (by first | exact Or.inl rfl | exact Or.inr (Or.inl rfl) | exact Or.inr rfl)) pgs_nil)))) (gw_two (by decide) (by decide)) (fun _ _ _ _ _ => y_nil) (fun _ _ _ _ _ => (a_plus (av 8) (av 9))))) (z_one (s_asg (a_tup (g_cons (av 5) (g_cons (a_lc (own := [("a", 8), ("b", 9)]) rfl sc__law_integers.nd (i_zip rfl (f_zip Z) (g_cons (av 5) (g_cons (av 3) g_nil))) (blkOk_by (by kernel_rfl)) (fun _ _ _ _ _ => (pg_tup rfl (pgs_cons (pg_name (i := 8) sc__law_integers.nd rfl (by first | exact Or.inl rfl | exact Or.inr (Or.inl rfl) | exact Or.inr rfl)) (pgs_cons (pg_name (i := 9) sc__law_integers.nd rfl (by first | exact Or.inl rfl | exact Or.inr (Or.inl rfl) | exact Or.inr rfl)) pgs_nil)))) (gw_two (by decide) (by decide)) (fun _ _ _ _ _ => y_nil) (fun _ _ _ _ _ => (a_plus (av 8) (av 9)))) g_nil))) (pg_tup rfl (pgs_cons (pg_name (i := 2) sc__law_integers.nd rfl (by first | exact Or.inl rfl | exact Or.inr (Or.inl rfl) | exact Or.inr rfl)) (pgs_cons (pg_name (i := 3) sc__law_integers.nd rfl (by first | exact Or.inl rfl | exact Or.inr (Or.inl rfl) | exact Or.inr rfl)) pgs_nil))) (gs_tup (gss_cons gs_name (gss_cons gs_name gss_nil)))))))))
  (z_cons (s_set (i := 6) sc__law_integers.nd rfl (by first | exact Or.inl rfl | exact Or.inr (Or.inl rfl) | exact Or.inr rfl) (a_lstN g_nil))
  (z_cons (s_for PassesOwn.never rfl (i_r1 rfl (f_range Z) (g_cons (av 1) g_nil)) (pg_name (i := 7) sc__law_integers.nd rfl (by first | exact Or.inl rfl | exact Or.inr (Or.inl rfl) | exact Or.inr rfl)) gs_name (z_one (s_expr (a_mt PySem.F.slot_list_append PySem.F.type_list_append mt_append ms_append (av 6) (g_cons (a_sub (a_ixA (av 2) (av 7)) (a_callB (cr_sum rfl) cs_sum rfl (f_sum Z) (by decide +kernel) (g_cons (a_lc (own := [("j", 10)]) rfl sc__law_integers.nd (i_r2 rfl (f_range Z) (g_cons a_int (g_cons (a_plus (av 7) a_int) g_nil))) (blkOk_by (by kernel_rfl)) (fun _ _ _ _ _ => (pg_name (i := 10) sc__law_integers.nd rfl (by first | exact Or.inl rfl | exact Or.inr (Or.inl rfl) | exact Or.inr rfl))) (gw_name (by decide)) (fun _ _ _ _ _ => (y_one (t_cmp (a_neS (a_ixA (av 3) (av 10)) a_int)))) (fun _ _ _ _ _ => (a_times (a_ixA (av 3) (av 10)) (a_ixA (av 6) (a_sub (av 7) (av 10)))))) g_nil))) g_nil)))))
  (z_one (s_ret (av 6)))))))) h
def ab__law_row (sp__law_integers : ASp0) : ATS :=
  (aRet (aCall0 sp__law_integers (aCons (aVar 0) (aCons (aCB bLen (aCons (aVar 0) aNil)) aNil))))
theorem ok__law_row {sp__law_integers : ASp0} {asp : ASp0} (Z : ZZ K mg fds) (G__law_integers : FnOk P w K mg base CX0 k (He.ga K "_law_integers") (fds 11) ps__law_integers (cSp0 K sp__law_integers)) (hl : ∀ ds S P, asp ds S P → ds.length = 1) (h : ∀ ds S P, asp ds S P → ab__law_row sp__law_integers (fin0 P) (startA N__law_row ds) S) :
    FnOk P w K mg base CX0 (k + 1) (He.ga K "_law_row") (fds 12) ps__law_row (cSp0 K asp) :=
  def0 (F__law_row Z) sc__law_row hl (fun cdv A outer s H E hr => by
  have hu := hr.units
  have hu1 : (A.deeper (envOfC "_law_row" (defScope s__law_row) s.heap.objs.size (He.ga K "_law_row") cdv)).units + 1 < cLine := by omega
  exact (z_one (s_ret (a_call0 G__law_integers hr rfl (g__law_integers Z) (F__law_integers Z).kp (b__law_integers Z) (g_cons (av 0) (g_cons (a_callB call_lenA cs_len rfl (f_len Z) (by decide +kernel) (g_cons (av 0) g_nil)) g_nil)))))) h
def ab__law_low (sp__law_integers : ASp0) : ATS :=
  (aRet (aIx (aCall0 sp__law_integers (aCons (aPlus (aVar 0) (aC (.str "L"))) (aCons (aPlus (aCB bLen (aCons (aVar 0) aNil)) (aC (.int 1))) aNil))) (aCB bLen (aCons (aVar 0) aNil))))
theorem ok__law_low {sp__law_integers : ASp0} {asp : ASp0} (Z : ZZ K mg fds) (G__law_integers : FnOk P w K mg base CX0 k (He.ga K "_law_integers") (fds 11) ps__law_integers (cSp0 K sp__law_integers)) (hl : ∀ ds S P, asp ds S P → ds.length = 1) (h : ∀ ds S P, asp ds S P → ab__law_low sp__law_integers (fin0 P) (startA N__law_low ds) S) :
    FnOk P w K mg base CX0 (k + 1) (He.ga K "_law_low") (fds 13) ps__law_low (cSp0 K asp) :=
  def0 (F__law_low Z) sc__law_low hl (fun cdv A outer s H E hr => by
  have hu := hr.units
  have hu1 : (A.deeper (envOfC "_law_low" (defScope s__law_low) s.heap.objs.size (He.ga K "_law_low") cdv)).units + 1 < cLine := by omega
  exact (z_one (s_ret (a_ixA (a_call0 G__law_integers hr rfl (g__law_integers Z) (F__law_integers Z).kp (b__law_integers Z) (g_cons (a_plus (av 0) a_str) (g_cons (a_plus (a_callB call_lenA cs_len rfl (f_len Z) (by decide +kernel) (g_cons (av 0) g_nil)) a_int) g_nil))) (a_callB call_lenA cs_len rfl (f_len Z) (by decide +kernel) (g_cons (av 0) g_nil)))))) h
def ab__law_two_b1 : ATS :=
  (aAsg (aTimes (aC (.int 2)) (aVar 1)) (agName 1))
def ab__law_two : ATS :=
  (aSeq (aAsg (aC (.int 1)) (agName 1))
  (aSeq (aFor (aiR1 (aCons (aVar 0) aNil)) (agName 2) (ab__law_two_b1 ))
  (aRet (aVar 1))))
theorem ok__law_two {asp : ASp0} (Z : ZZ K mg fds) (hl : ∀ ds S P, asp ds S P → ds.length = 1) (h : ∀ ds S P, asp ds S P → ab__law_two (fin0 P) (startA N__law_two ds) S) :
    FnOk P w K mg base CX0 (k + 1) (He.ga K "_law_two") (fds 14) ps__law_two (cSp0 K asp) :=
  def0 (F__law_two Z) sc__law_two hl (fun cdv A outer s H E hr => by
  have hu := hr.units
  have hu1 : (A.deeper (envOfC "_law_two" (defScope s__law_two) s.heap.objs.size (He.ga K "_law_two") cdv)).units + 1 < cLine := by omega
  exact (z_cons (s_set (i := 1) sc__law_two.nd rfl (by first | exact Or.inl rfl | exact Or.inr (Or.inl rfl) | exact Or.inr rfl) a_int)
  (z_cons (s_for PassesOwn.never rfl (i_r1 rfl (f_range Z) (g_cons (av 0) g_nil)) (pg_name (i := 2) sc__law_two.nd rfl (by first | exact Or.inl rfl | exact Or.inr (Or.inl rfl) | exact Or.inr rfl)) gs_name (z_one (s_set (i := 1) sc__law_two.nd rfl (by first | exact Or.inl rfl | exact Or.inr (Or.inl rfl) | exact Or.inr rfl) (a_times a_int (av 1)))))
  (z_one (s_ret (av 1)))))) h
def ab__law_word_at_b1 : ATS :=
  (aPar 2 3 (aCons (aPlus (aIx (aC (.str "LR")) (aMod (aCB bInt (aCons (aVar 3) aNil)) (aC (.int 2)))) (aVar 2)) (aCons (aFdivA (aVar 3) (aC (.int 2))) aNil)))
def ab__law_word_at : ATS :=
  (aSeq (aPar 2 3 (aCons (aC (.str "")) (aCons (aVar 1) aNil)))
  (aSeq (aFor (aiR1 (aCons (aVar 0) aNil)) (agName 4) (ab__law_word_at_b1 ))
  (aRet (aVar 2))))
theorem ok__law_word_at {asp : ASp0} (Z : ZZ K mg fds) (hl : ∀ ds S P, asp ds S P → ds.length = 2) (h : ∀ ds S P, asp ds S P → ab__law_word_at (fin0 P) (startA N__law_word_at ds) S) :
    FnOk P w K mg base CX0 (k + 1) (He.ga K "_law_word_at") (fds 15) ps__law_word_at (cSp0 K asp) :=
  def0 (F__law_word_at Z) sc__law_word_at hl (fun cdv A outer s H E hr => by
  have hu := hr.units
  have hu1 : (A.deeper (envOfC "_law_word_at" (defScope s__law_word_at) s.heap.objs.size (He.ga K "_law_word_at") cdv)).units + 1 < cLine := by omega
  exact (z_cons (s_par (i := 2) (j := 3) rfl sc__law_word_at.nd rfl rfl (by decide) rfl rfl (g_cons a_str (g_cons (av 1) g_nil)) (by with_unfolding_all rfl))
  (z_cons (s_for PassesOwn.never rfl (i_r1 rfl (f_range Z) (g_cons (av 0) g_nil)) (pg_name (i := 4) sc__law_word_at.nd rfl (by first | exact Or.inl rfl | exact Or.inr (Or.inl rfl) | exact Or.inr rfl)) gs_name (z_one (s_par (i := 2) (j := 3) rfl sc__law_word_at.nd rfl rfl (by decide) rfl rfl (g_cons (a_plus (a_ixA a_str (a_mod (a_callTy call_int1 cs_int rfl (f_int Z) (by decide +kernel) (g_cons (av 3) g_nil)) a_int)) (av 2)) (g_cons (a_fdivA (av 3) a_int) g_nil)) (by with_unfolding_all rfl))))
  (z_one (s_ret (av 2)))))) h
theorem kb_kth_row_10 (Z : ZZ K mg fds) : KB K (fds 4) ps_kth_row ["index", "number"] (perm [1, 0]) := bindsK (F_kth_row Z) fun _ _ _ _ _ _ ws hl => match ws, hl with | [_, _], _ => rfl
def ab__law_asked (K : PySem.W.Frag) (sp_kth_row : ASp) : ATS :=
  (aTry K ((.ref (He.ga K "InvalidInteger"), some 3, (fun a cls d => (aRet (aLst (aCons (aC (.str "integer")) (aCons (aXf a cls d (He.ga K "InvalidInteger") "given" (aVar 3)) (aCons (aIsE a cls d (He.ga K "InvalidInteger") true (aVar 3)) aNil))))))) :: ((.ref (He.ga K "InvalidIndex"), some 3, (fun a cls d => (aRet (aLst (aCons (aC (.str "index")) (aCons (aXf a cls d (He.ga K "InvalidIndex") "given" (aVar 3)) (aCons (aIsE a cls d (He.ga K "InvalidIndex") true (aVar 3)) aNil))))))) :: [])) (aRet (aLst (aCons (aC (.str "told")) (aCons (aIf (aTV (aVar 2)) (aCallKX 2 sp_kth_row (perm [1, 0]) (aCons (aVar 1) (aCons (aVar 0) aNil))) (aCallX sp_kth_row (aCons (aVar 0) (aCons (aVar 1) aNil)))) aNil)))))
theorem ok__law_asked {sp_kth_row : ASp} {asp : ASp0} (Z : ZZ K mg fds) (G_kth_row : FnOk P w K mg base (L2.CX P w) k (He.ga K "kth_row") (fds 4) ps_kth_row (cSpX K sp_kth_row)) (hk : 2 ≤ k) (hl : ∀ ds S P, asp ds S P → ds.length = 3) (h : ∀ ds S P, asp ds S P → ab__law_asked K sp_kth_row (fin0 P) (startA N__law_asked ds) S) :
    FnOk P w K mg base CX0 (k + 1) (He.ga K "_law_asked") (fds 16) ps__law_asked (cSp0 K asp) :=
  def0 (F__law_asked Z) sc__law_asked hl (fun cdv A outer s H E hr => by
  have hu := hr.units
  have hu1 : (A.deeper (envOfC "_law_asked" (defScope s__law_asked) s.heap.objs.size (He.ga K "_law_asked") cdv)).units + 1 < cLine := by omega
  have tk := takes0 (X := (cxOf CX0 P w K mg base N__law_asked "_law_asked" (defScope s__law_asked) (He.ga K "_law_asked") cdv A outer s H E).nox)
  exact (z_one (s_try rfl rfl tk (fun W pn xe tk hp' => (z_one (s_ret (a_lst (g_cons a_str (g_cons (a_if (t_val (av 2)) (a_callKX (ks := ["index", "number"]) G_kth_row hr tk rfl (g_kth_row Z) (F_kth_row Z).kp (kb_kth_row_10 Z) (turnP _ [1, 0]) (k_cons (av 1) (k_cons (av 0) k_nil))) (a_callX G_kth_row hr tk rfl (g_kth_row Z) (F_kth_row Z).kp (b_kth_row Z) (g_cons (av 0) (g_cons (av 1) g_nil)))) g_nil)))))) (h_as (i := 3) ⟨rfl, by decide, .inl (g_InvalidInteger Z)⟩ sc__law_asked.nd rfl rfl (fun a oe cls d pn hz hf => (z_one (s_ret (a_lst (g_cons a_str (g_cons (a_xf (e_InvalidInteger Z).xf (e_InvalidInteger Z).no hz hf (av 3)) (g_cons (a_isE (is_InvalidInteger_RowError Z) hz hf (f_isinstance Z) rfl (av 3) rfl (g_RowError Z)) g_nil))))))) (h_as (i := 3) ⟨rfl, by decide, .inl (g_InvalidIndex Z)⟩ sc__law_asked.nd rfl rfl (fun a oe cls d pn hz hf => (z_one (s_ret (a_lst (g_cons a_str (g_cons (a_xf (e_InvalidIndex Z).xf (e_InvalidIndex Z).no hz hf (av 3)) (g_cons (a_isE (is_InvalidIndex_RowError Z) hz hf (f_isinstance Z) rfl (av 3) rfl (g_RowError Z)) g_nil))))))) h_nil))))) h
def ab__law_one_right (sp__law_same : ASp0) (sp__law_asked : ASp0) (sp__law_row : ASp0) (sp__law_word_at : ASp0) : ATS :=
  (aSeq (aAsg (aLst (aCons (aC (.str "told")) (aCons (aCall0 sp__law_row (aCons (aCall0 sp__law_word_at (aCons (aVar 0) (aCons (aVar 1) aNil))) aNil)) aNil))) (agName 3))
  (aSeq (aAsg (aCall0 sp__law_asked (aCons (aVar 0) (aCons (aVar 1) (aCons (aVar 2) aNil)))) (agName 4))
  (aSeq (aIfS (aNot (aTV (aCall0 sp__law_same (aCons (aVar 4) (aCons (aVar 3) aNil))))) (aRet (aC (.bl false))) aNext)
  (aSeq (aDrop (aMt mAppend (aIx (aVar 4) (aC (.int 1))) (aCons (aC (.str "more")) aNil)))
  (aRet (aCall0 sp__law_same (aCons (aCall0 sp__law_asked (aCons (aVar 0) (aCons (aVar 1) (aCons (aNotV (aVar 2)) aNil)))) (aCons (aVar 3) aNil))))))))
theorem ok__law_one_right {sp__law_same : ASp0} {sp__law_asked : ASp0} {sp__law_row : ASp0} {sp__law_word_at : ASp0} {asp : ASp0} (Z : ZZ K mg fds) (G__law_same : FnOk P w K mg base CX0 k (He.ga K "_law_same") (fds 9) ps__law_same (cSp0 K sp__law_same)) (G__law_asked : FnOk P w K mg base CX0 k (He.ga K "_law_asked") (fds 16) ps__law_asked (cSp0 K sp__law_asked)) (G__law_row : FnOk P w K mg base CX0 k (He.ga K "_law_row") (fds 12) ps__law_row (cSp0 K sp__law_row)) (G__law_word_at : FnOk P w K mg base CX0 k (He.ga K "_law_word_at") (fds 15) ps__law_word_at (cSp0 K sp__law_word_at)) (hl : ∀ ds S P, asp ds S P → ds.length = 3) (h : ∀ ds S P, asp ds S P → ab__law_one_right sp__law_same sp__law_asked sp__law_row sp__law_word_at (fin0 P) (startA N__law_one_right ds) S) :
    FnOk P w K mg base CX0 (k + 1) (He.ga K "_law_one_right") (fds 17) ps__law_one_right (cSp0 K asp) :=
  def0 (F__law_one_right Z) sc__law_one_right hl (fun cdv A outer s H E hr => by
  have hu := hr.units
  have hu1 : (A.deeper (envOfC "_law_one_right" (defScope s__law_one_right) s.heap.objs.size (He.ga K "_law_one_right") cdv)).units + 1 < cLine := by omega
  exact (z_cons (s_set (i := 3) sc__law_one_right.nd rfl (by first | exact Or.inl rfl | exact Or.inr (Or.inl rfl) | exact Or.inr rfl) (a_lst (g_cons a_str (g_cons (a_call0 G__law_row hr rfl (g__law_row Z) (F__law_row Z).kp (b__law_row Z) (g_cons (a_call0 G__law_word_at hr rfl (g__law_word_at Z) (F__law_word_at Z).kp (b__law_word_at Z) (g_cons (av 0) (g_cons (av 1) g_nil))) g_nil)) g_nil))))
  (z_cons (s_set (i := 4) sc__law_one_right.nd rfl (by first | exact Or.inl rfl | exact Or.inr (Or.inl rfl) | exact Or.inr rfl) (a_call0 G__law_asked hr rfl (g__law_asked Z) (F__law_asked Z).kp (b__law_asked Z) (g_cons (av 0) (g_cons (av 1) (g_cons (av 2) g_nil)))))
  (z_cons (s_if (t_not (t_val (a_call0 G__law_same hr rfl (g__law_same Z) (F__law_same Z).kp (b__law_same Z) (g_cons (av 4) (g_cons (av 3) g_nil))))) (z_one (s_ret a_bl)) z_nil)
  (z_cons (s_expr (a_mt PySem.F.slot_list_append PySem.F.type_list_append mt_append ms_append (a_ixA (av 4) a_int) (g_cons a_str g_nil)))
  (z_one (s_ret (a_call0 G__law_same hr rfl (g__law_same Z) (F__law_same Z).kp (b__law_same Z) (g_cons (a_call0 G__law_asked hr rfl (g__law_asked Z) (F__law_asked Z).kp (b__law_asked Z) (g_cons (av 0) (g_cons (av 1) (g_cons (a_notV (av 2)) g_nil)))) (g_cons (av 3) g_nil)))))))))) h
def ab__law_all_right_e1 (sp__law_same : ASp0) (sp__law_asked : ASp0) (sp__law_row : ASp0) (sp__law_word_at : ASp0) (sp__law_two : ASp0) : AE :=
  (aLst (aCons (aC (.str "told")) (aCons (aVar 5) aNil)))
def ab__law_all_right_e2 (sp__law_same : ASp0) (sp__law_asked : ASp0) (sp__law_row : ASp0) (sp__law_word_at : ASp0) (sp__law_two : ASp0) : AE :=
  (aCall0 sp__law_asked (aCons (aVar 0) (aCons (aVar 3) (aCons (aVar 1) aNil))))
def ab__law_all_right_t1 (sp__law_same : ASp0) (sp__law_asked : ASp0) (sp__law_row : ASp0) (sp__law_word_at : ASp0) (sp__law_two : ASp0) : AT :=
  (aTV (aEq (aIx (aVar 2) (aVar 4)) (aIx (aVar 2) (aPlus (aVar 4) (aC (.int 1))))))
def ab__law_all_right_e3 (sp__law_same : ASp0) (sp__law_asked : ASp0) (sp__law_row : ASp0) (sp__law_word_at : ASp0) (sp__law_two : ASp0) : AE :=
  (aVar 4)
def ab__law_all_right_e4 (sp__law_same : ASp0) (sp__law_asked : ASp0) (sp__law_row : ASp0) (sp__law_word_at : ASp0) (sp__law_two : ASp0) : AE :=
  (aCall0 sp__law_row (aCons (aCall0 sp__law_word_at (aCons (aVar 0) (aCons (aVar 3) aNil))) aNil))
def ab__law_all_right (sp__law_same : ASp0) (sp__law_asked : ASp0) (sp__law_row : ASp0) (sp__law_word_at : ASp0) (sp__law_two : ASp0) : ATS :=
  (aSeq (aAsg (aLc (aiR1 (aCons (aCall0 sp__law_two (aCons (aVar 0) aNil)) aNil)) (agName 3) aYes (ab__law_all_right_e4 sp__law_same sp__law_asked sp__law_row sp__law_word_at sp__law_two) [3]) (agName 2))
  (aSeq (aIfS (aOr (aTV (aNe (aVar 2) (aCB bSortR (aCons (aVar 2) aNil)))) (aTV (aNe (aLc (aiR1 (aCons (aSub (aCB bLen (aCons (aVar 2) aNil)) (aC (.int 1))) aNil)) (agName 4) (ab__law_all_right_t1 sp__law_same sp__law_asked sp__law_row sp__law_word_at sp__law_two) (ab__law_all_right_e3 sp__law_same sp__law_asked sp__law_row sp__law_word_at sp__law_two) [4]) (aLst aNil)))) (aRet (aC (.bl false))) aNext)
  (aRet (aCall0 sp__law_same (aCons (aLc (aiR1 (aCons (aCB bLen (aCons (aVar 2) aNil)) aNil)) (agName 3) aYes (ab__law_all_right_e2 sp__law_same sp__law_asked sp__law_row sp__law_word_at sp__law_two) [3]) (aCons (aLc (aiAny (aVar 2)) (agName 5) aYes (ab__law_all_right_e1 sp__law_same sp__law_asked sp__law_row sp__law_word_at sp__law_two) [5]) aNil))))))
theorem ok__law_all_right {sp__law_same : ASp0} {sp__law_asked : ASp0} {sp__law_row : ASp0} {sp__law_word_at : ASp0} {sp__law_two : ASp0} {asp : ASp0} (Z : ZZ K mg fds) (G__law_same : FnOk P w K mg base CX0 k (He.ga K "_law_same") (fds 9) ps__law_same (cSp0 K sp__law_same)) (G__law_asked : FnOk P w K mg base CX0 k (He.ga K "_law_asked") (fds 16) ps__law_asked (cSp0 K sp__law_asked)) (G__law_row : FnOk P w K mg base CX0 k (He.ga K "_law_row") (fds 12) ps__law_row (cSp0 K sp__law_row)) (G__law_word_at : FnOk P w K mg base CX0 k (He.ga K "_law_word_at") (fds 15) ps__law_word_at (cSp0 K sp__law_word_at)) (G__law_two : FnOk P w K mg base CX0 k (He.ga K "_law_two") (fds 14) ps__law_two (cSp0 K sp__law_two)) (hl : ∀ ds S P, asp ds S P → ds.length = 2) (h : ∀ ds S P, asp ds S P → ab__law_all_right sp__law_same sp__law_asked sp__law_row sp__law_word_at sp__law_two (fin0 P) (startA N__law_all_right ds) S) :
    FnOk P w K mg base CX0 (k + 1) (He.ga K "_law_all_right") (fds 18) ps__law_all_right (cSp0 K asp) :=
  def0 (F__law_all_right Z) sc__law_all_right hl (fun cdv A outer s H E hr => by
  have hu := hr.units
  have hu1 : (A.deeper (envOfC "_law_all_right" (defScope s__law_all_right) s.heap.objs.size (He.ga K "_law_all_right") cdv)).units + 1 < cLine := by omega
  exact (z_cons (s_set (i := 2) sc__law_all_right.nd rfl (by first | exact Or.inl rfl | exact Or.inr (Or.inl rfl) | exact Or.inr rfl) (a_lc (own := [("index", 3)]) rfl sc__law_all_right.nd (i_r1 rfl (f_range Z) (g_cons (a_call0 G__law_two hr rfl (g__law_two Z) (F__law_two Z).kp (b__law_two Z) (g_cons (av 0) g_nil)) g_nil)) (blkOk_by (by kernel_rfl)) (fun _ _ _ _ _ => (pg_name (i := 3) sc__law_all_right.nd rfl (by first | exact Or.inl rfl | exact Or.inr (Or.inl rfl) | exact Or.inr rfl))) (gw_name (by decide)) (fun _ _ _ _ _ => y_nil) (fun _ _ _ _ _ => (a_call0 G__law_row hr rfl (g__law_row Z) (F__law_row Z).kp (b__law_row Z) (g_cons (a_call0 G__law_word_at hr rfl (g__law_word_at Z) (F__law_word_at Z).kp (b__law_word_at Z) (g_cons (av 0) (g_cons (av 3) g_nil))) g_nil)))))
  (z_cons (s_if (L2.PW.pt (w_or (t_cmp (a_ne hu (av 2) (a_callB (cr_sortR hu) cs_sortR rfl (f_sorted Z) (by decide +kernel) (g_cons (av 2) g_nil)))) (w_or1 (t_cmp (a_ne hu (a_lc (own := [("k", 4)]) rfl sc__law_all_right.nd (i_r1 rfl (f_range Z) (g_cons (a_sub (a_callB call_lenA cs_len rfl (f_len Z) (by decide +kernel) (g_cons (av 2) g_nil)) a_int) g_nil)) (blkOk_by (by kernel_rfl)) (fun _ _ _ _ _ => (pg_name (i := 4) sc__law_all_right.nd rfl (by first | exact Or.inl rfl | exact Or.inr (Or.inl rfl) | exact Or.inr rfl))) (gw_name (by decide)) (fun _ _ _ _ _ => (y_one (t_cmp (a_eq hu (a_ixA (av 2) (av 4)) (a_ixA (av 2) (a_plus (av 4) a_int)))))) (fun _ _ _ _ _ => (av 4))) (a_lst g_nil)))))) (z_one (s_ret a_bl)) z_nil)
  (z_one (s_ret (a_call0 G__law_same hr rfl (g__law_same Z) (F__law_same Z).kp (b__law_same Z) (g_cons (a_lc (own := [("index", 3)]) rfl sc__law_all_right.nd (i_r1 rfl (f_range Z) (g_cons (a_callB call_lenA cs_len rfl (f_len Z) (by decide +kernel) (g_cons (av 2) g_nil)) g_nil)) (blkOk_by (by kernel_rfl)) (fun _ _ _ _ _ => (pg_name (i := 3) sc__law_all_right.nd rfl (by first | exact Or.inl rfl | exact Or.inr (Or.inl rfl) | exact Or.inr rfl))) (gw_name (by decide)) (fun _ _ _ _ _ => y_nil) (fun _ _ _ _ _ => (a_call0 G__law_asked hr rfl (g__law_asked Z) (F__law_asked Z).kp (b__law_asked Z) (g_cons (av 0) (g_cons (av 3) (g_cons (av 1) g_nil)))))) (g_cons (a_lc (own := [("one", 5)]) rfl sc__law_all_right.nd (i_any (av 2)) (blkOk_by (by kernel_rfl)) (fun _ _ _ _ _ => (pg_name (i := 5) sc__law_all_right.nd rfl (by first | exact Or.inl rfl | exact Or.inr (Or.inl rfl) | exact Or.inr rfl))) (gw_name (by decide)) (fun _ _ _ _ _ => y_nil) (fun _ _ _ _ _ => (a_lst (g_cons a_str (g_cons (av 5) g_nil))))) g_nil)))))))) h
def ab__law_refused_right_b1 (sp__law_very : ASp0) (sp__law_asked : ASp0) (sp__law_pick : ASp0) (sp__law_two : ASp0) : ATS :=
  (aSeq (aAsg (aCall0 sp__law_pick (aCons (aVar 0) (aCons (aLst (aCons (aNeg (aC (.int 1))) (aCons (aC (.int 65)) (aCons (aC .non) (aCons (aC (.bl true)) (aCons (aC (.bl false)) (aCons (aC (.str "3")) (aCons (aC (.str "")) (aCons (aLstN (aCons (aC (.int 3)) aNil)) (aCons (aTup (aCons (aC (.int 1)) aNil)) (aCons aDict0N (aCons (aPow (aC (.int 10)) (aC (.int 40))) (aCons (aNeg (aPow (aC (.int 10)) (aC (.int 30)))) aNil))))))))))))) aNil))) (agName 5))
  (aSeq (aAsg (aCall0 sp__law_asked (aCons (aVar 5) (aCons (aCall0 sp__law_pick (aCons (aVar 0) (aCons (aLst (aCons (aC (.int 0)) (aCons (aC .non) (aCons (aNeg (aC (.int 1))) aNil)))) aNil))) (aCons (aVar 1) aNil)))) (agName 6))
  (aSeq (aIfS (aOr (aTV (aNeS (aIx (aVar 6) (aC (.int 0))) (aC (.str "integer")))) (aOr (aNot (aTV (aCall0 sp__law_very (aCons (aIx (aVar 6) (aC (.int 1))) (aCons (aVar 5) aNil))))) (aTV (aIs true (aIx (aVar 6) (aC (.int 2))) (aC (.bl true)))))) (aRet (aC (.bl false))) aNext)
  (aSeq (aAsg (aCall0 sp__law_pick (aCons (aVar 0) (aCons (aLst (aCons (aNeg (aC (.int 1))) (aCons (aVar 3) (aCons (aPlus (aVar 3) (aC (.int 1))) (aCons (aC .non) (aCons (aC (.bl true)) (aCons (aC (.str "0")) (aCons (aC (.str "R")) (aCons (aLstN (aCons (aC (.int 0)) aNil)) (aCons (aTup (aCons (aC (.int 0)) aNil)) (aCons aDict0N (aCons (aPlus (aVar 3) (aPow (aC (.int 10)) (aC (.int 30)))) (aCons (aNeg (aVar 3)) aNil))))))))))))) aNil))) (agName 5))
  (aSeq (aAsg (aCall0 sp__law_asked (aCons (aVar 2) (aCons (aVar 5) (aCons (aNotV (aVar 1)) aNil)))) (agName 6))
  (aSeq (aIfS (aOr (aTV (aNeS (aIx (aVar 6) (aC (.int 0))) (aC (.str "index")))) (aOr (aNot (aTV (aCall0 sp__law_very (aCons (aIx (aVar 6) (aC (.int 1))) (aCons (aVar 5) aNil))))) (aTV (aIs true (aIx (aVar 6) (aC (.int 2))) (aC (.bl true)))))) (aRet (aC (.bl false))) aNext)
  (aAsg (aNotV (aVar 1)) (agName 1))))))))
def ab__law_refused_right (sp__law_very : ASp0) (sp__law_asked : ASp0) (sp__law_pick : ASp0) (sp__law_two : ASp0) : ATS :=
  (aSeq (aAsg (aCall0 sp__law_pick (aCons (aVar 0) (aCons (aLst (aCons (aC (.int 0)) (aCons (aC (.int 1)) (aCons (aC (.int 3)) (aCons (aC (.int 8)) (aCons (aC (.int 64)) aNil)))))) aNil))) (agName 2))
  (aSeq (aAsg (aCall0 sp__law_two (aCons (aVar 2) aNil)) (agName 3))
  (aSeq (aFor (aiR1 (aCons (aC (.int 3)) aNil)) (agName 4) (ab__law_refused_right_b1 sp__law_very sp__law_asked sp__law_pick sp__law_two))
  (aRet (aC (.bl true))))))
theorem ok__law_refused_right {sp__law_very : ASp0} {sp__law_asked : ASp0} {sp__law_pick : ASp0} {sp__law_two : ASp0} {asp : ASp0} (Z : ZZ K mg fds) (G__law_very : FnOk P w K mg base CX0 k (He.ga K "_law_very") (fds 10) ps__law_very (cSp0 K sp__law_very)) (G__law_asked : FnOk P w K mg base CX0 k (He.ga K "_law_asked") (fds 16) ps__law_asked (cSp0 K sp__law_asked)) (G__law_pick : FnOk P w K mg base CX0 k (He.ga K "_law_pick") (fds 8) ps__law_pick (cSp0 K sp__law_pick)) (G__law_two : FnOk P w K mg base CX0 k (He.ga K "_law_two") (fds 14) ps__law_two (cSp0 K sp__law_two)) (hl : ∀ ds S P, asp ds S P → ds.length = 2) (h : ∀ ds S P, asp ds S P → ab__law_refused_right sp__law_very sp__law_asked sp__law_pick sp__law_two (fin0 P) (startA N__law_refused_right ds) S) :
    FnOk P w K mg base CX0 (k + 1) (He.ga K "_law_refused_right") (fds 19) ps__law_refused_right (cSp0 K asp) :=
  def0 (F__law_refused_right Z) sc__law_refused_right hl (fun cdv A outer s H E hr => by
  have hu := hr.units
  have hu1 : (A.deeper (envOfC "_law_refused_right" (defScope s__law_refused_right) s.heap.objs.size (He.ga K "_law_refused_right") cdv)).units + 1 < cLine := by omega
  exact (z_cons (s_set (i := 2) sc__law_refused_right.nd rfl (by first | exact Or.inl rfl | exact Or.inr (Or.inl rfl) | exact Or.inr rfl) (a_call0 G__law_pick hr rfl (g__law_pick Z) (F__law_pick Z).kp (b__law_pick Z) (g_cons (av 0) (g_cons (a_lst (g_cons a_int (g_cons a_int (g_cons a_int (g_cons a_int (g_cons a_int g_nil)))))) g_nil))))
  (z_cons (s_set (i := 3) sc__law_refused_right.nd rfl (by first | exact Or.inl rfl | exact Or.inr (Or.inl rfl) | exact Or.inr rfl) (a_call0 G__law_two hr rfl (g__law_two Z) (F__law_two Z).kp (b__law_two Z) (g_cons (av 2) g_nil)))
  (z_cons (s_for PassesOwn.never rfl (i_r1 rfl (f_range Z) (g_cons a_int g_nil)) (pg_name (i := 4) sc__law_refused_right.nd rfl (by first | exact Or.inl rfl | exact Or.inr (Or.inl rfl) | exact Or.inr rfl)) gs_name (z_cons (s_set (i := 5) sc__law_refused_right.nd rfl (by first | exact Or.inl rfl | exact Or.inr (Or.inl rfl) | exact Or.inr rfl) (a_call0 G__law_pick hr rfl (g__law_pick Z) (F__law_pick Z).kp (b__law_pick Z) (g_cons (av 0) (g_cons (a_lst (g_cons (a_neg a_int) (g_cons a_int (g_cons a_non (g_cons a_bl (g_cons a_bl (g_cons a_str (g_cons a_str (g_cons (a_lstN (g_cons a_int g_nil)) (g_cons (a_tup (g_cons a_int g_nil)) (g_cons a_dict0N (g_cons (a_pow a_int a_int) (g_cons (a_neg (a_pow a_int a_int)) g_nil))))))))))))) g_nil))))
  (z_cons (s_set (i := 6) sc__law_refused_right.nd rfl (by first | exact Or.inl rfl | exact Or.inr (Or.inl rfl) | exact Or.inr rfl) (a_call0 G__law_asked hr rfl (g__law_asked Z) (F__law_asked Z).kp (b__law_asked Z) (g_cons (av 5) (g_cons (a_call0 G__law_pick hr rfl (g__law_pick Z) (F__law_pick Z).kp (b__law_pick Z) (g_cons (av 0) (g_cons (a_lst (g_cons a_int (g_cons a_non (g_cons (a_neg a_int) g_nil)))) g_nil))) (g_cons (av 1) g_nil)))))
  (z_cons (s_if (L2.PW.pt (w_or (t_cmp (a_neS (a_ixA (av 6) a_int) a_str)) (w_or (t_not (t_val (a_call0 G__law_very hr rfl (g__law_very Z) (F__law_very Z).kp (b__law_very Z) (g_cons (a_ixA (av 6) a_int) (g_cons (av 5) g_nil))))) (w_or1 (t_cmp (a_isNot (a_ixA (av 6) a_int) a_bl)))))) (z_one (s_ret a_bl)) z_nil)
  (z_cons (s_set (i := 5) sc__law_refused_right.nd rfl (by first | exact Or.inl rfl | exact Or.inr (Or.inl rfl) | exact Or.inr rfl) (a_call0 G__law_pick hr rfl (g__law_pick Z) (F__law_pick Z).kp (b__law_pick Z) (g_cons (av 0) (g_cons (a_lst (g_cons (a_neg a_int) (g_cons (av 3) (g_cons (a_plus (av 3) a_int) (g_cons a_non (g_cons a_bl (g_cons a_str (g_cons a_str (g_cons (a_lstN (g_cons a_int g_nil)) (g_cons (a_tup (g_cons a_int g_nil)) (g_cons a_dict0N (g_cons (a_plus (av 3) (a_pow a_int a_int)) (g_cons (a_neg (av 3)) g_nil))))))))))))) g_nil))))
  (z_cons (s_set (i := 6) sc__law_refused_right.nd rfl (by first | exact Or.inl rfl | exact Or.inr (Or.inl rfl) | exact Or.inr rfl) (a_call0 G__law_asked hr rfl (g__law_asked Z) (F__law_asked Z).kp (b__law_asked Z) (g_cons (av 2) (g_cons (av 5) (g_cons (a_notV (av 1)) g_nil)))))
  (z_cons (s_if (L2.PW.pt (w_or (t_cmp (a_neS (a_ixA (av 6) a_int) a_str)) (w_or (t_not (t_val (a_call0 G__law_very hr rfl (g__law_very Z) (F__law_very Z).kp (b__law_very Z) (g_cons (a_ixA (av 6) a_int) (g_cons (av 5) g_nil))))) (w_or1 (t_cmp (a_isNot (a_ixA (av 6) a_int) a_bl)))))) (z_one (s_ret a_bl)) z_nil)
  (z_one (s_set (i := 1) sc__law_refused_right.nd rfl (by first | exact Or.inl rfl | exact Or.inr (Or.inl rfl) | exact Or.inr rfl) (a_notV (av 1)))))))))))
  (z_one (s_ret a_bl)))))) h
def ab_law_b1 (sp__law_all_right : ASp0) (sp__law_take : ASp0) (sp__law_refused_right : ASp0) (sp__law_one_right : ASp0) (sp__law_two : ASp0) (sp__law_pick : ASp0) (sp__law_box : ASp0) (sp__law_cell : ASp0) : ATS :=
  (aSeq (aIfS (aNot (aTV (aCall0 sp__law_one_right (aCons (aVar 6) (aCons (aVar 9) (aCons (aVar 3) aNil)))))) (aRet (aC (.bl false))) aNext)
  (aAsg (aNotV (aVar 3)) (agName 3)))
def ab_law_b2 (sp__law_all_right : ASp0) (sp__law_take : ASp0) (sp__law_refused_right : ASp0) (sp__law_one_right : ASp0) (sp__law_two : ASp0) (sp__law_pick : ASp0) (sp__law_box : ASp0) (sp__law_cell : ASp0) : ATS :=
  (aSeq (aAsg (aCall0 sp__law_two (aCons (aVar 6) aNil)) (agName 7))
  (aSeq (aAsg (aMod (aCB bInt (aCons (aPlus (aPlus (aTimes (aCall0 sp__law_take (aCons (aVar 2) (aCons (aPow (aC (.int 10)) (aC (.int 6))) aNil))) (aPow (aC (.int 10)) (aC (.int 15)))) (aTimes (aCall0 sp__law_take (aCons (aVar 2) (aCons (aPow (aC (.int 10)) (aC (.int 6))) aNil))) (aPow (aC (.int 10)) (aC (.int 9))))) (aCall0 sp__law_take (aCons (aVar 2) (aCons (aPow (aC (.int 10)) (aC (.int 6))) aNil)))) aNil)) (aVar 7)) (agName 8))
  (aFor (aiAny (aLst (aCons (aC (.int 0)) (aCons (aSub (aVar 7) (aC (.int 1))) (aCons (aFdivA (aVar 7) (aC (.int 2))) (aCons (aCB bMax2 (aCons (aC (.int 0)) (aCons (aSub (aFdivA (aVar 7) (aC (.int 2))) (aC (.int 1))) aNil))) (aCons (aVar 8) aNil))))))) (agName 9) (ab_law_b1 sp__law_all_right sp__law_take sp__law_refused_right sp__law_one_right sp__law_two sp__law_pick sp__law_box sp__law_cell))))
def ab_law_b3 (sp__law_all_right : ASp0) (sp__law_take : ASp0) (sp__law_refused_right : ASp0) (sp__law_one_right : ASp0) (sp__law_two : ASp0) (sp__law_pick : ASp0) (sp__law_box : ASp0) (sp__law_cell : ASp0) : ATS :=
  (aSeq (aAsg (aCall0 sp__law_box (aCons (aCall0 sp__law_cell (aCons (aVar 0) (aCons (aVar 1) aNil))) aNil)) (agName 2))
  (aSeq (aPar 3 4 (aCons (aEqS (aCall0 sp__law_take (aCons (aVar 2) (aCons (aC (.int 2)) aNil))) (aC (.int 0))) (aCons (aCall0 sp__law_take (aCons (aVar 2) (aCons (aC (.int 11)) aNil))) aNil)))
  (aSeq (aAsg (aPlus (aLst (aCons (aVar 4) (aCons (aCall0 sp__law_take (aCons (aVar 2) (aCons (aC (.int 11)) aNil))) aNil))) (aIf (aTV (aEqS (aCall0 sp__law_take (aCons (aVar 2) (aCons (aC (.int 4)) aNil))) (aC (.int 0)))) (aLst (aCons (aCall0 sp__law_pick (aCons (aVar 2) (aCons (aLst (aCons (aC (.int 64)) (aCons (aC (.int 63)) (aCons (aPlus (aC (.int 33)) (aCall0 sp__law_take (aCons (aVar 2) (aCons (aC (.int 30)) aNil)))) aNil)))) aNil))) aNil)) (aLst aNil))) (agName 5))
  (aSeq (aFor (aiAny (aVar 5)) (agName 6) (ab_law_b2 sp__law_all_right sp__law_take sp__law_refused_right sp__law_one_right sp__law_two sp__law_pick sp__law_box sp__law_cell))
  (aIfS (aOr (aNot (aTV (aCall0 sp__law_all_right (aCons (aCall0 sp__law_take (aCons (aVar 2) (aCons (aC (.int 6)) aNil))) (aCons (aVar 3) aNil))))) (aNot (aTV (aCall0 sp__law_refused_right (aCons (aVar 2) (aCons (aNotV (aVar 3)) aNil)))))) (aRet (aC (.bl false))) aNext)))))
def ab_law (sp__law_all_right : ASp0) (sp__law_take : ASp0) (sp__law_refused_right : ASp0) (sp__law_one_right : ASp0) (sp__law_two : ASp0) (sp__law_pick : ASp0) (sp__law_box : ASp0) (sp__law_cell : ASp0) : ATS :=
  (aSeq (aFor (aiR1 (aCons (aCB bMax2 (aCons (aC (.int 2)) (aCons (aCB bMin2 (aCons (aC (.int 4)) (aCons (aCB bLen (aCons (aVar 0) aNil)) aNil))) aNil))) aNil)) (agName 1) (ab_law_b3 sp__law_all_right sp__law_take sp__law_refused_right sp__law_one_right sp__law_two sp__law_pick sp__law_box sp__law_cell))
  (aRet (aC (.bl true))))
theorem ok_law {sp__law_all_right : ASp0} {sp__law_take : ASp0} {sp__law_refused_right : ASp0} {sp__law_one_right : ASp0} {sp__law_two : ASp0} {sp__law_pick : ASp0} {sp__law_box : ASp0} {sp__law_cell : ASp0} {asp : ASp0} (Z : ZZ K mg fds) (G__law_all_right : FnOk P w K mg base CX0 k (He.ga K "_law_all_right") (fds 18) ps__law_all_right (cSp0 K sp__law_all_right)) (G__law_take : FnOk P w K mg base CX0 k (He.ga K "_law_take") (fds 7) ps__law_take (cSp0 K sp__law_take)) (G__law_refused_right : FnOk P w K mg base CX0 k (He.ga K "_law_refused_right") (fds 19) ps__law_refused_right (cSp0 K sp__law_refused_right)) (G__law_one_right : FnOk P w K mg base CX0 k (He.ga K "_law_one_right") (fds 17) ps__law_one_right (cSp0 K sp__law_one_right)) (G__law_two : FnOk P w K mg base CX0 k (He.ga K "_law_two") (fds 14) ps__law_two (cSp0 K sp__law_two)) (G__law_pick : FnOk P w K mg base CX0 k (He.ga K "_law_pick") (fds 8) ps__law_pick (cSp0 K sp__law_pick)) (G__law_box : FnOk P w K mg base CX0 k (He.ga K "_law_box") (fds 6) ps__law_box (cSp0 K sp__law_box)) (G__law_cell : FnOk P w K mg base CX0 k (He.ga K "_law_cell") (fds 5) ps__law_cell (cSp0 K sp__law_cell)) (hl : ∀ ds S P, asp ds S P → ds.length = 1) (h : ∀ ds S P, asp ds S P → ab_law sp__law_all_right sp__law_take sp__law_refused_right sp__law_one_right sp__law_two sp__law_pick sp__law_box sp__law_cell (fin0 P) (startA N_law ds) S) :
    FnOk P w K mg base CX0 (k + 1) (He.ga K "law") (fds 20) ps_law (cSp0 K asp) :=
  def0 (F_law Z) sc_law hl (fun cdv A outer s H E hr => by
  have hu := hr.units
  have hu1 : (A.deeper (envOfC "law" (defScope s_law) s.heap.objs.size (He.ga K "law") cdv)).units + 1 < cLine := by omega
  exact (z_cons (s_for PassesOwn.never rfl (i_r1 rfl (f_range Z) (g_cons (a_callB (call_max2 rfl) cs_max2 rfl (f_max Z) (by decide +kernel) (g_cons a_int (g_cons (a_callB (call_min2 rfl) cs_min2 rfl (f_min Z) (by decide +kernel) (g_cons a_int (g_cons (a_callB call_lenA cs_len rfl (f_len Z) (by decide +kernel) (g_cons (av 0) g_nil)) g_nil))) g_nil))) g_nil)) (pg_name (i := 1) sc_law.nd rfl (by first | exact Or.inl rfl | exact Or.inr (Or.inl rfl) | exact Or.inr rfl)) gs_name (z_cons (s_set (i := 2) sc_law.nd rfl (by first | exact Or.inl rfl | exact Or.inr (Or.inl rfl) | exact Or.inr rfl) (a_call0 G__law_box hr rfl (g__law_box Z) (F__law_box Z).kp (b__law_box Z) (g_cons (a_call0 G__law_cell hr rfl (g__law_cell Z) (F__law_cell Z).kp (b__law_cell Z) (g_cons (av 0) (g_cons (av 1) g_nil))) g_nil)))
  (z_cons (s_par (i := 3) (j := 4) rfl sc_law.nd rfl rfl (by decide) rfl rfl (g_cons (a_eqS (a_call0 G__law_take hr rfl (g__law_take Z) (F__law_take Z).kp (b__law_take Z) (g_cons (av 2) (g_cons a_int g_nil))) a_int) (g_cons (a_call0 G__law_take hr rfl (g__law_take Z) (F__law_take Z).kp (b__law_take Z) (g_cons (av 2) (g_cons a_int g_nil))) g_nil)) (by with_unfolding_all rfl))
  (z_cons (s_set (i := 5) sc_law.nd rfl (by first | exact Or.inl rfl | exact Or.inr (Or.inl rfl) | exact Or.inr rfl) (a_plus (a_lst (g_cons (av 4) (g_cons (a_call0 G__law_take hr rfl (g__law_take Z) (F__law_take Z).kp (b__law_take Z) (g_cons (av 2) (g_cons a_int g_nil))) g_nil))) (a_if (t_cmp (a_eqS (a_call0 G__law_take hr rfl (g__law_take Z) (F__law_take Z).kp (b__law_take Z) (g_cons (av 2) (g_cons a_int g_nil))) a_int)) (a_lst (g_cons (a_call0 G__law_pick hr rfl (g__law_pick Z) (F__law_pick Z).kp (b__law_pick Z) (g_cons (av 2) (g_cons (a_lst (g_cons a_int (g_cons a_int (g_cons (a_plus a_int (a_call0 G__law_take hr rfl (g__law_take Z) (F__law_take Z).kp (b__law_take Z) (g_cons (av 2) (g_cons a_int g_nil)))) g_nil)))) g_nil))) g_nil)) (a_lst g_nil))))
  (z_cons (s_for PassesOwn.never rfl (i_any (av 5)) (pg_name (i := 6) sc_law.nd rfl (by first | exact Or.inl rfl | exact Or.inr (Or.inl rfl) | exact Or.inr rfl)) gs_name (z_cons (s_set (i := 7) sc_law.nd rfl (by first | exact Or.inl rfl | exact Or.inr (Or.inl rfl) | exact Or.inr rfl) (a_call0 G__law_two hr rfl (g__law_two Z) (F__law_two Z).kp (b__law_two Z) (g_cons (av 6) g_nil)))
  (z_cons (s_set (i := 8) sc_law.nd rfl (by first | exact Or.inl rfl | exact Or.inr (Or.inl rfl) | exact Or.inr rfl) (a_mod (a_callTy call_int1 cs_int rfl (f_int Z) (by decide +kernel) (g_cons (a_plus (a_plus (a_times (a_call0 G__law_take hr rfl (g__law_take Z) (F__law_take Z).kp (b__law_take Z) (g_cons (av 2) (g_cons (a_pow a_int a_int) g_nil))) (a_pow a_int a_int)) (a_times (a_call0 G__law_take hr rfl (g__law_take Z) (F__law_take Z).kp (b__law_take Z) (g_cons (av 2) (g_cons (a_pow a_int a_int) g_nil))) (a_pow a_int a_int))) (a_call0 G__law_take hr rfl (g__law_take Z) (F__law_take Z).kp (b__law_take Z) (g_cons (av 2) (g_cons (a_pow a_int a_int) g_nil)))) g_nil)) (av 7)))
  (z_one (s_for PassesOwn.never rfl (i_any (a_lst (g_cons a_int (g_cons (a_sub (av 7) a_int) (g_cons (a_fdivA (av 7) a_int) (g_cons (a_callB (call_max2 rfl) cs_max2 rfl (f_max Z) (by decide +kernel) (g_cons a_int (g_cons (a_sub (a_fdivA (av 7) a_int) a_int) g_nil))) (g_cons (av 8) g_nil))))))) (pg_name (i := 9) sc_law.nd rfl (by first | exact Or.inl rfl | exact Or.inr (Or.inl rfl) | exact Or.inr rfl)) gs_name (z_cons (s_if (t_not (t_val (a_call0 G__law_one_right hr rfl (g__law_one_right Z) (F__law_one_right Z).kp (b__law_one_right Z) (g_cons (av 6) (g_cons (av 9) (g_cons (av 3) g_nil)))))) (z_one (s_ret a_bl)) z_nil)
  (z_one (s_set (i := 3) sc_law.nd rfl (by first | exact Or.inl rfl | exact Or.inr (Or.inl rfl) | exact Or.inr rfl) (a_notV (av 3))))))))))
  (z_one (s_if (L2.PW.pt (w_or (t_not (t_val (a_call0 G__law_all_right hr rfl (g__law_all_right Z) (F__law_all_right Z).kp (b__law_all_right Z) (g_cons (a_call0 G__law_take hr rfl (g__law_take Z) (F__law_take Z).kp (b__law_take Z) (g_cons (av 2) (g_cons a_int g_nil))) (g_cons (av 3) g_nil))))) (w_or1 (t_not (t_val (a_call0 G__law_refused_right hr rfl (g__law_refused_right Z) (F__law_refused_right Z).kp (b__law_refused_right Z) (g_cons (av 2) (g_cons (a_notV (av 3)) g_nil)))))))) (z_one (s_ret a_bl)) z_nil)))))))
  (z_one (s_ret a_bl)))) h
end
end G

set_option maxHeartbeats 400000
namespace G
open PySem PySem.Spec PyProof.Rows L2 FB
structure IsBx (c : Int) (l : List D) : Prop where
  ex : ∃ b0 b1 b2 b3, l = [.int b0, .bl b1, .int b2, .int b3] ∧ 0 ≤ b0 ∧ 0 ≤ b2 ∧ b2 < 2147483648 ∧ 0 ≤ b3 ∧ b3 ≤ c
theorem IsBx.mono {c c' : Int} {l : List D} (h : IsBx c l) (e : c ≤ c') : IsBx c' l := by
  obtain ⟨b0, b1, b2, b3, h1, h2, h3, h4, h5, h6⟩ := h.ex
  exact ⟨b0, b1, b2, b3, h1, h2, h3, h4, h5, by omega⟩
def sp__law_take : ASp0 := fun ds S P => ∃ p m l c, ds = [.ptr p, .int m] ∧ 0 < m ∧ m < 1000000000 ∧ S p = some (.lst l) ∧ IsBx c l ∧ c < 1000000000 ∧ ∀ r l', 0 ≤ r → r < m → IsBx (c + 1) l' → P (.int r) (put S p (.lst l'))
theorem pu__law_take (ds : List D) (S : Sg) (P : D → Sg → Prop) (h : sp__law_take ds S P) : ab__law_take (fin0 P) (startA N__law_take ds) S := by
  obtain ⟨p, m, l, c, rfl, hm, hm2, hS, hb, hc, k⟩ := h
  obtain ⟨b0, b1, b2, b3, rfl, h0, h2, h2', h3, h3'⟩ := hb.ex
  have hS' : ∀ c, put S p c p = some c := fun c => put_same
  have rest : aSeq (aSetIx (aVar 0) (aC (.int 3)) (aPlus (aIx (aVar 0) (aC (.int 3))) (aC (.int 1)))) (aSeq (aAsg (aMod (aCB bInt (aCons (aPow (aPlus (aPlus (aIx (aVar 0) (aC (.int 2))) (aTimes (aC (.int 15486193)) (aIx (aVar 0) (aC (.int 3))))) (aC (.int 170356050))) (aC (.int 5))) aNil)) (aC (.int 2147483647))) (agName 3))
      (aRet (aMod (aCB bInt (aCons (aFdivA (aMod (aCB bInt (aCons (aPow (aPlus (aTimes (aVar 3) (aC (.int 48271))) (aTimes (aC (.int 104831)) (aIx (aVar 0) (aC (.int 3))))) (aC (.int 3))) aNil)) (aC (.int 2147483587))) (aC (.int 64))) aNil)) (aVar 1)))) (fin0 P) (startA N__law_take [.ptr p, .int m]) S := by
    ((try conv => whnf); repeat (first | (refine ⟨_, hS, ?_⟩; (try conv => whnf)) | (refine ⟨_, (rfl : atI _ _ = some _), ?_⟩; (try conv => whnf)) | (refine ⟨_, (rfl : ixN _ _ = some _), ?_⟩; (try conv => whnf))))
    ((try conv => whnf); repeat (first | (refine ⟨_, put_same, ?_⟩; (try conv => whnf)) | (refine ⟨_, (rfl : atI _ _ = some _), ?_⟩; (try conv => whnf)) | (refine ⟨_, (rfl : ixN _ _ = some _), ?_⟩; (try conv => whnf))))
    refine ⟨.inl (.inl (by omega)), ?_⟩
    (try conv => whnf)
    refine ⟨⟨by omega, by omega, by omega⟩, ?_⟩
    (try conv => whnf)
    refine ⟨by omega, ?_⟩
    ((try conv => whnf); repeat (first | (refine ⟨_, put_same, ?_⟩; (try conv => whnf)) | (refine ⟨_, (rfl : atI _ _ = some _), ?_⟩; (try conv => whnf)) | (refine ⟨_, (rfl : ixN _ _ = some _), ?_⟩; (try conv => whnf))))
    have hx : ∀ y : Int, 0 ≤ y % 2147483647 ∧ y % 2147483647 < 2147483647 := fun y => ⟨Int.emod_nonneg _ (by omega), Int.emod_lt_of_pos _ (by omega)⟩
    generalize hy : (b2 + 15486193 * (b3 + 1) + 170356050) ^ Int.toNat 5 % 2147483647 = y
    have hy2 := hx ((b2 + 15486193 * (b3 + 1) + 170356050) ^ Int.toNat 5)
    rw [hy] at hy2
    refine ⟨.inl (.inr (by omega)), ?_⟩
    ((try conv => whnf); repeat (first | (refine ⟨_, put_same, ?_⟩; (try conv => whnf)) | (refine ⟨_, (rfl : atI _ _ = some _), ?_⟩; (try conv => whnf)) | (refine ⟨_, (rfl : ixN _ _ = some _), ?_⟩; (try conv => whnf))))
    refine ⟨.inl (.inl (by omega)), ?_⟩
    (try conv => whnf)
    refine ⟨⟨by omega, by omega, ?_⟩, ?_⟩
    · skip
      omega
    (try conv => whnf)
    refine ⟨by omega, ?_⟩
    (try conv => whnf)
    refine ⟨.inl ⟨by omega, by omega⟩, ?_⟩
    (try conv => whnf)
    refine ⟨hm, ?_⟩
    (try conv => whnf)
    exact Wk.ret (k _ _ (Int.emod_nonneg _ (by omega)) (Int.emod_lt_of_pos _ hm) ⟨b0, b1, b2, b3 + 1, rfl, h0, h2, h2', by omega, by omega⟩)
  ((try conv => whnf); repeat (first | (refine ⟨_, hS, ?_⟩; (try conv => whnf)) | (refine ⟨_, (rfl : atI _ _ = some _), ?_⟩; (try conv => whnf)) | (refine ⟨_, (rfl : ixN _ _ = some _), ?_⟩; (try conv => whnf))))
  refine ⟨fun h1 => ?_, fun h1 => ?_⟩
  · ((try conv => whnf); repeat (first | (refine ⟨_, hS, ?_⟩; (try conv => whnf)) | (refine ⟨_, (rfl : atI _ _ = some _), ?_⟩; (try conv => whnf)) | (refine ⟨_, (rfl : ixN _ _ = some _), ?_⟩; (try conv => whnf))))
    refine ⟨fun h1 => ?_, fun h1 => ?_⟩
    · ((try conv => whnf); repeat (first | (refine ⟨_, hS, ?_⟩; (try conv => whnf)) | (refine ⟨_, (rfl : atI _ _ = some _), ?_⟩; (try conv => whnf)) | (refine ⟨_, (rfl : ixN _ _ = some _), ?_⟩; (try conv => whnf))))
      refine ⟨hm, ?_⟩
      ((try conv => whnf); repeat (first | (refine ⟨_, hS, ?_⟩; (try conv => whnf)) | (refine ⟨_, (rfl : atI _ _ = some _), ?_⟩; (try conv => whnf)) | (refine ⟨_, (rfl : ixN _ _ = some _), ?_⟩; (try conv => whnf))))
      refine ⟨.inl ⟨hm, by omega⟩, ?_⟩
      ((try conv => whnf); repeat (first | (refine ⟨_, hS, ?_⟩; (try conv => whnf)) | (refine ⟨_, (rfl : atI _ _ = some _), ?_⟩; (try conv => whnf)) | (refine ⟨_, (rfl : ixN _ _ = some _), ?_⟩; (try conv => whnf))))
      refine Wk.ret (k _ _ (Int.emod_nonneg _ (by omega)) (Int.emod_lt_of_pos _ hm) ⟨_, _, _, _, rfl, Int.ediv_nonneg h0 (by omega), h2, h2', h3, by omega⟩)
    · exact rest
  · exact ⟨(fun h => nomatch h), fun _ => rest⟩
end G

set_option maxHeartbeats 1000000
namespace G
open PySem PySem.Spec PyProof.Rows L2 FB
mutual
/-- a thing without anything tracked, its texts plain, nested less than n deep -/
def tree : Nat → D → Bool
  | _, .non => true
  | _, .bl _ => true
  | _, .int _ => true
  | _, .str _ => true
  | n + 1, .tup ds => decide (ds.length ≤ 100000) && treeL n ds
  | n + 1, .lst ds => decide (ds.length ≤ 100000) && treeL n ds
  | n + 1, .dct ks ds => decide (ks.length ≤ 100000) && (decide (ks.length = ds.length) && (okPL 63 (ks.map keyD) && treeL n ds))
  | _, _ => false
def treeL : Nat → List D → Bool
  | _, [] => true
  | n, d :: ds => tree n d && treeL n ds
end
def spS (n : Nat) (ds : List D) (k : D → Prop) : Prop := ∃ d, ds = [d, d] ∧ tree n d = true ∧ k (.bl true)
theorem tree_get : ∀ {n : Nat} {ds : List D} {i : Nat} {d : D}, treeL n ds = true → ds[i]? = some d → tree n d = true
  | n, d :: ds, 0, _, h, e => by
    have h' : tree n d = true ∧ treeL n ds = true := by simpa [treeL] using h
    cases e
    exact h'.1
  | n, d :: ds, i + 1, _, h, e => by
    have h' : tree n d = true ∧ treeL n ds = true := by simpa [treeL] using h
    exact tree_get h'.2 e
  | _, [], _, _, _, e => by simp at e
theorem dGet_tree {n : Nat} : ∀ {ks : List Key} {ds : List D}, ks.length = ds.length → treeL n ds = true → ∀ k ∈ ks, ∃ d, dGet ks ds k = some d ∧ tree n d = true
  | [], _, _, _, k, h => nomatch h
  | k' :: ks, d :: ds, hl, ht, k, h => by
    have h' : tree n d = true ∧ treeL n ds = true := by simpa [treeL] using ht
    by_cases e : k' = k
    · exact ⟨d, by simp [dGet, e], h'.1⟩
    · obtain ⟨e2, h1, h2⟩ := dGet_tree (ks := ks) (ds := ds) (by simpa using hl) h'.2 k ((List.mem_cons.mp h).resolve_left (fun z => e z.symm))
      exact ⟨e2, by simp only [dGet, if_neg e]; exact h1, h2⟩
theorem filter_none {p : D → Bool} : ∀ {ds : List D}, (∀ d ∈ ds, p d = false) → ds.filter p = []
  | [], _ => rfl
  | d :: ds, h => by
    rw [List.filter_cons_of_neg (by rw [h d List.mem_cons_self]; exact fun z => nomatch z)]
    exact filter_none fun e he => h e (List.mem_cons_of_mem _ he)
theorem pu__law_same (n : Nat) (ds : List D) (S : Sg) (P : D → Sg → Prop) (h : pur (spS (n + 1)) ds S P) : ab__law_same (aPure (spS n)) (fin0 P) (startA N__law_same ds) S := by
  obtain ⟨rfl, d, rfl, ht, k⟩ := h
  cases d with
  | non =>
    ((try conv => whnf); repeat (first | (refine ⟨fun hh => ?_, fun hh => absurd hh (by decide)⟩; clear hh; (try conv => whnf)) | (refine ⟨fun hh => absurd hh (by decide), fun hh => ?_⟩; clear hh; (try conv => whnf)) | (refine ⟨_, rfl, ?_⟩; (try conv => whnf))))
    exact Wk.ret k
  | bl b =>
    cases b <;> (((try conv => whnf); repeat (first | (refine ⟨fun hh => ?_, fun hh => absurd hh (by decide)⟩; clear hh; (try conv => whnf)) | (refine ⟨fun hh => absurd hh (by decide), fun hh => ?_⟩; clear hh; (try conv => whnf)) | (refine ⟨_, rfl, ?_⟩; (try conv => whnf)))); exact Wk.ret k)
  | int i =>
    ((try conv => whnf); repeat (first | (refine ⟨fun hh => ?_, fun hh => absurd hh (by decide)⟩; clear hh; (try conv => whnf)) | (refine ⟨fun hh => absurd hh (by decide), fun hh => ?_⟩; clear hh; (try conv => whnf)) | (refine ⟨_, rfl, ?_⟩; (try conv => whnf))))
    exact Wk.ret (by simpa using k)
  | str i =>
    ((try conv => whnf); repeat (first | (refine ⟨fun hh => ?_, fun hh => absurd hh (by decide)⟩; clear hh; (try conv => whnf)) | (refine ⟨fun hh => absurd hh (by decide), fun hh => ?_⟩; clear hh; (try conv => whnf)) | (refine ⟨_, rfl, ?_⟩; (try conv => whnf))))
    exact Wk.ret (by simpa using k)
  | tup ds =>
    obtain ⟨hl, ht⟩ : ds.length ≤ 100000 ∧ treeL n ds = true := by simpa [tree] using ht
    ((try conv => whnf); repeat (first | (refine ⟨fun hh => ?_, fun hh => absurd hh (by decide)⟩; clear hh; (try conv => whnf)) | (refine ⟨fun hh => absurd hh (by decide), fun hh => ?_⟩; clear hh; (try conv => whnf)) | (refine ⟨_, rfl, ?_⟩; (try conv => whnf))))
    refine ⟨fun z => by simp at z, fun _ => ?_⟩
    ((try conv => whnf); repeat (first | (refine ⟨fun hh => ?_, fun hh => absurd hh (by decide)⟩; clear hh; (try conv => whnf)) | (refine ⟨fun hh => absurd hh (by decide), fun hh => ?_⟩; clear hh; (try conv => whnf)) | (refine ⟨_, rfl, ?_⟩; (try conv => whnf))))
    refine ⟨by omega, by omega, ?_⟩
    refine lc_mapF (fun _ => false) id ?_ (fun _ _ z => nomatch z) ?_ ?_
    · intro d hd Dl acc Q n0 q
      obtain ⟨i, hi, rfl⟩ := List.mem_map.mp hd
      have hi' : i < ds.length := by simpa using hi
      have e : atI ds (0 + (i : Nat)) = some ds[i] := by rw [Int.zero_add]; exact atI_nat (List.getElem?_eq_getElem hi')
      (try conv => whnf)
      refine ⟨_, e, ?_⟩
      (try conv => whnf)
      refine ⟨_, e, ?_⟩
      (try conv => whnf)
      exact ⟨_, RzL.id _, _, rfl, tree_get ht (List.getElem?_eq_getElem hi'), flat_bl _, q⟩
    · rw [rg_len]; omega
    · (try conv => whnf)
      rw [filter_none (fun _ _ => rfl)]
      exact ⟨by decide, eqA_nilL (ds := []) (k := fun c => Wk (.bl c) e0 P) rfl (Wk.ret k)⟩
  | lst ds =>
    obtain ⟨hl, ht⟩ : ds.length ≤ 100000 ∧ treeL n ds = true := by simpa [tree] using ht
    ((try conv => whnf); repeat (first | (refine ⟨fun hh => ?_, fun hh => absurd hh (by decide)⟩; clear hh; (try conv => whnf)) | (refine ⟨fun hh => absurd hh (by decide), fun hh => ?_⟩; clear hh; (try conv => whnf)) | (refine ⟨_, rfl, ?_⟩; (try conv => whnf))))
    refine ⟨fun z => by simp at z, fun _ => ?_⟩
    ((try conv => whnf); repeat (first | (refine ⟨fun hh => ?_, fun hh => absurd hh (by decide)⟩; clear hh; (try conv => whnf)) | (refine ⟨fun hh => absurd hh (by decide), fun hh => ?_⟩; clear hh; (try conv => whnf)) | (refine ⟨_, rfl, ?_⟩; (try conv => whnf))))
    refine ⟨by omega, by omega, ?_⟩
    refine lc_mapF (fun _ => false) id ?_ (fun _ _ z => nomatch z) ?_ ?_
    · intro d hd Dl acc Q n0 q
      obtain ⟨i, hi, rfl⟩ := List.mem_map.mp hd
      have hi' : i < ds.length := by simpa using hi
      have e : atI ds (0 + (i : Nat)) = some ds[i] := by rw [Int.zero_add]; exact atI_nat (List.getElem?_eq_getElem hi')
      (try conv => whnf)
      refine ⟨_, e, ?_⟩
      (try conv => whnf)
      refine ⟨_, e, ?_⟩
      (try conv => whnf)
      exact ⟨_, RzL.id _, _, rfl, tree_get ht (List.getElem?_eq_getElem hi'), flat_bl _, q⟩
    · rw [rg_len]; omega
    · (try conv => whnf)
      rw [filter_none (fun _ _ => rfl)]
      exact ⟨by decide, eqA_nilL (ds := []) (k := fun c => Wk (.bl c) e0 P) rfl (Wk.ret k)⟩
  | dct ks ds =>
    obtain ⟨hl, hl2, hk, ht⟩ : ks.length ≤ 100000 ∧ ks.length = ds.length ∧ okPL 63 (ks.map keyD) = true ∧ treeL n ds = true := by simpa [tree] using ht
    ((try conv => whnf); repeat (first | (refine ⟨fun hh => ?_, fun hh => absurd hh (by decide)⟩; clear hh; (try conv => whnf)) | (refine ⟨fun hh => absurd hh (by decide), fun hh => ?_⟩; clear hh; (try conv => whnf)) | (refine ⟨_, rfl, ?_⟩; (try conv => whnf))))
    refine ⟨fun z => by simp at z, fun _ => ?_⟩
    ((try conv => whnf); repeat (first | (refine ⟨fun hh => ?_, fun hh => absurd hh (by decide)⟩; clear hh; (try conv => whnf)) | (refine ⟨fun hh => absurd hh (by decide), fun hh => ?_⟩; clear hh; (try conv => whnf)) | (refine ⟨_, rfl, ?_⟩; (try conv => whnf))))
    refine lc_mapF (fun _ => false) id ?_ (fun _ _ z => nomatch z) ?_ ?_
    · intro d hd Dl acc Q n0 q
      obtain ⟨key, hi, rfl⟩ := List.mem_map.mp hd
      obtain ⟨d, e, et⟩ := dGet_tree hl2 ht key hi
      cases key <;>
      ((try conv => whnf)
       refine ⟨fun z => by rw [e] at z; simp at z, fun z => ?_⟩
       (try conv => whnf)
       refine ⟨_, e, ?_⟩
       (try conv => whnf)
       refine ⟨_, e, ?_⟩
       (try conv => whnf)
       exact ⟨_, RzL.id _, _, rfl, et, flat_bl _, q⟩)
    · rw [List.length_map]; omega
    · (try conv => whnf)
      rw [filter_none (fun _ _ => rfl)]
      exact ⟨by decide, eqA_nilL (ds := []) (k := fun c => Wk (.bl c) e0 P) rfl (Wk.ret k)⟩
  | ptr p => simp [tree] at ht
  | scr ds => simp [tree] at ht
end G

set_option maxHeartbeats 1000000
namespace G
open PySem PySem.Spec PyProof.Rows L2 FB
/-! ### _law_same, any depth -/
theorem pu__law_same0 (sp : ASp0) (ds : List D) (S : Sg) (P : D → Sg → Prop) (h : pur (spS 0) ds S P) : ab__law_same sp (fin0 P) (startA N__law_same ds) S := by
  obtain ⟨rfl, d, rfl, ht, k⟩ := h
  cases d with
  | non =>
    ((try conv => whnf); repeat (first | (refine ⟨fun hh => ?_, fun hh => absurd hh (by decide)⟩; clear hh; (try conv => whnf)) | (refine ⟨fun hh => absurd hh (by decide), fun hh => ?_⟩; clear hh; (try conv => whnf)) | (refine ⟨_, rfl, ?_⟩; (try conv => whnf))))
    exact Wk.ret k
  | bl b =>
    cases b <;> (((try conv => whnf); repeat (first | (refine ⟨fun hh => ?_, fun hh => absurd hh (by decide)⟩; clear hh; (try conv => whnf)) | (refine ⟨fun hh => absurd hh (by decide), fun hh => ?_⟩; clear hh; (try conv => whnf)) | (refine ⟨_, rfl, ?_⟩; (try conv => whnf)))); exact Wk.ret k)
  | int i =>
    ((try conv => whnf); repeat (first | (refine ⟨fun hh => ?_, fun hh => absurd hh (by decide)⟩; clear hh; (try conv => whnf)) | (refine ⟨fun hh => absurd hh (by decide), fun hh => ?_⟩; clear hh; (try conv => whnf)) | (refine ⟨_, rfl, ?_⟩; (try conv => whnf))))
    exact Wk.ret (by simpa using k)
  | str i =>
    ((try conv => whnf); repeat (first | (refine ⟨fun hh => ?_, fun hh => absurd hh (by decide)⟩; clear hh; (try conv => whnf)) | (refine ⟨fun hh => absurd hh (by decide), fun hh => ?_⟩; clear hh; (try conv => whnf)) | (refine ⟨_, rfl, ?_⟩; (try conv => whnf))))
    exact Wk.ret (by simpa using k)
  | tup ds => simp [tree] at ht
  | lst ds => simp [tree] at ht
  | dct ks ds => simp [tree] at ht
  | ptr p => simp [tree] at ht
  | scr ds => simp [tree] at ht
/-! ### _law_very -/
theorem treeL_snoc {n : Nat} {d : D} (hd : tree n d = true) : ∀ {ds : List D}, treeL n ds = true → treeL n (ds ++ [d]) = true
  | [], _ => by simp [treeL, hd]
  | e :: ds, h => by
    have h' : tree n e = true ∧ treeL n ds = true := by simpa [treeL] using h
    rw [List.cons_append, treeL, h'.1, treeL_snoc hd h'.2]; rfl
theorem okPL_snoc {n : Nat} {d : D} (hd : okP n d = true) : ∀ {ds : List D}, okPL n ds = true → okPL n (ds ++ [d]) = true
  | [], _ => by simp [okPL, hd]
  | e :: ds, h => by
    have h' : okP n e = true ∧ okPL n ds = true := by simpa [okPL] using h
    rw [List.cons_append, okPL, h'.1, okPL_snoc hd h'.2]; rfl
theorem treeL_mapSet {n : Nat} {v : D} (hv : tree n v = true) (k : Key) : ∀ {z : List (Key × D)}, treeL n (z.map (·.2)) = true → treeL n ((z.map fun kv => if kv.1 = k then (kv.1, v) else kv).map (·.2)) = true
  | [], _ => by simp [treeL]
  | q :: z, h => by
    have h' : tree n q.2 = true ∧ treeL n (z.map (·.2)) = true := by simpa [treeL] using h
    rw [List.map_cons, List.map_cons, treeL, treeL_mapSet hv k h'.2]
    by_cases e : q.1 = k
    · rw [if_pos e]; show (tree n v && true) = true; rw [hv]; rfl
    · rw [if_neg e, h'.1]; rfl
theorem keys_mapSet (k : Key) (v : D) : ∀ z : List (Key × D), (z.map fun kv => if kv.1 = k then (kv.1, v) else kv).map (·.1) = z.map (·.1)
  | [] => rfl
  | q :: z => by
    rw [List.map_cons, List.map_cons, List.map_cons, keys_mapSet k v z]
    by_cases e : q.1 = k
    · rw [if_pos e]
    · rw [if_neg e]
theorem tree_dPut {n : Nat} {ks : List Key} {ds : List D} {k : Key} {v : D} (h : tree (n + 1) (.dct ks ds) = true) (hl : ks.length < 90000) (hk : okP 63 (keyD k) = true) (hv : tree n v = true) :
    ∃ ks' ds', dPut ks ds k v = .dct ks' ds' ∧ tree (n + 1) (.dct ks' ds') = true := by
  obtain ⟨h1, h2, h3, h4⟩ : ks.length ≤ 100000 ∧ ks.length = ds.length ∧ okPL 63 (ks.map keyD) = true ∧ treeL n ds = true := by simpa [tree] using h
  have e1 : (ks.zip ds).map (·.1) = ks := List.map_fst_zip (by omega)
  have e2 : (ks.zip ds).map (·.2) = ds := List.map_snd_zip (by omega)
  refine ⟨_, _, rfl, ?_⟩
  unfold dSet
  split
  · rw [keys_mapSet, e1]
    have := treeL_mapSet hv k (z := ks.zip ds) (by rw [e2]; exact h4)
    simp only [tree, Bool.and_eq_true, decide_eq_true_eq]
    refine ⟨h1, ?_, h3, this⟩
    rw [List.length_map, List.length_map, List.length_zip]; omega
  · rw [List.map_append, List.map_append, e1, e2]
    simp only [tree, Bool.and_eq_true, decide_eq_true_eq, List.length_append, List.map_append]
    exact ⟨by simp; omega, by simp; omega, okPL_snoc hk h3, treeL_snoc hv h4⟩
/-- the very thing -/
def veryOk (n : Nat) (S : Sg) (P : D → Sg → Prop) : D → Prop
  | .ptr p => (∃ ds, S p = some (.lst ds) ∧ treeL n ds = true ∧ ds.length < 90000 ∧ P (.bl true) (put S p (.lst (ds ++ [.str "more"])))) ∨
      ∃ ks ds, S p = some (.dct ks ds) ∧ tree (n + 1) (.dct ks ds) = true ∧ ks.length < 90000 ∧ P (.bl true) (put S p (dPut ks ds (.inr "more") (.int 1)))
  | .lst _ => False
  | .dct _ _ => False
  | .scr _ => False
  | d => tree (n + 1) d = true ∧ P (.bl true) S
def sp__law_very (n : Nat) : ASp0 := fun ds S P => ∃ d, ds = [d, d] ∧ veryOk n S P d
theorem pu__law_very (n : Nat) (hn : 0 < n) (ds : List D) (S : Sg) (P : D → Sg → Prop) (h : sp__law_very n ds S P) : ab__law_very (aPure (spS (n + 1))) (fin0 P) (startA N__law_very ds) S := by
  obtain ⟨d, rfl, h⟩ := h
  have flatc : ∀ d, tree (n + 1) d = true → (∃ t, tyD S d = some t ∧ subB t "list" = false ∧ subB t "dict" = false) → P (.bl true) S → ab__law_very (aPure (spS (n + 1))) (fin0 P) (startA N__law_very [d, d]) S := by
    intro d ht ⟨t, h1, h2, h3⟩ p
    (try conv => whnf)
    refine ⟨_, RzL.id _, d, rfl, ht, flat_bl _, ?_⟩
    (try conv => whnf)
    (first | (refine ⟨fun hh => ?_, fun hh => absurd hh (by decide)⟩; clear hh; (try conv => whnf)) | (refine ⟨fun hh => absurd hh (by decide), fun hh => ?_⟩; clear hh; (try conv => whnf)))
    refine ⟨t, h1, ?_⟩
    (try conv => whnf)
    refine ⟨fun z => by rw [h2] at z; exact absurd z (by decide), fun _ => ?_⟩
    (try conv => whnf)
    refine ⟨t, h1, ?_⟩
    (try conv => whnf)
    refine ⟨fun z => by rw [h3] at z; exact absurd z (by decide), fun _ => ?_⟩
    (try conv => whnf)
    exact ⟨_, RzL.id _, d, rfl, ht, flat_bl _, Wk.ret p⟩
  cases d with
  | non => exact flatc _ h.1 ⟨_, rfl, by decide, by decide⟩ h.2
  | bl b => exact flatc _ h.1 ⟨_, rfl, by decide, by decide⟩ h.2
  | int i => exact flatc _ h.1 ⟨_, rfl, by decide, by decide⟩ h.2
  | str x => exact flatc _ h.1 ⟨_, rfl, by decide, by decide⟩ h.2
  | tup ds => exact flatc _ h.1 ⟨_, rfl, by decide, by decide⟩ h.2
  | lst ds => exact h.elim
  | dct ks ds => exact h.elim
  | scr ds => exact h.elim
  | ptr p =>
    rcases h with ⟨ds, e, ht, hl, q⟩ | ⟨ks, ds, e, ht, hl, q⟩
    · (try conv => whnf)
      refine ⟨_, .cons (.pl e (RzL.id _)) (.cons (.pl e (RzL.id _)) .nil), .lst ds, rfl, by simp [tree, ht]; omega, flat_bl _, ?_⟩
      (try conv => whnf)
      (first | (refine ⟨fun hh => ?_, fun hh => absurd hh (by decide)⟩; clear hh; (try conv => whnf)) | (refine ⟨fun hh => absurd hh (by decide), fun hh => ?_⟩; clear hh; (try conv => whnf)))
      refine ⟨"list", by simp [tyD, e], ?_⟩
      (try conv => whnf)
      (first | (refine ⟨fun hh => ?_, fun hh => absurd hh (by decide)⟩; clear hh; (try conv => whnf)) | (refine ⟨fun hh => absurd hh (by decide), fun hh => ?_⟩; clear hh; (try conv => whnf)))
      refine ⟨⟨ds, e, trivial⟩, ?_⟩
      (try conv => whnf)
      refine ⟨ds, e, ?_⟩
      (try conv => whnf)
      refine ⟨by omega, ?_⟩
      (try conv => whnf)
      refine ⟨"list", by simp [tyD, put_same], ?_⟩
      (try conv => whnf)
      (first | (refine ⟨fun hh => ?_, fun hh => absurd hh (by decide)⟩; clear hh; (try conv => whnf)) | (refine ⟨fun hh => absurd hh (by decide), fun hh => ?_⟩; clear hh; (try conv => whnf)))
      (try conv => whnf)
      refine ⟨_, .cons (.pl put_same (RzL.id _)) (.cons (.pl put_same (RzL.id _)) .nil), .lst (ds ++ [.str "more"]), rfl, ?_, flat_bl _, Wk.ret q⟩
      simp only [tree, Bool.and_eq_true, decide_eq_true_eq]
      exact ⟨by simp; omega, treeL_snoc (by cases n <;> rfl) ht⟩
    · obtain ⟨ks', ds', ee, ht'⟩ := tree_dPut (k := .inr "more") (v := .int 1) ht hl (by simp only [keyD, okP]; decide +kernel) (by cases n <;> rfl)
      (try conv => whnf)
      refine ⟨_, .cons (.pd e (RzL.id _)) (.cons (.pd e (RzL.id _)) .nil), .dct ks ds, rfl, ht, flat_bl _, ?_⟩
      (try conv => whnf)
      (first | (refine ⟨fun hh => ?_, fun hh => absurd hh (by decide)⟩; clear hh; (try conv => whnf)) | (refine ⟨fun hh => absurd hh (by decide), fun hh => ?_⟩; clear hh; (try conv => whnf)))
      refine ⟨"dict", by simp [tyD, e], ?_⟩
      (try conv => whnf)
      (first | (refine ⟨fun hh => ?_, fun hh => absurd hh (by decide)⟩; clear hh; (try conv => whnf)) | (refine ⟨fun hh => absurd hh (by decide), fun hh => ?_⟩; clear hh; (try conv => whnf)))
      refine ⟨"dict", by simp [tyD, e], ?_⟩
      (try conv => whnf)
      (first | (refine ⟨fun hh => ?_, fun hh => absurd hh (by decide)⟩; clear hh; (try conv => whnf)) | (refine ⟨fun hh => absurd hh (by decide), fun hh => ?_⟩; clear hh; (try conv => whnf)))
      refine ⟨ks, ds, e, by omega, ?_⟩
      rw [ee] at q
      (try conv => whnf)
      refine ⟨_, .cons (.pd (put_same.trans (congrArg some ee)) (RzL.id _)) (.cons (.pd (put_same.trans (congrArg some ee)) (RzL.id _)) .nil), .dct ks' ds', rfl, ht', flat_bl _, ?_⟩
      rw [ee]
      exact Wk.ret q
end G

set_option maxHeartbeats 1000000
namespace G
open PySem PySem.Spec PyProof.Rows L2 FB
/-! ### _law_pick, _law_box, _law_cell -/
def sp__law_pick : ASp0 := fun ds S P => ∃ p xs l c, ds = [.ptr p, .lst xs] ∧ xs ≠ [] ∧ xs.length ≤ 100000 ∧ S p = some (.lst l) ∧ IsBx c l ∧ c < 1000000000 ∧ ∀ e ∈ xs, ∀ l', IsBx (c + 1) l' → P e (put S p (.lst l'))
theorem pu__law_pick (ds : List D) (S : Sg) (P : D → Sg → Prop) (h : sp__law_pick ds S P) : ab__law_pick sp__law_take (fin0 P) (startA N__law_pick ds) S := by
  obtain ⟨p, xs, l, c, rfl, hx, hl, hS, hb, hc, k⟩ := h
  have h1 : 0 < xs.length := List.length_pos_iff.mpr hx
  (try conv => whnf)
  refine ⟨p, xs.length, l, c, rfl, by omega, by omega, hS, hb, hc, fun r l' h0 hr hb' => ?_⟩
  (try conv => whnf)
  have hr' : r.toNat < xs.length := by omega
  refine ⟨_, atI_int h0 (List.getElem?_eq_getElem hr'), ?_⟩
  exact Wk.ret (k _ (List.getElem_mem hr') _ hb')
def sp__law_box : ASp0 := fun ds S P => ∃ g, ds = [.int g] ∧ ∀ p l, S p = none → IsBx 0 l → P (.ptr p) (put S p (.lst l))
theorem pu__law_box (ds : List D) (S : Sg) (P : D → Sg → Prop) (h : sp__law_box ds S P) : ab__law_box (fin0 P) (startA N__law_box ds) S := by
  obtain ⟨g, rfl, k⟩ := h
  (try conv => whnf)
  refine ⟨⟨by decide, by decide, by decide⟩, ?_⟩
  (try conv => whnf)
  refine ⟨by omega, ?_⟩
  (try conv => whnf)
  refine ⟨by show 4 ≤ 100000; omega, fun p hp => Wk.ret (k p _ hp ⟨_, _, _, _, rfl, ?_, Int.emod_nonneg _ (by omega), Int.lt_of_lt_of_le (Int.emod_lt_of_pos _ (by omega)) (by decide), Int.le_refl _, Int.le_refl _⟩)⟩
  split <;> omega
def sp__law_cell : ASp0 := fun ds S P => ∃ (ns : List Int) (k : Int), ds = [.scr (ns.map .int), .int k] ∧ 0 ≤ k ∧ k < 1000000 ∧ ∀ i, P (.int i) S
theorem cutD_ints (ns : List Int) (n : Nat) : cutD (ns.map D.int) none (some (n : Int)) = (ns.take n).map D.int := by
  rw [cutD_take, List.map_take]
theorem pu__law_cell (ds : List D) (S : Sg) (P : D → Sg → Prop) (h : sp__law_cell ds S P) : ab__law_cell (fin0 P) (startA N__law_cell ds) S := by
  obtain ⟨ns, j, rfl, h0, h1, k⟩ := h
  (try conv => whnf)
  refine ⟨fun z => ?_, fun z => ?_⟩
  · (try conv => whnf)
    have z' : j < (ns.map D.int).length := of_decide_eq_true z
    rw [List.length_map] at z'
    have hj : j.toNat < ns.length := by omega
    refine ⟨_, atI_map (atI_int h0 (List.getElem?_eq_getElem hj)), ?_⟩
    exact Wk.ret (k _)
  · (try conv => whnf)
    refine ⟨.inl (.inl (by omega)), ?_⟩
    (try conv => whnf)
    refine ⟨ns.take 1, cutD_ints ns 1, ?_⟩
    (try conv => whnf)
    refine ⟨by omega, ?_⟩
    exact Wk.ret (k _)
/-! ### words -/
def ltr (b : Bool) : Nat := if b then 82 else 76
def lt1 (b : Bool) : Str := ⟨#[ltr b]⟩
def dl (b : Bool) : D := .str (lt1 b)
def wd (w : List Bool) : Str := ⟨(w.map ltr).toArray⟩
theorem wd_len (w : List Bool) : (wd w).length = w.length := by show (w.map ltr).toArray.size = _; simp
theorem lr_at {i : Int} (h0 : 0 ≤ i) (h1 : i < 2) : atI (("LR" : Str)).cps.toList i = some (ltr (decide (i = 1))) := by
  have : i = 0 ∨ i = 1 := by omega
  rcases this with rfl | rfl <;> rfl
theorem empty_str : ("" : Str) = ⟨#[]⟩ := by rfl
theorem join_cps : ∀ w : List Bool, (Str.join ⟨#[]⟩ (w.map lt1)).cps = (w.map ltr).toArray
  | [] => rfl
  | [b] => rfl
  | b :: b' :: w => by
    have ih := join_cps (b' :: w)
    show ((lt1 b).cps ++ (#[] : Array Nat)) ++ (Str.join ⟨#[]⟩ ((b' :: w).map lt1)).cps = _
    rw [ih]
    simp [lt1]
theorem join_wd (w : List Bool) : Txt.join (("" : Str)) (w.map lt1) = wd w := by
  unfold Txt.join
  rw [StrLaws.glued_eq_join, empty_str]
  have h := join_cps w
  cases e : Str.join ⟨#[]⟩ (w.map lt1) with
  | mk c => rw [e] at h; unfold wd; rw [← h]
theorem put_none2 {S : Sg} {p Dl : Addr} {c : Cell} (h : put S p c Dl = none) : S Dl = none ∧ Dl ≠ p := by
  by_cases e : Dl = p
  · subst e; rw [put_same] at h; cases h
  · exact ⟨by rw [put_ne e] at h; exact h, e⟩
theorem sum_lt1 : ∀ w : List Bool, ((w.map lt1).map (·.length)).sum = w.length
  | [] => rfl
  | b :: w => by rw [List.map_cons, List.map_cons, List.sum_cons, sum_lt1 w, List.length_cons]; show 1 + _ = _; omega
theorem B_take {S : Sg} {p Dl : Addr} (hp : p ≠ Dl) (a b c : Cell) : put (put (put S p a) Dl b) p c = put (put S p c) Dl b := by
  rw [put_comm (S := put S p a) (Ne.symm hp), put_put]
theorem B_at {S : Sg} {p Dl : Addr} (hp : p ≠ Dl) (a b : Cell) : put (put S p a) Dl b p = some a := (put_ne hp).trans put_same
theorem lcW {i : Nat} {elt : AE} {γ0 : Ga} {P : List D → Sg → Prop} {S : Sg} {p Dl : Addr} {c : Int} : ∀ (ds : List D) (w : List Bool) (l : List D), IsBx (c + w.length) l → c + w.length + ds.length < 1000000000 → w.length + ds.length ≤ 90000 →
    (∀ d ∈ ds, ∀ l c' acc (Q : D → Sg → Prop), IsBx c' l → c' < 1000000000 → (∀ b l', IsBx (c' + 1) l' → Q (dl b) (put (put S p (.lst l')) Dl (.lst acc))) → elt (γ0.set i (some d)) (put (put S p (.lst l)) Dl (.lst acc)) Q (fun _ _ _ => False)) →
    (∀ (w' : List Bool) l', w'.length = w.length + ds.length → IsBx (c + w'.length) l' → P (w'.map dl) (put (put S p (.lst l')) Dl (.lst (w'.map dl)))) → aLcGo (agName i) aYes elt γ0 gT Dl P ds (w.map dl) (put (put S p (.lst l)) Dl (.lst (w.map dl)))
  | [], w, l, hb, _, _, _, fin => ⟨trivial, fin w l rfl hb⟩
  | d :: ds, w, l, hb, hc, hl, st, fin => by
    rw [List.length_cons] at hc hl fin
    refine ⟨trivial, fun _ => st d List.mem_cons_self l _ _ _ hb (by omega) fun b l' hb' => ⟨by rw [List.length_map]; omega, put_same, ?_⟩, fun z => nomatch z⟩
    rw [put_put]
    have e : w.map dl ++ [dl b] = (w ++ [b]).map dl := by simp
    have el : ((w ++ [b]).length : Int) = w.length + 1 := by simp
    rw [e]
    refine lcW ds (w ++ [b]) l' (hb'.mono (by omega)) (by omega) (by simp; omega) (fun d hd => st d (List.mem_cons_of_mem _ hd)) fun w' l2 h1 h2 => fin w' l2 (by simp at h1; omega) h2
theorem snoc_dl (w : List Bool) (b : Bool) : w.map dl ++ [D.str ⟨#[ltr b]⟩] = (w ++ [b]).map dl := by rw [List.map_append]; rfl
end G

set_option maxHeartbeats 1000000
/-! Q4: polynomials as lists of ints. -/
namespace G
/-! ### polynomials -/
def ev : List Int → Int → Int
  | [], _ => 0
  | a :: l, x => a + x * ev l x
def Nm (l : List Int) : Prop := l.getLast? ≠ some 0
def trim : List Int → List Int
  | [] => []
  | a :: l => match trim l with
    | [] => if a = 0 then [] else [a]
    | b :: r => a :: b :: r
theorem ev_trim (x : Int) : ∀ l, ev (trim l) x = ev l x
  | [] => rfl
  | a :: l => by
    have ih := ev_trim x l
    unfold trim
    cases e : trim l with
    | nil =>
      rw [e] at ih
      by_cases h : a = 0
      · simp only [h, if_true, ev] at ih ⊢; rw [← ih]; simp
      · simp only [h, if_false, ev] at ih ⊢; rw [← ih]
    | cons b r => rw [e] at ih; show a + x * ev (b :: r) x = _; rw [ih]; rfl
theorem nm_trim : ∀ l, Nm (trim l)
  | [] => by simp [trim, Nm]
  | a :: l => by
    have ih := nm_trim l
    unfold trim
    cases e : trim l with
    | nil =>
      by_cases h : a = 0
      · simp [h, Nm]
      · simp [h, Nm]
    | cons b r => rw [e] at ih; simpa [Nm] using ih
theorem trim_len : ∀ l, (trim l).length ≤ l.length
  | [] => Nat.le_refl _
  | a :: l => by
    have ih := trim_len l
    unfold trim
    cases e : trim l with
    | nil => by_cases h : a = 0 <;> simp [h]
    | cons b r => rw [e] at ih; simp only [List.length_cons] at ih ⊢; omega
theorem trim_nn : ∀ l : List Int, (∀ a ∈ l, 0 ≤ a) → ∀ a ∈ trim l, 0 ≤ a
  | [], _ => fun a h => nomatch h
  | a :: l, h => by
    have ih := trim_nn l fun b hb => h b (List.mem_cons_of_mem _ hb)
    have ha := h a List.mem_cons_self
    unfold trim
    cases e : trim l with
    | nil =>
      by_cases h : a = 0
      · simp [h]
      · simp [h, ha]
    | cons b r =>
      rw [e] at ih
      intro c hc
      rcases List.mem_cons.mp hc with rfl | hc
      · exact ha
      · exact ih c hc
theorem trim_nm : ∀ l, Nm l → trim l = l
  | [], _ => rfl
  | [a], h => by
    have : a ≠ 0 := by simpa [Nm] using h
    simp [trim, this]
  | a :: b :: l, h => by
    have ih := trim_nm (b :: l) (by simpa [Nm] using h)
    unfold trim
    rw [ih]
theorem trim_zero : ∀ l, trim (l ++ [0]) = trim l
  | [] => by simp [trim]
  | a :: l => by
    rw [List.cons_append]
    unfold trim
    rw [trim_zero l]
/-- a polynomial that vanishes at all great integers is nothing -/
theorem ev_zero : ∀ (l : List Int) (M : Int), Nm l → (∀ x, M < x → ev l x = 0) → l = []
  | [], _, _, _ => rfl
  | a :: l, M, hn, h => by
    exfalso
    have ha : a = 0 := by
      have h1 := h ((M.natAbs : Int) + a.natAbs + 1) (by omega)
      simp only [ev] at h1
      have hd : ((M.natAbs : Int) + a.natAbs + 1) ∣ a := ⟨- ev l ((M.natAbs : Int) + a.natAbs + 1), by rw [Int.mul_neg]; omega⟩
      have := Int.eq_zero_of_dvd_of_natAbs_lt_natAbs hd (by omega)
      exact this
    subst ha
    have hl : l ≠ [] := by
      intro e
      subst e
      simp [Nm] at hn
    have hn' : Nm l := by
      cases l with
      | nil => exact absurd rfl hl
      | cons b r => simpa [Nm] using hn
    refine hl (ev_zero l (M.natAbs) hn' fun x hx => ?_)
    have h1 := h x (by omega)
    simp only [ev, Int.zero_add] at h1
    rcases Int.mul_eq_zero.mp h1 with h2 | h2
    · omega
    · exact h2
def addL : List Int → List Int → List Int
  | [], b => b
  | a, [] => a
  | x :: a, y :: b => (x + y) :: addL a b
theorem ev_add (x : Int) : ∀ a b, ev (addL a b) x = ev a x + ev b x
  | [], b => by simp [addL, ev]
  | a :: l, [] => by simp [addL, ev]
  | a :: l, b :: m => by
    have ih := ev_add x l m
    simp only [addL, ev, ih]
    grind
theorem addL_len : ∀ a b : List Int, (addL a b).length = max a.length b.length
  | [], b => by simp [addL]
  | a :: l, [] => by simp [addL]
  | a :: l, b :: m => by simp only [addL, List.length_cons, addL_len l m]; omega
theorem addL_nn : ∀ a b : List Int, (∀ x ∈ a, 0 ≤ x) → (∀ x ∈ b, 0 ≤ x) → ∀ x ∈ addL a b, 0 ≤ x
  | [], b, _, h => by simpa [addL] using h
  | a :: l, [], h, _ => by simpa [addL] using h
  | a :: l, b :: m, h, h' => by
    intro x hx
    rcases List.mem_cons.mp hx with rfl | hx
    · have := h a List.mem_cons_self; have := h' b List.mem_cons_self; omega
    · exact addL_nn l m (fun y hy => h y (List.mem_cons_of_mem _ hy)) (fun y hy => h' y (List.mem_cons_of_mem _ hy)) x hx
theorem addL_get : ∀ (a b : List Int) (k : Nat), (addL a b).getD k 0 = a.getD k 0 + b.getD k 0
  | [], b, k => by simp [addL]
  | a :: l, [], k => by simp [addL]
  | a :: l, b :: m, 0 => by simp [addL]
  | a :: l, b :: m, k + 1 => by simpa [addL] using addL_get l m k
def negL (a : List Int) : List Int := a.map fun i => -i
theorem ev_neg (x : Int) : ∀ a, ev (negL a) x = - ev a x
  | [] => by simp [negL, ev]
  | a :: l => by
    have ih := ev_neg x l
    simp only [negL, List.map_cons, ev] at ih ⊢
    rw [ih]; grind
/-- normal ones that agree are one -/
theorem ev_inj : ∀ {a b : List Int}, Nm a → Nm b → (∀ x, ev a x = ev b x) → a = b := by
  have aux : ∀ (a b : List Int), (∀ x, ev a x = ev b x) → a.length = b.length → a = b := by
    intro a
    induction a with
    | nil => intro b _ hl; exact (List.length_eq_zero_iff.mp hl.symm).symm
    | cons p a ih =>
      intro b h hl
      cases b with
      | nil => simp at hl
      | cons q b =>
        have e0 : p = q := by have := h 0; simpa [ev] using this
        subst e0
        have ht : trim (addL a (negL b)) = [] := ev_zero _ 0 (nm_trim _) fun x hx => by
          rw [ev_trim, ev_add, ev_neg]
          have h1 := h x
          simp only [ev] at h1
          have h2 : x * ev a x = x * ev b x := by omega
          have h3 : ev a x = ev b x := Int.eq_of_mul_eq_mul_left (by omega) h2
          omega
        rw [ih b (fun x => by
          have h4 := ev_trim x (addL a (negL b))
          rw [ht, ev_add, ev_neg] at h4
          simp only [ev] at h4
          omega) (by simpa using hl)]
  intro a b ha hb h
  have ht : trim (addL a (negL b)) = [] := ev_zero _ 0 (nm_trim _) fun x _ => by rw [ev_trim, ev_add, ev_neg, h x]; omega
  -- the lengths agree: else the last item of the longer stays
  have key : ∀ (a b : List Int), Nm a → trim (addL a (negL b)) = [] → a.length ≤ b.length := by
    intro a
    induction a with
    | nil => intro b _ _; exact Nat.zero_le _
    | cons p a ih =>
      intro b hn ht
      cases b with
      | nil =>
        have e : trim (p :: a) = [] := by simpa [addL, negL] using ht
        rw [trim_nm _ hn] at e
        exact nomatch e
      | cons q b =>
        have e : trim ((p + -q) :: addL a (negL b)) = [] := ht
        have e2 : trim (addL a (negL b)) = [] := by
          unfold trim at e
          cases e3 : trim (addL a (negL b)) with
          | nil => rfl
          | cons c r => rw [e3] at e; exact nomatch e
        by_cases hz : a = []
        · subst hz; simp
        · have hn' : Nm a := by
            cases a with
            | nil => exact absurd rfl hz
            | cons c r => simpa [Nm] using hn
          have := ih b hn' e2
          simp only [List.length_cons]; omega
  have ht2 : trim (addL b (negL a)) = [] := ev_zero _ 0 (nm_trim _) fun x _ => by rw [ev_trim, ev_add, ev_neg, h x]; omega
  exact aux a b h (Nat.le_antisymm (key a b ha ht) (key b a hb ht2))
def padd (a b : List Int) : List Int := trim (addL a b)
def shift (a : List Int) : List Int := if a = [] then [] else 0 :: a
theorem ev_padd (x : Int) (a b : List Int) : ev (padd a b) x = ev a x + ev b x := by unfold padd; rw [ev_trim, ev_add]
theorem nm_padd (a b : List Int) : Nm (padd a b) := nm_trim _
theorem padd_len (a b : List Int) : (padd a b).length ≤ max a.length b.length := Nat.le_trans (trim_len _) (Nat.le_of_eq (addL_len a b))
theorem padd_nn {a b : List Int} (h : ∀ x ∈ a, 0 ≤ x) (h' : ∀ x ∈ b, 0 ≤ x) : ∀ x ∈ padd a b, 0 ≤ x := trim_nn _ (addL_nn a b h h')
theorem ev_shift (x : Int) (a : List Int) : ev (shift a) x = x * ev a x := by
  unfold shift; split
  · rename_i h; subst h; simp [ev]
  · simp [ev]
theorem nm_shift {a : List Int} (h : Nm a) : Nm (shift a) := by
  unfold shift; split
  · simp [Nm]
  · rename_i e
    cases a with
    | nil => exact absurd rfl e
    | cons b r => simpa [Nm] using h
theorem shift_len (a : List Int) : (shift a).length ≤ a.length + 1 := by unfold shift; split <;> simp
theorem shift_nn {a : List Int} (h : ∀ x ∈ a, 0 ≤ x) : ∀ x ∈ shift a, 0 ≤ x := by
  unfold shift; split
  · intro x hx; exact nomatch hx
  · intro x hx
    rcases List.mem_cons.mp hx with rfl | hx
    · exact Int.le_refl _
    · exact h x hx
/-! ### matrices -/
structure Mx where
  a : List Int
  b : List Int
  c : List Int
  d : List Int
structure M4 where
  a : Int
  b : Int
  c : Int
  d : Int
def M4.mul (m n : M4) : M4 := ⟨m.a * n.a + m.b * n.c, m.a * n.b + m.b * n.d, m.c * n.a + m.d * n.c, m.c * n.b + m.d * n.d⟩
def lm (b : Bool) (x : Int) : M4 := if b then ⟨x, 1, 0, 1⟩ else ⟨x, 0, x, 1⟩
def mev : List Bool → Int → M4
  | [], _ => ⟨1, 0, 0, 1⟩
  | b :: w, x => (lm b x).mul (mev w x)
theorem M4.assoc (m n p : M4) : (m.mul n).mul p = m.mul (n.mul p) := by
  simp only [M4.mul, M4.mk.injEq]
  refine ⟨by grind, by grind, by grind, by grind⟩
theorem mev_app (x : Int) : ∀ w v, mev (w ++ v) x = (mev w x).mul (mev v x)
  | [], v => by simp [mev, M4.mul]
  | b :: w, v => by rw [List.cons_append, mev, mev, mev_app x w v, M4.assoc]
def M4.det (m : M4) : Int := m.a * m.d - m.b * m.c
theorem det_mul (m n : M4) : (m.mul n).det = m.det * n.det := by simp only [M4.det, M4.mul]; grind
theorem det_mev (x : Int) : ∀ w : List Bool, (mev w x).det = x ^ w.length
  | [] => by simp [mev, M4.det]
  | b :: w => by
    rw [mev, det_mul, det_mev x w, List.length_cons, Int.pow_succ]
    cases b <;> simp [lm, M4.det] <;> grind
/-- the step of pair_by -/
def stp (b : Bool) (s : List Int × List Int) : List Int × List Int := if b then (padd (shift s.1) s.2, s.2) else (shift s.1, padd (shift s.1) s.2)
def pairBy (w : List Bool) (s : List Int × List Int) : List Int × List Int := w.foldr stp s
def matO (w : List Bool) : Mx := ⟨(pairBy w ([1], [])).1, (pairBy w ([], [1])).1, (pairBy w ([1], [])).2, (pairBy w ([], [1])).2⟩
structure Good (k : Nat) (l : List Int) : Prop where
  nm : Nm l
  len : l.length ≤ k
  nn : ∀ x ∈ l, 0 ≤ x
theorem good_shift {k : Nat} {l : List Int} (h : Good k l) : Good (k + 1) (shift l) := ⟨nm_shift h.nm, Nat.le_trans (shift_len l) (Nat.succ_le_succ h.len), shift_nn h.nn⟩
theorem good_padd {k : Nat} {l m : List Int} (h : Good k l) (h' : Good k m) : Good k (padd l m) := ⟨nm_padd _ _, Nat.le_trans (padd_len l m) (Nat.max_le.mpr ⟨h.len, h'.len⟩), padd_nn h.nn h'.nn⟩
theorem good_mono {k k' : Nat} {l : List Int} (h : Good k l) (e : k ≤ k') : Good k' l := ⟨h.nm, Nat.le_trans h.len e, h.nn⟩
theorem pair_good : ∀ (w : List Bool) {s : List Int × List Int} {k : Nat}, Good k s.1 → Good k s.2 → Good (k + w.length) (pairBy w s).1 ∧ Good (k + w.length) (pairBy w s).2
  | [], s, k, h, h' => ⟨h, h'⟩
  | b :: w, s, k, h, h' => by
    obtain ⟨h1, h2⟩ := pair_good w h h'
    have g1 := good_shift h1
    have g2 := good_mono h2 (Nat.le_succ _)
    have g3 := good_padd g1 g2
    show Good _ (stp b (pairBy w s)).1 ∧ Good _ (stp b (pairBy w s)).2
    cases b
    · exact ⟨g1, g3⟩
    · exact ⟨g3, g2⟩
theorem pair_ev (x : Int) : ∀ (w : List Bool) (s : List Int × List Int), ev (pairBy w s).1 x = (mev w x).a * ev s.1 x + (mev w x).b * ev s.2 x ∧ ev (pairBy w s).2 x = (mev w x).c * ev s.1 x + (mev w x).d * ev s.2 x
  | [], s => by simp [pairBy, mev]
  | b :: w, s => by
    obtain ⟨h1, h2⟩ := pair_ev x w s
    show ev (stp b (pairBy w s)).1 x = _ ∧ ev (stp b (pairBy w s)).2 x = _
    cases b
    · simp only [stp, mev, lm, M4.mul, Bool.false_eq_true, if_false, ev_shift, ev_padd, h1, h2]
      constructor <;> grind
    · simp only [stp, mev, lm, M4.mul, if_true, ev_shift, ev_padd, h1, h2]
      constructor <;> grind
structure IsM (w : List Bool) (m : Mx) : Prop where
  a : Nm m.a ∧ ∀ x, ev m.a x = (mev w x).a
  b : Nm m.b ∧ ∀ x, ev m.b x = (mev w x).b
  c : Nm m.c ∧ ∀ x, ev m.c x = (mev w x).c
  d : Nm m.d ∧ ∀ x, ev m.d x = (mev w x).d
structure GoodM (k : Nat) (m : Mx) : Prop where
  a : Good k m.a
  b : Good k m.b
  c : Good k m.c
  d : Good k m.d
theorem good1 : Good 1 [1] := ⟨by simp [Nm], by simp, by simp⟩
theorem good0 : Good 1 [] := ⟨by simp [Nm], by simp, by simp⟩
theorem matO_good (w : List Bool) : GoodM (1 + w.length) (matO w) := ⟨(pair_good w good1 good0).1, (pair_good w good0 good1).1, (pair_good w good1 good0).2, (pair_good w good0 good1).2⟩
theorem matO_is (w : List Bool) : IsM w (matO w) := by
  have g := matO_good w
  refine ⟨⟨g.a.nm, fun x => ?_⟩, ⟨g.b.nm, fun x => ?_⟩, ⟨g.c.nm, fun x => ?_⟩, ⟨g.d.nm, fun x => ?_⟩⟩
  · have := (pair_ev x w ([1], [])).1; simpa [ev, matO] using this
  · have := (pair_ev x w ([], [1])).1; simpa [ev, matO] using this
  · have := (pair_ev x w ([1], [])).2; simpa [ev, matO] using this
  · have := (pair_ev x w ([], [1])).2; simpa [ev, matO] using this
theorem IsM.uniq {w : List Bool} {m n : Mx} (h : IsM w m) (g : IsM w n) : m = n := by
  cases m; cases n
  have e1 := ev_inj h.a.1 g.a.1 fun x => (h.a.2 x).trans (g.a.2 x).symm
  have e2 := ev_inj h.b.1 g.b.1 fun x => (h.b.2 x).trans (g.b.2 x).symm
  have e3 := ev_inj h.c.1 g.c.1 fun x => (h.c.2 x).trans (g.c.2 x).symm
  have e4 := ev_inj h.d.1 g.d.1 fun x => (h.d.2 x).trans (g.d.2 x).symm
  simp only at e1 e2 e3 e4
  subst e1 e2 e3 e4
  rfl
end G

set_option maxHeartbeats 1000000
/-! U5: power series as functions; the row of a word. -/
namespace G
abbrev Sq := Nat → Int
def tl (f : Sq) : Sq := fun i => f (i + 1)
def sh (f : Sq) : Sq := fun i => match i with | 0 => 0 | k + 1 => f k
def dlt : Sq := fun i => match i with | 0 => 1 | _ + 1 => 0
def cv : Nat → Sq → Sq → Int
  | 0, f, g => f 0 * g 0
  | n + 1, f, g => f 0 * g (n + 1) + cv n (tl f) g
theorem cv_add : ∀ (n : Nat) (f f' g : Sq), cv n (fun i => f i + f' i) g = cv n f g + cv n f' g
  | 0, f, f', g => by simp only [cv]; grind
  | n + 1, f, f', g => by
    have ih := cv_add n (tl f) (tl f') g
    simp only [cv]
    rw [show tl (fun i => f i + f' i) = fun i => tl f i + tl f' i from rfl, ih]
    grind
theorem cv_smul : ∀ (n : Nat) (c : Int) (f g : Sq), cv n (fun i => c * f i) g = c * cv n f g
  | 0, c, f, g => by simp only [cv]; grind
  | n + 1, c, f, g => by
    have ih := cv_smul n c (tl f) g
    simp only [cv]
    rw [show tl (fun i => c * f i) = fun i => c * tl f i from rfl, ih]
    grind
theorem cv_addR : ∀ (n : Nat) (f g g' : Sq), cv n f (fun i => g i + g' i) = cv n f g + cv n f g'
  | 0, f, g, g' => by simp only [cv]; grind
  | n + 1, f, g, g' => by
    have ih := cv_addR n (tl f) g g'
    simp only [cv]
    rw [ih]
    grind
theorem cv_subR : ∀ (n : Nat) (f g g' : Sq), cv n f (fun i => g i - g' i) = cv n f g - cv n f g'
  | 0, f, g, g' => by simp only [cv]; grind
  | n + 1, f, g, g' => by
    have ih := cv_subR n (tl f) g g'
    simp only [cv]
    rw [ih]
    grind
theorem cv_congr : ∀ (n : Nat) (f g g' : Sq), (∀ i, i ≤ n → g i = g' i) → cv n f g = cv n f g'
  | 0, f, g, g', h => by simp only [cv]; rw [h 0 (Nat.le_refl _)]
  | n + 1, f, g, g', h => by
    simp only [cv]
    rw [h (n + 1) (Nat.le_refl _), cv_congr n (tl f) g g' fun i hi => h i (by omega)]
theorem cv_assoc : ∀ (n : Nat) (f g h : Sq), cv n (fun i => cv i f g) h = cv n f (fun i => cv i g h)
  | 0, f, g, h => by simp only [cv]; grind
  | n + 1, f, g, h => by
    have ih := cv_assoc n (tl f) g h
    simp only [cv]
    rw [show tl (fun i => cv i f g) = fun i => f 0 * tl g i + cv i (tl f) g from rfl, cv_add, cv_smul, ih]
    grind
theorem cv_sh (n : Nat) (f g : Sq) : cv (n + 1) (sh f) g = cv n f g := by
  show sh f 0 * g (n + 1) + cv n (tl (sh f)) g = _
  rw [show tl (sh f) = f from rfl, show sh f 0 = 0 from rfl]
  omega
theorem cv_shR : ∀ (n : Nat) (f g : Sq), cv (n + 1) f (sh g) = cv n f g
  | 0, f, g => by simp only [cv, sh]; grind
  | n + 1, f, g => by
    have ih := cv_shR n (tl f) g
    show f 0 * sh g (n + 2) + cv (n + 1) (tl f) (sh g) = _
    rw [ih]; rfl
theorem cv_dR : ∀ (n : Nat) (f : Sq), cv n f dlt = f n
  | 0, f => by simp [cv, dlt]
  | n + 1, f => by
    show f 0 * 0 + cv n (tl f) dlt = _
    rw [cv_dR n (tl f)]; simp [tl]
theorem cv_uniq {b s s' : Sq} (hb : b 0 = 1) (h : ∀ n, cv n b s = cv n b s') : ∀ n i, i ≤ n → s i = s' i
  | 0, i, hi => by
    obtain rfl : i = 0 := by omega
    have := h 0
    simpa [cv, hb] using this
  | n + 1, i, hi => by
    by_cases e : i ≤ n
    · exact cv_uniq hb h n i e
    · obtain rfl : i = n + 1 := by omega
      have h1 := h (n + 1)
      simp only [cv, hb] at h1
      rw [cv_congr n (tl b) s s' fun j hj => cv_uniq hb h n j hj] at h1
      omega
def recL (F : Nat → Sq → Int) : Nat → List Int
  | 0 => []
  | n + 1 => recL F n ++ [F n fun k => (recL F n).getD k 0]
theorem recL_len (F : Nat → Sq → Int) : ∀ n, (recL F n).length = n
  | 0 => rfl
  | n + 1 => by rw [recL, List.length_append, recL_len F n]; rfl
def recS (F : Nat → Sq → Int) : Sq := fun n => F n fun k => (recL F n).getD k 0
theorem recL_get (F : Nat → Sq → Int) : ∀ n k, k < n → (recL F n).getD k 0 = recS F k
  | 0, k, h => by omega
  | n + 1, k, h => by
    rw [recL]
    by_cases e : k < n
    · rw [List.getD_eq_getElem?_getD, List.getElem?_append_left (by rw [recL_len]; exact e), ← List.getD_eq_getElem?_getD]
      exact recL_get F n k e
    · obtain rfl : k = n := by omega
      rw [List.getD_eq_getElem?_getD, List.getElem?_append_right (by rw [recL_len]; exact Nat.le_refl _), recL_len, Nat.sub_self]
      rfl
theorem recS_eq {F : Nat → Sq → Int} (hF : ∀ n g g', (∀ k, k < n → g k = g' k) → F n g = F n g') (n : Nat) : recS F n = F n (recS F) := hF n _ _ fun k hk => recL_get F n k hk
/-- t / b -/
def dvF (t b : Sq) (n : Nat) (g : Sq) : Int := t n - match n with | 0 => 0 | m + 1 => cv m (tl b) g
def dv (t b : Sq) : Sq := recS (dvF t b)
theorem dv_eq (t b : Sq) (n : Nat) : dv t b n = t n - match n with | 0 => 0 | m + 1 => cv m (tl b) (dv t b) := by
  refine recS_eq (F := dvF t b) (fun n g g' h => ?_) n
  unfold dvF
  cases n with
  | zero => rfl
  | succ m => simp only; rw [cv_congr m (tl b) g g' fun i hi => h i (by omega)]
theorem cv_dv {t b : Sq} (hb : b 0 = 1) (n : Nat) : cv n b (dv t b) = t n := by
  cases n with
  | zero =>
    have := dv_eq t b 0
    simp only [cv, hb]
    simpa using this
  | succ m =>
    have := dv_eq t b (m + 1)
    simp only [cv, hb]
    simp only at this
    omega
theorem dv_uniq {t b s : Sq} (hb : b 0 = 1) (h : ∀ n, cv n b s = t n) (n : Nat) : s n = dv t b n :=
  cv_uniq hb (fun n => (h n).trans (cv_dv hb n).symm) n n (Nat.le_refl _)
/-! the row of a word -/
def tb : List Bool → Sq × Sq
  | [] => (fun _ => 0, dlt)
  | true :: w => (fun i => sh (tb w).1 i + (tb w).2 i, (tb w).2)
  | false :: w => (sh (tb w).1, fun i => sh (tb w).1 i + (tb w).2 i)
theorem tb0 : ∀ w, (tb w).2 0 = 1
  | [] => rfl
  | true :: w => tb0 w
  | false :: w => by show 0 + (tb w).2 0 = 1; rw [tb0 w]; rfl
def srs (w : List Bool) : Sq := dv (tb w).1 (tb w).2
theorem srs_cv (w : List Bool) (n : Nat) : cv n (tb w).2 (srs w) = (tb w).1 n := cv_dv (tb0 w) n
theorem srs_R (w : List Bool) (n : Nat) : srs (true :: w) n = match n with | 0 => 1 | k + 1 => srs w k := by
  have h : ∀ n, cv n (tb w).2 (fun i => sh (srs w) i + dlt i) = sh (tb w).1 n + (tb w).2 n := by
    intro n
    rw [cv_addR, cv_dR]
    cases n with
    | zero => simp [cv, sh]
    | succ m => rw [cv_shR, srs_cv]; rfl
  have e := dv_uniq (tb0 w) h n
  show dv _ _ n = _
  rw [show (tb (true :: w)) = (fun i => sh (tb w).1 i + (tb w).2 i, (tb w).2) from rfl]
  show dv (fun i => sh (tb w).1 i + (tb w).2 i) (tb w).2 n = _
  rw [← e]
  cases n with
  | zero => rfl
  | succ k => show srs w k + 0 = srs w k; omega
def gF (f : Sq) (n : Nat) (g : Sq) : Int := match n with | 0 => 0 | m + 1 => f m - cv m f g
theorem srs_L (w : List Bool) (n : Nat) : srs (false :: w) n = match n with | 0 => 0 | k + 1 => srs w k - cv k (srs w) (srs (false :: w)) := by
  have hg : ∀ n, recS (gF (srs w)) n = gF (srs w) n (recS (gF (srs w))) := fun n => recS_eq (F := gF (srs w)) (fun n g g' h => by
    unfold gF
    cases n with
    | zero => rfl
    | succ m => simp only; rw [cv_congr m _ g g' fun i hi => h i (by omega)]) n
  have e : ∀ n, recS (gF (srs w)) n = srs (false :: w) n := by
    refine dv_uniq (tb0 (false :: w)) fun n => ?_
    show cv n (fun i => sh (tb w).1 i + (tb w).2 i) _ = sh (tb w).1 n
    rw [cv_add]
    have hs : recS (gF (srs w)) = sh (fun k => srs w k - cv k (srs w) (recS (gF (srs w)))) := by
      funext n
      rw [hg]
      cases n <;> rfl
    cases n with
    | zero =>
      simp only [cv]
      rw [show recS (gF (srs w)) 0 = 0 from by rw [hg]; rfl, show sh (tb w).1 0 = 0 from rfl]
      omega
    | succ m =>
      rw [cv_sh]
      have h1 : cv (m + 1) (tb w).2 (recS (gF (srs w))) = cv m (tb w).2 (fun k => srs w k - cv k (srs w) (recS (gF (srs w)))) := by
        conv => lhs; rw [hs]
        rw [cv_shR]
      rw [h1, cv_subR, ← cv_assoc, srs_cv, show (fun i => cv i (tb w).2 (srs w)) = (tb w).1 from funext fun i => srs_cv w i]
      show _ = (tb w).1 m
      omega
  rw [← e n, hg]
  cases n with
  | zero => rfl
  | succ k =>
    show srs w k - cv k (srs w) _ = _
    rw [show recS (gF (srs w)) = srs (false :: w) from funext e]
/-! bounds -/
theorem cv_bd {F G : Nat} : ∀ (n : Nat) (f g : Sq), (∀ i, (f i).natAbs ≤ F) → (∀ i, i ≤ n → (g i).natAbs ≤ G) → (cv n f g).natAbs ≤ (n + 1) * (F * G)
  | 0, f, g, hf, hg => by
    simp only [cv, Int.natAbs_mul]
    have := Nat.mul_le_mul (hf 0) (hg 0 (Nat.le_refl _))
    omega
  | n + 1, f, g, hf, hg => by
    simp only [cv]
    have h1 : (f 0 * g (n + 1)).natAbs ≤ F * G := by rw [Int.natAbs_mul]; exact Nat.mul_le_mul (hf 0) (hg _ (Nat.le_refl _))
    have h2 := cv_bd n (tl f) g (fun i => hf _) fun i hi => hg i (by omega)
    have h3 := Int.natAbs_add_le (f 0 * g (n + 1)) (cv n (tl f) g)
    have h4 : (n + 1 + 1) * (F * G) = (n + 1) * (F * G) + F * G := Nat.succ_mul _ _
    omega
theorem tb_bd : ∀ (w : List Bool), (∀ i, ((tb w).1 i).natAbs ≤ 2 ^ w.length) ∧ ∀ i, ((tb w).2 i).natAbs ≤ 2 ^ w.length
  | [] => ⟨fun i => by simp [tb], fun i => by cases i <;> simp [tb, dlt]⟩
  | b :: w => by
    obtain ⟨h1, h2⟩ := tb_bd w
    have hs : ∀ i, (sh (tb w).1 i).natAbs ≤ 2 ^ w.length := fun i => by
      cases i with
      | zero => simp [sh]
      | succ k => exact h1 k
    have e : 2 ^ (b :: w).length = 2 ^ w.length + 2 ^ w.length := by rw [List.length_cons, Nat.pow_succ]; omega
    have ha : ∀ i, (sh (tb w).1 i + (tb w).2 i).natAbs ≤ 2 ^ (b :: w).length := fun i => by
      have := Int.natAbs_add_le (sh (tb w).1 i) ((tb w).2 i)
      have := hs i
      have := h2 i
      omega
    cases b
    · exact ⟨fun i => by have := hs i; show (sh (tb w).1 i).natAbs ≤ _; omega, ha⟩
    · exact ⟨ha, fun i => by have := h2 i; show ((tb w).2 i).natAbs ≤ _; omega⟩
theorem srs_bd (w : List Bool) {L : Nat} (hL : w.length ≤ L) : ∀ n, n ≤ 127 → (srs w n).natAbs ≤ 2 ^ ((L + 8) * (n + 1)) := by
  obtain ⟨h1, h2⟩ := tb_bd w
  have hp : 2 ^ w.length ≤ 2 ^ L := Nat.pow_le_pow_right (by decide) hL
  have key : ∀ n, n ≤ 127 → ∀ i, i ≤ n → (srs w i).natAbs ≤ 2 ^ ((L + 8) * (i + 1)) := by
    intro n
    induction n with
    | zero =>
      intro _ i hi
      obtain rfl : i = 0 := by omega
      have e := dv_eq (tb w).1 (tb w).2 0
      have : srs w 0 = (tb w).1 0 := by show dv _ _ 0 = _; rw [e]; simp
      rw [this]
      exact Nat.le_trans (h1 0) (Nat.le_trans hp (Nat.pow_le_pow_right (by decide) (by omega)))
    | succ n ih =>
      intro hn i hi
      by_cases hin : i ≤ n
      · exact ih (by omega) i hin
      obtain rfl : i = n + 1 := by omega
      have e := dv_eq (tb w).1 (tb w).2 (n + 1)
      have e2 : srs w (n + 1) = (tb w).1 (n + 1) - cv n (tl (tb w).2) (srs w) := e
      have b1 := cv_bd n (tl (tb w).2) (srs w) (F := 2 ^ L) (G := 2 ^ ((L + 8) * (n + 1))) (fun i => Nat.le_trans (h2 _) hp) fun i hi => Nat.le_trans (ih (by omega) i hi) (Nat.pow_le_pow_right (by decide) (Nat.mul_le_mul_left _ (by omega)))
      have b2 := Nat.le_trans (h1 (n + 1)) hp
      have b3 : (srs w (n + 1)).natAbs ≤ ((tb w).1 (n + 1)).natAbs + (cv n (tl (tb w).2) (srs w)).natAbs := by rw [e2]; omega
      have b4 : (n + 1) * (2 ^ L * 2 ^ ((L + 8) * (n + 1))) ≤ 2 ^ 7 * (2 ^ L * 2 ^ ((L + 8) * (n + 1))) := Nat.mul_le_mul_right _ (by omega)
      have b5 : 2 ^ 7 * (2 ^ L * 2 ^ ((L + 8) * (n + 1))) = 2 ^ (L + 7 + (L + 8) * (n + 1)) := by rw [← Nat.pow_add, ← Nat.pow_add]; congr 1; omega
      have b6 : (L + 8) * (n + 1 + 1) = (L + 7 + (L + 8) * (n + 1)) + 1 := by rw [Nat.mul_succ]; omega
      have b7 : 2 ^ L ≤ 2 ^ (L + 7 + (L + 8) * (n + 1)) := Nat.pow_le_pow_right (by decide) (by omega)
      rw [b6, Nat.pow_succ]
      omega
  exact fun n hn => key n hn n (Nat.le_refl _)
/-! lists of items -/
def sL (f : Sq) (n : Nat) : List Int := (List.range n).map f
theorem sL_len (f : Sq) (n : Nat) : (sL f n).length = n := by simp [sL]
theorem sL_get {f : Sq} {n i : Nat} (h : i < n) : (sL f n)[i]? = some (f i) := by simp [sL, h]
theorem sL_snoc (f : Sq) (n : Nat) : sL f (n + 1) = sL f n ++ [f n] := by simp [sL, List.range_succ]
theorem sL_cons (f : Sq) (n : Nat) : sL f (n + 1) = f 0 :: sL (tl f) n := by simp [sL, List.range_succ_eq_map, tl, Function.comp_def]
theorem cv_sum : ∀ (n : Nat) (f g : Sq), ((List.range (n + 1)).map fun k => f k * g (n - k)).sum = cv n f g
  | 0, f, g => by simp [cv]
  | n + 1, f, g => by
    rw [List.range_succ_eq_map, List.map_cons, List.sum_cons, List.map_map]
    have ih := cv_sum n (tl f) g
    rw [cv, ← ih]
    simp only [Nat.sub_zero]
    congr 2
    refine List.map_congr_left fun k hk => ?_
    show f (k + 1) * g (n + 1 - (k + 1)) = tl f k * g (n - k)
    rw [show n + 1 - (k + 1) = n - k from by omega]; rfl
end G

set_option maxHeartbeats 1000000
namespace G
open PySem PySem.Spec PyProof.Rows L2 FB
abbrev tI (l : List Int) : D := .tup (l.map D.int)
abbrev lI (l : List Int) : D := .lst (l.map D.int)
theorem rep_zero (n : Nat) : (List.replicate n [D.int 0]).flatten = (List.replicate n (0 : Int)).map D.int := by
  induction n with
  | zero => rfl
  | succ n ih => rw [List.replicate_succ, List.flatten_cons, ih]; rfl
theorem getD_pad (a : List Int) (n k : Nat) : (a ++ List.replicate n 0).getD k 0 = a.getD k 0 := by
  rw [List.getD_eq_getElem?_getD, List.getD_eq_getElem?_getD, List.getElem?_append]
  split
  · rfl
  · rename_i h
    rw [List.getElem?_eq_none (l := a) (by omega), List.getElem?_replicate]
    split <;> rfl
theorem addL_range (a b : List Int) {n : Nat} (h : n = max a.length b.length) : (List.range n).map (fun k => a.getD k 0 + b.getD k 0) = addL a b := by
  subst h
  refine List.ext_getElem? fun k => ?_
  rw [List.getElem?_map]
  by_cases hk : k < max a.length b.length
  · rw [List.getElem?_range hk, List.getElem?_eq_getElem (l := addL a b) (by rw [addL_len]; exact hk)]
    have := addL_get a b k
    rw [List.getD_eq_getElem?_getD, List.getElem?_eq_getElem (by rw [addL_len]; exact hk)] at this
    simp only [Option.map_some, Option.some.injEq]
    exact this.symm
  · rw [List.getElem?_eq_none (by rw [List.length_range]; omega), List.getElem?_eq_none (by rw [addL_len]; omega)]
    rfl
end G

set_option maxHeartbeats 1000000
namespace G
open PySem PySem.Spec PyProof.Rows L2 FB
/-- no word -/
def bad (S : Sg) (d : D) : Prop := (∃ t, tyD S d = some t ∧ subB t "str" = false) ∨ ∃ z : Str, d = .str z ∧ z.length ≤ 100000 ∧ (200 < z.length ∨ ∃ c ∈ z.cps.toList, c ≠ 82 ∧ c ≠ 76)
abbrev IW (K : PySem.W.Frag) : Addr := He.ga K "InvalidWord"
theorem sg_wd (w : List Bool) : sg (wd w) = w.map dl := by
  unfold sg wd
  simp only [List.map_map]
  rfl
theorem lt1_R (b : Bool) : decide (lt1 b = ("R" : Str)) = b := by cases b <;> rfl
abbrev mD (m : Mx) : D := .tup [.tup [tI m.a, tI m.b], .tup [tI m.c, tI m.d]]
end G

set_option maxHeartbeats 2000000
namespace G
open PySem PySem.Spec PyProof.Rows L2 FB
theorem treeL_ints (n : Nat) : ∀ l : List Int, treeL n (l.map D.int) = true
  | [] => by simp [treeL]
  | i :: l => by rw [List.map_cons, treeL, treeL_ints n l]; cases n <;> rfl
theorem tree_tI {n : Nat} {l : List Int} (h : l.length ≤ 100000) : tree (n + 1) (tI l) = true := by simp [tree, treeL_ints, h]
theorem wd_app (w v : List Bool) : wd w ++ wd v = wd (w ++ v) := by
  show (⟨(wd w).cps ++ (wd v).cps⟩ : Str) = _
  simp [wd]
theorem tree_two {m t : D} (h1 : tree 7 m = true) (h2 : tree 7 t = true) : tree 9 (.lst [.lst [.str "told", m], .lst [.str "told", t]]) = true := by simp [tree, treeL, h1, h2]
theorem tree_one {m : D} (h1 : tree 8 m = true) : tree 9 (.lst [.str "told", m]) = true := by simp [tree, treeL, h1]
/-! ### _law_long -/
def ltrs (u : List Bool) : D := .str (wd u)
theorem join_cps2 : ∀ us : List (List Bool), (Str.join ⟨#[]⟩ (us.map wd)).cps = (us.flatten.map ltr).toArray
  | [] => rfl
  | [b] => by show (wd b).cps = _; simp [wd]
  | b :: b' :: w => by
    have ih := join_cps2 (b' :: w)
    show ((wd b).cps ++ (#[] : Array Nat)) ++ (Str.join ⟨#[]⟩ ((b' :: w).map wd)).cps = _
    rw [ih]
    simp [wd]
theorem join_wds (us : List (List Bool)) : Txt.join (("" : Str)) (us.map wd) = wd us.flatten := by
  unfold Txt.join
  rw [StrLaws.glued_eq_join, empty_str]
  have h := join_cps2 us
  cases e : Str.join ⟨#[]⟩ (us.map wd) with
  | mk c => rw [e] at h; unfold wd; rw [← h]
theorem cut_wd (u : List Bool) (n : Nat) : cutS (wd u) none (some (n : Int)) = wd (u.take n) := by
  rw [cutS_take]
  simp [wd, List.map_take]
theorem rep_wd (u : List Bool) (n : Nat) : repS (wd u) n = wd (List.replicate n u).flatten := by
  unfold repS wd
  simp [List.map_flatten]
end G

set_option maxHeartbeats 2000000
namespace G
open PySem PySem.Spec PyProof.Rows L2 FB
/-! ### is_integer, is_integers, is_polynomial, check_polynomial -/
def isInt : D → Bool
  | .int _ => true
  | _ => false
def sp_is_integer : ASp0 := fun ds S P => ∃ d t, ds = [d] ∧ tyD S d = some t ∧ P (.bl (isInt d)) S
theorem pu_is_integer (ds : List D) (S : Sg) (P : D → Sg → Prop) (h : sp_is_integer ds S P) : ab_is_integer (fin0 P) (startA N_is_integer ds) S := by
  obtain ⟨d, t, rfl, ht, k⟩ := h
  have oth : subB t "int" = false → isInt d = false → ab_is_integer (fin0 P) (startA N_is_integer [d]) S := by
    intro h1 h2
    (try conv => whnf)
    refine ⟨t, ht, ?_⟩
    (try conv => whnf)
    rw [h2] at k
    exact ⟨fun z => by rw [h1] at z; exact absurd z (by decide), fun _ => Wk.ret k⟩
  cases d with
  | non => cases ht; exact oth (by decide) rfl
  | bl b =>
    (try conv => whnf)
    refine ⟨"bool", rfl, ?_⟩
    ((try conv => whnf); repeat (first | (refine ⟨fun hh => ?_, fun hh => absurd hh (by decide)⟩; clear hh; (try conv => whnf)) | (refine ⟨fun hh => absurd hh (by decide), fun hh => ?_⟩; clear hh; (try conv => whnf)) | (refine ⟨_, rfl, ?_⟩; (try conv => whnf))))
    exact Wk.ret k
  | int i =>
    (try conv => whnf)
    refine ⟨"int", rfl, ?_⟩
    ((try conv => whnf); repeat (first | (refine ⟨fun hh => ?_, fun hh => absurd hh (by decide)⟩; clear hh; (try conv => whnf)) | (refine ⟨fun hh => absurd hh (by decide), fun hh => ?_⟩; clear hh; (try conv => whnf)) | (refine ⟨_, rfl, ?_⟩; (try conv => whnf))))
    exact Wk.ret k
  | str x => cases ht; exact oth (by decide) rfl
  | tup es => cases ht; exact oth (by decide) rfl
  | lst es => cases ht; exact oth (by decide) rfl
  | dct ks es => cases ht; exact oth (by decide) rfl
  | scr es => cases ht
  | ptr p =>
    refine oth ?_ rfl
    have h2 : tyD S (.ptr p) = some t := ht
    simp only [tyD] at h2
    split at h2 <;> first | (cases h2; decide) | cases h2
def noPtr : D → Bool
  | .ptr _ => false
  | .scr _ => false
  | _ => true
theorem ty_noPtr {S : Sg} {d : D} (h : noPtr d = true) : ∃ t, tyD S d = some t := by
  cases d <;> first | exact ⟨_, rfl⟩ | cases h
theorem all_isInt : ∀ l : List Int, (l.map D.int).all isInt = true
  | [] => rfl
  | i :: l => by rw [List.map_cons, List.all_cons, all_isInt l]; rfl
theorem all_noPtr : ∀ l : List Int, (l.map D.int).all noPtr = true
  | [] => rfl
  | i :: l => by rw [List.map_cons, List.all_cons, all_noPtr l]; rfl
theorem at_last (l : List Int) (i : Int) : atI ((l ++ [i]).map D.int) (-1) = some (.int i) := by
  unfold atI ixN
  simp
  have : (-1 + ((l.length : Int) + 1)).toNat = l.length := by omega
  rw [this, if_pos (by omega)]
  simp
theorem snoc_of {l : List Int} (h : l ≠ []) : ∃ r i, l = r ++ [i] := ⟨l.dropLast, l.getLast h, (List.dropLast_concat_getLast h).symm⟩
end G

set_option pp.maxSteps 700
set_option maxHeartbeats 4000000
namespace G
open PySem PySem.Spec PyProof.Rows L2 FB
theorem drop_wd (u : List Bool) (n : Nat) : cutS (wd u) (some (n : Int)) none = wd (u.drop n) := by
  rw [cutS_drop]
  simp [wd, List.map_drop]
theorem take_wd (u : List Bool) (n : Nat) : cutS (wd u) none (some (n : Int)) = wd (u.take n) := cut_wd u n
theorem revS_wd (w : List Bool) : revS (wd w) = wd w.reverse := by
  unfold revS wd
  simp [List.map_reverse]
theorem lt1_R2 (b : Bool) : decide (lt1 b = ("R" : Str)) = b := by cases b <;> rfl
/-! ### is_within, moduli -/
def within (lo hi : Int) : D → Bool
  | .int i => decide (lo ≤ i) && decide (i ≤ hi)
  | _ => false
def sp_is_within : ASp0 := fun ds S P => ∃ d lo hi t, ds = [d, .int lo, .int hi] ∧ tyD S d = some t ∧ P (.bl (within lo hi d)) S
theorem pu_is_within (ds : List D) (S : Sg) (P : D → Sg → Prop) (h : sp_is_within ds S P) : ab_is_within sp_is_integer (fin0 P) (startA N_is_within ds) S := by
  obtain ⟨d, lo, hi, t, rfl, ht, k⟩ := h
  (try conv => whnf)
  refine ⟨d, t, rfl, ht, ?_⟩
  cases hd : isInt d with
  | false =>
    (try conv => whnf)
    (first | (refine ⟨fun hh => ?_, fun hh => absurd hh (by decide)⟩; clear hh; (try conv => whnf)) | (refine ⟨fun hh => absurd hh (by decide), fun hh => ?_⟩; clear hh; (try conv => whnf)))
    have : within lo hi d = false := by cases d <;> first | rfl | cases hd
    rw [this] at k
    exact Wk.ret k
  | true =>
    obtain ⟨i, rfl⟩ : ∃ i, d = .int i := by cases d <;> first | exact ⟨_, rfl⟩ | cases hd
    (try conv => whnf)
    (first | (refine ⟨fun hh => ?_, fun hh => absurd hh (by decide)⟩; clear hh; (try conv => whnf)) | (refine ⟨fun hh => absurd hh (by decide), fun hh => ?_⟩; clear hh; (try conv => whnf)))
    refine ⟨fun z => ?_, fun z => ?_⟩
    · (try conv => whnf)
      refine Wk.ret ?_
      have e : within lo hi (.int i) = decide (i ≤ hi) := by simp only [within, z, Bool.true_and]
      rw [e] at k
      exact k
    · refine Wk.ret ?_
      have e : within lo hi (.int i) = false := by simp only [within, z, Bool.false_and]
      rw [e] at k
      exact k
def isMod : D → Bool
  | .int i => decide (i ≥ 2)
  | _ => false
abbrev IM (K : PySem.W.Frag) : Addr := He.ga K "InvalidModulus"
abbrev II (K : PySem.W.Frag) : Addr := He.ga K "InvalidInteger"
abbrev IPt (K : PySem.W.Frag) : Addr := He.ga K "InvalidPath"
/-! ### paths -/
abbrev sD (u : List Bool) : D := .str (wd u)
abbrev pthD (s r : List Bool) : D := .tup [sD s, sD r]
structure Pth (s r : List Bool) : Prop where
  ne : r ≠ []
  len : s.length + r.length ≤ 200
/-- no path -/
def badPt (S : Sg) (d : D) : Prop := (∃ t, tyD S d = some t ∧ subB t "tuple" = false) ∨ (∃ es, d = .tup es ∧ es.length ≠ 2 ∧ es.length ≤ 90000) ∨
  (∃ e1 e2, d = .tup [e1, e2] ∧ bad S e1) ∨ (∃ s e2, d = .tup [sD s, e2] ∧ s.length ≤ 200 ∧ bad S e2) ∨ ∃ s r, d = pthD s r ∧ s.length ≤ 200 ∧ r.length ≤ 200 ∧ ¬ Pth s r
theorem wd_nil (r : List Bool) : decide (wd r = ("" : Str)) = decide (r = []) := by
  cases r with
  | nil => rfl
  | cons b r =>
    have e1 : decide (wd (b :: r) = ("" : Str)) = false := by
      refine decide_eq_false fun h => ?_
      have := congrArg Str.length h
      rw [wd_len] at this
      exact absurd this (by rw [show (("" : Str)).length = 0 from rfl, List.length_cons]; omega)
    rw [e1]; rfl
/-- the first letters of a path -/
def pref (s r : List Bool) (n : Nat) : List Bool := (s ++ (List.replicate (n + 1) r).flatten).take n
theorem rep_len (r : List Bool) (t : Nat) : (List.replicate t r).flatten.length = t * r.length := by
  rw [List.length_flatten, List.map_replicate, List.sum_replicate_nat]
theorem pref_of {s r : List Bool} {n t : Nat} (hr : r ≠ []) (h : n ≤ s.length + t * r.length) : (s ++ (List.replicate t r).flatten).take n = pref s r n := by
  have key : ∀ t u : Nat, n ≤ s.length + t * r.length → t ≤ u → (s ++ (List.replicate u r).flatten).take n = (s ++ (List.replicate t r).flatten).take n := by
    intro t u h1 h2
    obtain ⟨v, rfl⟩ : ∃ v, u = t + v := ⟨u - t, by omega⟩
    rw [← List.replicate_append_replicate, List.flatten_append, ← List.append_assoc, List.take_append_of_le_length (by rw [List.length_append, rep_len]; exact h1)]
  have h1 : n ≤ s.length + (n + 1) * r.length := by
    have : 0 < r.length := List.length_pos_iff.mpr hr
    have := Nat.le_mul_of_pos_right (n + 1) this
    omega
  unfold pref
  rcases Nat.le_total t (n + 1) with h2 | h2
  · exact (key _ _ h h2).symm
  · exact key _ _ h1 h2
theorem pref_len {s r : List Bool} {n : Nat} (hr : r ≠ []) : (pref s r n).length = n := by
  unfold pref
  rw [List.length_take, List.length_append, rep_len]
  have : 0 < r.length := List.length_pos_iff.mpr hr
  have := Nat.le_mul_of_pos_right (n + 1) this
  omega
theorem div_cover {m k : Nat} (hk : 0 < k) : m ≤ (m / k + 1) * k := by
  have := Nat.div_add_mod m k
  have := Nat.mod_lt m hk
  rw [Nat.succ_mul, Nat.mul_comm]; omega
theorem cdiv_small {i j : Int} (h2 : 0 < j) (h3 : j ≤ 1000000) : CDiv i j := ⟨h2, by omega⟩
end G

set_option pp.maxSteps 700
set_option maxHeartbeats 4000000
namespace G
open PySem PySem.Spec PyProof.Rows L2 FB
theorem log_le {n k : Nat} (h : n ≤ 2 ^ k) : n.log2 ≤ k := by
  by_cases e : n = 0
  · subst e; simp
  · have h2 : n < 2 ^ (k + 1) := by rw [Nat.pow_succ]; have := Nat.two_pow_pos k; omega
    have := (Nat.log2_lt e).mpr h2
    omega
theorem cmulX {i j : Int} {a b : Nat} (h1 : i.natAbs ≤ 2 ^ a) (h2 : j.natAbs ≤ 2 ^ b) (h : a + b < 1000000) : CMulW i j := by
  have := log_le h1
  have := log_le h2
  show _ + _ < 1000000
  omega
theorem srs_cm {w v : List Bool} (hw : w.length ≤ 127) (hv : v.length ≤ 127) {i j : Nat} (hi : i ≤ 127) (hj : j ≤ 127) : CMulW (srs w i) (srs v j) := by
  refine cmulX (srs_bd w hw i hi) (srs_bd v hv j hj) ?_
  have h1 : (127 + 8) * (i + 1) ≤ 135 * 128 := Nat.mul_le_mul_left _ (by omega)
  have h2 : (127 + 8) * (j + 1) ≤ 135 * 128 := Nat.mul_le_mul_left _ (by omega)
  omega
theorem rg_nat (n : Nat) : rg 0 n = (List.range' 0 n).map fun i => D.int (i : Nat) := by
  unfold rg
  rw [List.range_eq_range']
  exact List.map_congr_left fun i _ => by rw [Int.zero_add]
/-! ### turn_by, told_by_word -/
abbrev rowD (w : List Bool) (n : Nat) : D := lI (sL (srs w) n)
/-! ### _law_integers, _law_row -/
theorem zipL_go {i j : Nat} {elt : AE} {γ0 : Ga} {Dl : Addr} {P : List D → Sg → Prop} {S : Sg} (f : D → D → D) :
    ∀ (l m acc : List D), (∀ d ∈ l, ∀ e ∈ m, ∀ acc Q, Q (f d e) (put S Dl (.lst acc)) → elt ((γ0.set i (some d)).set j (some e)) (put S Dl (.lst acc)) Q (fun _ _ _ => False)) → acc.length + l.length ≤ 100000 →
      P (acc ++ List.zipWith f l m) (put S Dl (.lst (acc ++ List.zipWith f l m))) → aLcGo (agTup 2 (agCons (agName i) (agCons (agName j) agNil))) aYes elt γ0 gT Dl P (zp l m) acc (put S Dl (.lst acc))
  | [], m, acc, _, _, p => by
    have e : zp [] m = [] := by cases m <;> rfl
    rw [e]
    exact ⟨trivial, by simpa using p⟩
  | d :: l, [], acc, _, _, p => ⟨trivial, by simpa using p⟩
  | d :: l, e :: m, acc, h, hl, p => by
    rw [List.length_cons] at hl
    refine ⟨trivial, rfl, rfl, fun _ => h d List.mem_cons_self e List.mem_cons_self acc _ ⟨by omega, put_same, ?_⟩, fun z => nomatch z⟩
    rw [put_put]
    refine zipL_go f l m (acc ++ [f d e]) (fun d' hd e' he => h d' (List.mem_cons_of_mem _ hd) e' (List.mem_cons_of_mem _ he)) (by rw [List.length_append, List.length_singleton]; omega) ?_
    rw [List.append_assoc]
    exact p
def addD2 : D → D → D
  | .int i, .int j => .int (i + j)
  | d, _ => d
theorem zip_sL (f g : Sq) (n : Nat) : List.zipWith addD2 ((sL f n).map D.int) ((sL g n).map D.int) = (sL (fun i => f i + g i) n).map D.int := by
  induction n with
  | zero => rfl
  | succ n ih =>
    rw [sL_snoc, sL_snoc, sL_snoc, List.map_append, List.map_append, List.map_append, List.zipWith_append (by simp [sL_len]), ih]
    rfl
theorem cut_butlast2 (l : List Int) (i : Int) : FB.cutD ((l ++ [i]).map D.int) none (some (-1)) = l.map D.int := by
  have : FB.cutD ((l ++ [i]).map D.int) none (some (-1)) = ((l ++ [i]).map D.int).take l.length := by
    unfold FB.cutD
    have e1 : HT.sIx ((l ++ [i]).map D.int).length ((l ++ [i]).map D.int).length (some (-1)) = l.length := by
      show ((-1 : Int) + (((l ++ [i]).map D.int).length : Int)).toNat = _
      rw [List.length_map, List.length_append, List.length_singleton]
      omega
    rw [e1]
    show ((_ : List D).drop 0).take (l.length - 0) = _
    rw [List.drop_zero, Nat.sub_zero]
  rw [this, List.map_append, List.take_left' (by simp)]
abbrev sqD (f : Sq) (n : Nat) : D := lI (sL f n)
theorem li_loop {S : Sg} {z : D} {n : Nat} (hn : n ≤ 1000) {Da : AEnds} {x6 x7 x10 : Option D} : ∀ (v u : List Bool) (x4 x5 x8 x9 : Option D),
    (∀ y4 y5 y8 y9, Da.nx [some z, some (.int n), some (sqD (tb (v.reverse ++ u)).1 n), some (sqD (tb (v.reverse ++ u)).2 n), y4, y5, x6, x7, y8, y9, x10] S) →
    aForGo (agName 4) ab__law_integers_b2 gT Da (v.map dl) [some z, some (.int n), some (sqD (tb u).1 n), some (sqD (tb u).2 n), x4, x5, x6, x7, x8, x9, x10] S
  | [], u, x4, x5, x8, x9, fin => ⟨trivial, fin _ _ _ _⟩
  | b :: v, u, x4, x5, x8, x9, fin => by
    have ih := fun y4 y5 y8 y9 => li_loop (S := S) (z := z) hn (Da := Da) (x6 := x6) (x7 := x7) (x10 := x10) v (b :: u) y4 y5 y8 y9 (by simpa using fin)
    refine ⟨trivial, ?_⟩
    have moved : ∀ (P : D → Sg → Prop) (x : XP), P (sqD (sh (tb u).1) n) S → aIf (aTV (aGt (aVar 1) (aC (.int 0)))) (aPlus (aLst (aCons (aC (.int 0)) aNil)) (aSl (aVar 2) aNo (aPt (aNeg (aC (.int 1)))))) (aLst aNil) [some z, some (.int n), some (sqD (tb u).1 n), some (sqD (tb u).2 n), some (dl b), x5, x6, x7, x8, x9, x10] S P x := by
      intro P x k
      (try conv => whnf)
      cases n with
      | zero =>
        (first | (refine ⟨fun hh => ?_, fun hh => absurd hh (by decide)⟩; clear hh; (try conv => whnf)) | (refine ⟨fun hh => absurd hh (by decide), fun hh => ?_⟩; clear hh; (try conv => whnf)))
        refine ⟨by decide, ?_⟩
        exact k
      | succ m =>
        refine ⟨fun _ => ?_, fun z => absurd (of_decide_eq_false z) (by omega)⟩
        (try conv => whnf)
        refine ⟨by decide, ?_⟩
        (try conv => whnf)
        have e1 : FB.cutD ((sL (tb u).1 (m + 1)).map D.int) none (some (-1)) = (sL (tb u).1 m).map D.int := by rw [sL_snoc]; exact cut_butlast2 _ _
        rw [e1]
        refine ⟨by show 1 + _ ≤ _; rw [List.length_map, sL_len]; omega, ?_⟩
        have e2 : [D.int 0] ++ (sL (tb u).1 m).map D.int = (sL (sh (tb u).1) (m + 1)).map D.int := by rw [sL_cons]; rfl
        rw [e2]
        exact k
    have zipped : ∀ (γ0 : Ga) (P : D → Sg → Prop) (elt : AE), (∀ (i j : Int) S Q, Q (.int (i + j)) S → elt ((γ0.set 8 (some (.int i))).set 9 (some (.int j))) S Q (fun _ _ _ => False)) → P (sqD (fun i => sh (tb u).1 i + (tb u).2 i) n) S →
        ∀ Dl, S Dl = none → aLcGo (agTup 2 (agCons (agName 8) (agCons (agName 9) agNil))) aYes elt γ0 gT Dl (lcFin P Dl) (zp ((sL (sh (tb u).1) n).map D.int) ((sL (tb u).2 n).map D.int)) [] (put S Dl (.lst [])) := by
      intro γ0 P elt he k Dl nD
      refine zipL_go addD2 _ _ [] ?_ (by simp [sL_len]; omega) ?_
      · intro d hd e he2 acc Q q
        obtain ⟨i, _, rfl⟩ := List.mem_map.mp hd
        obtain ⟨j, _, rfl⟩ := List.mem_map.mp he2
        exact he i j _ Q q
      · rw [List.nil_append, zip_sL]
        exact ⟨S, nD, rfl, k⟩
    refine moved _ _ ?_
    (try conv => whnf)
    rw [lt1_R2]
    cases b with
    | true =>
      (first | (refine ⟨fun hh => ?_, fun hh => absurd hh (by decide)⟩; clear hh; (try conv => whnf)) | (refine ⟨fun hh => absurd hh (by decide), fun hh => ?_⟩; clear hh; (try conv => whnf)))
      refine zipped _ _ _ (fun i j S Q q => ?_) ?_
      · (try conv => whnf)
        exact q
      · exact ih _ _ _ _
    | false =>
      (first | (refine ⟨fun hh => ?_, fun hh => absurd hh (by decide)⟩; clear hh; (try conv => whnf)) | (refine ⟨fun hh => absurd hh (by decide), fun hh => ?_⟩; clear hh; (try conv => whnf)))
      refine zipped _ _ _ (fun i j S Q q => ?_) ?_
      · (try conv => whnf)
        exact q
      · (try conv => whnf)
        refine ⟨by show 2 ≤ 100000; omega, ?_⟩
        (try conv => whnf)
        refine ⟨rfl, ?_⟩
        (try conv => whnf)
        refine ⟨rfl, ?_⟩
        exact ih _ _ _ _
theorem sum_filter (p : Nat → Bool) (f : Nat → Int) : ∀ l : List Nat, (∀ x ∈ l, p x = false → f x = 0) → ((l.filter p).map f).sum = (l.map f).sum
  | [], _ => rfl
  | x :: l, h => by
    have ih := sum_filter p f l fun y hy => h y (List.mem_cons_of_mem _ hy)
    cases e : p x with
    | true => rw [List.filter_cons_of_pos e, List.map_cons, List.map_cons, List.sum_cons, List.sum_cons, ih]
    | false => rw [List.filter_cons_of_neg (by rw [e]; exact Bool.false_ne_true), ih, List.map_cons, List.sum_cons, h x List.mem_cons_self e]; omega
def fbI (B : Sq) : D → Bool
  | .int i => !decide (B i.toNat = 0)
  | _ => false
def ffI (B s : Sq) (a : Nat) : D → D
  | .int i => .int (B i.toNat * s (a - i.toNat))
  | d => d
theorem filt_map (B s : Sq) (a : Nat) : ∀ l : List Nat, ((l.map fun i => D.int (1 + (i : Nat))).filter (fbI B)).map (ffI B s a) = ((l.filter fun i => !decide (B (i + 1) = 0)).map fun i => B (i + 1) * s (a - (i + 1))).map D.int
  | [] => rfl
  | i :: l => by
    have ih := filt_map B s a l
    have e1 : fbI B (D.int (1 + (i : Nat))) = !decide (B (i + 1) = 0) := by
      show (!decide (B (1 + (i : Nat) : Int).toNat = 0)) = _
      rw [show (1 + (i : Nat) : Int).toNat = i + 1 by omega]
    have e2 : ffI B s a (D.int (1 + (i : Nat))) = D.int (B (i + 1) * s (a - (i + 1))) := by
      show D.int (B (1 + (i : Nat) : Int).toNat * s (a - (1 + (i : Nat) : Int).toNat)) = _
      rw [show (1 + (i : Nat) : Int).toNat = i + 1 by omega]
    rw [List.map_cons]
    cases e : (!decide (B (i + 1) = 0)) with
    | true => rw [List.filter_cons_of_pos (by rw [e1, e]), List.filter_cons_of_pos (by simpa using e), List.map_cons, List.map_cons, List.map_cons, e2, ih]
    | false => rw [List.filter_cons_of_neg (by rw [e1, e]; exact Bool.false_ne_true), List.filter_cons_of_neg (by simpa using e), ih]
def cvT (a : Nat) (B s : Sq) : Int := match a with | 0 => 0 | m + 1 => cv m (tl B) s
theorem dv_eqT (t b : Sq) (n : Nat) : dv t b n = t n - cvT n b (dv t b) := by rw [dv_eq]; cases n <;> rfl
theorem sum_tail (B s : Sq) : ∀ a : Nat, (((List.range a).filter fun i => !decide (B (i + 1) = 0)).map fun i => B (i + 1) * s (a - (i + 1))).sum = cvT a B s
  | 0 => rfl
  | m + 1 => by
    rw [sum_filter _ _ _ fun x _ h => by
      have : B (x + 1) = 0 := by simpa using h
      rw [this, Int.zero_mul]]
    show _ = cv m (tl B) s
    rw [← cv_sum m (tl B) s]
    congr 1
    refine List.map_congr_left fun i _ => ?_
    show B (i + 1) * s (m + 1 - (i + 1)) = B (i + 1) * s (m - i)
    rw [show m + 1 - (i + 1) = m - i by omega]
theorem fi_loop {S : Sg} {q : Addr} {z : D} {w : List Bool} {n : Nat} (hw : w.length ≤ 127) (hn : n ≤ 127) {Da : AEnds} {x4 x5 x8 x9 : Option D} : ∀ (m a : Nat) (x7 x10 : Option D), a + m = n →
    (∀ y7 y10, Da.nx [some z, some (.int n), some (sqD (tb w).1 n), some (sqD (tb w).2 n), x4, x5, some (.ptr q), y7, x8, x9, y10] (put S q (.lst ((sL (srs w) n).map D.int)))) →
    aForGo (agName 7) ab__law_integers_b1 gT Da ((List.range' a m).map fun i => D.int (i : Nat)) [some z, some (.int n), some (sqD (tb w).1 n), some (sqD (tb w).2 n), x4, x5, some (.ptr q), x7, x8, x9, x10] (put S q (.lst ((sL (srs w) a).map D.int)))
  | 0, a, x7, x10, h, fin => ⟨trivial, by rw [show a = n by omega]; exact fin _ _⟩
  | m + 1, a, x7, x10, h, fin => by
    refine ⟨trivial, ?_⟩
    (try conv => whnf)
    refine ⟨⟨_, put_same, trivial⟩, ?_⟩
    have ea : atI ((sL (tb w).1 n).map D.int) (a : Int) = some (.int ((tb w).1 a)) := atI_map (atI_int (by omega) (sL_get (by omega)))
    (try conv => whnf)
    refine ⟨_, ea, ?_⟩
    (try conv => whnf)
    refine ⟨⟨by omega, by omega, by omega, by omega⟩, ?_⟩
    rw [show ((a : Int) + 1 - 1).toNat = a by omega]
    refine lc_mapF (fbI (tb w).2) (ffI (tb w).2 (srs w) a) ?_ ?_ ?_ ?_
    · intro d hd Dl acc Q n0 qq
      obtain ⟨i, hi, rfl⟩ := List.mem_map.mp hd
      have hi' : i < a := List.mem_range.mp hi
      have e1 : atI ((sL (tb w).2 n).map D.int) (1 + (i : Nat) : Int) = some (.int ((tb w).2 (i + 1))) := by
        rw [show (1 + (i : Nat) : Int) = ((i + 1 : Nat) : Int) by omega]; exact atI_map (atI_int (by omega) (sL_get (by omega)))
      have e2 : fbI (tb w).2 (D.int (1 + (i : Nat))) = !decide ((tb w).2 (i + 1) = 0) := by
        show (!decide ((tb w).2 (1 + (i : Nat) : Int).toNat = 0)) = _
        rw [show (1 + (i : Nat) : Int).toNat = i + 1 by omega]
      rw [e2] at qq
      (try conv => whnf)
      refine ⟨_, e1, ?_⟩
      exact qq
    · intro d hd hb Dl acc Q n0 qq
      obtain ⟨i, hi, rfl⟩ := List.mem_map.mp hd
      have hi' : i < a := List.mem_range.mp hi
      have nq : q ≠ Dl := fun z => by subst z; rw [put_same] at n0; cases n0
      have e1 : atI ((sL (tb w).2 n).map D.int) (1 + (i : Nat) : Int) = some (.int ((tb w).2 (i + 1))) := by
        rw [show (1 + (i : Nat) : Int) = ((i + 1 : Nat) : Int) by omega]; exact atI_map (atI_int (by omega) (sL_get (by omega)))
      have e2 : atI ((sL (srs w) a).map D.int) ((a : Int) - (1 + (i : Nat))) = some (.int (srs w (a - (i + 1)))) := by
        rw [show (a : Int) - (1 + (i : Nat)) = ((a - (i + 1) : Nat) : Int) by omega]
        exact atI_map (atI_int (by omega) (sL_get (by omega)))
      have e3 : ffI (tb w).2 (srs w) a (D.int (1 + (i : Nat))) = D.int ((tb w).2 (i + 1) * srs w (a - (i + 1))) := by
        show D.int ((tb w).2 (1 + (i : Nat) : Int).toNat * srs w (a - (1 + (i : Nat) : Int).toNat)) = _
        rw [show (1 + (i : Nat) : Int).toNat = i + 1 by omega]
      rw [e3] at qq
      (try conv => whnf)
      refine ⟨_, e1, ?_⟩
      (try conv => whnf)
      refine ⟨_, by rw [put_ne nq]; exact put_same, ?_⟩
      (try conv => whnf)
      refine ⟨_, e2, ?_⟩
      have hb1 : ((tb w).2 (i + 1)).natAbs ≤ 2 ^ 127 := Nat.le_trans ((tb_bd w).2 _) (Nat.pow_le_pow_right (by decide) hw)
      have hb2 : (srs w (a - (i + 1))).natAbs ≤ 2 ^ (135 * 128) := Nat.le_trans (srs_bd w hw _ (by omega)) (Nat.pow_le_pow_right (by decide) (Nat.mul_le_mul_left _ (by omega)))
      (try conv => whnf)
      exact ⟨.inr (cmulX hb1 hb2 (by decide)), qq⟩
    · rw [rg_len]; omega
    rw [show rg 1 a = (List.range a).map (fun i => D.int (1 + (i : Nat))) from rfl, filt_map]
    (try conv => whnf)
    refine ⟨_, rfl, ?_⟩
    rw [sum_tail]
    (try conv => whnf)
    refine ⟨_, put_same, ?_⟩
    refine ⟨by rw [List.length_map, sL_len]; omega, ?_⟩
    (try conv => whnf)
    have es : (sL (srs w) a).map D.int ++ [.int ((tb w).1 a - cvT a (tb w).2 (srs w))] = (sL (srs w) (a + 1)).map D.int := by
      have e := dv_eqT (tb w).1 (tb w).2 a
      rw [sL_snoc, List.map_append]
      show _ = _ ++ [D.int (dv (tb w).1 (tb w).2 a)]
      rw [e]; rfl
    rw [put_put, es]
    exact fi_loop hw hn m (a + 1) _ _ (by omega) fin
theorem sL_zero (n : Nat) : (List.replicate n [D.int 0]).flatten = (sL (fun _ => 0) n).map D.int := by
  induction n with
  | zero => rfl
  | succ n ih =>
    rw [List.replicate_succ, List.flatten_cons, ih, sL_cons]; rfl
def sp__law_integers : ASp0 := fun ds S P => ∃ w n, ds = [sD w, .int (n : Nat)] ∧ w.length ≤ 127 ∧ n ≤ 127 ∧ P (rowD w n) S
theorem pu__law_integers (ds : List D) (S : Sg) (P : D → Sg → Prop) (h : sp__law_integers ds S P) : ab__law_integers (fin0 P) (startA N__law_integers ds) S := by
  obtain ⟨w, n, rfl, hw, hn, k⟩ := h
  have bot : ∀ (P : D → Sg → Prop) (x : XP), P (sqD dlt n) S → aIf (aTV (aGt (aVar 1) (aC (.int 0)))) (aPlus (aLst (aCons (aC (.int 1)) aNil)) (aTimes (aLst (aCons (aC (.int 0)) aNil)) (aSub (aVar 1) (aC (.int 1))))) (aLst aNil) (startA N__law_integers [sD w, .int (n : Nat)]) S P x := by
    intro P x k
    (try conv => whnf)
    cases n with
    | zero =>
      (first | (refine ⟨fun hh => ?_, fun hh => absurd hh (by decide)⟩; clear hh; (try conv => whnf)) | (refine ⟨fun hh => absurd hh (by decide), fun hh => ?_⟩; clear hh; (try conv => whnf)))
      refine ⟨by decide, ?_⟩
      exact k
    | succ m =>
      refine ⟨fun _ => ?_, fun z => absurd (of_decide_eq_false z) (by omega)⟩
      (try conv => whnf)
      refine ⟨by decide, ?_⟩
      (try conv => whnf)
      refine ⟨by decide, ?_⟩
      (try conv => whnf)
      have em : ((m + 1 : Nat) : Int) - 1 = (m : Nat) := by omega
      rw [em, Int.toNat_natCast]
      refine ⟨⟨by omega, by omega, by show 1 * m ≤ _; omega⟩, ?_⟩
      rw [sL_zero]
      (try conv => whnf)
      refine ⟨by show 1 + _ ≤ _; rw [List.length_map, sL_len]; omega, ?_⟩
      have e2 : [D.int 1] ++ (sL (fun _ => 0) m).map D.int = (sL dlt (m + 1)).map D.int := by rw [sL_cons]; rfl
      rw [e2]
      exact k
  (try conv => whnf)
  refine ⟨by decide, ?_⟩
  (try conv => whnf)
  rw [Int.toNat_natCast]
  refine ⟨⟨by omega, by omega, by show 1 * n ≤ _; omega⟩, ?_⟩
  rw [sL_zero]
  refine bot _ _ ?_
  (try conv => whnf)
  refine ⟨by show 2 ≤ 100000; omega, ?_⟩
  (try conv => whnf)
  refine ⟨rfl, ?_⟩
  (try conv => whnf)
  refine ⟨rfl, ?_⟩
  (try conv => whnf)
  rw [wd_len]
  refine ⟨by omega, ?_⟩
  rw [revS_wd]
  (try conv => whnf)
  rw [sg_wd]
  refine li_loop (S := S) (z := sD w) (n := n) (by omega) (x6 := none) (x7 := none) (x10 := none) w.reverse [] none none none none fun y4 y5 y8 y9 => ?_
  rw [List.reverse_reverse, List.append_nil]
  (try conv => whnf)
  refine ⟨by decide, fun q nq => ?_⟩
  (try conv => whnf)
  refine ⟨by omega, by omega, ?_⟩
  rw [Int.toNat_natCast, rg_nat]
  refine fi_loop (S := S) (q := q) hw hn (x4 := y4) (x5 := y5) (x8 := y8) (x9 := y9) n 0 none none (by omega) fun y7 y10 => ?_
  (try conv => whnf)
  exact Wk.drop nq (Wk.ret k)
def sp__law_row : ASp0 := fun ds S P => ∃ w, ds = [sD w] ∧ w.length ≤ 126 ∧ P (rowD w w.length) S
theorem pu__law_row (ds : List D) (S : Sg) (P : D → Sg → Prop) (h : sp__law_row ds S P) : ab__law_row sp__law_integers (fin0 P) (startA N__law_row ds) S := by
  obtain ⟨w, rfl, hw, k⟩ := h
  (try conv => whnf)
  rw [wd_len]
  refine ⟨by omega, ?_⟩
  (try conv => whnf)
  exact ⟨w, w.length, rfl, by omega, by omega, Wk.ret k⟩
end G

set_option pp.maxSteps 700
set_option maxHeartbeats 4000000
namespace G
open PySem PySem.Spec PyProof.Rows L2 FB
/-- what was tracked stands -/
def Gr (S S' : Sg) : Prop := ∀ q c, S q = some c → S' q = some c
theorem Gr.refl (S : Sg) : Gr S S := fun _ _ e => e
theorem Gr.trans {A B C : Sg} (h : Gr A B) (g : Gr B C) : Gr A C := fun q c e => g q c (h q c e)
theorem Gr.put {S : Sg} {p : Addr} {x : Cell} (n : S p = none) : Gr S (FB.put S p x) := fun q c e => by
  rw [put_ne (fun z => by rw [z, n] at e; cases e)]; exact e
theorem Gr.none {S S' : Sg} (g : Gr S S') {p : Addr} (n : S' p = none) : S p = none := by
  cases e : S p with
  | none => rfl
  | some c => rw [g p c e] at n; cases n
mutual
theorem Rz.mono {S S' : Sg} (g : Gr S S') : ∀ {d e : D}, Rz S d e → Rz S' d e
  | _, _, .id d => .id d
  | _, _, .tup r => .tup (RzL.mono g r)
  | _, _, .lst r => .lst (RzL.mono g r)
  | _, _, .dct r => .dct (RzL.mono g r)
  | _, _, .pl h r => .pl (g _ _ h) (RzL.mono g r)
  | _, _, .pd h r => .pd (g _ _ h) (RzL.mono g r)
theorem RzL.mono {S S' : Sg} (g : Gr S S') : ∀ {ds es : List D}, RzL S ds es → RzL S' ds es
  | _, _, .nil => .nil
  | _, _, .cons h r => .cons (Rz.mono g h) (RzL.mono g r)
end
abbrev rowC (w : List Bool) (n : Nat) : Cell := .lst ((sL (srs w) n).map D.int)
/-! ### turn_by, told_by_word, of tracked lists -/
theorem tn_loop {S : Sg} {q q0 : Addr} {z : D} {w : List Bool} {n : Nat} (hw : w.length ≤ 126) (hn : n ≤ 126) (h0 : S q0 = some (rowC w n)) (ne : q0 ≠ q) {Da : AEnds} : ∀ (m a : Nat) (x3 x4 : Option D), a + m = n →
    (∀ y3 y4, Da.nx [some z, some (.ptr q0), some (.ptr q), y3, y4] (put S q (rowC (false :: w) (n + 1)))) →
    aForGo (agName 3) ab_turn_by_b1 gT Da ((List.range' a m).map fun i => D.int (i : Nat)) [some z, some (.ptr q0), some (.ptr q), x3, x4] (put S q (rowC (false :: w) (a + 1)))
  | 0, a, x3, x4, h, fin => ⟨trivial, by rw [show a = n by omega]; exact fin _ _⟩
  | m + 1, a, x3, x4, h, fin => by
    refine ⟨trivial, ?_⟩
    (try conv => whnf)
    refine ⟨⟨_, put_same, trivial⟩, ?_⟩
    have ea : atI ((sL (srs w) n).map D.int) (a : Int) = some (.int (srs w a)) := atI_map (atI_int (by omega) (sL_get (by omega)))
    (try conv => whnf)
    refine ⟨_, by rw [put_ne ne]; exact h0, ?_⟩
    (try conv => whnf)
    refine ⟨_, ea, ?_⟩
    (try conv => whnf)
    refine ⟨by omega, by omega, ?_⟩
    refine lc_map (fun d => match d with | .int i => .int (srs w i.toNat * srs (false :: w) (a - i.toNat)) | d => d) ?_ ?_ ?_
    · intro d hd Dl acc Q n0 qq
      obtain ⟨i, hi, rfl⟩ := List.mem_map.mp hd
      have hi' : i < a + 1 := by have := List.mem_range.mp hi; omega
      have nq : q ≠ Dl := fun z => by subst z; rw [put_same] at n0; cases n0
      have nq0 : q0 ≠ Dl := fun z => by subst z; rw [put_ne ne, h0] at n0; cases n0
      have e1 : atI ((sL (srs w) n).map D.int) (0 + (i : Nat) : Int) = some (.int (srs w i)) := by rw [Int.zero_add]; exact atI_map (atI_int (by omega) (sL_get (by omega)))
      have e2 : atI ((sL (srs (false :: w)) (a + 1)).map D.int) ((a : Int) - (0 + (i : Nat))) = some (.int (srs (false :: w) (a - i))) := by
        rw [show (a : Int) - (0 + (i : Nat)) = ((a - i : Nat) : Int) by omega]
        exact atI_map (atI_int (by omega) (sL_get (by omega)))
      (try conv => whnf)
      refine ⟨_, by rw [put_ne nq0, put_ne ne]; exact h0, ?_⟩
      (try conv => whnf)
      refine ⟨_, e1, ?_⟩
      (try conv => whnf)
      refine ⟨_, by rw [put_ne nq]; exact put_same, ?_⟩
      (try conv => whnf)
      refine ⟨_, e2, ?_⟩
      (try conv => whnf)
      refine ⟨.inr (srs_cm (by omega) (by rw [List.length_cons]; omega) (by omega) (by omega)), ?_⟩
      have e3 : (0 + (i : Nat) : Int).toNat = i := by omega
      simp only [e3] at qq
      exact qq
    · rw [rg_len]; omega
    have el : (rg 0 ((a : Int) + 1).toNat).map (fun d => match d with | .int i => .int (srs w i.toNat * srs (false :: w) (a - i.toNat)) | d => d) = ((List.range (a + 1)).map fun k => srs w k * srs (false :: w) (a - k)).map D.int := by
      unfold rg
      rw [List.map_map, List.map_map, show ((a : Int) + 1).toNat = a + 1 by omega]
      refine List.map_congr_left fun i _ => ?_
      show D.int (srs w (0 + (i : Nat) : Int).toNat * srs (false :: w) (a - (0 + (i : Nat) : Int).toNat)) = _
      rw [show (0 + (i : Nat) : Int).toNat = i by omega]; rfl
    rw [el]
    (try conv => whnf)
    refine ⟨_, rfl, ?_⟩
    rw [cv_sum]
    (try conv => whnf)
    refine ⟨_, put_same, ?_⟩
    refine ⟨by rw [List.length_map, sL_len]; omega, ?_⟩
    (try conv => whnf)
    have es : (sL (srs (false :: w)) (a + 1)).map D.int ++ [.int (srs w a - cv a (srs w) (srs (false :: w)))] = (sL (srs (false :: w)) (a + 1 + 1)).map D.int := by
      have e := srs_L w (a + 1)
      simp only at e
      rw [sL_snoc _ (a + 1), List.map_append, e]; rfl
    rw [put_put, es]
    exact tn_loop hw hn h0 ne m (a + 1) _ _ (by omega) fin
def sp_turn_by : ASp0 := fun ds S P => ∃ b w n q0, ds = [dl b, .ptr q0] ∧ S q0 = some (rowC w n) ∧ w.length ≤ 126 ∧ n ≤ 126 ∧ ∀ q, S q = none → P (.ptr q) (put S q (rowC (b :: w) (n + 1)))
theorem pu_turn_by (ds : List D) (S : Sg) (P : D → Sg → Prop) (h : sp_turn_by ds S P) : ab_turn_by (fin0 P) (startA N_turn_by ds) S := by
  obtain ⟨b, w, n, q0, rfl, h0, hw, hn, k⟩ := h
  (try conv => whnf)
  rw [lt1_R2]
  cases b with
  | true =>
    (first | (refine ⟨fun hh => ?_, fun hh => absurd hh (by decide)⟩; clear hh; (try conv => whnf)) | (refine ⟨fun hh => absurd hh (by decide), fun hh => ?_⟩; clear hh; (try conv => whnf)))
    refine ⟨by decide, ?_⟩
    (try conv => whnf)
    refine ⟨_, h0, ?_⟩
    (try conv => whnf)
    refine ⟨by show 1 + _ ≤ _; rw [List.length_map, sL_len]; omega, fun q nq => Wk.ret ?_⟩
    have e : [D.int 1] ++ (sL (srs w) n).map D.int = (sL (srs (true :: w)) (n + 1)).map D.int := by
      rw [sL_cons, srs_R, show tl (srs (true :: w)) = srs w from funext fun i => srs_R w (i + 1)]; rfl
    rw [e]
    exact k q nq
  | false =>
    (first | (refine ⟨fun hh => ?_, fun hh => absurd hh (by decide)⟩; clear hh; (try conv => whnf)) | (refine ⟨fun hh => absurd hh (by decide), fun hh => ?_⟩; clear hh; (try conv => whnf)))
    refine ⟨by decide, fun q nq => ?_⟩
    have ne : q0 ≠ q := fun z => by rw [z, nq] at h0; cases h0
    (try conv => whnf)
    refine ⟨_, by rw [put_ne ne]; exact h0, ?_⟩
    (try conv => whnf)
    rw [List.length_map, sL_len]
    refine ⟨by omega, by omega, ?_⟩
    rw [show (n : Int).toNat = n from Int.toNat_natCast n, rg_nat]
    have e0 : [D.int 0] = (sL (srs (false :: w)) (0 + 1)).map D.int := by
      rw [sL_cons, srs_L]; rfl
    rw [e0]
    refine tn_loop (S := S) (q := q) hw hn h0 ne n 0 none none (by omega) fun y3 y4 => ?_
    (try conv => whnf)
    exact Wk.ret (k q nq)
theorem tw_loop {z : D} {Da : AEnds} : ∀ (v u : List Bool) (x2 : Option D) (q : Addr) (S : Sg), v.length + u.length ≤ 126 → S q = some (rowC u u.length) →
    (∀ y2 q' S', S' q' = some (rowC (v.reverse ++ u) (v.reverse ++ u).length) → Gr S S' → (q' = q ∨ S q' = none) → Da.nx [some z, some (.ptr q'), y2] S') →
    aForGo (agName 2) (ab_told_by_word_b1 sp_turn_by) gT Da (v.map dl) [some z, some (.ptr q), x2] S
  | [], u, x2, q, S, _, hq, fin => ⟨trivial, fin _ q S hq (Gr.refl S) (.inl rfl)⟩
  | b :: v, u, x2, q, S, hl, hq, fin => by
    rw [List.length_cons] at hl
    refine ⟨trivial, ?_⟩
    (try conv => whnf)
    refine ⟨b, u, u.length, q, rfl, hq, by omega, by omega, fun q2 n2 => ?_⟩
    refine tw_loop (z := z) (Da := Da) v (b :: u) _ q2 (put S q2 (rowC (b :: u) (u.length + 1))) (by rw [List.length_cons]; omega) put_same fun y2 q' S' h1 h2 h3 => ?_
    refine fin y2 q' S' (by simpa using h1) ((Gr.put n2).trans h2) (.inr ?_)
    rcases h3 with rfl | h3
    · exact n2
    · exact (Gr.put (x := rowC (b :: u) (u.length + 1)) n2).none h3
def sp_told_by_word : ASp0 := fun ds S P => ∃ w, ds = [sD w] ∧ w.length ≤ 126 ∧ ∀ q S', S q = none → S' q = some (rowC w w.length) → Gr S S' → P (.ptr q) S'
theorem pu_told_by_word (ds : List D) (S : Sg) (P : D → Sg → Prop) (h : sp_told_by_word ds S P) : ab_told_by_word sp_turn_by (fin0 P) (startA N_told_by_word ds) S := by
  obtain ⟨w, rfl, hw, k⟩ := h
  (try conv => whnf)
  refine ⟨by decide, fun q nq => ?_⟩
  (try conv => whnf)
  refine ⟨by rw [wd_len]; omega, ?_⟩
  rw [sg_wd, ← List.map_reverse]
  refine tw_loop w.reverse [] none q _ (by simp; omega) put_same fun y2 q' S' h1 h2 h3 => ?_
  rw [List.reverse_reverse, List.append_nil] at h1
  (try conv => whnf)
  refine Wk.ret (k q' S' ?_ h1 ((Gr.put nq).trans h2))
  rcases h3 with rfl | h3
  · exact nq
  · exact (Gr.put (x := rowC [] 0) nq).none h3
end G

set_option pp.maxSteps 700
set_option maxHeartbeats 4000000
namespace G
open PySem PySem.Spec PyProof.Rows L2 FB
/-! ### words by bits -/
def wAt : Nat → Nat → List Bool
  | 0, _ => []
  | n + 1, i => wAt n (i / 2) ++ [i % 2 == 1]
theorem wAt_len : ∀ n i, (wAt n i).length = n
  | 0, _ => rfl
  | n + 1, i => by rw [wAt, List.length_append, wAt_len n]; rfl
theorem wAt_eq : ∀ n i, wAt n i = (List.range n).map fun a => (i / 2 ^ (n - 1 - a)) % 2 == 1
  | 0, _ => rfl
  | n + 1, i => by
    rw [wAt, wAt_eq n, List.range_succ, List.map_append]
    congr 1
    · refine List.map_congr_left fun a ha => ?_
      have := List.mem_range.mp ha
      rw [Nat.div_div_eq_div_mul, show n + 1 - 1 - a = (n - 1 - a) + 1 by omega, Nat.pow_succ, Nat.mul_comm 2]
    · simp
theorem bit_at {i : Int} (h0 : 0 ≤ i) (h1 : i < 2) : atI (("LR" : Str)).cps.toList i = some (ltr (decide (i = 1))) := lr_at h0 h1
def sp__law_two : ASp0 := fun ds S P => ∃ n : Nat, ds = [.int n] ∧ n ≤ 1000 ∧ P (.int ((2 : Int) ^ n)) S
theorem two_loop {S : Sg} {z : D} {Da : AEnds} : ∀ (ts : List D) (a : Nat) (x2 : Option D), (∀ y2, Da.nx [some z, some (.int ((2 : Int) ^ (a + ts.length))), y2] S) →
    aForGo (agName 2) ab__law_two_b1 gT Da ts [some z, some (.int ((2 : Int) ^ a)), x2] S
  | [], a, x2, fin => ⟨trivial, fin _⟩
  | t :: ts, a, x2, fin => by
    refine ⟨trivial, ?_⟩
    (try conv => whnf)
    refine ⟨.inl (.inl ⟨by decide, by decide⟩), ?_⟩
    rw [show (2 : Int) * 2 ^ a = 2 ^ (a + 1) by rw [Int.pow_succ]; omega]
    exact two_loop ts (a + 1) _ fun y2 => by
      have := fin y2
      rw [List.length_cons] at this
      rw [show a + 1 + ts.length = a + (ts.length + 1) by omega]
      exact this
theorem pu__law_two (ds : List D) (S : Sg) (P : D → Sg → Prop) (h : sp__law_two ds S P) : ab__law_two (fin0 P) (startA N__law_two ds) S := by
  obtain ⟨n, rfl, hn, k⟩ := h
  (try conv => whnf)
  refine ⟨by omega, by omega, ?_⟩
  refine two_loop (S := S) (rg 0 (n : Int).toNat) 0 none fun y2 => ?_
  rw [rg_len, Int.toNat_natCast, Nat.zero_add]
  (try conv => whnf)
  exact Wk.ret k
def sp__law_word_at : ASp0 := fun ds S P => ∃ n i : Nat, ds = [.int n, .int i] ∧ n ≤ 1000 ∧ P (sD (wAt n i)) S
theorem wa_loop {S : Sg} {z0 z1 : D} {Da : AEnds} {w : List Bool} : ∀ (ts : List D) (u : List Bool) (i : Nat) (x4 : Option D), ts.length + u.length ≤ 2000 → wAt ts.length i ++ u = w →
    (∀ i' y4, Da.nx [some z0, some z1, some (sD w), some (.int (i' : Nat)), y4] S) →
    aForGo (agName 4) ab__law_word_at_b1 gT Da ts [some z0, some z1, some (sD u), some (.int (i : Nat)), x4] S
  | [], u, i, x4, _, e, fin => ⟨trivial, by
    have : u = w := e
    rw [this]; exact fin _ _⟩
  | t :: ts, u, i, x4, hl, e, fin => by
    rw [List.length_cons] at hl e
    refine ⟨trivial, ?_⟩
    (try conv => whnf)
    refine ⟨by show (0 : Int) < 2; decide, ?_⟩
    (try conv => whnf)
    refine ⟨by decide, _, bit_at (by omega) (by omega), ?_⟩
    have e1 : (D.str ⟨#[ltr (decide ((i : Int) % 2 = 1))]⟩) = sD [i % 2 == 1] := by
      have : decide ((i : Int) % 2 = 1) = (i % 2 == 1) := by
        rcases Nat.mod_two_eq_zero_or_one i with h | h
        · rw [show (i : Int) % 2 = 0 by omega, h]; rfl
        · rw [show (i : Int) % 2 = 1 by omega, h]; rfl
      rw [this]; rfl
    have e2 : (⟨#[ltr (decide ((i : Int) % 2 = 1))]⟩ : Str) = wd [i % 2 == 1] := D.str.inj e1
    rw [e2]
    (try conv => whnf)
    rw [wd_len, wd_len, wd_app]
    refine ⟨by show 1 + _ ≤ _; omega, ?_⟩
    (try conv => whnf)
    refine ⟨.inl (cdiv_small (by decide) (by decide)), ?_⟩
    (try conv => whnf)
    have key := wa_loop (S := S) (z0 := z0) (z1 := z1) (Da := Da) (w := w) ts ([i % 2 == 1] ++ u) (i / 2) (some t) (by rw [List.length_append]; show _ + (1 + _) ≤ _; omega) (by rw [← e, wAt, List.append_assoc]) fin
    rw [show ((i / 2 : Nat) : Int) = (i : Int) / 2 by omega] at key
    exact key
theorem pu__law_word_at (ds : List D) (S : Sg) (P : D → Sg → Prop) (h : sp__law_word_at ds S P) : ab__law_word_at (fin0 P) (startA N__law_word_at ds) S := by
  obtain ⟨n, i, rfl, hn, k⟩ := h
  (try conv => whnf)
  refine ⟨by omega, by omega, ?_⟩
  refine wa_loop (S := S) (w := wAt n i) (rg 0 (n : Int).toNat) [] i none (by rw [rg_len]; simp; omega) (by rw [rg_len, Int.toNat_natCast, List.append_nil]) fun i' y4 => ?_
  (try conv => whnf)
  exact Wk.ret k
/-! ### kth_row, _law_asked -/
abbrev IX (K : PySem.W.Frag) : Addr := He.ga K "InvalidIndex"
def sp_kth_row (K : PySem.W.Frag) : ASp := fun ds S P x => ∃ dn di, ds = [dn, di] ∧
  ((∃ n i : Nat, dn = .int n ∧ n ≤ 64 ∧ di = .int i ∧ i < 2 ^ n ∧ ∀ q S', S q = none → S' q = some (rowC (wAt n i) n) → Gr S S' → P (.ptr q) S') ∨
   ((∃ t, tyD S dn = some t ∧ within 0 64 dn = false) ∧ ∀ dd, S dd = none → x (II K) dd (put S dd (.xd ["given"] [dn]))) ∨
   (∃ n : Nat, dn = .int n ∧ n ≤ 64 ∧ (∃ t, tyD S di = some t ∧ within 0 (2 ^ n - 1) di = false) ∧ ∀ dd, S dd = none → x (IX K) dd (put S dd (.xd ["given"] [di]))))
theorem pu_kth_row (K : PySem.W.Frag) (ds : List D) (S : Sg) (P : D → Sg → Prop) (x : XP) (h : sp_kth_row K ds S P x) : ab_kth_row K sp_told_by_word sp_is_within (finX P x) (startA N_kth_row ds) S := by
  obtain ⟨dn, di, rfl, h⟩ := h
  (try conv => whnf)
  rcases h with ⟨n, i, rfl, hn, rfl, hi, k⟩ | ⟨⟨t, ht, hb⟩, k⟩ | ⟨n, rfl, hn, ⟨t, ht, hb⟩, k⟩
  · refine ⟨_, 0, 64, "int", rfl, rfl, ?_⟩
    have e1 : within 0 64 (.int (n : Nat)) = true := by simp [within]; omega
    rw [e1]
    (try conv => whnf)
    (first | (refine ⟨fun hh => ?_, fun hh => absurd hh (by decide)⟩; clear hh; (try conv => whnf)) | (refine ⟨fun hh => absurd hh (by decide), fun hh => ?_⟩; clear hh; (try conv => whnf)))
    refine ⟨⟨by omega, by omega, by decide⟩, ?_⟩
    (try conv => whnf)
    refine ⟨_, 0, _, "int", rfl, rfl, ?_⟩
    have e2 : within 0 (1 * 2 ^ (n : Int).toNat - 1) (.int (i : Nat)) = true := by
      rw [Int.toNat_natCast]
      have : (i : Int) < 2 ^ n := by exact_mod_cast hi
      simp [within]; omega
    rw [e2]
    (try conv => whnf)
    (first | (refine ⟨fun hh => ?_, fun hh => absurd hh (by decide)⟩; clear hh; (try conv => whnf)) | (refine ⟨fun hh => absurd hh (by decide), fun hh => ?_⟩; clear hh; (try conv => whnf)))
    refine ⟨by omega, by omega, ?_⟩
    rw [Int.toNat_natCast]
    refine lc_map (fun d => match d with | .int a => dl ((i / 2 ^ (n - 1 - a.toNat)) % 2 == 1) | d => d) ?_ (by rw [rg_len]; omega) ?_
    · intro d hd Dl acc Q n0 qq
      obtain ⟨a, ha, rfl⟩ := List.mem_map.mp hd
      have ha' := List.mem_range.mp ha
      (try conv => whnf)
      refine ⟨by omega, ?_⟩
      (try conv => whnf)
      refine ⟨by show (0 : Int) < 2; decide, ?_⟩
      (try conv => whnf)
      refine ⟨by decide, _, bit_at (by omega) (by omega), ?_⟩
      have ee : ((n : Int) - 1 - (0 + (a : Nat))).toNat = n - 1 - a := by omega
      have e3 : decide ((i : Int) / 2 ^ ((n : Int) - 1 - (0 + (a : Nat))).toNat % 2 = 1) = ((i / 2 ^ (n - 1 - a)) % 2 == 1) := by
        rw [ee]
        have e4 : (i : Int) / 2 ^ (n - 1 - a) = ((i / 2 ^ (n - 1 - a) : Nat) : Int) := by simp
        rw [e4]
        generalize i / 2 ^ (n - 1 - a) = j
        rcases Nat.mod_two_eq_zero_or_one j with h | h
        · rw [show (j : Int) % 2 = 0 by omega, h]; rfl
        · rw [show (j : Int) % 2 = 1 by omega, h]; rfl
      rw [e3]
      have e5 : (0 + (a : Nat) : Int).toNat = a := by omega
      simp only [e5] at qq
      exact qq
    have el : (rg 0 n).map (fun d => match d with | .int a => dl ((i / 2 ^ (n - 1 - a.toNat)) % 2 == 1) | d => d) = (wAt n i).map dl := by
      rw [wAt_eq]
      unfold rg
      rw [List.map_map, List.map_map]
      refine List.map_congr_left fun a _ => ?_
      show dl ((i / 2 ^ (n - 1 - (0 + (a : Nat) : Int).toNat)) % 2 == 1) = _
      rw [show (0 + (a : Nat) : Int).toNat = a by omega]; rfl
    rw [el]
    have wl := wAt_len n i
    (try conv => whnf)
    refine ⟨(wAt n i).map lt1, by rw [List.map_map]; rfl, by rw [sum_lt1, show (("" : Str)).length = 0 from rfl]; omega, ?_⟩
    rw [join_wd]
    (try conv => whnf)
    refine ⟨_, rfl, by omega, fun q S' n0 h1 h2 => Wk.ret ?_⟩
    rw [wl] at h1
    exact k q S' n0 h1 h2
  · refine ⟨dn, 0, 64, t, rfl, ht, ?_⟩
    rw [hb]
    (try conv => whnf)
    (first | (refine ⟨fun hh => ?_, fun hh => absurd hh (by decide)⟩; clear hh; (try conv => whnf)) | (refine ⟨fun hh => absurd hh (by decide), fun hh => ?_⟩; clear hh; (try conv => whnf)))
    exact fun dd n => WkX.ret (k dd n)
  · refine ⟨_, 0, 64, "int", rfl, rfl, ?_⟩
    have e1 : within 0 64 (.int (n : Nat)) = true := by simp [within]; omega
    rw [e1]
    (try conv => whnf)
    (first | (refine ⟨fun hh => ?_, fun hh => absurd hh (by decide)⟩; clear hh; (try conv => whnf)) | (refine ⟨fun hh => absurd hh (by decide), fun hh => ?_⟩; clear hh; (try conv => whnf)))
    refine ⟨⟨by omega, by omega, by decide⟩, ?_⟩
    (try conv => whnf)
    refine ⟨di, 0, _, t, rfl, ht, ?_⟩
    rw [show (1 : Int) * 2 ^ (n : Int).toNat - 1 = 2 ^ n - 1 by rw [Int.toNat_natCast]; omega, hb]
    (try conv => whnf)
    (first | (refine ⟨fun hh => ?_, fun hh => absurd hh (by decide)⟩; clear hh; (try conv => whnf)) | (refine ⟨fun hh => absurd hh (by decide), fun hh => ?_⟩; clear hh; (try conv => whnf)))
    exact fun dd n => WkX.ret (k dd n)
structure Xm (K : PySem.W.Frag) : Prop where
  ii : PySem.W.exmOne K (.ref (II K)) (.ref (II K)) = some true
  xi : PySem.W.exmOne K (.ref (IX K)) (.ref (II K)) = some false
  xx : PySem.W.exmOne K (.ref (IX K)) (.ref (IX K)) = some true
def sp__law_asked : ASp0 := fun ds S P => ∃ dn di bn, ds = [dn, di, .bl bn] ∧
  ((∃ n i : Nat, dn = .int n ∧ n ≤ 64 ∧ di = .int i ∧ i < 2 ^ n ∧ ∀ q S', S q = none → S' q = some (rowC (wAt n i) n) → Gr S S' → P (.lst [.str "told", .ptr q]) S') ∨
   ((∃ t, tyD S dn = some t ∧ within 0 64 dn = false) ∧ P (.lst [.str "integer", dn, .bl true]) S) ∨
   (∃ n : Nat, dn = .int n ∧ n ≤ 64 ∧ (∃ t, tyD S di = some t ∧ within 0 (2 ^ n - 1) di = false) ∧ P (.lst [.str "index", di, .bl true]) S))
theorem pu__law_asked {K : PySem.W.Frag} (X : Xm K) (ds : List D) (S : Sg) (P : D → Sg → Prop) (h : sp__law_asked ds S P) : ab__law_asked K (sp_kth_row K) (fin0 P) (startA N__law_asked ds) S := by
  obtain ⟨dn, di, bn, rfl, h⟩ := h
  have hs : ∀ (C : Addr) (d : D) (z : Str), (C = II K ∧ z = "integer" ∨ C = IX K ∧ z = "index") → P (.lst [.str z, d, .bl true]) S → ∀ dd, S dd = none → aMix K (fin0 P) ((.ref (He.ga K "InvalidInteger"), some 3, (fun a cls d => (aRet (aLst (aCons (aC (.str "integer")) (aCons (aXf a cls d (He.ga K "InvalidInteger") "given" (aVar 3)) (aCons (aIsE a cls d (He.ga K "InvalidInteger") true (aVar 3)) aNil))))))) :: ((.ref (He.ga K "InvalidIndex"), some 3, (fun a cls d => (aRet (aLst (aCons (aC (.str "index")) (aCons (aXf a cls d (He.ga K "InvalidIndex") "given" (aVar 3)) (aCons (aIsE a cls d (He.ga K "InvalidIndex") true (aVar 3)) aNil))))))) :: [])) (startA N__law_asked [dn, di, .bl bn]) C dd (put S dd (.xd ["given"] [d])) := by
    intro C d z hz k dd n
    rcases hz with ⟨rfl, rfl⟩ | ⟨rfl, rfl⟩
    · refine ⟨true, X.ii, fun _ a na => ?_, fun z => nomatch z⟩
      (try conv => whnf)
      refine ⟨rfl, rfl, dd, _, _, rfl, put_same, ?_⟩
      (try conv => whnf)
      refine ⟨rfl, rfl, dd, _, _, rfl, put_same, ?_⟩
      (try conv => whnf)
      exact ⟨by show 3 ≤ 100000; omega, Wk.gone n (Wk.ret k)⟩
    · refine ⟨false, X.xi, (fun z => nomatch z), fun _ => ⟨true, X.xx, fun _ a na => ?_, fun z => nomatch z⟩⟩
      (try conv => whnf)
      refine ⟨rfl, rfl, dd, _, _, rfl, put_same, ?_⟩
      (try conv => whnf)
      refine ⟨rfl, rfl, dd, _, _, rfl, put_same, ?_⟩
      (try conv => whnf)
      exact ⟨by show 3 ≤ 100000; omega, Wk.gone n (Wk.ret k)⟩
  (try conv => whnf)
  refine ⟨fun zb => ?_, fun zb => ?_⟩
  · (try conv => whnf)
    refine ⟨rfl, dn, di, rfl, ?_⟩
    rcases h with ⟨n, i, rfl, hn, rfl, hi, k⟩ | ⟨hb, k⟩ | ⟨n, rfl, hn, hb, k⟩
    · exact .inl ⟨n, i, rfl, hn, rfl, hi, fun q S' h1 h2 h3 => ⟨by show 2 ≤ 100000; omega, Wk.ret (k q S' h1 h2 h3)⟩⟩
    · exact .inr (.inl ⟨hb, hs _ _ _ (.inl ⟨rfl, rfl⟩) k⟩)
    · exact .inr (.inr ⟨n, rfl, hn, hb, hs _ _ _ (.inr ⟨rfl, rfl⟩) k⟩)
  · (try conv => whnf)
    refine ⟨dn, di, rfl, ?_⟩
    rcases h with ⟨n, i, rfl, hn, rfl, hi, k⟩ | ⟨hb, k⟩ | ⟨n, rfl, hn, hb, k⟩
    · exact .inl ⟨n, i, rfl, hn, rfl, hi, fun q S' h1 h2 h3 => ⟨by show 2 ≤ 100000; omega, Wk.ret (k q S' h1 h2 h3)⟩⟩
    · exact .inr (.inl ⟨hb, hs _ _ _ (.inl ⟨rfl, rfl⟩) k⟩)
    · exact .inr (.inr ⟨n, rfl, hn, hb, hs _ _ _ (.inr ⟨rfl, rfl⟩) k⟩)
end G

set_option pp.maxSteps 700
set_option maxHeartbeats 4000000
namespace G
open PySem PySem.Spec PyProof.Rows L2 FB
/-! ### rows that are worked out -/
def lgo (f : List Int) : Nat → List Int
  | 0 => [0]
  | n + 1 => lgo f n ++ [f.getD n 0 - ((List.range (n + 1)).map fun k => f.getD k 0 * (lgo f n).getD (n - k) 0).sum]
def rowL : List Bool → List Int
  | [] => []
  | true :: w => 1 :: rowL w
  | false :: w => lgo (rowL w) (rowL w).length
theorem sL_getD {f : Sq} {n i : Nat} (h : i < n) : (sL f n).getD i 0 = f i := by
  rw [List.getD_eq_getElem?_getD, sL_get h]; rfl
theorem lgo_eq (w : List Bool) (n : Nat) : ∀ m, m ≤ n → lgo (sL (srs w) n) m = sL (srs (false :: w)) (m + 1)
  | 0, _ => by rw [lgo, sL_cons, srs_L]; rfl
  | m + 1, h => by
    rw [lgo, lgo_eq w n m (by omega), sL_snoc _ (m + 1)]
    congr 2
    rw [sL_getD (by omega)]
    have e := srs_L w (m + 1)
    simp only at e
    rw [e, ← cv_sum]
    congr 2
    refine List.map_congr_left fun k hk => ?_
    have := List.mem_range.mp hk
    rw [sL_getD (by omega), sL_getD (by omega)]
theorem rowL_eq : ∀ w : List Bool, rowL w = sL (srs w) w.length
  | [] => rfl
  | true :: w => by
    rw [rowL, rowL_eq w, List.length_cons, sL_cons, srs_R, show tl (srs (true :: w)) = srs w from funext fun i => srs_R w (i + 1)]
  | false :: w => by
    rw [rowL, rowL_eq w, sL_len, lgo_eq w w.length w.length (Nat.le_refl _)]; rfl
def rows (n : Nat) : List (List Int) := (List.range (2 ^ n)).map fun i => rowL (wAt n i)
theorem rows_sorted : ∀ n, n ≤ 5 → (rows n).Pairwise fun a b => leR a b = true
  | 0, _ => by decide +kernel
  | 1, _ => by decide +kernel
  | 2, _ => by decide +kernel
  | 3, _ => by decide +kernel
  | 4, _ => by decide +kernel
  | 5, _ => by decide +kernel
  | n + 6, h => by omega
theorem rows_next : ∀ n, n ≤ 5 → ∀ k, k < 2 ^ n - 1 → (rows n).getD k [] ≠ (rows n).getD (k + 1) []
  | 0, _ => by decide +kernel
  | 1, _ => by decide +kernel
  | 2, _ => by decide +kernel
  | 3, _ => by decide +kernel
  | 4, _ => by decide +kernel
  | 5, _ => by decide +kernel
  | n + 6, h => by omega
theorem rows_len (n : Nat) : (rows n).length = 2 ^ n := by simp [rows]
theorem rows_merge (n : Nat) (h : n ≤ 5) : (rows n).mergeSort leR = rows n := List.mergeSort_of_pairwise (rows_sorted n h)
theorem pow5 : ∀ n : Nat, n ≤ 5 → 2 ^ n ≤ 32 := fun n h => Nat.pow_le_pow_right (by decide) h
/-! ### _law_one_right -/
theorem tree_due (l : List Int) (h : l.length ≤ 90000) : tree 8 (.lst [.str "told", lI l]) = true := by
  simp [tree, treeL, treeL_ints, lI]; omega
def sp__law_one_right : ASp0 := fun ds S P => ∃ (n i : Nat) (bn : Bool), ds = [.int n, .int i, .bl bn] ∧ n ≤ 64 ∧ i < 2 ^ n ∧ ∀ S', Gr S S' → P (.bl true) S'
theorem pu__law_one_right (ds : List D) (S : Sg) (P : D → Sg → Prop) (h : sp__law_one_right ds S P) : ab__law_one_right (aPure (spS 9)) sp__law_asked sp__law_row sp__law_word_at (fin0 P) (startA N__law_one_right ds) S := by
  obtain ⟨n, i, bn, rfl, hn, hi, k⟩ := h
  have wl := wAt_len n i
  have td := tree_due (sL (srs (wAt n i)) n) (by rw [sL_len]; omega)
  (try conv => whnf)
  refine ⟨n, i, rfl, by omega, ?_⟩
  (try conv => whnf)
  refine ⟨_, rfl, by omega, ?_⟩
  rw [wl]
  (try conv => whnf)
  refine ⟨by show 2 ≤ 100000; omega, ?_⟩
  (try conv => whnf)
  refine ⟨_, _, bn, rfl, .inl ⟨n, i, rfl, hn, rfl, hi, fun q1 S1 n1 h1 g1 => ?_⟩⟩
  (try conv => whnf)
  refine ⟨_, .cons (.lst (.cons (.id _) (.cons (.pl h1 (RzL.id _)) .nil))) (RzL.id _), .lst [.str "told", lI (sL (srs (wAt n i)) n)], rfl, by rw [tree, treeL, treeL, treeL] at td ⊢; simpa [tree, treeL, treeL_ints, lI] using td, flat_bl _, ?_⟩
  (first | (refine ⟨fun hh => ?_, fun hh => absurd hh (by decide)⟩; clear hh; (try conv => whnf)) | (refine ⟨fun hh => absurd hh (by decide), fun hh => ?_⟩; clear hh; (try conv => whnf)))
  ((try conv => whnf); repeat (first | (refine ⟨_, (rfl : atI _ _ = some _), ?_⟩; (try conv => whnf)) | (refine ⟨_, (rfl : ixN _ _ = some _), ?_⟩; (try conv => whnf))))
  refine ⟨⟨_, h1, trivial⟩, ?_⟩
  (try conv => whnf)
  refine ⟨_, h1, ?_⟩
  refine ⟨by rw [List.length_map, sL_len]; omega, ?_⟩
  (try conv => whnf)
  refine ⟨_, _, !bn, rfl, .inl ⟨n, i, rfl, hn, rfl, hi, fun q2 S2 n2 h2 g2 => ?_⟩⟩
  (try conv => whnf)
  refine ⟨_, .cons (.lst (.cons (.id _) (.cons (.pl h2 (RzL.id _)) .nil))) (RzL.id _), .lst [.str "told", lI (sL (srs (wAt n i)) n)], rfl, by rw [tree, treeL, treeL, treeL] at td ⊢; simpa [tree, treeL, treeL_ints, lI] using td, flat_bl _, Wk.ret (k _ fun q c e => ?_)⟩
  refine g2 q c ?_
  rw [put_ne (fun z => by rw [z, n1] at e; cases e)]
  exact g1 q c e
/-! ### _law_all_right -/
def bare (S : Sg) (p : Addr) : Sg := fun b => if b = p then none else S b
theorem bare_put {S : Sg} {p : Addr} {c : Cell} (h : S p = some c) : S = put (bare S p) p c := by
  funext b; unfold put bare; split
  · rename_i e; subst e; exact h
  · rfl
theorem bare_none (S : Sg) (p : Addr) : bare S p p = none := if_pos rfl
abbrev toldD (l : List Int) : D := .lst [.str "told", lI l]
theorem as_loop {n : Nat} (hn : n ≤ 64) {S0 : Sg} {Dl : Addr} {γ0 : Ga} {elt : AE} {P : D → Sg → Prop}
    (he : ∀ (i : Nat) S (Q : D → Sg → Prop), i < 2 ^ n → (∀ q S', S q = none → S' q = some (rowC (wAt n i) n) → Gr S S' → Q (.lst [.str "told", .ptr q]) S') → elt (γ0.set 3 (some (.int i))) S Q (fun _ _ _ => False))
    (k : ∀ acc (js : List Nat) S3, js = List.range (2 ^ n) → RzL S3 acc (js.map fun i => toldD (sL (srs (wAt n i)) n)) → Gr S0 S3 → P (.lst acc) S3) (hp : 2 ^ n ≤ 90000) :
    ∀ (m a : Nat) (acc : List D) (S : Sg), a + m = 2 ^ n → S Dl = none → acc.length = a → RzL S acc ((List.range a).map fun i => toldD (sL (srs (wAt n i)) n)) → Gr S0 S →
      aLcGo (agName 3) aYes elt γ0 gT Dl (lcFin P Dl) ((List.range' a m).map fun i => D.int (i : Nat)) acc (put S Dl (.lst acc))
  | 0, a, acc, S, h, nD, _, r, g => ⟨trivial, S, nD, rfl, k acc (List.range a) S (by rw [show a = 2 ^ n by omega]) r g⟩
  | m + 1, a, acc, S, h, nD, hl, r, g => by
    refine ⟨trivial, fun _ => ?_, fun z => nomatch z⟩
    refine he a _ _ (by omega) fun q S' n1 h1 g1 => ?_
    obtain ⟨n1', nq⟩ := put_none2 n1
    have hD : S' Dl = some (.lst acc) := g1 Dl _ put_same
    refine ⟨by omega, hD, ?_⟩
    rw [bare_put hD, put_put]
    have gb : Gr S (bare S' Dl) := fun p c e => by
      have ne : p ≠ Dl := fun z => by rw [z, nD] at e; cases e
      show (if p = Dl then none else S' p) = _
      rw [if_neg ne]
      exact g1 p c (by rw [put_ne ne]; exact e)
    have hq : bare S' Dl q = some (rowC (wAt n a) n) := by
      show (if q = Dl then none else S' q) = _
      rw [if_neg nq]; exact h1
    refine as_loop hn he k hp m (a + 1) (acc ++ [.lst [.str "told", .ptr q]]) _ (by omega) (bare_none _ _) (by rw [List.length_append, hl]; rfl) ?_ (g.trans gb)
    rw [List.range_succ, List.map_append]
    have app : ∀ {as bs cs es : List D}, RzL (bare S' Dl) as bs → RzL (bare S' Dl) cs es → RzL (bare S' Dl) (as ++ cs) (bs ++ es) := by
      intro as bs cs es h1 h2
      induction as generalizing bs with
      | nil => cases h1; exact h2
      | cons x as ih => cases h1 with | cons p q => exact .cons p (ih q)
    exact app (RzL.mono gb r) (.cons (.lst (.cons (.id _) (.cons (.pl hq (RzL.id _)) .nil))) .nil)
def sp__law_all_right : ASp0 := fun ds S P => ∃ (n : Nat) (bn : Bool), ds = [.int n, .bl bn] ∧ n ≤ 5 ∧ ∀ S', Gr S S' → P (.bl true) S'
theorem rows_D (n : Nat) : ((List.range (2 ^ n)).map fun i => D.lst ((sL (srs (wAt n i)) n).map D.int)) = (rows n).map lD := by
  unfold rows
  rw [List.map_map]
  refine List.map_congr_left fun i _ => ?_
  show _ = lD (rowL (wAt n i))
  rw [rowL_eq, wAt_len]
theorem okPL_rows : ∀ l : List (List Int), okPL 63 (l.map lD) = true
  | [] => by simp [okPL]
  | r :: l => by rw [List.map_cons, okPL, okPL_rows l]; simp [okP, okPL_ints]
theorem py_any {S : Sg} {d : D} (h : okP 64 d = true) : ∃ q, Py S d q ∧ SeqAt.shaped q = true ∧ PyData.eqv q q = true := by
  obtain ⟨h1, h2, h3⟩ := okP_py (S := S) h
  exact ⟨_, h1, by unfold SeqAt.shaped; rw [h2, decide_eq_true h3]; rfl, PySem.SeqAt.eqv_refl _ h2⟩
theorem pu__law_all_right (ds : List D) (S : Sg) (P : D → Sg → Prop) (h : sp__law_all_right ds S P) : ab__law_all_right (aPure (spS 9)) sp__law_asked sp__law_row sp__law_word_at sp__law_two (fin0 P) (startA N__law_all_right ds) S := by
  obtain ⟨n, bn, rfl, hn, k⟩ := h
  have h5 := pow5 n hn
  have e2 : ((2 : Int) ^ n) = ((2 ^ n : Nat) : Int) := by simp
  (try conv => whnf)
  refine ⟨n, rfl, by omega, ?_⟩
  have h6 : ((2 ^ n : Nat) : Int) ≤ 32 := Int.ofNat_le.mpr h5
  have h7 : (0 : Int) ≤ ((2 ^ n : Nat) : Int) := Int.natCast_nonneg _
  rw [e2]
  (try conv => whnf)
  refine ⟨Int.le_trans h6 (by decide), Int.le_trans (by decide) h7, ?_⟩
  rw [Int.toNat_natCast]
  refine lc_map (fun d => match d with | .int i => D.lst ((sL (srs (wAt n i.toNat)) n).map D.int) | d => d) ?_ (by rw [rg_len]; omega) ?_
  · intro d hd Dl acc Q n0 q
    obtain ⟨i, hi, rfl⟩ := List.mem_map.mp hd
    have e0 : (0 + (i : Nat) : Int) = (i : Nat) := by omega
    simp only [e0] at q ⊢
    (try conv => whnf)
    refine ⟨n, i, rfl, by omega, ?_⟩
    (try conv => whnf)
    refine ⟨_, rfl, by rw [wAt_len]; omega, ?_⟩
    rw [wAt_len]
    exact q
  have el : (rg 0 (2 ^ n)).map (fun d => match d with | .int i => D.lst ((sL (srs (wAt n i.toNat)) n).map D.int) | d => d) = (rows n).map lD := by
    rw [← rows_D]
    unfold rg
    rw [List.map_map]
    refine List.map_congr_left fun i _ => ?_
    show D.lst ((sL (srs (wAt n (0 + (i : Nat) : Int).toNat)) n).map D.int) = _
    rw [show (0 + (i : Nat) : Int).toNat = i by omega]
  rw [el]
  obtain ⟨q, p1, p2, p3⟩ := py_any (S := S) (d := .lst ((rows n).map lD)) (by rw [okP]; exact okPL_rows _)
  (try conv => whnf)
  refine ⟨rows n, rfl, ?_⟩
  rw [rows_merge n hn]
  (try conv => whnf)
  refine ⟨q, q, p1, p1, p2, p2, ?_⟩
  rw [p3]
  (try conv => whnf)
  (first | (refine ⟨fun hh => ?_, fun hh => absurd hh (by decide)⟩; clear hh; (try conv => whnf)) | (refine ⟨fun hh => absurd hh (by decide), fun hh => ?_⟩; clear hh; (try conv => whnf)))
  have rl := rows_len n
  have h8 : 1 ≤ 2 ^ n := Nat.one_le_two_pow
  rw [List.length_map, rl]
  refine ⟨by omega, by omega, ?_⟩
  rw [show (((2 ^ n : Nat) : Int) - 1).toNat = 2 ^ n - 1 by omega]
  refine lc_mapF (fun _ => false) id ?_ (fun _ _ z => nomatch z) ?_ ?_
  · intro d hd Dl acc Q n0 qq
    obtain ⟨j, hj, rfl⟩ := List.mem_map.mp hd
    have hj' := List.mem_range.mp hj
    have get : ∀ m : Nat, m < 2 ^ n → ((rows n).map lD)[m]? = some (lD ((rows n).getD m [])) := fun m hm => by
      rw [List.getElem?_map, List.getD_eq_getElem?_getD, List.getElem?_eq_getElem (by rw [rl]; exact hm)]; rfl
    have e1 : atI ((rows n).map lD) (0 + (j : Nat) : Int) = some (lD ((rows n).getD j [])) := by rw [Int.zero_add]; exact atI_nat (get j (by omega))
    have e3 : atI ((rows n).map lD) (0 + (j : Nat) + 1 : Int) = some (lD ((rows n).getD (j + 1) [])) := by
      rw [show (0 + (j : Nat) + 1 : Int) = ((j + 1 : Nat) : Int) by omega]; exact atI_nat (get (j + 1) (by omega))
    (try conv => whnf)
    refine ⟨_, e1, ?_⟩
    (try conv => whnf)
    refine ⟨_, e3, ?_⟩
    refine eqA_intsL ?_
    rw [decide_eq_false (rows_next n hn j hj')]
    exact qq
  · rw [rg_len]; omega
  rw [filter_none (fun _ _ => rfl)]
  refine ⟨by decide, eqA_nilL (ds := []) rfl ?_⟩
  (try conv => whnf)
  (first | (refine ⟨fun hh => ?_, fun hh => absurd hh (by decide)⟩; clear hh; (try conv => whnf)) | (refine ⟨fun hh => absurd hh (by decide), fun hh => ?_⟩; clear hh; (try conv => whnf)))
  rw [List.length_map, rl]
  refine ⟨Int.le_trans h6 (by decide), Int.le_trans (by decide) h7, ?_⟩
  rw [Int.toNat_natCast, rg_nat]
  intro Dl nD
  refine as_loop (n := n) (S0 := S) (by omega) (fun i S Q hi q => ?_) (fun acc js S3 ej r g => ?_) (by omega) (2 ^ n) 0 [] S (by omega) nD rfl .nil (Gr.refl S)
  · (try conv => whnf)
    exact ⟨_, _, bn, rfl, .inl ⟨n, i, rfl, by omega, rfl, hi, q⟩⟩
  subst ej
  (try conv => whnf)
  refine lc_map (fun d => .lst [.str "told", d]) ?_ (by rw [List.length_map, rl]; omega) ?_
  · intro d hd Dl acc Q n0 qq
    (try conv => whnf)
    exact ⟨by show 2 ≤ 100000; omega, qq⟩
  have e9 : ((rows n).map lD).map (fun d => D.lst [.str "told", d]) = (List.range (2 ^ n)).map fun i => toldD (sL (srs (wAt n i)) n) := by
    rw [← rows_D, List.map_map]; rfl
  rw [e9]
  have tt : ∀ l : List Nat, treeL 8 (l.map fun i => toldD (sL (srs (wAt n i)) n)) = true := fun l => by
    induction l with
    | nil => rfl
    | cons i l ih => rw [List.map_cons, treeL, ih, tree_due _ (by rw [sL_len]; omega)]; rfl
  (try conv => whnf)
  refine ⟨_, .cons (.lst r) (RzL.id _), .lst ((List.range (2 ^ n)).map fun i => toldD (sL (srs (wAt n i)) n)), rfl, by rw [tree, tt, List.length_map, List.length_range, decide_eq_true (by omega)]; rfl, flat_bl _, Wk.ret (k _ g)⟩
end G

set_option pp.maxSteps 700
set_option maxHeartbeats 4000000
namespace G
open PySem PySem.Spec PyProof.Rows L2 FB
/-! ### things for _law_very -/
def imm : D → Bool
  | .non => true
  | .bl _ => true
  | .int _ => true
  | .str _ => true
  | .tup _ => true
  | _ => false
def vok (S : Sg) (p : Addr) (d : D) : Prop := (∃ q ds, d = .ptr q ∧ q ≠ p ∧ S q = some (.lst ds) ∧ treeL 8 ds = true ∧ ds.length < 90000) ∨
   (∃ q ks ds, d = .ptr q ∧ q ≠ p ∧ S q = some (.dct ks ds) ∧ tree 9 (.dct ks ds) = true ∧ ks.length < 90000) ∨ (imm d = true ∧ tree 9 d = true)
theorem vok.mono {S S' : Sg} {p : Addr} {d : D} (h : vok S p d) (m : ∀ q c, q ≠ p → S q = some c → S' q = some c) : vok S' p d := by
  rcases h with ⟨q, ds, rfl, n, e, t⟩ | ⟨q, ks, ds, rfl, n, e, t⟩ | h
  · exact .inl ⟨q, ds, rfl, n, m _ _ n e, t⟩
  · exact .inr (.inl ⟨q, ks, ds, rfl, n, m _ _ n e, t⟩)
  · exact .inr (.inr h)
theorem ty_mono {S S' : Sg} {p : Addr} {d : D} {t : String} (h : vok S p d) (m : ∀ q c, q ≠ p → S q = some c → S' q = some c) (ht : tyD S d = some t) : tyD S' d = some t := by
  rcases h with ⟨q, ds, rfl, n, e, _⟩ | ⟨q, ks, ds, rfl, n, e, _⟩ | ⟨i, _⟩
  · simp only [tyD, e, m _ _ n e] at ht ⊢; exact ht
  · simp only [tyD, e, m _ _ n e] at ht ⊢; exact ht
  · cases d <;> first | exact ht | cases i
theorem veryV {S : Sg} {p : Addr} {d : D} {l : List D} {P : D → Sg → Prop} (h : vok S p d) (hS : S p = some (.lst l)) (k : ∀ S', S' p = some (.lst l) → P (.bl true) S') : veryOk 8 S P d := by
  rcases h with ⟨q, ds, rfl, n, e, t, hl⟩ | ⟨q, ks, ds, rfl, n, e, t, hl⟩ | ⟨i, t⟩
  · exact .inl ⟨ds, e, t, hl, k _ (by rw [put_ne (Ne.symm n)]; exact hS)⟩
  · exact .inr ⟨ks, ds, e, t, hl, k _ (by rw [put_ne (Ne.symm n)]; exact hS)⟩
  · cases d <;> first | exact ⟨t, k _ hS⟩ | cases i
theorem put_mono {S : Sg} {p : Addr} {x : Cell} : ∀ q c, q ≠ p → S q = some c → put S p x q = some c := fun q c n e => by rw [put_ne n]; exact e
theorem vok_l {S : Sg} {p q : Addr} {ds : List D} (n : q ≠ p) (e : S q = some (.lst ds)) (t : treeL 8 ds = true) (h : ds.length < 90000) : vok S p (.ptr q) := .inl ⟨q, ds, rfl, n, e, t, h⟩
theorem vok_d {S : Sg} {p q : Addr} (n : q ≠ p) (e : S q = some (.dct [] [])) : vok S p (.ptr q) := .inr (.inl ⟨q, [], [], rfl, n, e, rfl, by decide⟩)
/-! ### _law_refused_right -/
theorem two_le (n : Nat) : (1 : Int) ≤ 2 ^ n := by
  have : 1 ≤ 2 ^ n := Nat.one_le_two_pow
  have h := Int.ofNat_le.mpr this
  simpa using h
theorem two_64 {n : Nat} (h : n ≤ 64) : (2 : Int) ^ n ≤ 2 ^ 64 := by
  have := Int.ofNat_le.mpr (Nat.pow_le_pow_right (n := 2) (by decide) h)
  simpa using this
theorem rr_loop {p : Addr} {n : Nat} (hn : n ≤ 64) {Da : AEnds} : ∀ (ts : List Int) (l : List D) (c : Int) (bn : Bool) (x4 x5 x6 : Option D) (S : Sg), S p = some (.lst l) → IsBx c l → c + 20 * ts.length < 700000000 →
    (∀ bn' y4 y5 y6 S', Da.nx [some (.ptr p), some (.bl bn'), some (.int n), some (.int ((2 : Int) ^ n)), y4, y5, y6] S') →
    aForGo (agName 4) (ab__law_refused_right_b1 (sp__law_very 8) sp__law_asked sp__law_pick sp__law_two) gT Da (ts.map D.int) [some (.ptr p), some (.bl bn), some (.int n), some (.int ((2 : Int) ^ n)), x4, x5, x6] S
  | [], l, c, bn, x4, x5, x6, S, hS, hb, _, fin => ⟨trivial, fin _ _ _ _ _⟩
  | t :: ts, l, c, bn, x4, x5, x6, S, hS, hb, hc, fin => by
    rw [List.length_cons] at hc
    have t1 := two_le n
    have t2 := two_64 hn
    refine ⟨trivial, ?_⟩
    (try conv => whnf)
    refine ⟨by decide, fun p1 n1 => ?_⟩
    (try conv => whnf)
    refine ⟨by decide, ?_⟩
    (try conv => whnf)
    intro p2 n2
    (try conv => whnf)
    refine ⟨⟨by decide, by decide, by decide⟩, ?_⟩
    (try conv => whnf)
    refine ⟨⟨by decide, by decide, by decide⟩, ?_⟩
    (try conv => whnf)
    refine ⟨by show 12 ≤ 100000; omega, ?_⟩
    obtain ⟨n2', e21⟩ := put_none2 n2
    have e10 : p1 ≠ p := fun z => by rw [z, hS] at n1; cases n1
    have e20 : p2 ≠ p := fun z => by rw [z, hS] at n2'; cases n2'
    have hSp : put (put S p1 (.lst [.int 3])) p2 (.dct [] []) p = some (.lst l) := by rw [put_ne (Ne.symm e20), put_ne (Ne.symm e10)]; exact hS
    have P1 : put (put S p1 (.lst [.int 3])) p2 (.dct [] []) p1 = some (.lst [.int 3]) := by rw [put_ne (Ne.symm e21)]; exact put_same
    have P2 : put (put S p1 (.lst [.int 3])) p2 (.dct [] []) p2 = some (.dct [] []) := put_same
    generalize put (put S p1 (.lst [.int 3])) p2 (.dct [] []) = S2 at hSp P1 P2
    (try conv => whnf)
    refine ⟨p, _, l, c, rfl, by simp, by show 12 ≤ 100000; omega, hSp, hb, by omega, fun d hd l1 hb1 => ?_⟩
    have bm : (∃ t, tyD (put S2 p (.lst l1)) d = some t ∧ within 0 64 d = false) ∧ vok (put S2 p (.lst l1)) p d := by
      have P1' : put S2 p (.lst l1) p1 = some (.lst [.int 3]) := by rw [put_ne e10]; exact P1
      have P2' : put S2 p (.lst l1) p2 = some (.dct [] []) := by rw [put_ne e20]; exact P2
      have im : ∀ (d : D) (t : String), tyD (put S2 p (.lst l1)) d = some t → within 0 64 d = false → imm d = true → tree 9 d = true → (∃ t, tyD (put S2 p (.lst l1)) d = some t ∧ within 0 64 d = false) ∧ vok (put S2 p (.lst l1)) p d := fun d t h1 h2 h3 h4 => ⟨⟨t, h1, h2⟩, .inr (.inr ⟨h3, h4⟩)⟩
      simp only [List.mem_cons, List.not_mem_nil, or_false] at hd
      rcases hd with rfl | rfl | rfl | rfl | rfl | rfl | rfl | rfl | rfl | rfl | rfl | rfl
      · exact im _ "int" rfl (by decide) rfl rfl
      · exact im _ "int" rfl (by decide) rfl rfl
      · exact im _ "NoneType" rfl rfl rfl rfl
      · exact im _ "bool" rfl rfl rfl rfl
      · exact im _ "bool" rfl rfl rfl rfl
      · exact im _ "str" rfl rfl rfl rfl
      · exact im _ "str" rfl rfl rfl rfl
      · exact ⟨⟨"list", by simp [tyD, P1'], rfl⟩, vok_l e10 P1' (by simp [treeL, tree]) (by decide)⟩
      · exact im _ "tuple" rfl rfl rfl (by simp [tree, treeL])
      · exact ⟨⟨"dict", by simp [tyD, P2'], rfl⟩, vok_d e20 P2'⟩
      · exact im _ "int" rfl (by decide) rfl rfl
      · exact im _ "int" rfl (by decide) rfl rfl
    (try conv => whnf)
    refine ⟨by show 3 ≤ 100000; omega, ?_⟩
    (try conv => whnf)
    refine ⟨p, _, l1, _, rfl, by simp, by show 3 ≤ 100000; omega, put_same, hb1, by omega, fun e3 he3 l3 hb3 => ?_⟩
    obtain ⟨⟨t6, ht6, hw6⟩, hv6⟩ := bm
    have ht7 := ty_mono hv6 (put_mono (S := put S2 p (.lst l1)) (p := p) (x := .lst l3)) ht6
    have hv7 := hv6.mono (put_mono (S := put S2 p (.lst l1)) (p := p) (x := .lst l3))
    (try conv => whnf)
    refine ⟨d, e3, bn, rfl, .inr (.inl ⟨⟨t6, ht7, hw6⟩, ?_⟩)⟩
    ((try conv => whnf); repeat (first | (refine ⟨_, (rfl : atI _ _ = some _), ?_⟩; (try conv => whnf)) | (refine ⟨_, (rfl : ixN _ _ = some _), ?_⟩; (try conv => whnf))))
    refine ⟨fun z => absurd z (by simp), fun _ => ?_⟩
    ((try conv => whnf); repeat (first | (refine ⟨_, (rfl : atI _ _ = some _), ?_⟩; (try conv => whnf)) | (refine ⟨_, (rfl : ixN _ _ = some _), ?_⟩; (try conv => whnf))))
    refine ⟨d, rfl, veryV hv7 put_same fun S7 hS7 => ?_⟩
    (try conv => whnf)
    (first | (refine ⟨fun hh => ?_, fun hh => absurd hh (by decide)⟩; clear hh; (try conv => whnf)) | (refine ⟨fun hh => absurd hh (by decide), fun hh => ?_⟩; clear hh; (try conv => whnf)))
    ((try conv => whnf); repeat (first | (refine ⟨_, (rfl : atI _ _ = some _), ?_⟩; (try conv => whnf)) | (refine ⟨_, (rfl : ixN _ _ = some _), ?_⟩; (try conv => whnf))))
    (first | (refine ⟨fun hh => ?_, fun hh => absurd hh (by decide)⟩; clear hh; (try conv => whnf)) | (refine ⟨fun hh => absurd hh (by decide), fun hh => ?_⟩; clear hh; (try conv => whnf)))
    refine ⟨by decide, fun p3 n3 => ?_⟩
    (try conv => whnf)
    refine ⟨by decide, ?_⟩
    (try conv => whnf)
    intro p4 n4
    (try conv => whnf)
    refine ⟨⟨by decide, by decide, by decide⟩, ?_⟩
    (try conv => whnf)
    refine ⟨by show 12 ≤ 100000; omega, ?_⟩
    obtain ⟨n4', e43⟩ := put_none2 n4
    have e30 : p3 ≠ p := fun z => by rw [z, hS7] at n3; cases n3
    have e40 : p4 ≠ p := fun z => by rw [z, hS7] at n4'; cases n4'
    have hSp7 : put (put S7 p3 (.lst [.int 0])) p4 (.dct [] []) p = some (.lst l3) := by rw [put_ne (Ne.symm e40), put_ne (Ne.symm e30)]; exact hS7
    have P3 : put (put S7 p3 (.lst [.int 0])) p4 (.dct [] []) p3 = some (.lst [.int 0]) := by rw [put_ne (Ne.symm e43)]; exact put_same
    have P4 : put (put S7 p3 (.lst [.int 0])) p4 (.dct [] []) p4 = some (.dct [] []) := put_same
    generalize put (put S7 p3 (.lst [.int 0])) p4 (.dct [] []) = S8 at hSp7 P3 P4
    (try conv => whnf)
    refine ⟨p, _, l3, _, rfl, by simp, by show 12 ≤ 100000; omega, hSp7, hb3, by omega, fun d9 hd9 l9 hb9 => ?_⟩
    have bm9 : (∃ t, tyD (put S8 p (.lst l9)) d9 = some t ∧ within 0 (2 ^ n - 1) d9 = false) ∧ vok (put S8 p (.lst l9)) p d9 := by
      have P3' : put S8 p (.lst l9) p3 = some (.lst [.int 0]) := by rw [put_ne e30]; exact P3
      have P4' : put S8 p (.lst l9) p4 = some (.dct [] []) := by rw [put_ne e40]; exact P4
      have im : ∀ (d : D) (t : String), tyD (put S8 p (.lst l9)) d = some t → within 0 (2 ^ n - 1) d = false → imm d = true → tree 9 d = true → (∃ t, tyD (put S8 p (.lst l9)) d = some t ∧ within 0 (2 ^ n - 1) d = false) ∧ vok (put S8 p (.lst l9)) p d := fun d t h1 h2 h3 h4 => ⟨⟨t, h1, h2⟩, .inr (.inr ⟨h3, h4⟩)⟩
      have wi : ∀ i : Int, i < 0 ∨ (2 : Int) ^ n ≤ i → within 0 (2 ^ n - 1) (.int i) = false := fun i h => by
        simp only [within, Bool.and_eq_false_iff, decide_eq_false_iff_not]; omega
      have big : (0 : Int) ≤ 10 ^ Int.toNat 30 := by decide
      simp only [List.mem_cons, List.not_mem_nil, or_false] at hd9
      rcases hd9 with rfl | rfl | rfl | rfl | rfl | rfl | rfl | rfl | rfl | rfl | rfl | rfl
      · exact im _ "int" rfl (wi _ (by omega)) rfl rfl
      · exact im _ "int" rfl (wi _ (by omega)) rfl rfl
      · exact im _ "int" rfl (wi _ (by omega)) rfl rfl
      · exact im _ "NoneType" rfl rfl rfl rfl
      · exact im _ "bool" rfl rfl rfl rfl
      · exact im _ "str" rfl rfl rfl rfl
      · exact im _ "str" rfl rfl rfl rfl
      · exact ⟨⟨"list", by simp [tyD, P3'], rfl⟩, vok_l e30 P3' (by simp [treeL, tree]) (by decide)⟩
      · exact im _ "tuple" rfl rfl rfl (by simp [tree, treeL])
      · exact ⟨⟨"dict", by simp [tyD, P4'], rfl⟩, vok_d e40 P4'⟩
      · exact im _ "int" rfl (wi _ (.inr (by omega))) rfl rfl
      · exact im _ "int" rfl (wi _ (by omega)) rfl rfl
    (try conv => whnf)
    refine ⟨_, d9, !bn, rfl, .inr (.inr ⟨n, rfl, hn, bm9.1, ?_⟩)⟩
    ((try conv => whnf); repeat (first | (refine ⟨_, (rfl : atI _ _ = some _), ?_⟩; (try conv => whnf)) | (refine ⟨_, (rfl : ixN _ _ = some _), ?_⟩; (try conv => whnf))))
    refine ⟨fun z => absurd z (by simp), fun _ => ?_⟩
    ((try conv => whnf); repeat (first | (refine ⟨_, (rfl : atI _ _ = some _), ?_⟩; (try conv => whnf)) | (refine ⟨_, (rfl : ixN _ _ = some _), ?_⟩; (try conv => whnf))))
    refine ⟨d9, rfl, veryV bm9.2 put_same fun S10 hS10 => ?_⟩
    (try conv => whnf)
    (first | (refine ⟨fun hh => ?_, fun hh => absurd hh (by decide)⟩; clear hh; (try conv => whnf)) | (refine ⟨fun hh => absurd hh (by decide), fun hh => ?_⟩; clear hh; (try conv => whnf)))
    ((try conv => whnf); repeat (first | (refine ⟨_, (rfl : atI _ _ = some _), ?_⟩; (try conv => whnf)) | (refine ⟨_, (rfl : ixN _ _ = some _), ?_⟩; (try conv => whnf))))
    (first | (refine ⟨fun hh => ?_, fun hh => absurd hh (by decide)⟩; clear hh; (try conv => whnf)) | (refine ⟨fun hh => absurd hh (by decide), fun hh => ?_⟩; clear hh; (try conv => whnf)))
    exact rr_loop hn ts l9 (c + 20) (!bn) _ _ _ S10 hS10 (hb9.mono (by omega)) (by omega) fin
def sp__law_refused_right : ASp0 := fun ds S P => ∃ p bn l c, ds = [.ptr p, .bl bn] ∧ S p = some (.lst l) ∧ IsBx c l ∧ c < 600000000 ∧ ∀ S', P (.bl true) S'
theorem pu__law_refused_right (ds : List D) (S : Sg) (P : D → Sg → Prop) (h : sp__law_refused_right ds S P) : ab__law_refused_right (sp__law_very 8) sp__law_asked sp__law_pick sp__law_two (fin0 P) (startA N__law_refused_right ds) S := by
  obtain ⟨p, bn, l, c, rfl, hS, hb, hc, k⟩ := h
  (try conv => whnf)
  refine ⟨by show 5 ≤ 100000; omega, ?_⟩
  (try conv => whnf)
  refine ⟨p, _, l, c, rfl, by simp, by show 5 ≤ 100000; omega, hS, hb, by omega, fun e he l1 hb1 => ?_⟩
  obtain ⟨n, rfl, hn⟩ : ∃ n : Nat, e = .int n ∧ n ≤ 64 := by
    simp only [List.mem_cons, List.not_mem_nil, or_false] at he
    rcases he with rfl | rfl | rfl | rfl | rfl
    · exact ⟨0, rfl, by decide⟩
    · exact ⟨1, rfl, by decide⟩
    · exact ⟨3, rfl, by decide⟩
    · exact ⟨8, rfl, by decide⟩
    · exact ⟨64, rfl, by decide⟩
  (try conv => whnf)
  refine ⟨n, rfl, by omega, ?_⟩
  (try conv => whnf)
  refine ⟨by decide, by decide, ?_⟩
  rw [show rg 0 (Int.toNat 3) = [(0 : Int), 1, 2].map D.int from rfl]
  refine rr_loop hn [0, 1, 2] l1 _ bn _ _ _ _ put_same hb1 (by simp; omega) fun bn' y4 y5 y6 S' => ?_
  (try conv => whnf)
  exact Wk.ret (k _)
/-! ### law -/
theorem ix_loop {z0 z1 z2 z4 z5 z7 z8 : D} {n : Nat} (hn : n ≤ 64) {Da : AEnds} : ∀ (is : List Nat) (bn : Bool) (x9 : Option D) (S : Sg), (∀ i ∈ is, i < 2 ^ n) →
    (∀ bn' y9 S', Gr S S' → Da.nx [some z0, some z1, some z2, some (.bl bn'), some z4, some z5, some (.int n), some z7, some z8, y9] S') →
    aForGo (agName 9) (ab_law_b1 sp__law_all_right sp__law_take sp__law_refused_right sp__law_one_right sp__law_two sp__law_pick sp__law_box sp__law_cell) gT Da (is.map fun i => D.int (i : Nat)) [some z0, some z1, some z2, some (.bl bn), some z4, some z5, some (.int n), some z7, some z8, x9] S
  | [], bn, x9, S, _, fin => ⟨trivial, fin _ _ S (Gr.refl S)⟩
  | i :: is, bn, x9, S, hi, fin => by
    refine ⟨trivial, ?_⟩
    (try conv => whnf)
    refine ⟨n, i, bn, rfl, hn, hi i List.mem_cons_self, fun S2 g => ?_⟩
    (try conv => whnf)
    (first | (refine ⟨fun hh => ?_, fun hh => absurd hh (by decide)⟩; clear hh; (try conv => whnf)) | (refine ⟨fun hh => absurd hh (by decide), fun hh => ?_⟩; clear hh; (try conv => whnf)))
    exact ix_loop hn is (!bn) _ S2 (fun j h => hi j (List.mem_cons_of_mem _ h)) fun bn' y9 S' h => fin _ _ S' (g.trans h)
end G

set_option pp.maxSteps 700
set_option maxHeartbeats 4000000
namespace G
open PySem PySem.Spec PyProof.Rows L2 FB
theorem rg_map (n : Nat) : rg 0 n = ((List.range n).map fun i : Nat => (0 + (i : Int))).map D.int := by rw [rg, List.map_map]; rfl
theorem sz_loop {p : Addr} {z0 z1 z4 z5 : D} {Da : AEnds} : ∀ (ns : List Nat) (l : List D) (c : Int) (bn : Bool) (x6 x7 x8 x9 : Option D) (S : Sg), (∀ n ∈ ns, n ≤ 64) → S p = some (.lst l) → IsBx c l → c + 5 * ns.length < 700000000 →
    (∀ bn' y6 y7 y8 y9 S' l', S' p = some (.lst l') → IsBx (c + 5 * ns.length) l' → Da.nx [some z0, some z1, some (.ptr p), some (.bl bn'), some z4, some z5, y6, y7, y8, y9] S') →
    aForGo (agName 6) (ab_law_b2 sp__law_all_right sp__law_take sp__law_refused_right sp__law_one_right sp__law_two sp__law_pick sp__law_box sp__law_cell) gT Da (ns.map fun n => D.int (n : Nat)) [some z0, some z1, some (.ptr p), some (.bl bn), some z4, some z5, x6, x7, x8, x9] S
  | [], l, c, bn, x6, x7, x8, x9, S, _, hS, hb, _, fin => ⟨trivial, fin _ _ _ _ _ _ l hS (hb.mono (by simp))⟩
  | n :: ns, l, c, bn, x6, x7, x8, x9, S, hn, hS, hb, hc, fin => by
    rw [List.length_cons] at hc fin
    have hn0 := hn n List.mem_cons_self
    have T1 : 1 ≤ 2 ^ n := Nat.one_le_two_pow
    have eT : (2 : Int) ^ n = ((2 ^ n : Nat) : Int) := by simp
    refine ⟨trivial, ?_⟩
    (try conv => whnf)
    refine ⟨n, rfl, by omega, ?_⟩
    rw [eT]
    (try conv => whnf)
    refine ⟨⟨by decide, by decide, by decide⟩, ?_⟩
    (try conv => whnf)
    refine ⟨p, _, l, c, rfl, by decide, by decide, hS, hb, by omega, fun a l1 ha0 ha1 hb1 => ?_⟩
    have ha2 : a < 1000000 := ha1
    (try conv => whnf)
    refine ⟨⟨by decide, by decide, by decide⟩, ?_⟩
    (try conv => whnf)
    refine ⟨.inl (.inl ⟨by omega, by omega⟩), ?_⟩
    (try conv => whnf)
    refine ⟨⟨by decide, by decide, by decide⟩, ?_⟩
    (try conv => whnf)
    refine ⟨p, _, l1, _, rfl, by decide, by decide, put_same, hb1, by omega, fun b l2 hb0 hb1' hb2 => ?_⟩
    rw [put_put]
    have hb3 : b < 1000000 := hb1'
    (try conv => whnf)
    refine ⟨⟨by decide, by decide, by decide⟩, ?_⟩
    (try conv => whnf)
    refine ⟨.inl (.inl ⟨by omega, by omega⟩), ?_⟩
    (try conv => whnf)
    refine ⟨⟨by decide, by decide, by decide⟩, ?_⟩
    (try conv => whnf)
    refine ⟨p, _, l2, _, rfl, by decide, by decide, put_same, hb2, by omega, fun d l3 hd0 hd1 hb3 => ?_⟩
    rw [put_put]
    (try conv => whnf)
    have hpos : (0 : Int) < ((2 ^ n : Nat) : Int) := by omega
    refine ⟨hpos, ?_⟩
    generalize hr : ((fun i j => D.int (i % j)) (a * 10 ^ Int.toNat 15 + b * 10 ^ Int.toNat 9 + d) ((2 ^ n : Nat) : Int)) = rr
    obtain ⟨r, rfl, hr0, hr1⟩ : ∃ r : Nat, rr = .int r ∧ 0 ≤ r ∧ r < 2 ^ n := by
      subst hr
      have h1 := Int.emod_nonneg (a * 10 ^ Int.toNat 15 + b * 10 ^ Int.toNat 9 + d) (show ((2 ^ n : Nat) : Int) ≠ 0 by omega)
      have h2 := Int.emod_lt_of_pos (a * 10 ^ Int.toNat 15 + b * 10 ^ Int.toNat 9 + d) hpos
      refine ⟨((a * 10 ^ Int.toNat 15 + b * 10 ^ Int.toNat 9 + d) % ((2 ^ n : Nat) : Int)).toNat, ?_, by omega, by omega⟩
      show D.int _ = D.int _
      rw [Int.toNat_of_nonneg h1]
    clear hr
    (try conv => whnf)
    refine ⟨.inl (cdiv_small (by decide) (by decide)), ?_⟩
    (try conv => whnf)
    refine ⟨.inl (cdiv_small (by decide) (by decide)), ?_⟩
    (try conv => whnf)
    refine ⟨by show 5 ≤ 100000; omega, ?_⟩
    have key := ix_loop (z0 := z0) (z1 := z1) (z2 := .ptr p) (z4 := z4) (z5 := z5) (z7 := .int ((2 ^ n : Nat) : Int)) (z8 := .int r) hn0 (Da := { Da with nx := fun γ' S' => aForGo (agName 6) (ab_law_b2 sp__law_all_right sp__law_take sp__law_refused_right sp__law_one_right sp__law_two sp__law_pick sp__law_box sp__law_cell) gT Da (ns.map fun n => D.int (n : Nat)) γ' S', ct := fun γ' S' => aForGo (agName 6) (ab_law_b2 sp__law_all_right sp__law_take sp__law_refused_right sp__law_one_right sp__law_two sp__law_pick sp__law_box sp__law_cell) gT Da (ns.map fun n => D.int (n : Nat)) γ' S', bk := Da.nx })
      [0, 2 ^ n - 1, 2 ^ n / 2, 2 ^ n / 2 - 1, r] bn x9 (put S p (.lst l3)) (fun i h => by
        simp only [List.mem_cons, List.not_mem_nil, or_false] at h
        rcases h with rfl | rfl | rfl | rfl | rfl <;> omega) fun bn' y9 S' g => sz_loop ns l3 (c + 5) bn' _ _ _ _ S' (fun m h => hn m (List.mem_cons_of_mem _ h)) (g p _ put_same) (hb3.mono (by omega)) (by omega) fun b2 y6 y7 y8 y9 S2 l2 h1 h2 => fin _ _ _ _ _ _ l2 h1 (h2.mono (by omega))
    have el : ([0, 2 ^ n - 1, 2 ^ n / 2, 2 ^ n / 2 - 1, r] : List Nat).map (fun i => D.int (i : Nat)) = [D.int 0, .int (((2 ^ n : Nat) : Int) - 1), .int (((2 ^ n : Nat) : Int) / 2), .int (if ((2 ^ n : Nat) : Int) / 2 - 1 > 0 then ((2 ^ n : Nat) : Int) / 2 - 1 else 0), .int r] := by
      simp only [List.map_cons, List.map_nil]
      generalize 2 ^ n = T at T1
      have e1 : (((T - 1 : Nat)) : Int) = (T : Int) - 1 := by omega
      have e2 : (((T / 2 : Nat)) : Int) = (T : Int) / 2 := by omega
      have e3 : (((T / 2 - 1 : Nat)) : Int) = if (T : Int) / 2 - 1 > 0 then (T : Int) / 2 - 1 else 0 := by split <;> omega
      rw [e1, e2, e3]; rfl
    rw [el] at key
    exact key
theorem law_out {ns : List Int} {Da : AEnds} : ∀ (ts : List Int) (x1 x2 x3 x4 x5 x6 x7 x8 x9 : Option D) (S : Sg), (∀ t ∈ ts, 0 ≤ t ∧ t < 1000) →
    (∀ y1 y2 y3 y4 y5 y6 y7 y8 y9 S', Da.nx [some (.scr (ns.map .int)), y1, y2, y3, y4, y5, y6, y7, y8, y9] S') →
    aForGo (agName 1) (ab_law_b3 sp__law_all_right sp__law_take sp__law_refused_right sp__law_one_right sp__law_two sp__law_pick sp__law_box sp__law_cell) gT Da (ts.map D.int) [some (.scr (ns.map .int)), x1, x2, x3, x4, x5, x6, x7, x8, x9] S
  | [], x1, x2, x3, x4, x5, x6, x7, x8, x9, S, _, fin => ⟨trivial, fin _ _ _ _ _ _ _ _ _ _⟩
  | t :: ts, x1, x2, x3, x4, x5, x6, x7, x8, x9, S, ht, fin => by
    have ht0 := ht t List.mem_cons_self
    have ih := fun y1 y2 y3 y4 y5 y6 y7 y8 y9 S2 => law_out (ns := ns) (Da := Da) ts y1 y2 y3 y4 y5 y6 y7 y8 y9 S2 (fun t h => ht t (List.mem_cons_of_mem _ h)) fin
    refine ⟨trivial, ?_⟩
    (try conv => whnf)
    refine ⟨ns, t, rfl, by omega, by omega, fun i => ?_⟩
    (try conv => whnf)
    refine ⟨i, rfl, fun p l n hb => ?_⟩
    (try conv => whnf)
    refine ⟨p, 2, l, 0, rfl, by omega, by omega, put_same, hb, by omega, fun r1 l1 hr0 hr1 hb1 => ?_⟩
    rw [put_put]
    (try conv => whnf)
    refine ⟨p, 11, l1, _, rfl, by omega, by omega, put_same, hb1, by omega, fun m1 l2 hm0 hm1 hb2 => ?_⟩
    rw [put_put]
    (try conv => whnf)
    refine ⟨p, 11, l2, _, rfl, by omega, by omega, put_same, hb2, by omega, fun m2 l3 hn0 hn1 hb3 => ?_⟩
    rw [put_put]
    (try conv => whnf)
    refine ⟨by show 2 ≤ 100000; omega, ?_⟩
    (try conv => whnf)
    refine ⟨p, 4, l3, _, rfl, by omega, by omega, put_same, hb3, by omega, fun r4 l4 hs0 hs1 hb4 => ?_⟩
    rw [put_put]
    have rest : ∀ (ss : List Nat) (l6 : List D) (bn : Bool), (∀ n ∈ ss, n ≤ 64) → ss.length ≤ 10 → IsBx 100 l6 → aSeq (aFor (aiAny (aVar 5)) (agName 6) (ab_law_b2 sp__law_all_right sp__law_take sp__law_refused_right sp__law_one_right sp__law_two sp__law_pick sp__law_box sp__law_cell))
        (aIfS (aOr (aNot (aTV (aCall0 sp__law_all_right (aCons (aCall0 sp__law_take (aCons (aVar 2) (aCons (aC (.int 6)) aNil))) (aCons (aVar 3) aNil))))) (aNot (aTV (aCall0 sp__law_refused_right (aCons (aVar 2) (aCons (aNotV (aVar 3)) aNil)))))) (aRet (aC (.bl false))) aNext)
        { Da with nx := fun γ' S' => aForGo (agName 1) (ab_law_b3 sp__law_all_right sp__law_take sp__law_refused_right sp__law_one_right sp__law_two sp__law_pick sp__law_box sp__law_cell) gT Da (ts.map D.int) γ' S', ct := fun γ' S' => aForGo (agName 1) (ab_law_b3 sp__law_all_right sp__law_take sp__law_refused_right sp__law_one_right sp__law_two sp__law_pick sp__law_box sp__law_cell) gT Da (ts.map D.int) γ' S', bk := Da.nx }
        [some (.scr (ns.map .int)), some (.int t), some (.ptr p), some (.bl bn), some (.int m1), some (.lst (ss.map fun n => D.int (n : Nat))), x6, x7, x8, x9] (put S p (.lst l6)) := by
      intro ss l6 bn hss hl hb6
      (try conv => whnf)
      refine sz_loop (p := p) ss l6 100 bn _ _ _ _ _ hss put_same hb6 (by omega) fun bn' y6 y7 y8 y9 S' l' h1 h2 => ?_
      (try conv => whnf)
      refine ⟨p, 6, l', _, rfl, by omega, by omega, h1, h2, by omega, fun m l7 hm0 hm1 hb7 => ?_⟩
      have em : m = ((m.toNat : Nat) : Int) := by omega
      (try conv => whnf)
      refine ⟨m.toNat, bn', by rw [← em], by omega, fun S8 g8 => ?_⟩
      (try conv => whnf)
      (first | (refine ⟨fun hh => ?_, fun hh => absurd hh (by decide)⟩; clear hh; (try conv => whnf)) | (refine ⟨fun hh => absurd hh (by decide), fun hh => ?_⟩; clear hh; (try conv => whnf)))
      refine ⟨p, _, l7, _, rfl, g8 p _ put_same, hb7, by omega, fun S9 => ?_⟩
      (try conv => whnf)
      (first | (refine ⟨fun hh => ?_, fun hh => absurd hh (by decide)⟩; clear hh; (try conv => whnf)) | (refine ⟨fun hh => absurd hh (by decide), fun hh => ?_⟩; clear hh; (try conv => whnf)))
      exact ih _ _ _ _ _ _ _ _ _ _
    have e1 : m1 = ((m1.toNat : Nat) : Int) := by omega
    have e2 : m2 = ((m2.toNat : Nat) : Int) := by omega
    (try conv => whnf)
    refine ⟨fun z => ?_, fun z => ?_⟩
    · (try conv => whnf)
      refine ⟨p, 30, l4, _, rfl, by omega, by omega, put_same, hb4, by omega, fun m3 l5 hm30 hm31 hb5 => ?_⟩
      rw [put_put]
      (try conv => whnf)
      refine ⟨by show 3 ≤ 100000; omega, ?_⟩
      (try conv => whnf)
      refine ⟨p, _, l5, _, rfl, by simp, by show 3 ≤ 100000; omega, put_same, hb5, by omega, fun e he l6 hb6 => ?_⟩
      rw [put_put]
      obtain ⟨n3, rfl, hn3⟩ : ∃ n : Nat, e = .int n ∧ n ≤ 64 := by
        simp only [List.mem_cons, List.not_mem_nil, or_false] at he
        rcases he with rfl | rfl | rfl
        · exact ⟨64, rfl, by decide⟩
        · exact ⟨63, rfl, by decide⟩
        · exact ⟨(33 + m3).toNat, by congr 1; omega, by omega⟩
      (try conv => whnf)
      refine ⟨by show 1 ≤ 100000; omega, ?_⟩
      (try conv => whnf)
      refine ⟨by show 2 + 1 ≤ 1000000; omega, ?_⟩
      have key := rest [m1.toNat, m2.toNat, n3] l6 (decide (r1 = 0)) (fun n h => by
        simp only [List.mem_cons, List.not_mem_nil, or_false] at h
        rcases h with rfl | rfl | rfl <;> omega) (by show 3 ≤ 10; omega) (hb6.mono (by omega))
      have el : ([m1.toNat, m2.toNat, n3] : List Nat).map (fun n => D.int (n : Nat)) = [.int m1, .int m2, .int n3] := by
        simp only [List.map_cons, List.map_nil]; rw [← e1, ← e2]
      rw [el] at key
      exact key
    · (try conv => whnf)
      refine ⟨by decide, ?_⟩
      (try conv => whnf)
      refine ⟨by show 2 + 0 ≤ 1000000; omega, ?_⟩
      have key := rest [m1.toNat, m2.toNat] l4 (decide (r1 = 0)) (fun n h => by
        simp only [List.mem_cons, List.not_mem_nil, or_false] at h
        rcases h with rfl | rfl <;> omega) (by show 2 ≤ 10; omega) (hb4.mono (by omega))
      have el : ([m1.toNat, m2.toNat] : List Nat).map (fun n => D.int (n : Nat)) = [.int m1, .int m2] := by
        simp only [List.map_cons, List.map_nil]; rw [← e1, ← e2]
      rw [el] at key
      exact key
def sp_law : ASp0 := fun ds S P => ∃ ns : List Int, ds = [.scr (ns.map .int)] ∧ ns.length ≤ 63 ∧ ∀ S', P (.bl true) S'
theorem pu_law (ds : List D) (S : Sg) (P : D → Sg → Prop) (h : sp_law ds S P) : ab_law sp__law_all_right sp__law_take sp__law_refused_right sp__law_one_right sp__law_two sp__law_pick sp__law_box sp__law_cell (fin0 P) (startA N_law ds) S := by
  obtain ⟨ns, rfl, hl, k⟩ := h
  (try conv => whnf)
  rw [List.length_map]
  have hb : ∀ m : Int, 2 ≤ (if (if m < 4 then m else 4) > 2 then (if m < 4 then m else 4) else 2) ∧ (if (if m < 4 then m else 4) > 2 then (if m < 4 then m else 4) else 2) ≤ 4 := by
    intro m
    by_cases h1 : m < 4
    · simp only [if_pos h1]; split <;> omega
    · simp only [if_neg h1]; decide
  have hb' := hb ns.length
  generalize (if (if ((ns.length : Nat) : Int) < 4 then ((ns.length : Nat) : Int) else 4) > 2 then (if ((ns.length : Nat) : Int) < 4 then ((ns.length : Nat) : Int) else 4) else 2) = b at hb'
  refine ⟨by omega, by omega, ?_⟩
  rw [rg_map]
  refine law_out _ none none none none none none none none none _ (fun t h => ?_) fun y1 y2 y3 y4 y5 y6 y7 y8 y9 S' => ?_
  · obtain ⟨i, hi, rfl⟩ := List.mem_map.mp h
    have := List.mem_range.mp hi
    omega
  · exact Wk.ret (k _)
end G

namespace G
open PySem PySem.Spec PyProof.Rows L2 FB
section
variable {P : Program} {w : World} {K : PySem.W.Frag} {mg : Str → Option Value} {base : Heap} {fds : Nat → FuncData}
theorem bottom {k : Nat} {f : Addr} {fd : FuncData} {ps : List Str} : FnOk P w K mg base CX0 k f fd ps (cSp0 K fun _ _ _ => False) :=
  ⟨fun _ _ _ _ h => by obtain ⟨_, _, _, _, _, h, _⟩ := h; exact h.elim, fun _ _ _ _ _ _ _ _ _ _ _ _ _ h => by obtain ⟨_, _, _, _, _, h, _⟩ := h; exact h.elim⟩
theorem same_ok (Z : ZZ K mg fds) : ∀ n : Nat, FnOk P w K mg base CX0 (n + 1) (He.ga K "_law_same") (fds 9) ps__law_same (cSp0 K (pur (spS n)))
  | 0 => ok__law_same Z bottom (fun ds S P h => by obtain ⟨_, _, rfl, _⟩ := h; rfl) (fun ds S P h => pu__law_same0 _ ds S P h)
  | n + 1 => ok__law_same Z (pure_ok (same_ok Z n)) (fun ds S P h => by obtain ⟨_, _, rfl, _⟩ := h; rfl) (fun ds S P h => pu__law_same n ds S P h)
theorem all_ok (Z : ZZ K mg fds) : FnOk P w K mg base CX0 13 (He.ga K "law") (fds 20) ["script"] (cSp0 K sp_law) := by
  have XM : Xm K := ⟨x_InvalidInteger_InvalidInteger Z, x_InvalidIndex_InvalidInteger Z, x_InvalidIndex_InvalidIndex Z⟩
  have G__law_same : FnOk P w K mg base CX0 10 (He.ga K "_law_same") (fds 9) ps__law_same (cSp0 K (aPure (spS 9))) := pure_ok (same_ok Z 9)
  have G_turn_by : FnOk P w K mg base CX0 1 (He.ga K "turn_by") (fds 2) ps_turn_by (cSp0 K sp_turn_by) := ok_turn_by Z  (fun ds S P h => by first | (obtain ⟨_, rfl, _⟩ := h; rfl) | (obtain ⟨_, _, rfl, _⟩ := h; rfl) | (obtain ⟨_, _, _, rfl, _⟩ := h; rfl) | (obtain ⟨_, _, _, _, rfl, _⟩ := h; rfl) | (obtain ⟨_, _, _, _, _, rfl, _⟩ := h; rfl) | (obtain ⟨_, _, _, _, _, _, rfl, _⟩ := h; rfl) | (obtain ⟨_, _, _, _, _, _, _, rfl, _⟩ := h; rfl) | (obtain ⟨_, _, _, _, _, _, _, _, rfl, _⟩ := h; rfl)) (fun ds S P h => pu_turn_by ds S P h)
  have G_told_by_word : FnOk P w K mg base CX0 2 (He.ga K "told_by_word") (fds 3) ps_told_by_word (cSp0 K sp_told_by_word) := ok_told_by_word Z (G_turn_by.mono (by decide)) (fun ds S P h => by first | (obtain ⟨_, rfl, _⟩ := h; rfl) | (obtain ⟨_, _, rfl, _⟩ := h; rfl) | (obtain ⟨_, _, _, rfl, _⟩ := h; rfl) | (obtain ⟨_, _, _, _, rfl, _⟩ := h; rfl) | (obtain ⟨_, _, _, _, _, rfl, _⟩ := h; rfl) | (obtain ⟨_, _, _, _, _, _, rfl, _⟩ := h; rfl) | (obtain ⟨_, _, _, _, _, _, _, rfl, _⟩ := h; rfl) | (obtain ⟨_, _, _, _, _, _, _, _, rfl, _⟩ := h; rfl)) (fun ds S P h => pu_told_by_word ds S P h)
  have G_is_integer : FnOk P w K mg base CX0 1 (He.ga K "is_integer") (fds 0) ps_is_integer (cSp0 K sp_is_integer) := ok_is_integer Z  (fun ds S P h => by first | (obtain ⟨_, rfl, _⟩ := h; rfl) | (obtain ⟨_, _, rfl, _⟩ := h; rfl) | (obtain ⟨_, _, _, rfl, _⟩ := h; rfl) | (obtain ⟨_, _, _, _, rfl, _⟩ := h; rfl) | (obtain ⟨_, _, _, _, _, rfl, _⟩ := h; rfl) | (obtain ⟨_, _, _, _, _, _, rfl, _⟩ := h; rfl) | (obtain ⟨_, _, _, _, _, _, _, rfl, _⟩ := h; rfl) | (obtain ⟨_, _, _, _, _, _, _, _, rfl, _⟩ := h; rfl)) (fun ds S P h => pu_is_integer ds S P h)
  have G_is_within : FnOk P w K mg base CX0 2 (He.ga K "is_within") (fds 1) ps_is_within (cSp0 K sp_is_within) := ok_is_within Z (G_is_integer.mono (by decide)) (fun ds S P h => by first | (obtain ⟨_, rfl, _⟩ := h; rfl) | (obtain ⟨_, _, rfl, _⟩ := h; rfl) | (obtain ⟨_, _, _, rfl, _⟩ := h; rfl) | (obtain ⟨_, _, _, _, rfl, _⟩ := h; rfl) | (obtain ⟨_, _, _, _, _, rfl, _⟩ := h; rfl) | (obtain ⟨_, _, _, _, _, _, rfl, _⟩ := h; rfl) | (obtain ⟨_, _, _, _, _, _, _, rfl, _⟩ := h; rfl) | (obtain ⟨_, _, _, _, _, _, _, _, rfl, _⟩ := h; rfl)) (fun ds S P h => pu_is_within ds S P h)
  have G_kth_row : FnOk P w K mg base (L2.CX P w) 3 (He.ga K "kth_row") (fds 4) ps_kth_row (cSpX K (sp_kth_row K)) := ok_kth_row Z (G_told_by_word.mono (by decide)) (G_is_within.mono (by decide)) (by decide) (fun ds S P x h => by first | (obtain ⟨_, rfl, _⟩ := h; rfl) | (obtain ⟨_, _, rfl, _⟩ := h; rfl) | (obtain ⟨_, _, _, rfl, _⟩ := h; rfl) | (obtain ⟨_, _, _, _, rfl, _⟩ := h; rfl) | (obtain ⟨_, _, _, _, _, rfl, _⟩ := h; rfl) | (obtain ⟨_, _, _, _, _, _, rfl, _⟩ := h; rfl) | (obtain ⟨_, _, _, _, _, _, _, rfl, _⟩ := h; rfl) | (obtain ⟨_, _, _, _, _, _, _, _, rfl, _⟩ := h; rfl)) (fun ds S P x h => pu_kth_row K ds S P x h)
  have G__law_asked : FnOk P w K mg base CX0 4 (He.ga K "_law_asked") (fds 16) ps__law_asked (cSp0 K sp__law_asked) := ok__law_asked Z (G_kth_row.mono (by decide)) (by decide) (fun ds S P h => by first | (obtain ⟨_, rfl, _⟩ := h; rfl) | (obtain ⟨_, _, rfl, _⟩ := h; rfl) | (obtain ⟨_, _, _, rfl, _⟩ := h; rfl) | (obtain ⟨_, _, _, _, rfl, _⟩ := h; rfl) | (obtain ⟨_, _, _, _, _, rfl, _⟩ := h; rfl) | (obtain ⟨_, _, _, _, _, _, rfl, _⟩ := h; rfl) | (obtain ⟨_, _, _, _, _, _, _, rfl, _⟩ := h; rfl) | (obtain ⟨_, _, _, _, _, _, _, _, rfl, _⟩ := h; rfl)) (fun ds S P h => pu__law_asked XM ds S P h)
  have G__law_integers : FnOk P w K mg base CX0 1 (He.ga K "_law_integers") (fds 11) ps__law_integers (cSp0 K sp__law_integers) := ok__law_integers Z  (fun ds S P h => by first | (obtain ⟨_, rfl, _⟩ := h; rfl) | (obtain ⟨_, _, rfl, _⟩ := h; rfl) | (obtain ⟨_, _, _, rfl, _⟩ := h; rfl) | (obtain ⟨_, _, _, _, rfl, _⟩ := h; rfl) | (obtain ⟨_, _, _, _, _, rfl, _⟩ := h; rfl) | (obtain ⟨_, _, _, _, _, _, rfl, _⟩ := h; rfl) | (obtain ⟨_, _, _, _, _, _, _, rfl, _⟩ := h; rfl) | (obtain ⟨_, _, _, _, _, _, _, _, rfl, _⟩ := h; rfl)) (fun ds S P h => pu__law_integers ds S P h)
  have G__law_row : FnOk P w K mg base CX0 2 (He.ga K "_law_row") (fds 12) ps__law_row (cSp0 K sp__law_row) := ok__law_row Z (G__law_integers.mono (by decide)) (fun ds S P h => by first | (obtain ⟨_, rfl, _⟩ := h; rfl) | (obtain ⟨_, _, rfl, _⟩ := h; rfl) | (obtain ⟨_, _, _, rfl, _⟩ := h; rfl) | (obtain ⟨_, _, _, _, rfl, _⟩ := h; rfl) | (obtain ⟨_, _, _, _, _, rfl, _⟩ := h; rfl) | (obtain ⟨_, _, _, _, _, _, rfl, _⟩ := h; rfl) | (obtain ⟨_, _, _, _, _, _, _, rfl, _⟩ := h; rfl) | (obtain ⟨_, _, _, _, _, _, _, _, rfl, _⟩ := h; rfl)) (fun ds S P h => pu__law_row ds S P h)
  have G__law_word_at : FnOk P w K mg base CX0 1 (He.ga K "_law_word_at") (fds 15) ps__law_word_at (cSp0 K sp__law_word_at) := ok__law_word_at Z  (fun ds S P h => by first | (obtain ⟨_, rfl, _⟩ := h; rfl) | (obtain ⟨_, _, rfl, _⟩ := h; rfl) | (obtain ⟨_, _, _, rfl, _⟩ := h; rfl) | (obtain ⟨_, _, _, _, rfl, _⟩ := h; rfl) | (obtain ⟨_, _, _, _, _, rfl, _⟩ := h; rfl) | (obtain ⟨_, _, _, _, _, _, rfl, _⟩ := h; rfl) | (obtain ⟨_, _, _, _, _, _, _, rfl, _⟩ := h; rfl) | (obtain ⟨_, _, _, _, _, _, _, _, rfl, _⟩ := h; rfl)) (fun ds S P h => pu__law_word_at ds S P h)
  have G__law_two : FnOk P w K mg base CX0 1 (He.ga K "_law_two") (fds 14) ps__law_two (cSp0 K sp__law_two) := ok__law_two Z  (fun ds S P h => by first | (obtain ⟨_, rfl, _⟩ := h; rfl) | (obtain ⟨_, _, rfl, _⟩ := h; rfl) | (obtain ⟨_, _, _, rfl, _⟩ := h; rfl) | (obtain ⟨_, _, _, _, rfl, _⟩ := h; rfl) | (obtain ⟨_, _, _, _, _, rfl, _⟩ := h; rfl) | (obtain ⟨_, _, _, _, _, _, rfl, _⟩ := h; rfl) | (obtain ⟨_, _, _, _, _, _, _, rfl, _⟩ := h; rfl) | (obtain ⟨_, _, _, _, _, _, _, _, rfl, _⟩ := h; rfl)) (fun ds S P h => pu__law_two ds S P h)
  have G__law_all_right : FnOk P w K mg base CX0 11 (He.ga K "_law_all_right") (fds 18) ps__law_all_right (cSp0 K sp__law_all_right) := ok__law_all_right Z (G__law_same.mono (by decide)) (G__law_asked.mono (by decide)) (G__law_row.mono (by decide)) (G__law_word_at.mono (by decide)) (G__law_two.mono (by decide)) (fun ds S P h => by first | (obtain ⟨_, rfl, _⟩ := h; rfl) | (obtain ⟨_, _, rfl, _⟩ := h; rfl) | (obtain ⟨_, _, _, rfl, _⟩ := h; rfl) | (obtain ⟨_, _, _, _, rfl, _⟩ := h; rfl) | (obtain ⟨_, _, _, _, _, rfl, _⟩ := h; rfl) | (obtain ⟨_, _, _, _, _, _, rfl, _⟩ := h; rfl) | (obtain ⟨_, _, _, _, _, _, _, rfl, _⟩ := h; rfl) | (obtain ⟨_, _, _, _, _, _, _, _, rfl, _⟩ := h; rfl)) (fun ds S P h => pu__law_all_right ds S P h)
  have G__law_take : FnOk P w K mg base CX0 1 (He.ga K "_law_take") (fds 7) ps__law_take (cSp0 K sp__law_take) := ok__law_take Z  (fun ds S P h => by first | (obtain ⟨_, rfl, _⟩ := h; rfl) | (obtain ⟨_, _, rfl, _⟩ := h; rfl) | (obtain ⟨_, _, _, rfl, _⟩ := h; rfl) | (obtain ⟨_, _, _, _, rfl, _⟩ := h; rfl) | (obtain ⟨_, _, _, _, _, rfl, _⟩ := h; rfl) | (obtain ⟨_, _, _, _, _, _, rfl, _⟩ := h; rfl) | (obtain ⟨_, _, _, _, _, _, _, rfl, _⟩ := h; rfl) | (obtain ⟨_, _, _, _, _, _, _, _, rfl, _⟩ := h; rfl)) (fun ds S P h => pu__law_take ds S P h)
  have G__law_very : FnOk P w K mg base CX0 11 (He.ga K "_law_very") (fds 10) ps__law_very (cSp0 K (sp__law_very 8)) := ok__law_very Z (G__law_same.mono (by decide)) (fun ds S P h => by first | (obtain ⟨_, rfl, _⟩ := h; rfl) | (obtain ⟨_, _, rfl, _⟩ := h; rfl) | (obtain ⟨_, _, _, rfl, _⟩ := h; rfl) | (obtain ⟨_, _, _, _, rfl, _⟩ := h; rfl) | (obtain ⟨_, _, _, _, _, rfl, _⟩ := h; rfl) | (obtain ⟨_, _, _, _, _, _, rfl, _⟩ := h; rfl) | (obtain ⟨_, _, _, _, _, _, _, rfl, _⟩ := h; rfl) | (obtain ⟨_, _, _, _, _, _, _, _, rfl, _⟩ := h; rfl)) (fun ds S P h => pu__law_very 8 (by decide) ds S P h)
  have G__law_pick : FnOk P w K mg base CX0 2 (He.ga K "_law_pick") (fds 8) ps__law_pick (cSp0 K sp__law_pick) := ok__law_pick Z (G__law_take.mono (by decide)) (fun ds S P h => by first | (obtain ⟨_, rfl, _⟩ := h; rfl) | (obtain ⟨_, _, rfl, _⟩ := h; rfl) | (obtain ⟨_, _, _, rfl, _⟩ := h; rfl) | (obtain ⟨_, _, _, _, rfl, _⟩ := h; rfl) | (obtain ⟨_, _, _, _, _, rfl, _⟩ := h; rfl) | (obtain ⟨_, _, _, _, _, _, rfl, _⟩ := h; rfl) | (obtain ⟨_, _, _, _, _, _, _, rfl, _⟩ := h; rfl) | (obtain ⟨_, _, _, _, _, _, _, _, rfl, _⟩ := h; rfl)) (fun ds S P h => pu__law_pick ds S P h)
  have G__law_refused_right : FnOk P w K mg base CX0 12 (He.ga K "_law_refused_right") (fds 19) ps__law_refused_right (cSp0 K sp__law_refused_right) := ok__law_refused_right Z (G__law_very.mono (by decide)) (G__law_asked.mono (by decide)) (G__law_pick.mono (by decide)) (G__law_two.mono (by decide)) (fun ds S P h => by first | (obtain ⟨_, rfl, _⟩ := h; rfl) | (obtain ⟨_, _, rfl, _⟩ := h; rfl) | (obtain ⟨_, _, _, rfl, _⟩ := h; rfl) | (obtain ⟨_, _, _, _, rfl, _⟩ := h; rfl) | (obtain ⟨_, _, _, _, _, rfl, _⟩ := h; rfl) | (obtain ⟨_, _, _, _, _, _, rfl, _⟩ := h; rfl) | (obtain ⟨_, _, _, _, _, _, _, rfl, _⟩ := h; rfl) | (obtain ⟨_, _, _, _, _, _, _, _, rfl, _⟩ := h; rfl)) (fun ds S P h => pu__law_refused_right ds S P h)
  have G__law_one_right : FnOk P w K mg base CX0 11 (He.ga K "_law_one_right") (fds 17) ps__law_one_right (cSp0 K sp__law_one_right) := ok__law_one_right Z (G__law_same.mono (by decide)) (G__law_asked.mono (by decide)) (G__law_row.mono (by decide)) (G__law_word_at.mono (by decide)) (fun ds S P h => by first | (obtain ⟨_, rfl, _⟩ := h; rfl) | (obtain ⟨_, _, rfl, _⟩ := h; rfl) | (obtain ⟨_, _, _, rfl, _⟩ := h; rfl) | (obtain ⟨_, _, _, _, rfl, _⟩ := h; rfl) | (obtain ⟨_, _, _, _, _, rfl, _⟩ := h; rfl) | (obtain ⟨_, _, _, _, _, _, rfl, _⟩ := h; rfl) | (obtain ⟨_, _, _, _, _, _, _, rfl, _⟩ := h; rfl) | (obtain ⟨_, _, _, _, _, _, _, _, rfl, _⟩ := h; rfl)) (fun ds S P h => pu__law_one_right ds S P h)
  have G__law_box : FnOk P w K mg base CX0 1 (He.ga K "_law_box") (fds 6) ps__law_box (cSp0 K sp__law_box) := ok__law_box Z  (fun ds S P h => by first | (obtain ⟨_, rfl, _⟩ := h; rfl) | (obtain ⟨_, _, rfl, _⟩ := h; rfl) | (obtain ⟨_, _, _, rfl, _⟩ := h; rfl) | (obtain ⟨_, _, _, _, rfl, _⟩ := h; rfl) | (obtain ⟨_, _, _, _, _, rfl, _⟩ := h; rfl) | (obtain ⟨_, _, _, _, _, _, rfl, _⟩ := h; rfl) | (obtain ⟨_, _, _, _, _, _, _, rfl, _⟩ := h; rfl) | (obtain ⟨_, _, _, _, _, _, _, _, rfl, _⟩ := h; rfl)) (fun ds S P h => pu__law_box ds S P h)
  have G__law_cell : FnOk P w K mg base CX0 1 (He.ga K "_law_cell") (fds 5) ps__law_cell (cSp0 K sp__law_cell) := ok__law_cell Z  (fun ds S P h => by first | (obtain ⟨_, rfl, _⟩ := h; rfl) | (obtain ⟨_, _, rfl, _⟩ := h; rfl) | (obtain ⟨_, _, _, rfl, _⟩ := h; rfl) | (obtain ⟨_, _, _, _, rfl, _⟩ := h; rfl) | (obtain ⟨_, _, _, _, _, rfl, _⟩ := h; rfl) | (obtain ⟨_, _, _, _, _, _, rfl, _⟩ := h; rfl) | (obtain ⟨_, _, _, _, _, _, _, rfl, _⟩ := h; rfl) | (obtain ⟨_, _, _, _, _, _, _, _, rfl, _⟩ := h; rfl)) (fun ds S P h => pu__law_cell ds S P h)
  have G_law : FnOk P w K mg base CX0 13 (He.ga K "law") (fds 20) ps_law (cSp0 K sp_law) := ok_law Z (G__law_all_right.mono (by decide)) (G__law_take.mono (by decide)) (G__law_refused_right.mono (by decide)) (G__law_one_right.mono (by decide)) (G__law_two.mono (by decide)) (G__law_pick.mono (by decide)) (G__law_box.mono (by decide)) (G__law_cell.mono (by decide)) (fun ds S P h => by first | (obtain ⟨_, rfl, _⟩ := h; rfl) | (obtain ⟨_, _, rfl, _⟩ := h; rfl) | (obtain ⟨_, _, _, rfl, _⟩ := h; rfl) | (obtain ⟨_, _, _, _, rfl, _⟩ := h; rfl) | (obtain ⟨_, _, _, _, _, rfl, _⟩ := h; rfl) | (obtain ⟨_, _, _, _, _, _, rfl, _⟩ := h; rfl) | (obtain ⟨_, _, _, _, _, _, _, rfl, _⟩ := h; rfl) | (obtain ⟨_, _, _, _, _, _, _, _, rfl, _⟩ := h; rfl)) (fun ds S P h => pu_law ds S P h)
  exact G_law
end
theorem rep_ints {K : PySem.W.Frag} {H : Hp} {A : Addr → Prop} : ∀ ns : List Int, RepL K H A (ns.map V.int) (ns.map D.int)
  | [] => .nil
  | n :: ns => .cons (.int n) (rep_ints ns)
def exB (K : PySem.W.Frag) : Bool := rowB K (He.ga K "RowError") && (errsB K errs && (exmB K exms && (isB K ises)))
abbrev R : PySem.W.OpenRow := PySem.W.OpenLaw.row PySem.Challenge.rw_firstbyone_k20_kth_rows
abbrev hk : PySem.W.Hook := hookF 6 (faOf glo free nums) fn exB
def ob (s : PySem.W.SharedT) : AlF := obsF 6 (faOf glo free nums) fn exB (HandSHeadRun.getT s)
theorem ob_eq (s : PySem.W.SharedT) : ob s = hk.obs s.abs := obsF_eq (HandSHeadRun.getT_eq s)
def loose : List Str := (("is_integer" : Str) :: ("is_within" : Str) :: ("turn_by" : Str) :: ("told_by_word" : Str) :: ("kth_row" : Str) :: ("_law_cell" : Str) :: ("_law_box" : Str) :: ("_law_take" : Str) :: ("_law_pick" : Str) :: ("_law_same" : Str) :: ("_law_very" : Str) :: ("_law_integers" : Str) :: ("_law_row" : Str) :: ("_law_low" : Str) :: ("_law_two" : Str) :: ("_law_word_at" : Str) :: ("_law_asked" : Str) :: ("_law_one_right" : Str) :: ("_law_all_right" : Str) :: ("_law_refused_right" : Str) :: ("RowError" : Str) :: ("InvalidInteger" : Str) :: ("InvalidIndex" : Str) :: ("MOST_PLACES" : Str) :: [])
theorem run (w : World) : HandSHeadRun.RunEq R (PySem.W.view R.prog [29]) hk ob 20000 loose w := by
  intro os
  kernel_rfl
theorem zz_of {K : PySem.W.Frag} {h : Heap} {mg : Str → Option Value} (X : K.In h) (G : h.Ns mainGlobals mg) (c : He.SaysD (faOf glo free nums) fn K) (x : exB K = true) : ∃ fds, ZZ K mg fds := by
  obtain ⟨fds, z⟩ := zs_of X G c (by decide)
  obtain ⟨x1, x⟩ := He.ba x
  obtain ⟨x2, x⟩ := He.ba x
  obtain ⟨x3, x4⟩ := He.ba x
  exact ⟨fds, z, rowB_ok x1, fun i q e => errsB_ok x2 i e, fun i q e => exmB_ok x3 i e, fun i q e => isB_ok x4 i e⟩
end G
open PySem PySem.W PySem.Calls PyProof.Rows
theorem PySem.Challenge.cw_firstbyone_k20_kth_rows_holds : PySem.Challenge.rw_firstbyone_k20_kth_rows.Holds := by
  w_on; o_law
  refine HandSHeadRun.head_any (r := OpenLaw.row PySem.Challenge.rw_firstbyone_k20_kth_rows) (q := view (OpenLaw.row PySem.Challenge.rw_firstbyone_k20_kth_rows).prog [29]) (H := G.hk) (ob := G.ob) (M := 20000) (loose := G.loose) (d := HandSHeadRun.topDef (OpenLaw.row PySem.Challenge.rw_firstbyone_k20_kth_rows).prog 29) (kwd := []) G.ob_eq
    (by kernel_rfl) (fun s => by kernel_rfl) G.run (by kernel_rfl) (by kernel_rfl) (by kernel_rfl) (by rfl) (by first | assumption | decide +kernel) (by decide +kernel) ⟨rfl, rfl, rfl, rfl, rfl, by decide +kernel⟩ ?hw ?hc
  case hw => w_witness2
  case hc =>
    refine L2.walk_ofE (l := PySem.Challenge.rw_firstbyone_k20_kth_rows) (n := 63) (k := 13) (x := "script") (CX := L2.CX0) rfl (by decide) (by kernel_rfl) ⟨rfl, by decide, by decide⟩ ?F (fun _ _ _ _ z => z)
    intro w mg fa h Y Gm hmg0
    obtain ⟨K, KX, c, x⟩ := Y
    obtain ⟨fds, Z⟩ := G.zz_of KX Gm c x
    have hmg : mg ("law" : PySem.Str) = some (.ref fa) := by
      have e : (HandSHeadRun.topDef (OpenLaw.row PySem.Challenge.rw_firstbyone_k20_kth_rows).prog 29).name = ("law" : PySem.Str) := by kernel_rfl
      rw [← e]
      exact hmg0
    have e := hmg.symm.trans (G.g_law Z)
    cases e
    have bA := (G.F_law Z).bindsA (ps := ["script"]) (fun _ _ _ _ _ _ us hl => match us, hl with | [_], _ => rfl)
    refine ⟨K, fds 20, FB.cSp0 K G.sp_law, KX, fun s v => bA s [v] rfl, fun H a ns hl _ hS => ?_, fun base hb hg => G.all_ok Z⟩
    exact ⟨[.scr (ns.map FB.D.int)], FB.e0, fun d _ => d = .bl true, (fun _ _ e => nomatch e), .cons (.scr (FB.Scr.of hS rfl) (G.rep_ints ns)) .nil, ⟨ns, rfl, hl, fun _ => rfl⟩, fun v H' d S' t J r p => by subst p; cases r; rfl⟩
