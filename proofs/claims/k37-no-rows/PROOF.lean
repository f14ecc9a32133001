import PyProof.Rows.All
import Wide.All
import OpenK.AllK
import Wide.FinOn
import HandS.ForMost
import HandS.ForExc
import HandS.HeadHook1
import KE.KeyNested
import HandS.Wide
import HandS.Style
import HandS.IsInst
import HandS.Conv
import HandS.TupMul
import HandS.SortInts
import HandS.TupSets
import HandS.RaiseMore
import HandS.NoneIn
import HandS.Head0
import HandS.Head1
import HandS.Head2
import HandS.HeadEnd
import HandS.HeadHook2
import HandS.SetFor
import HandS.More
import HandS.Deep
import HandS.TupAny
import HandS.ExcValue
import HandS.ExcIs
import PyProof.ReprRoads
import PyProof.ReprLen
import HandS.Small
import KE.GoesEnum
import HandS.Text
import PyProof.Rows.StrDigitsNeg
import PyProof.Rows.ReprOcc
import KE.IntTextLaws
import HandS.Codes
import KE.LtSeq
import KE.KSortAsk
import HandS.TryOnly
import HandS.StrMore
import HandS.ReplaceLit
import KE.GoesMore
import HandS.HeadHook3
import PyProof.Rows.CountFlat
import PySem.Challenge.RW_stairseek_k37_rows_that_are_none
set_option Elab.async false
set_option maxRecDepth 100000
set_option maxHeartbeats 4000000
set_option autoImplicit false
set_option linter.all false
/-! Q0: data with places (D), the ghost heap (cells), what they stand for in the hand layer's abstract heap. -/
namespace VL
open PySem L2

/-- data: frozen trees; `loc k` is the k-th cell of the ghost heap -/
inductive D where
  | non | bl (b : Bool) | int (i : Int) | str (x : Str)
  | lst (xs : List D) | tup (xs : List D) | ro (xs : List D) | dct0 | loc (k : Nat) | exc (c : Str) | dkf (kvs : List (Str × Str))

/-- a cell: a list that may change, an instance, a dict -/
inductive Cell where
  | lst (xs : List D)
  | ins (c : Str) (fs : List (Str × D))
  | dk (kvs : List (Key × D))
  | dn (kvs : List (List (List Int) × D))
  | dead

abbrev GH := List Cell
abbrev DEnv := List (Option D)

abbrev Frag := PySem.W.Frag

/-- one heap within another -/
def Le (F F' : Hp) : Prop := ∀ a o, F a = some o → F' a = some o
theorem Le.refl (F : Hp) : Le F F := fun _ _ h => h
theorem Le.trans {F G H : Hp} (a : Le F G) (b : Le G H) : Le F H := fun c o h => b c o (a c o h)
theorem Le.upd {F : Hp} {a : Addr} {o : HO} (h : F a = none) : Le F (upd F a o) := fun b u e => by
  rw [upd_ne (ne_of_none e h)]; exact e

theorem sqL_mono {K : Frag} {F F' : Hp} {a : Addr} {xs : List V} (e : Le F F') (h : SqL K F a xs) : SqL K F' a xs := by
  rcases h with (h | ⟨o, h⟩) | h
  · exact .inl (.inl (e _ _ h))
  · exact .inl (.inr ⟨o, e _ _ h⟩)
  · exact .inr h
/-- an exception of the class at C, caught, at a -/
def ExV (C a : Addr) : HO := .ext fun h => ∃ (oe : Obj) (vs : Array Value), h.get? a = some oe ∧ Zc (.ref C) none oe ∧ oe.data = .fields vs
mutual
/-- v stands for d: over the frozen heap F and the places α -/
def RepV (K : Frag) (F : Hp) (al : List Addr) : D → V → Prop
  | .non, v => v = .non
  | .bl b, v => v = .bl b
  | .int i, v => v = .int i
  | .str x, v => v = .str x
  | .lst xs, v => ∃ a vs, v = .ref a ∧ F a = some (.lst vs) ∧ RepL K F al xs vs
  | .tup xs, v => ∃ a vs, v = .ref a ∧ F a = some (.tup vs) ∧ RepL K F al xs vs
  | .ro xs, v => ∃ a vs, v = .ref a ∧ SqL K F a vs ∧ RepL K F al xs vs
  | .dct0, v => ∃ a, v = .ref a ∧ F a = some (.dK [])
  | .loc k, v => ∃ a, al[k]? = some a ∧ v = .ref a
  | .exc c, v => ∃ a, v = .ref a ∧ F a = some (ExV (He.ga K c) a)
  | .dkf kvs, v => ∃ a o, v = .ref a ∧ F a = some (.frz o (.dK (kvs.map fun p => (Sum.inr p.1, V.str p.2))))
def RepL (K : Frag) (F : Hp) (al : List Addr) : List D → List V → Prop
  | [], vs => vs = []
  | d :: ds, vs => ∃ v r, vs = v :: r ∧ RepV K F al d v ∧ RepL K F al ds r
end

theorem pre_get {β : Type} {xs ys : List β} {i : Nat} {x : β} (p : xs <+: ys) (h : xs[i]? = some x) : ys[i]? = some x := by
  obtain ⟨t, rfl⟩ := p
  rw [List.getElem?_append_left (List.getElem?_eq_some_iff.mp h).1]
  exact h

section
variable {K : Frag} {F F' : Hp} {al al' : List Addr}
mutual
theorem RepV.mono (e : Le F F') (p : al <+: al') : ∀ {d : D} {v : V}, RepV K F al d v → RepV K F' al' d v
  | .non, _, h => h
  | .bl _, _, h => h
  | .int _, _, h => h
  | .str _, _, h => h
  | .lst _, _, h => by
    unfold RepV at h ⊢
    obtain ⟨a, vs, h1, h2, h3⟩ := h
    exact ⟨a, vs, h1, e _ _ h2, RepL.mono e p h3⟩
  | .tup _, _, h => by
    unfold RepV at h ⊢
    obtain ⟨a, vs, h1, h2, h3⟩ := h
    exact ⟨a, vs, h1, e _ _ h2, RepL.mono e p h3⟩
  | .ro _, _, h => by
    unfold RepV at h ⊢
    obtain ⟨a, vs, h1, h2, h3⟩ := h
    exact ⟨a, vs, h1, sqL_mono e h2, RepL.mono e p h3⟩
  | .dct0, _, h => by
    unfold RepV at h ⊢
    obtain ⟨a, h1, h2⟩ := h
    exact ⟨a, h1, e _ _ h2⟩
  | .loc k, _, h => by
    unfold RepV at h ⊢
    obtain ⟨a, h1, h2⟩ := h
    exact ⟨a, pre_get p h1, h2⟩
  | .exc _, _, h => by
    unfold RepV at h ⊢
    obtain ⟨a, h1, h2⟩ := h
    exact ⟨a, h1, e _ _ h2⟩
  | .dkf _, _, h => by
    unfold RepV at h ⊢
    obtain ⟨a, o, h1, h2⟩ := h
    exact ⟨a, o, h1, e _ _ h2⟩
theorem RepL.mono (e : Le F F') (p : al <+: al') : ∀ {ds : List D} {vs : List V}, RepL K F al ds vs → RepL K F' al' ds vs
  | [], _, h => h
  | d :: ds, _, h => by
    unfold RepL at h ⊢
    obtain ⟨v, r, h1, h2, h3⟩ := h
    exact ⟨v, r, h1, RepV.mono e p h2, RepL.mono e p h3⟩
end
theorem RepL.len : ∀ {ds : List D} {vs : List V}, RepL K F al ds vs → ds.length = vs.length
  | [], _, h => by unfold RepL at h; subst h; rfl
  | d :: ds, _, h => by
    unfold RepL at h
    obtain ⟨v, r, rfl, _, h3⟩ := h
    rw [List.length_cons, List.length_cons, RepL.len h3]
theorem RepL.get : ∀ {ds : List D} {vs : List V} {i : Nat} {d : D}, RepL K F al ds vs → ds[i]? = some d → ∃ v, vs[i]? = some v ∧ RepV K F al d v
  | d :: ds, _, 0, _, h, e => by
    unfold RepL at h
    obtain ⟨v, r, rfl, h2, _⟩ := h
    cases e
    exact ⟨v, rfl, h2⟩
  | d :: ds, _, i + 1, x, h, e => by
    unfold RepL at h
    obtain ⟨v, r, rfl, _, h3⟩ := h
    obtain ⟨u, q1, q2⟩ := RepL.get (i := i) (d := x) h3 (by simpa using e)
    exact ⟨u, by simpa using q1, q2⟩
theorem RepL.append : ∀ {ds es : List D} {vs us : List V}, RepL K F al ds vs → RepL K F al es us → RepL K F al (ds ++ es) (vs ++ us)
  | [], _, _, _, h, k => by unfold RepL at h; subst h; exact k
  | d :: ds, _, _, _, h, k => by
    unfold RepL at h
    obtain ⟨v, r, rfl, h2, h3⟩ := h
    show RepL K F al (d :: (ds ++ _)) (v :: (r ++ _))
    unfold RepL
    exact ⟨v, _, rfl, h2, RepL.append h3 k⟩
theorem RepL.nil : RepL K F al [] [] := by unfold RepL; rfl
theorem RepL.cons {d : D} {v : V} {ds : List D} {vs : List V} (h : RepV K F al d v) (k : RepL K F al ds vs) : RepL K F al (d :: ds) (v :: vs) := by
  unfold RepL; exact ⟨v, vs, rfl, h, k⟩
theorem RepL.set : ∀ {ds : List D} {vs : List V} {d : D} {v : V} (i : Nat), RepL K F al ds vs → RepV K F al d v → RepL K F al (ds.set i d) (vs.set i v)
  | [], _, _, _, _, h, _ => by unfold RepL at h; subst h; exact RepL.nil
  | _ :: ds, _, _, _, 0, h, k => by
    unfold RepL at h
    obtain ⟨v, r, rfl, h2, h3⟩ := h
    exact RepL.cons k h3
  | _ :: ds, _, _, _, i + 1, h, k => by
    unfold RepL at h
    obtain ⟨v, r, rfl, h2, h3⟩ := h
    exact RepL.cons h2 (RepL.set i h3 k)
theorem RepL.take : ∀ {ds : List D} {vs : List V} (n : Nat), RepL K F al ds vs → RepL K F al (ds.take n) (vs.take n)
  | _, _, 0, _ => by rw [List.take_zero, List.take_zero]; exact RepL.nil
  | [], _, n + 1, h => by unfold RepL at h; subst h; exact RepL.nil
  | d :: ds, _, n + 1, h => by
    unfold RepL at h
    obtain ⟨v, r, rfl, h2, h3⟩ := h
    exact RepL.cons h2 (RepL.take n h3)
theorem RepL.drop : ∀ {ds : List D} {vs : List V} (n : Nat), RepL K F al ds vs → RepL K F al (ds.drop n) (vs.drop n)
  | _, _, 0, h => h
  | [], _, n + 1, h => by unfold RepL at h; subst h; exact RepL.nil
  | d :: ds, _, n + 1, h => by
    unfold RepL at h
    obtain ⟨v, r, rfl, h2, h3⟩ := h
    exact RepL.drop n h3
theorem RepL.reverse : ∀ {ds : List D} {vs : List V}, RepL K F al ds vs → RepL K F al ds.reverse vs.reverse
  | [], _, h => by unfold RepL at h; subst h; exact RepL.nil
  | d :: ds, _, h => by
    unfold RepL at h
    obtain ⟨v, r, rfl, h2, h3⟩ := h
    rw [List.reverse_cons, List.reverse_cons]
    exact RepL.append (RepL.reverse h3) (RepL.cons h2 RepL.nil)
end

/-- the fields of an instance -/
def RepF (K : Frag) (F : Hp) (al : List Addr) : List (Str × D) → List (Str × V) → Prop
  | [], vs => vs = []
  | (n, d) :: ds, vs => ∃ v r, vs = (n, v) :: r ∧ RepV K F al d v ∧ RepF K F al ds r
theorem RepF.mono {K : Frag} {F F' : Hp} {al al' : List Addr} (e : Le F F') (p : al <+: al') : ∀ {ds : List (Str × D)} {vs : List (Str × V)}, RepF K F al ds vs → RepF K F' al' ds vs
  | [], _, h => h
  | (n, d) :: ds, _, h => by
    unfold RepF at h ⊢
    obtain ⟨v, r, h1, h2, h3⟩ := h
    exact ⟨v, r, h1, h2.mono e p, RepF.mono e p h3⟩
def RepK (K : Frag) (F : Hp) (al : List Addr) : List (Key × D) → List (Key × V) → Prop
  | [], vs => vs = []
  | (n, d) :: ds, vs => ∃ v r, vs = (n, v) :: r ∧ RepV K F al d v ∧ RepK K F al ds r
theorem RepK.mono {K : Frag} {F F' : Hp} {al al' : List Addr} (e : Le F F') (p : al <+: al') : ∀ {ds : List (Key × D)} {vs : List (Key × V)}, RepK K F al ds vs → RepK K F' al' ds vs
  | [], _, h => h
  | (n, d) :: ds, _, h => by
    unfold RepK at h ⊢
    obtain ⟨v, r, h1, h2, h3⟩ := h
    exact ⟨v, r, h1, h2.mono e p, RepK.mono e p h3⟩

/-- a dict's key that is a tuple of tuples of ints -/
abbrev NK := List (List Int)
def nkey (k : NK) : NestedKey := .tup (k.map fun r => .tup (r.map .num))
/-- it stands at b -/
def NestAt (H : Hp) (b : Addr) (k : NK) : Prop := ∃ bs : List Addr, H b = some (.tup (bs.map V.ref)) ∧ bs.length = k.length ∧ ∀ (j : Nat) (c : Addr) (r : List Int), bs[j]? = some c → k[j]? = some r → H c = some (.tup (r.map V.int))
theorem NestAt.mono {F F' : Hp} {b : Addr} {k : NK} (h : NestAt F b k) (e : Le F F') : NestAt F' b k := by
  obtain ⟨bs, h1, h2, h3⟩ := h
  exact ⟨bs, e _ _ h1, h2, fun j c r q1 q2 => e _ _ (h3 j c r q1 q2)⟩
/-- the dict at a: its keys, where they stand, its values -/
def DN (a : Addr) (xs : List (NK × Addr × V)) : HO := .ext fun h => xs.length ≤ sizeLine ∧ (a == sysModules) = false ∧ (xs.map (·.1)).Nodup ∧ ∃ (o : Obj) (es : Array DictEntry) (ep : Nat), h.get? a = some o ∧ o.ExactDict ∧ o.data = .dict es ep ∧
  Paired (fun (x : NK × Addr × V) (e : DictEntry) => e.key = .ref x.2.1 ∧ RelV x.2.2 e.val ∧ ∀ w : World, e.hash = (nkey x.1).hash w) xs es.toList
/-- the pairs of a dict cell, as they stand -/
def RepN (K : Frag) (F : Hp) (al : List Addr) : List (NK × D) → List (NK × Addr × V) → Prop := Paired fun p x => p.1 = x.1 ∧ NestAt F x.2.1 x.1 ∧ RepV K F al p.2 x.2.2
theorem RepN.mono {K : Frag} {F F' : Hp} {al al' : List Addr} (e : Le F F') (p : al <+: al') {ds : List (NK × D)} {xs : List (NK × Addr × V)} (h : RepN K F al ds xs) : RepN K F' al' ds xs := Paired.mapP h fun _ _ z => ⟨z.1, z.2.1.mono e, z.2.2.mono e p⟩

abbrev MG := Str → Option Value

def CellOk (K : Frag) (mg : MG) (F : Hp) (al : List Addr) (H : Hp) (a : Addr) : Cell → Prop
  | .lst ds => F a = none ∧ ∃ vs, H a = some (.lst vs) ∧ RepL K F al ds vs
  | .ins c fs => F a = none ∧ ∃ C dx fv, mg c = some (.ref C) ∧ H a = some (.ins C dx fv) ∧ RepF K F al fs fv
  | .dk kvs => F a = none ∧ ∃ kv, H a = some (.dK kv) ∧ RepK K F al kvs kv
  | .dn kvs => F a = none ∧ ∃ xs, H a = some (DN a xs) ∧ RepN K F al kvs xs
  | .dead => True

/-- the frozen part F, the places al of the cells G, and what is kept aside (P), within the heap H -/
structure Sim (K : Frag) (mg : MG) (P F : Hp) (al : List Addr) (H : Hp) (G : GH) : Prop where
  sub : Le F H
  fr : Le P H
  dj : ∀ a o, P a = some o → F a = none ∧ a ∉ al
  nd : al.Nodup
  len : al.length = G.length
  thr : ∀ a ∈ al, ∃ o, H a = some o
  cell : ∀ (k : Nat) (c : Cell) (a : Addr), G[k]? = some c → al[k]? = some a → CellOk K mg F al H a c

theorem CellOk.stay {K : Frag} {mg : MG} {F F' : Hp} {al al' : List Addr} {H H' : Hp} {a : Addr} {c : Cell} (h : CellOk K mg F al H a c) (e : Le F F') (p : al <+: al') (f : F a = none → F' a = none)
    (k : ∀ o, H a = some o → H' a = some o) : CellOk K mg F' al' H' a c := by
  cases c with
  | lst ds =>
    obtain ⟨h0, vs, h1, h2⟩ := h
    exact ⟨f h0, vs, k _ h1, h2.mono e p⟩
  | ins c fs =>
    obtain ⟨h0, C, dx, fv, h1, h2, h3⟩ := h
    exact ⟨f h0, C, dx, fv, h1, k _ h2, h3.mono e p⟩
  | dk kvs =>
    obtain ⟨h0, kv, h1, h2⟩ := h
    exact ⟨f h0, kv, k _ h1, h2.mono e p⟩
  | dn kvs =>
    obtain ⟨h0, xs, h1, h2⟩ := h
    exact ⟨f h0, xs, k _ h1, h2.mono e p⟩
  | dead => trivial

section
variable {K : Frag} {mg : MG} {P F : Hp} {al : List Addr} {H : Hp} {G : GH} {p : Addr} {o : HO}
theorem Sim.freeF (S : Sim K mg P F al H G) (hp : H p = none) : F p = none := by
  cases q : F p with
  | none => rfl
  | some u => rw [S.sub p u q] at hp; cases hp
theorem Sim.ne (S : Sim K mg P F al H G) (hp : H p = none) {a : Addr} (ha : a ∈ al) : a ≠ p := by
  obtain ⟨u, e⟩ := S.thr a ha
  exact ne_of_none e hp
theorem get_mem {β : Type} {xs : List β} {i : Nat} {x : β} (h : xs[i]? = some x) : x ∈ xs := List.mem_of_getElem? h
/-- a new object, frozen -/
theorem Sim.newF (S : Sim K mg P F al H G) (hp : H p = none) (o : HO) : Sim K mg P (upd F p o) al (upd H p o) G where
  sub := fun a u e => by
    by_cases h : a = p
    · subst h; rw [upd_same] at e ⊢; exact e
    · rw [upd_ne h] at e ⊢; exact S.sub a u e
  fr := fun a u e => by rw [upd_ne (ne_of_none (S.fr a u e) hp)]; exact S.fr a u e
  dj := fun a u e => by rw [upd_ne (ne_of_none (S.fr a u e) hp)]; exact S.dj a u e
  nd := S.nd
  len := S.len
  thr := fun a ha => by
    obtain ⟨u, e⟩ := S.thr a ha
    exact ⟨u, by rw [upd_ne (ne_of_none e hp)]; exact e⟩
  cell := fun k c a hk ha => (S.cell k c a hk ha).stay (Le.upd (S.freeF hp)) (List.prefix_refl _) (fun f => by rw [upd_ne (S.ne hp (get_mem ha))]; exact f) fun u e => by rw [upd_ne (ne_of_none e hp)]; exact e
/-- a new object that is forgotten -/
theorem Sim.junk (S : Sim K mg P F al H G) (hp : H p = none) (o : HO) : Sim K mg P F al (upd H p o) G where
  sub := fun a u e => by rw [upd_ne (ne_of_none e (S.freeF hp))]; exact S.sub a u e
  fr := fun a u e => by rw [upd_ne (ne_of_none (S.fr a u e) hp)]; exact S.fr a u e
  dj := S.dj
  nd := S.nd
  len := S.len
  thr := fun a ha => by
    obtain ⟨u, e⟩ := S.thr a ha
    exact ⟨u, by rw [upd_ne (ne_of_none e hp)]; exact e⟩
  cell := fun k c a hk ha => (S.cell k c a hk ha).stay (Le.refl _) (List.prefix_refl _) (fun f => f) fun u e => by rw [upd_ne (ne_of_none e hp)]; exact e
/-- a new object as a cell -/
theorem Sim.newC (S : Sim K mg P F al H G) (hp : H p = none) {o : HO} {c : Cell} (hc : CellOk K mg F (al ++ [p]) (upd H p o) p c) : Sim K mg P F (al ++ [p]) (upd H p o) (G ++ [c]) where
  sub := fun a u e => by rw [upd_ne (ne_of_none e (S.freeF hp))]; exact S.sub a u e
  fr := fun a u e => by rw [upd_ne (ne_of_none (S.fr a u e) hp)]; exact S.fr a u e
  dj := fun a u e => ⟨(S.dj a u e).1, fun h => by
    rcases List.mem_append.mp h with h | h
    · exact (S.dj a u e).2 h
    · have z : a = p := by simpa using h
      rw [z] at e
      rw [S.fr p u e] at hp
      cases hp⟩
  nd := by
    rw [List.nodup_append]
    refine ⟨S.nd, by simp, fun a ha b hb => ?_⟩
    have e : b = p := by simpa using hb
    subst e
    exact S.ne hp ha
  len := by rw [List.length_append, List.length_append, S.len]; rfl
  thr := fun a ha => by
    rcases List.mem_append.mp ha with ha | ha
    · obtain ⟨u, e⟩ := S.thr a ha
      exact ⟨u, by rw [upd_ne (ne_of_none e hp)]; exact e⟩
    · have e : a = p := by simpa using ha
      subst e
      exact ⟨o, upd_same⟩
  cell := fun k c' a hk ha => by
    by_cases hl : k < G.length
    · rw [List.getElem?_append_left hl] at hk
      rw [List.getElem?_append_left (by rw [S.len]; exact hl)] at ha
      exact (S.cell k c' a hk ha).stay (Le.refl _) (List.prefix_append _ _) (fun f => f) fun u e => by rw [upd_ne (ne_of_none e hp)]; exact e
    · rw [List.getElem?_append_right (Nat.le_of_not_lt hl)] at hk
      rw [List.getElem?_append_right (by rw [S.len]; exact Nat.le_of_not_lt hl), S.len] at ha
      have z : k - G.length = 0 := by
        have := (List.getElem?_eq_some_iff.mp hk).1
        simp at this
        omega
      rw [z] at hk ha
      cases hk
      cases ha
      exact hc
theorem Sim.at (S : Sim K mg P F al H G) {k : Nat} {c : Cell} (h : G[k]? = some c) : ∃ a, al[k]? = some a ∧ CellOk K mg F al H a c := by
  have hl : k < al.length := by rw [S.len]; exact (List.getElem?_eq_some_iff.mp h).1
  exact ⟨al[k], List.getElem?_eq_getElem hl, S.cell k c _ h (List.getElem?_eq_getElem hl)⟩
theorem Sim.inj (S : Sim K mg P F al H G) {i j : Nat} {a : Addr} (h : al[i]? = some a) (h' : al[j]? = some a) : i = j := by
  obtain ⟨l1, e1⟩ := List.getElem?_eq_some_iff.mp h
  obtain ⟨l2, e2⟩ := List.getElem?_eq_some_iff.mp h'
  exact (List.getElem_inj S.nd).mp (e1.trans e2.symm)
/-- a cell is written -/
theorem Sim.setC (S : Sim K mg P F al H G) {k : Nat} {a : Addr} {o : HO} {c : Cell} (ha : al[k]? = some a) (hf : F a = none) (hc : CellOk K mg F al (upd H a o) a c) : Sim K mg P F al (upd H a o) (G.set k c) where
  sub := fun b u e => by rw [upd_ne (ne_of_none e hf)]; exact S.sub b u e
  fr := fun b u e => by
    have h : b ≠ a := fun z => (S.dj b u e).2 (by rw [z]; exact get_mem ha)
    rw [upd_ne h]; exact S.fr b u e
  dj := S.dj
  nd := S.nd
  len := by rw [List.length_set]; exact S.len
  thr := fun b hb => by
    by_cases h : b = a
    · subst h; exact ⟨o, upd_same⟩
    · obtain ⟨u, e⟩ := S.thr b hb
      exact ⟨u, by rw [upd_ne h]; exact e⟩
  cell := fun j c' b hj hb => by
    by_cases h : k = j
    · subst h
      rw [ha] at hb; cases hb
      rw [List.getElem?_set_self (by rw [← S.len]; exact (List.getElem?_eq_some_iff.mp ha).1)] at hj
      cases hj
      exact hc
    · rw [List.getElem?_set_ne h] at hj
      have hb' : b ≠ a := fun e => h (S.inj ha (e ▸ hb))
      exact (S.cell j c' b hj hb).stay (Le.refl _) (List.prefix_refl _) (fun f => f) fun u e => by rw [upd_ne hb']; exact e
/-- a cell that is a list is frozen -/
theorem Sim.freeze (S : Sim K mg P F al H G) {k : Nat} {a : Addr} {vs : List V} (ha : al[k]? = some a) (hf : F a = none) (hv : H a = some (.lst vs)) : Sim K mg P (upd F a (.lst vs)) al H (G.set k .dead) where
  sub := fun b u e => by
    by_cases h : b = a
    · subst h; rw [upd_same] at e; cases e; exact hv
    · rw [upd_ne h] at e; exact S.sub b u e
  fr := S.fr
  dj := fun b u e => by
    have h : b ≠ a := fun z => (S.dj b u e).2 (by rw [z]; exact get_mem ha)
    rw [upd_ne h]; exact S.dj b u e
  nd := S.nd
  len := by rw [List.length_set]; exact S.len
  thr := S.thr
  cell := fun j c' b hj hb => by
    by_cases h : k = j
    · subst h
      rw [List.getElem?_set_self (by rw [← S.len]; exact (List.getElem?_eq_some_iff.mp ha).1)] at hj
      cases hj
      trivial
    · rw [List.getElem?_set_ne h] at hj
      have hb' : b ≠ a := fun e => h (S.inj ha (e ▸ hb))
      exact (S.cell j c' b hj hb).stay (Le.upd hf) (List.prefix_refl _) (fun f => by rw [upd_ne hb']; exact f) fun u e => e
end

/-- the slots -/
structure EnvOk (K : Frag) (F : Hp) (al : List Addr) (rh : DEnv) (sg : St) : Prop where
  len : rh.length = sg.length
  at_ : ∀ (i : Nat) (d : D), rh[i]? = some (some d) → ∃ v, sg[i]? = some (some v) ∧ RepV K F al d v
theorem EnvOk.mono {K : Frag} {F F' : Hp} {al al' : List Addr} {rh : DEnv} {sg : St} (h : EnvOk K F al rh sg) (e : Le F F') (p : al <+: al') : EnvOk K F' al' rh sg :=
  ⟨h.len, fun i d q => let ⟨v, q1, q2⟩ := h.at_ i d q; ⟨v, q1, q2.mono e p⟩⟩
theorem EnvOk.set {K : Frag} {F : Hp} {al : List Addr} {rh : DEnv} {sg : St} {d : D} {v : V} (h : EnvOk K F al rh sg) (i : Nat) (r : RepV K F al d v) : EnvOk K F al (rh.set i (some d)) (sg.set i (some v)) := by
  refine ⟨by rw [List.length_set, List.length_set]; exact h.len, fun j e q => ?_⟩
  by_cases hj : i = j
  · subst hj
    have hl : i < rh.length := by
      have := (List.getElem?_eq_some_iff.mp q).1
      rwa [List.length_set] at this
    rw [List.getElem?_set_self hl] at q
    cases q
    exact ⟨v, List.getElem?_set_self (by rw [← h.len]; exact hl), r⟩
  · rw [List.getElem?_set_ne hj] at q ⊢
    exact h.at_ j e q
/-- slots forgotten -/
theorem EnvOk.drop {K : Frag} {F : Hp} {al : List Addr} {rh rh' : DEnv} {sg : St} (h : EnvOk K F al rh sg) (l : rh'.length = rh.length) (w : ∀ (i : Nat) (d : D), rh'[i]? = some (some d) → rh[i]? = some (some d)) : EnvOk K F al rh' sg :=
  ⟨l.trans h.len, fun i d q => h.at_ i d (w i d q)⟩

/-! ### outcomes -/
inductive Out (β : Type) where
  | ok (b : β) (G : GH)
  | exn (c : Str) (G : GH)
  | stuck
abbrev M (β : Type) := DEnv → GH → Out β
def M.pure {β : Type} (b : β) : M β := fun _ G => .ok b G
def Out.bind {β γ : Type} (o : Out β) (k : β → GH → Out γ) : Out γ := match o with
  | .ok b G => k b G
  | .exn c G => .exn c G
  | .stuck => .stuck
def M.bind {β γ : Type} (m : M β) (k : β → M γ) : M γ := fun rh G => (m rh G).bind fun b G' => k b rh G'
instance : Monad M := { pure := M.pure, bind := M.bind }

/-- what follows when the frozen part and the places may have grown -/
structure Ext (F : Hp) (al : List Addr) (F' : Hp) (al' : List Addr) : Prop where
  le : Le F F'
  pre : al <+: al'
theorem Ext.refl (F : Hp) (al : List Addr) : Ext F al F al := ⟨Le.refl _, List.prefix_refl _⟩
theorem Ext.trans {F F' F'' : Hp} {al al' al'' : List Addr} (a : Ext F al F' al') (b : Ext F' al' F'' al'') : Ext F al F'' al'' := ⟨a.le.trans b.le, a.pre.trans b.pre⟩
theorem RepV.ext {K : Frag} {F F' : Hp} {al al' : List Addr} {d : D} {v : V} (h : RepV K F al d v) (e : Ext F al F' al') : RepV K F' al' d v := h.mono e.le e.pre
theorem RepL.ext {K : Frag} {F F' : Hp} {al al' : List Addr} {d : List D} {v : List V} (h : RepL K F al d v) (e : Ext F al F' al') : RepL K F' al' d v := h.mono e.le e.pre
theorem EnvOk.ext {K : Frag} {F F' : Hp} {al al' : List Addr} {rh : DEnv} {sg : St} (h : EnvOk K F al rh sg) (e : Ext F al F' al') : EnvOk K F' al' rh sg := h.mono e.le e.pre

abbrev WX := Value → Option Addr → St → Hp → Prop
/-- what is owed of an outcome: values by R -/
def Obl {β γ : Type} (K : Frag) (mg : MG) (P : Hp) (R : Hp → List Addr → β → γ → Prop) (W : WX) (sg : St) (F : Hp) (al : List Addr) (o : Out β) (Q : γ → Hp → Prop) : Prop := match o with
  | .ok b G' => ∀ F' al' H' v, Ext F al F' al' → Sim K mg P F' al' H' G' → R F' al' b v → Q v H'
  | .exn c G' => ∀ F' al' H' C, Ext F al F' al' → Sim K mg P F' al' H' G' → mg c = some (.ref C) → W (.ref C) none sg H'
  | .stuck => False
theorem Obl.ext {β γ : Type} {K : Frag} {mg : MG} {P : Hp} {R : Hp → List Addr → β → γ → Prop} {W : WX} {sg : St} {F F' : Hp} {al al' : List Addr} {o : Out β} {Q : γ → Hp → Prop} (h : Obl K mg P R W sg F al o Q) (e : Ext F al F' al') : Obl K mg P R W sg F' al' o Q := by
  cases o with
  | ok b G => exact fun F'' al'' H' v e' => h F'' al'' H' v (e.trans e')
  | exn c G => exact fun F'' al'' H' C e' => h F'' al'' H' C (e.trans e')
  | stuck => exact h

/-- the state at hand -/
structure Rel (K : Frag) (mg : MG) (P F : Hp) (al : List Addr) (G : GH) (rh : DEnv) (sg : St) (H : Hp) : Prop where
  sim : Sim K mg P F al H G
  env : EnvOk K F al rh sg

/-- an expression's reading by what it is worth -/
def tV (K : Frag) (mg : MG) (W : WX) (m : M D) : TE := fun sg H Q => ∃ P F al G rh, Rel K mg P F al G rh sg H ∧ Obl K mg P (RepV K) W sg F al (m rh G) Q
def tA (K : Frag) (mg : MG) (W : WX) (m : M (List D)) : TA := fun sg H Q => ∃ P F al G rh, Rel K mg P F al G rh sg H ∧ Obl K mg P (RepL K) W sg F al (m rh G) Q
def IsB (_ : Hp) (_ : List Addr) (b : Bool) (c : Bool) : Prop := c = b
def tT (K : Frag) (mg : MG) (W : WX) (m : M Bool) : TT := fun sg H Q => ∃ P F al G rh, Rel K mg P F al G rh sg H ∧ Obl K mg P IsB W sg F al (m rh G) Q

theorem Obl.imp {β γ : Type} {K : Frag} {mg : MG} {P : Hp} {R : Hp → List Addr → β → γ → Prop} {W : WX} {sg : St} {F : Hp} {al : List Addr} {o : Out β} {Q Q' : γ → Hp → Prop} (h : Obl K mg P R W sg F al o Q) (i : ∀ v H, Q v H → Q' v H) : Obl K mg P R W sg F al o Q' := by
  cases o with
  | ok b G => exact fun F' al' H' v e S r => i _ _ (h F' al' H' v e S r)
  | exn c G => exact h
  | stuck => exact h
theorem obl_ok {β γ : Type} {K : Frag} {mg : MG} {P : Hp} {R : Hp → List Addr → β → γ → Prop} {W : WX} {sg : St} {F : Hp} {al : List Addr} {G : GH} {H : Hp} {b : β} {v : γ} {Q : γ → Hp → Prop}
    (h : Obl K mg P R W sg F al (.ok b G) Q) (S : Sim K mg P F al H G) (r : R F al b v) : Q v H := h F al H v (Ext.refl _ _) S r
end VL

/-! Q1: expressions by what they are worth. -/
namespace VL
open PySem L2

abbrev VE (X : Cx) (W : WX) (e : Expr) (m : M D) : Prop := PE X e (tV X.K X.mg W m)
abbrev VT (X : Cx) (W : WX) (e : Expr) (m : M Bool) : Prop := PT X e (tT X.K X.mg W m)
abbrev VA (X : Cx) (W : WX) (es : List Expr) (m : M (List D)) : Prop := PA X es (tA X.K X.mg W m)

theorem pe_imp {X : Cx} {e : Expr} {t t' : TE} (h : PE X e t) (i : ∀ sg H Q, t' sg H Q → t sg H Q) : PE X e t' := ⟨fun pins s sg H Q I q => h.run pins s sg H Q I (i _ _ _ q)⟩
theorem pt_imp {X : Cx} {e : Expr} {t t' : TT} (h : PT X e t) (i : ∀ sg H Q, t' sg H Q → t sg H Q) : PT X e t' := ⟨fun pins s sg H Q I q => h.run pins s sg H Q I (i _ _ _ q)⟩
theorem pw_imp {X : Cx} {e : Expr} {t t' : TT} (h : PW X e t) (i : ∀ sg H Q, t' sg H Q → t sg H Q) : PW X e t' := ⟨fun wh pins s sg H Q I q => h.run wh pins s sg H Q I (i _ _ _ q)⟩
theorem pa_imp {X : Cx} {e : List Expr} {t t' : TA} (h : PA X e t) (i : ∀ sg H Q, t' sg H Q → t sg H Q) : PA X e t' := ⟨fun pos pins s sg H Q I q => h.run pos pins s sg H Q I (i _ _ _ q)⟩

/-! ### values, names -/
def mC (d : D) : M D := fun _ G => .ok d G
def mVar (i : Nat) : M D := fun rh G => match rh[i]? with
  | some (some d) => .ok d G
  | _ => .stuck
def b1 {β γ : Type} (o : β → GH → Out γ) (ma : M β) : M γ := fun rh G => (ma rh G).bind o
def b2 (o : D → D → GH → Out D) (ma mb : M D) : M D := fun rh G => (ma rh G).bind fun x G1 => (mb rh G1).bind fun y G2 => o x y G2

section
variable {X : Cx} {W : WX} {a b c : Expr} {ma mb mc : M D} {pos : Pos}

/-- THE STEP, for any continuation -/
theorem step {β β' γ γ' : Type} {K : Frag} {mg : MG} {P : Hp} {R : Hp → List Addr → β → γ → Prop} {R' : Hp → List Addr → β' → γ' → Prop} {sg : St} {F : Hp} {al : List Addr} {rh : DEnv} {o : Out β} {k : β → GH → Out β'} {Q : γ' → Hp → Prop}
    (env : EnvOk K F al rh sg) (h : Obl K mg P R' W sg F al (o.bind k) Q) :
    Obl K mg P R W sg F al o (fun v H1 => ∃ F' al' G' b, Ext F al F' al' ∧ Rel K mg P F' al' G' rh sg H1 ∧ R F' al' b v ∧ Obl K mg P R' W sg F' al' (k b G') Q) := by
  cases o with
  | ok b G' => exact fun F' al' H' v x S r => ⟨F', al', G', b, x, ⟨S, env.ext x⟩, r, Obl.ext (show Obl K mg P R' W sg F al (k b G') Q from h) x⟩
  | exn c G' => exact h
  | stuck => exact h

theorem c_imp {d : D} {v : V} (hr : ∀ F al, RepV X.K F al d v) : ∀ sg H Q, tV X.K X.mg W (mC d) sg H Q → tC v sg H Q := fun _ _ _ ⟨_, F, al, _, _, R, h⟩ => obl_ok h R.sim (hr F al)
theorem ve_int {i : Int} {j} : VE X W (.Constant (.int i) j pos) (mC (.int i)) := pe_imp pe_int (c_imp fun _ _ => rfl)
theorem ve_bl {i : Bool} {j} : VE X W (.Constant (.bool i) j pos) (mC (.bl i)) := pe_imp pe_bl (c_imp fun _ _ => rfl)
theorem ve_non {j} : VE X W (.Constant .none j pos) (mC .non) := pe_imp pe_non (c_imp fun _ _ => rfl)
theorem ve_str {x : Str} {j} : VE X W (.Constant (.str x) j pos) (mC (.str x)) := pe_imp pe_str (c_imp fun _ _ => rfl)
theorem ve_var (i : Nat) {x : Str} (hN : X.N[i]? = some x := by rfl) (hv : Vis X.env.scope x := by first | exact Or.inl rfl | exact Or.inr (Or.inl rfl) | exact Or.inr (Or.inr rfl)) (hd : (x == ("__debug__" : Str)) = false := by decide)
    (hcd : (x == ("__classdict__" : Str)) = false := by decide) : VE X W (.Name x pos) (mVar i) := by
  refine pe_imp (pe_var hN hv hd hcd) fun sg H Q ⟨P, F, al, G, rh, R, h⟩ => ?_
  unfold mVar at h
  split at h
  · rename_i d e
    obtain ⟨v, h1, h2⟩ := R.env.at_ i d e
    exact ⟨v, h1, obl_ok h R.sim h2⟩
  · exact h.elim
/-- a constant of the module -/
theorem ve_glob {x : Str} {v : V} {u : Value} {d : D} (hg : Gl X x) (hm : X.mg x = some u) (r : RelV v u) (hr : ∀ F al, RepV X.K F al d v) (hd : (x == ("__debug__" : Str)) = false := by decide) : VE X W (.Name x pos) (mC d) := pe_imp (pe_glob hg hm r hd) (c_imp hr)

/-! ### operators -/
/-- an operator on data goes with its rule on values -/
def Op2 (K : Frag) (mg : MG) (r : R2) (o : D → D → GH → Out D) : Prop := ∀ (W : WX) (sg : St) (P F : Hp) (al : List Addr) (G : GH) (H : Hp) (d e : D) (x y : V) (Q : VK), Sim K mg P F al H G → RepV K F al d x → RepV K F al e y → Obl K mg P (RepV K) W sg F al (o d e G) Q → r x y H Q
theorem b2_imp {r : R2} {o : D → D → GH → Out D} (so : Op2 X.K X.mg r o) : ∀ sg H Q, tV X.K X.mg W (b2 o ma mb) sg H Q → tOp r (tV X.K X.mg W ma) (tV X.K X.mg W mb) sg H Q := fun sg H Q ⟨P, F, al, G, rh, R, h⟩ =>
  ⟨P, F, al, G, rh, R, (step R.env h).imp fun _ _ ⟨F1, al1, G1, d, _, R1, r1, h1⟩ => ⟨P, F1, al1, G1, rh, R1, (step R1.env h1).imp fun _ _ ⟨F2, al2, G2, e, x2, R2, r2, h2⟩ => so W sg P F2 al2 G2 _ d e _ _ Q R2.sim (r1.ext x2) r2 h2⟩⟩
theorem ve_op {op : Operator} {r : R2} {o : D → D → GH → Out D} (ho : OpR X (binaryOp op) r) (so : Op2 X.K X.mg r o) (ha : VE X W a ma) (hb : VE X W b mb) : VE X W (.BinOp a op b pos) (b2 o ma mb) := pe_imp (pe_op ho ha hb) (b2_imp so)
theorem ve_cmp {op : CmpOp} {r : R2} {o : D → D → GH → Out D} (ho : OpR X (compareOp op) r) (so : Op2 X.K X.mg r o) (ha : VE X W a ma) (hb : VE X W b mb) (hm : behindInMarks op b = false) : VE X W (.Compare a [op] [b] pos) (b2 o ma mb) := pe_imp (pe_cmpR ho ha hb hm) (b2_imp so)
theorem ve_ix {r : R2} {o : D → D → GH → Out D} (ho : IxR X r) (so : Op2 X.K X.mg r o) (ha : VE X W a ma) (hb : VE X W b mb) (hp : PlainIx b) : VE X W (.Subscript a b pos) (b2 o ma mb) := pe_imp (pe_ix ho ha hb hp) (b2_imp so)

/-- a scalar comes out -/
theorem op2_sc {K : Frag} {mg : MG} {r : R2} {o : D → D → GH → Out D}
    (h : ∀ (P F : Hp) (al : List Addr) (G : GH) (H : Hp) (d e : D) (x y : V), Sim K mg P F al H G → RepV K F al d x → RepV K F al e y → (∃ z v, o d e G = .ok z G ∧ RepV K F al z v ∧ ∀ Q : VK, Q v H → r x y H Q) ∨ o d e G = .stuck) : Op2 K mg r o := by
  intro W sg P F al G H d e x y Q S r1 r2 q
  rcases h P F al G H d e x y S r1 r2 with ⟨z, v, e1, rv, k⟩ | e1
  · rw [e1] at q
    exact k Q (obl_ok q S rv)
  · rw [e1] at q
    exact q.elim

/-- two ints -/
def oI (g : Int → Int → D) (C : Int → Int → Bool := fun _ _ => true) : D → D → GH → Out D := fun d e G => match d, e with
  | .int i, .int j => if C i j = true then .ok (g i j) G else .stuck
  | _, _ => .stuck
theorem op2_I {K : Frag} {mg : MG} {C : Int → Int → Prop} {Cb : Int → Int → Bool} {g : Int → Int → V} {gd : Int → Int → D} (hc : ∀ i j, Cb i j = true → C i j) (hg : ∀ F al i j, RepV K F al (gd i j) (g i j)) : Op2 K mg (rI C g) (oI gd Cb) := by
  refine op2_sc fun P F al G H d e x y S r1 r2 => ?_
  unfold oI
  split
  · rename_i i j
    unfold RepV at r1 r2
    by_cases q : Cb i j = true
    · rw [if_pos q]
      exact .inl ⟨_, _, rfl, hg F al i j, fun Q h => ⟨i, j, r1, r2, hc i j q, h⟩⟩
    · rw [if_neg q]
      exact .inr rfl
  · exact .inr rfl
theorem op2_I0 {K : Frag} {mg : MG} {g : Int → Int → V} {gd : Int → Int → D} (hg : ∀ F al i j, RepV K F al (gd i j) (g i j)) : Op2 K mg (rI0 g) (oI gd) := by
  refine op2_sc fun P F al G H d e x y S r1 r2 => ?_
  unfold oI
  split
  · rename_i i j
    unfold RepV at r1 r2
    rw [if_pos rfl]
    exact .inl ⟨_, _, rfl, hg F al i j, fun Q h => ⟨i, j, r1, r2, h⟩⟩
  · exact .inr rfl

/-! ### lists -/
def lstOf (G : GH) : D → Option (List D)
  | .lst xs => some xs
  | .ro xs => some xs
  | .loc k => match G[k]? with
    | some (.lst xs) => some xs
    | _ => none
  | _ => none
theorem lst_at {K : Frag} {mg : MG} {P F : Hp} {al : List Addr} {H : Hp} {G : GH} {d : D} {v : V} {xs : List D} (S : Sim K mg P F al H G) (r : RepV K F al d v) (e : lstOf G d = some xs) : ∃ a vs, v = .ref a ∧ SqL K H a vs ∧ RepL K F al xs vs := by
  unfold lstOf at e
  split at e
  · cases e
    unfold RepV at r
    obtain ⟨a, vs, h1, h2, h3⟩ := r
    exact ⟨a, vs, h1, SqL.of (S.sub _ _ h2), h3⟩
  · cases e
    unfold RepV at r
    obtain ⟨a, vs, h1, h2, h3⟩ := r
    exact ⟨a, vs, h1, sqL_mono S.sub h2, h3⟩
  · rename_i k
    split at e
    · rename_i ys q
      cases e
      unfold RepV at r
      obtain ⟨a, h1, h2⟩ := r
      obtain ⟨b, e1, _, vs, e2, e3⟩ := S.at q
      rw [h1] at e1
      cases e1
      exact ⟨a, vs, h2, SqL.of e2, e3⟩
    · cases e
  · cases e
/-- a list that stands in the heap by itself -/
def lstO (G : GH) : D → Option (List D)
  | .lst xs => some xs
  | .loc k => match G[k]? with
    | some (.lst xs) => some xs
    | _ => none
  | _ => none
theorem lstO_at {K : Frag} {mg : MG} {P F : Hp} {al : List Addr} {H : Hp} {G : GH} {d : D} {v : V} {xs : List D} (S : Sim K mg P F al H G) (r : RepV K F al d v) (e : lstO G d = some xs) : ∃ a vs, v = .ref a ∧ H a = some (.lst vs) ∧ RepL K F al xs vs := by
  unfold lstO at e
  split at e
  · cases e
    unfold RepV at r
    obtain ⟨a, vs, h1, h2, h3⟩ := r
    exact ⟨a, vs, h1, S.sub _ _ h2, h3⟩
  · rename_i k
    split at e
    · rename_i ys q
      cases e
      unfold RepV at r
      obtain ⟨a, h1, h2⟩ := r
      obtain ⟨b, e1, _, vs, e2, e3⟩ := S.at q
      rw [h1] at e1
      cases e1
      exact ⟨a, vs, h2, e2, e3⟩
    · cases e
  · cases e
def tupOf : D → Option (List D)
  | .tup xs => some xs
  | _ => none
theorem tup_at {K : Frag} {mg : MG} {P F : Hp} {al : List Addr} {H : Hp} {G : GH} {d : D} {v : V} {xs : List D} (S : Sim K mg P F al H G) (r : RepV K F al d v) (e : tupOf d = some xs) : ∃ a vs, v = .ref a ∧ H a = some (.tup vs) ∧ RepL K F al xs vs := by
  unfold tupOf at e
  split at e
  · cases e
    unfold RepV at r
    obtain ⟨a, vs, h1, h2, h3⟩ := r
    exact ⟨a, vs, h1, S.sub _ _ h2, h3⟩
  · cases e
/-- a new list: frozen, or a cell -/
def mk (cm : Bool) (ds : List D) (G : GH) : Out D := if cm = true then .ok (.loc G.length) (G ++ [.lst ds]) else .ok (.lst ds) G
theorem mk_ok {K : Frag} {mg : MG} {W : WX} {sg : St} {P F : Hp} {al : List Addr} {H : Hp} {G : GH} {cm : Bool} {ds : List D} {vs : List V} {Q : VK} {p : Addr} (S : Sim K mg P F al H G) (r : RepL K F al ds vs) (h : Obl K mg P (RepV K) W sg F al (mk cm ds G) Q) (hp : H p = none) :
    Q (.ref p) (upd H p (.lst vs)) := by
  unfold mk at h
  split at h
  · refine h F (al ++ [p]) _ _ ⟨Le.refl _, List.prefix_append _ _⟩ (S.newC hp ⟨S.freeF hp, vs, upd_same, r.mono (Le.refl _) (List.prefix_append _ _)⟩) ?_
    unfold RepV
    refine ⟨p, ?_, rfl⟩
    rw [← S.len, List.getElem?_append_right (Nat.le_refl _), Nat.sub_self]
    rfl
  · have lu : Le F (upd F p (.lst vs)) := Le.upd (S.freeF hp)
    refine h (upd F p (.lst vs)) al _ _ ⟨lu, List.prefix_refl _⟩ (S.newF hp _) ?_
    unfold RepV
    exact ⟨p, vs, rfl, upd_same, r.mono lu (List.prefix_refl _)⟩
/-- a new tuple -/
theorem tup_ok {K : Frag} {mg : MG} {W : WX} {sg : St} {P F : Hp} {al : List Addr} {H : Hp} {G : GH} {ds : List D} {vs : List V} {Q : VK} {p : Addr} (S : Sim K mg P F al H G) (r : RepL K F al ds vs) (h : Obl K mg P (RepV K) W sg F al (.ok (.tup ds) G) Q) (hp : H p = none) :
    Q (.ref p) (upd H p (.tup vs)) := by
  have lu : Le F (upd F p (.tup vs)) := Le.upd (S.freeF hp)
  refine h (upd F p (.tup vs)) al _ _ ⟨lu, List.prefix_refl _⟩ (S.newF hp _) ?_
  unfold RepV
  exact ⟨p, vs, rfl, upd_same, r.mono lu (List.prefix_refl _)⟩

/-! ### arguments, displays -/
def mNil : M (List D) := fun _ G => .ok [] G
def mCons (ma : M D) (mr : M (List D)) : M (List D) := fun rh G => (ma rh G).bind fun x G1 => (mr rh G1).bind fun xs G2 => .ok (x :: xs) G2
theorem va_nil : VA X W [] mNil := pa_imp pa_nil fun _ _ _ ⟨_, _, _, _, _, R, h⟩ => obl_ok h R.sim RepL.nil
theorem va_cons {es : List Expr} {mr : M (List D)} (ha : VE X W a ma) (hr : VA X W es mr) (hs : starEach (a :: es) X.env = (false, eval a X.env) :: starEach es X.env := by rfl) : VA X W (a :: es) (mCons ma mr) :=
  pa_imp (pa_cons ha hr hs) fun sg H Q ⟨P, F, al, G, rh, R, h⟩ => ⟨P, F, al, G, rh, R, (step R.env h).imp fun _ _ ⟨F1, al1, G1, d, _, R1, r1, h1⟩ => ⟨P, F1, al1, G1, rh, R1, (step (R := RepL X.K) R1.env h1).imp fun _ _ ⟨F2, al2, G2, e, x2, R2, r2, h2⟩ =>
    obl_ok h2 R2.sim (RepL.cons (r1.ext x2) r2)⟩⟩
def oMk (cm : Bool) (ds : List D) (G : GH) : Out D := if ds.length ≤ sizeLine then mk cm ds G else .stuck
def oTup (ds : List D) (G : GH) : Out D := if ds.length ≤ sizeLine then .ok (.tup ds) G else .stuck
theorem ve_lst (cm : Bool) {es : List Expr} {m : M (List D)} (h : VA X W es m) : VE X W (.List es pos) (b1 (oMk cm) m) :=
  pe_imp (pe_lst h) fun sg H Q ⟨P, F, al, G, rh, R, h⟩ => ⟨P, F, al, G, rh, R, (step R.env h).imp fun _ _ ⟨F1, al1, G1, d, _, R1, r1, h1⟩ => by
    unfold oMk at h1
    split at h1
    · rename_i hl
      exact ⟨by rw [← r1.len]; exact hl, fun p hp => mk_ok R1.sim r1 h1 hp⟩
    · exact h1.elim⟩
theorem ve_tup {es : List Expr} {x1} {m : M (List D)} (h : VA X W es m) : VE X W (.Tuple es x1 pos) (b1 oTup m) :=
  pe_imp (pe_tup h) fun sg H Q ⟨P, F, al, G, rh, R, h⟩ => ⟨P, F, al, G, rh, R, (step R.env h).imp fun _ _ ⟨F1, al1, G1, d, _, R1, r1, h1⟩ => by
    unfold oTup at h1
    split at h1
    · rename_i hl
      exact ⟨by rw [← r1.len]; exact hl, fun p hp => tup_ok R1.sim r1 h1 hp⟩
    · exact h1.elim⟩

/-! ### tests -/
def oB (d : D) (G : GH) : Out Bool := match d with
  | .bl b => .ok b G
  | _ => .stuck
def toB (m : M D) : M Bool := b1 oB m
theorem toB_imp {t : TE} (h : ∀ sg H Q, tV X.K X.mg W ma sg H Q → t sg H Q) : ∀ sg H Q, tT X.K X.mg W (toB ma) sg H Q → tTest t sg H Q := fun sg H Q ⟨P, F, al, G, rh, R, h1⟩ =>
  h _ _ _ ⟨P, F, al, G, rh, R, (step R.env h1).imp fun v H1 ⟨F1, al1, G1, d, _, R1, r1, h2⟩ => by
    unfold oB at h2
    split at h2
    · exact ⟨_, r1, obl_ok h2 R1.sim rfl⟩
    · exact h2.elim⟩
theorem vt_val (h : VE X W a ma) (he : ∀ whole, isTrue a X.env whole = (do let v ← whole; standAt a.pos; holding [v] (truthy v)) := by intro _; rfl) : VT X W a (toB ma) :=
  pt_imp (pt_val h he) (toB_imp fun _ _ _ q => q)
theorem vt_cmp {op : CmpOp} {r : R2} {o : D → D → GH → Out D} (ho : OpR X (compareOp op) r) (so : Op2 X.K X.mg r o) (ha : VE X W a ma) (hb : VE X W b mb) (hm : behindInMarks op b = false) : VT X W (.Compare a [op] [b] pos) (toB (b2 o ma mb)) :=
  pt_imp (pt_cmpR ho ha hb hm) (toB_imp (b2_imp so))
def mNot (m : M Bool) : M Bool := b1 (fun b G => .ok (!b) G) m
theorem vt_not {m : M Bool} (h : VT X W a m) : VT X W (.UnaryOp .Not a pos) (mNot m) := pt_imp (pt_not h) fun sg H Q ⟨P, F, al, G, rh, R, h1⟩ => ⟨P, F, al, G, rh, R, (step R.env h1).imp fun v H1 ⟨F1, al1, G1, d, _, R1, r1, h2⟩ => obl_ok h2 R1.sim (by cases r1; rfl)⟩
def mAnd (m n : M Bool) : M Bool := fun rh G => (m rh G).bind fun b G1 => if b = true then n rh G1 else .ok false G1
def mOr (m n : M Bool) : M Bool := fun rh G => (m rh G).bind fun b G1 => if b = true then .ok true G1 else n rh G1
abbrev VW (X : Cx) (W : WX) (e : Expr) (m : M Bool) : Prop := PW X e (tT X.K X.mg W m)
theorem vw_and1 {m : M Bool} (h : VT X W a m) : VW X W (.BoolOp .And [a] pos) m := pw_and1 h
theorem vw_or1 {m : M Bool} (h : VT X W a m) : VW X W (.BoolOp .Or [a] pos) m := pw_or1 h
theorem vw_and {rest : List Expr} {m n : M Bool} (h : VT X W a m) (k : VW X W (.BoolOp .And (b :: rest) pos) n) : VW X W (.BoolOp .And (a :: b :: rest) pos) (mAnd m n) :=
  pw_imp (pw_and h k) fun sg H Q ⟨P, F, al, G, rh, R, h1⟩ => ⟨P, F, al, G, rh, R, (step R.env h1).imp fun v H1 ⟨F1, al1, G1, d, _, R1, r1, h2⟩ => by
    cases r1
    by_cases q : v = true
    · rw [if_pos q] at h2 ⊢
      exact ⟨P, F1, al1, G1, rh, R1, h2⟩
    · rw [if_neg q] at h2 ⊢
      exact obl_ok h2 R1.sim rfl⟩
theorem vw_or {rest : List Expr} {m n : M Bool} (h : VT X W a m) (k : VW X W (.BoolOp .Or (b :: rest) pos) n) : VW X W (.BoolOp .Or (a :: b :: rest) pos) (mOr m n) :=
  pw_imp (pw_or h k) fun sg H Q ⟨P, F, al, G, rh, R, h1⟩ => ⟨P, F, al, G, rh, R, (step R.env h1).imp fun v H1 ⟨F1, al1, G1, d, _, R1, r1, h2⟩ => by
    cases r1
    by_cases q : v = true
    · rw [if_pos q] at h2 ⊢
      exact obl_ok h2 R1.sim rfl
    · rw [if_neg q] at h2 ⊢
      exact ⟨P, F1, al1, G1, rh, R1, h2⟩⟩
theorem vt_w {m : M Bool} (h : VW X W a m) : VT X W a m := h.pt

/-! ### and, or, not as values (truths) -/
def mAndV (ma mb : M D) : M D := fun rh G => (ma rh G).bind fun d G1 => match d with
  | .bl true => mb rh G1
  | .bl false => .ok (.bl false) G1
  | _ => .stuck
def mOrV (ma mb : M D) : M D := fun rh G => (ma rh G).bind fun d G1 => match d with
  | .bl true => .ok (.bl true) G1
  | .bl false => mb rh G1
  | _ => .stuck
def oNot (d : D) (G : GH) : Out D := match d with
  | .bl b => .ok (.bl (!b)) G
  | _ => .stuck
theorem ve_one {op} (h : VE X W a ma) : VE X W (.BoolOp op [a] pos) ma := pe_one h
theorem ve_and {rest : List Expr} (h : VE X W a ma) (k : VE X W (.BoolOp .And (b :: rest) pos) mb) : VE X W (.BoolOp .And (a :: b :: rest) pos) (mAndV ma mb) :=
  pe_imp (pe_and h k) fun sg H Q ⟨P, F, al, G, rh, R, h1⟩ => ⟨P, F, al, G, rh, R, (step R.env h1).imp fun v H1 ⟨F1, al1, G1, d, _, R1, r1, h2⟩ => by
    split at h2
    · exact ⟨true, r1, by rw [if_pos rfl]; exact ⟨P, F1, al1, G1, rh, R1, h2⟩⟩
    · exact ⟨false, r1, by rw [if_neg Bool.false_ne_true]; exact obl_ok h2 R1.sim rfl⟩
    · exact h2.elim⟩
theorem ve_or {rest : List Expr} (h : VE X W a ma) (k : VE X W (.BoolOp .Or (b :: rest) pos) mb) : VE X W (.BoolOp .Or (a :: b :: rest) pos) (mOrV ma mb) :=
  pe_imp (pe_or h k) fun sg H Q ⟨P, F, al, G, rh, R, h1⟩ => ⟨P, F, al, G, rh, R, (step R.env h1).imp fun v H1 ⟨F1, al1, G1, d, _, R1, r1, h2⟩ => by
    split at h2
    · exact ⟨true, r1, by rw [if_pos rfl]; exact obl_ok h2 R1.sim rfl⟩
    · exact ⟨false, r1, by rw [if_neg Bool.false_ne_true]; exact ⟨P, F1, al1, G1, rh, R1, h2⟩⟩
    · exact h2.elim⟩
theorem ve_not (h : VE X W a ma) : VE X W (.UnaryOp .Not a pos) (b1 oNot ma) :=
  pe_imp (pe_not h) fun sg H Q ⟨P, F, al, G, rh, R, h1⟩ => ⟨P, F, al, G, rh, R, (step R.env h1).imp fun v H1 ⟨F1, al1, G1, d, _, R1, r1, h2⟩ => by
    unfold oNot at h2
    split at h2
    · exact ⟨_, r1, obl_ok h2 R1.sim rfl⟩
    · exact h2.elim⟩
def mIf {β : Type} (c : M Bool) (m n : M β) : M β := fun rh G => (c rh G).bind fun b G1 => if b = true then m rh G1 else n rh G1
theorem ve_ifExp {m : M Bool} (h : VT X W c m) (ha : VE X W a ma) (hb : VE X W b mb) : VE X W (.IfExp c a b pos) (mIf m ma mb) :=
  pe_imp (pe_ifExp h ha hb) fun sg H Q ⟨P, F, al, G, rh, R, h1⟩ => ⟨P, F, al, G, rh, R, (step R.env h1).imp fun v H1 ⟨F1, al1, G1, d, _, R1, r1, h2⟩ => by
    cases r1
    by_cases q : v = true
    · rw [if_pos q] at h2 ⊢
      exact ⟨P, F1, al1, G1, rh, R1, h2⟩
    · rw [if_neg q] at h2 ⊢
      exact ⟨P, F1, al1, G1, rh, R1, h2⟩⟩

/-! ### chains -/
def mChain (o o' : D → D → GH → Out D) (ma mb mc : M D) : M D := fun rh G => (ma rh G).bind fun x G1 => (mb rh G1).bind fun y G2 => (o x y G2).bind fun z G3 => match z with
  | .bl true => (mc rh G3).bind fun w G4 => o' y w G4
  | .bl false => .ok (.bl false) G3
  | _ => .stuck
theorem chain_imp {r r' : R2} {o o' : D → D → GH → Out D} (so : Op2 X.K X.mg r o) (so' : Op2 X.K X.mg r' o') : ∀ sg H Q, tV X.K X.mg W (mChain o o' ma mb mc) sg H Q → tChain r r' (tV X.K X.mg W ma) (tV X.K X.mg W mb) (tV X.K X.mg W mc) sg H Q := fun sg H Q ⟨P, F, al, G, rh, R, h⟩ =>
  ⟨P, F, al, G, rh, R, (step R.env h).imp fun _ _ ⟨F1, al1, G1, d, _, R1, r1, h1⟩ => ⟨P, F1, al1, G1, rh, R1, (step R1.env h1).imp fun _ _ ⟨F2, al2, G2, e, x2, R2, r2, h2⟩ =>
    so W sg P F2 al2 G2 _ d e _ _ _ R2.sim (r1.ext x2) r2 ((step (R := RepV X.K) R2.env h2).imp fun z H3 ⟨F3, al3, G3, u, x3, R3, r3, h3⟩ => by
      split at h3
      · refine ⟨true, r3, ?_⟩
        rw [if_pos rfl]
        exact ⟨P, F3, al3, G3, rh, R3, (step R3.env h3).imp fun _ _ ⟨F4, al4, G4, w', x4, R4, r4, h4⟩ => so' W sg P F4 al4 G4 _ e w' _ _ Q R4.sim ((r2.ext x3).ext x4) r4 h4⟩
      · refine ⟨false, r3, ?_⟩
        rw [if_neg Bool.false_ne_true]
        exact obl_ok h3 R3.sim rfl
      · exact h3.elim)⟩⟩
theorem ve_chain {op op' : CmpOp} {r r' : R2} {o o' : D → D → GH → Out D} (ho : OpR X (compareOp op) r) (ho' : OpR X (compareOp op') r') (so : Op2 X.K X.mg r o) (so' : Op2 X.K X.mg r' o') (ha : VE X W a ma) (hb : VE X W b mb) (hc : VE X W c mc)
    (hm : lastMarks [op, op'] [b, c] = false := by rfl) : VE X W (.Compare a [op, op'] [b, c] pos) (mChain o o' ma mb mc) := pe_imp (pe_chain ho ho' ha hb hc hm) (chain_imp so so')
theorem vt_chain {op op' : CmpOp} {r r' : R2} {o o' : D → D → GH → Out D} (ho : OpR X (compareOp op) r) (ho' : OpR X (compareOp op') r') (so : Op2 X.K X.mg r o) (so' : Op2 X.K X.mg r' o') (ha : VE X W a ma) (hb : VE X W b mb) (hc : VE X W c mc)
    (hm : lastMarks [op, op'] [b, c] = false := by rfl) : VT X W (.Compare a [op, op'] [b, c] pos) (toB (mChain o o' ma mb mc)) := pt_imp (pt_chain ho ho' ha hb hc hm) (toB_imp (chain_imp so so'))
end
end VL

/-! Q2: the operators and built-in calls on data. -/
namespace VL
open PySem L2

section
variable {K : Frag} {mg : MG}
/-! ### + * -/
def oAdd (cm : Bool) (d e : D) (G : GH) : Out D := match d, e with
  | .int i, .int j => .ok (.int (i + j)) G
  | .str x, .str y => if x.length + y.length ≤ sizeLine then .ok (.str (x ++ y)) G else .stuck
  | d, e => match lstO G d, lstO G e with
    | some xs, some ys => if xs.length + ys.length ≤ sizeLine then mk cm (xs ++ ys) G else .stuck
    | _, _ => .stuck
abbrev rAddI : R2 := rI0 fun i j => .int (i + j)
abbrev rAddS : R2 := fun x y H Q => ∃ i j, x = .str i ∧ y = .str j ∧ i.length + j.length ≤ sizeLine ∧ Q (.str (i ++ j)) H
theorem s_add {X : Cx} : OpR X (binaryOp .Add) (fun x y H Q => rAddI x y H Q ∨ (rAddS x y H Q ∨ rCat x y H Q)) := op_add.or (op_add_str.or op_cat)
theorem o_add (cm : Bool) : Op2 K mg (fun x y H Q => rAddI x y H Q ∨ (rAddS x y H Q ∨ rCat x y H Q)) (oAdd cm) := by
  intro W sg P F al G H d e x y Q S r1 r2 q
  unfold oAdd at q
  split at q
  · unfold RepV at r1 r2
    exact .inl ⟨_, _, r1, r2, obl_ok q S rfl⟩
  · split at q
    · rename_i hl
      unfold RepV at r1 r2
      exact .inr (.inl ⟨_, _, r1, r2, hl, obl_ok q S rfl⟩)
    · exact q.elim
  · split at q
    · rename_i xs ys e1 e2
      split at q
      · rename_i hl
        obtain ⟨a, vs, h1, h2, h3⟩ := lstO_at S r1 e1
        obtain ⟨b, us, k1, k2, k3⟩ := lstO_at S r2 e2
        exact .inr (.inr ⟨a, b, vs, us, h1, k1, h2, k2, by rw [← h3.len, ← k3.len]; exact hl, fun p hp => mk_ok S (RepL.append h3 k3) q hp⟩)
      · exact q.elim
    · exact q.elim

theorem RepL.rep {F : Hp} {al : List Addr} {ds : List D} {vs : List V} (h : RepL K F al ds vs) : ∀ n : Nat, RepL K F al (List.replicate n ds).flatten (List.replicate n vs).flatten
  | 0 => RepL.nil
  | n + 1 => by
    rw [List.replicate_succ, List.replicate_succ, List.flatten_cons, List.flatten_cons]
    exact RepL.append h (RepL.rep h n)
def small64 (i : Int) : Bool := decide (-(2 ^ 64) < i) && decide (i < 2 ^ 64)
def oMul (cm : Bool) (d e : D) (G : GH) : Out D := match d, e with
  | .int i, .int j => if (small64 i || small64 j) = true then .ok (.int (i * j)) G else .stuck
  | d, .int k => match lstO G d with
    | some xs => if -(2 ^ 63) ≤ k ∧ k < 2 ^ 63 ∧ xs.length * k.toNat ≤ sizeLine then mk cm (List.replicate k.toNat xs).flatten G else .stuck
    | _ => .stuck
  | _, _ => .stuck
abbrev rMulI : R2 := rI CMul fun i j => .int (i * j)
theorem s_mul {X : Cx} : OpR X (binaryOp .Mult) (fun x y H Q => rMulI x y H Q ∨ rRep x y H Q) := op_mul.or op_rep
theorem small64_ok {i : Int} (h : small64 i = true) : -(2 ^ 64) < i ∧ i < 2 ^ 64 := by
  unfold small64 at h
  rw [Bool.and_eq_true] at h
  exact ⟨of_decide_eq_true h.1, of_decide_eq_true h.2⟩
theorem o_mul (cm : Bool) : Op2 K mg (fun x y H Q => rMulI x y H Q ∨ rRep x y H Q) (oMul cm) := by
  intro W sg P F al G H d e x y Q S r1 r2 q
  unfold oMul at q
  split at q
  · split at q
    · rename_i hc
      rw [Bool.or_eq_true] at hc
      unfold RepV at r1 r2
      exact .inl ⟨_, _, r1, r2, hc.imp small64_ok small64_ok, obl_ok q S rfl⟩
    · exact q.elim
  · split at q
    · rename_i xs e1
      split at q
      · rename_i hl
        obtain ⟨a, vs, h1, h2, h3⟩ := lstO_at S r1 e1
        unfold RepV at r2
        exact .inr ⟨a, _, vs, h1, r2, h2, hl.1, hl.2.1, by rw [← h3.len]; exact hl.2.2, fun p hp => mk_ok S (RepL.rep h3 _) q hp⟩
      · exact q.elim
    · exact q.elim
  · exact q.elim
abbrev oSub : D → D → GH → Out D := oI fun i j => .int (i - j)
theorem o_sub : Op2 K mg (rI0 fun i j => V.int (i - j)) oSub := op2_I0 fun _ _ _ _ => rfl
def cDiv (_ j : Int) : Bool := decide (0 < j) && decide (j.natAbs < 2 ^ 512)
theorem cDiv_ok {i j : Int} (h : cDiv i j = true) : CDivW i j := by
  unfold cDiv at h
  rw [Bool.and_eq_true] at h
  exact wide_div (b := 512) (of_decide_eq_true h.1) (of_decide_eq_true h.2) (by decide) (by decide)
abbrev oDiv : D → D → GH → Out D := oI (fun i j => .int (i / j)) cDiv
theorem o_div : Op2 K mg (rI CDivW fun i j => V.int (i / j)) oDiv := op2_I (fun _ _ => cDiv_ok) fun _ _ _ _ => rfl
abbrev oMod : D → D → GH → Out D := oI (fun i j => .int (i % j)) fun _ j => decide (0 < j)
theorem o_mod : Op2 K mg (rI (fun _ j => 0 < j) fun i j => V.int (i % j)) oMod := op2_I (fun _ _ h => of_decide_eq_true h) fun _ _ _ _ => rfl
def cPow (i j : Int) : Bool := decide (0 ≤ j) && decide (j ≤ 1000000) && small64 i
abbrev oPow : D → D → GH → Out D := oI (fun i j => .int (i ^ j.toNat)) cPow
abbrev oShl : D → D → GH → Out D := oI (fun i j => .int (i * 2 ^ j.toNat)) cPow
abbrev oShr : D → D → GH → Out D := oI (fun i j => .int (i / 2 ^ j.toNat)) fun _ j => decide (0 ≤ j)
abbrev oAnd : D → D → GH → Out D := oI fun i j => .int (Builtin.bitAnd i j)
abbrev oOr : D → D → GH → Out D := oI fun i j => .int (Builtin.bitOr i j)
/-! ### comparisons of ints -/
abbrev oLt : D → D → GH → Out D := oI fun i j => .bl (decide (i < j))
theorem o_lt : Op2 K mg (rI0 fun i j => V.bl (decide (i < j))) oLt := op2_I0 fun _ _ _ _ => rfl
abbrev oLe : D → D → GH → Out D := oI fun i j => .bl (decide (i ≤ j))
theorem o_le : Op2 K mg (rI0 fun i j => V.bl (decide (i ≤ j))) oLe := op2_I0 fun _ _ _ _ => rfl
abbrev oGt : D → D → GH → Out D := oI fun i j => .bl (decide (j < i))
theorem o_gt : Op2 K mg (rI0 fun i j => V.bl (decide (j < i))) oGt := op2_I0 fun _ _ _ _ => rfl
abbrev oGe : D → D → GH → Out D := oI fun i j => .bl (decide (j ≤ i))
theorem o_ge : Op2 K mg (rI0 fun i j => V.bl (decide (j ≤ i))) oGe := op2_I0 fun _ _ _ _ => rfl

/-! ### is None, is True -/
def isNonD : D → Bool
  | .non => true
  | _ => false
theorem non_iff {F : Hp} {al : List Addr} {d : D} {x : V} (r : RepV K F al d x) : decide (x = .non) = isNonD d := by
  cases d with
  | non => unfold RepV at r; subst r; rfl
  | bl b => unfold RepV at r; subst r; rfl
  | int b => unfold RepV at r; subst r; rfl
  | str b => unfold RepV at r; subst r; rfl
  | lst b => unfold RepV at r; obtain ⟨_, _, rfl, _⟩ := r; rfl
  | tup b => unfold RepV at r; obtain ⟨_, _, rfl, _⟩ := r; rfl
  | ro b => unfold RepV at r; obtain ⟨_, _, rfl, _⟩ := r; rfl
  | dct0 => unfold RepV at r; obtain ⟨_, rfl, _⟩ := r; rfl
  | loc k => unfold RepV at r; obtain ⟨_, _, rfl⟩ := r; rfl
  | exc c => unfold RepV at r; obtain ⟨_, rfl, _⟩ := r; rfl
  | dkf kvs => unfold RepV at r; obtain ⟨_, _, rfl, _⟩ := r; rfl
def oIsN (d e : D) (G : GH) : Out D := match e with
  | .non => .ok (.bl (isNonD d)) G
  | _ => .stuck
def oNotN (d e : D) (G : GH) : Out D := match e with
  | .non => .ok (.bl (!isNonD d)) G
  | _ => .stuck
theorem o_isN : Op2 K mg (fun x y H Q => y = V.non ∧ Q (V.bl (decide (x = V.non))) H) oIsN := by
  refine op2_sc fun P F al G H d e x y S r1 r2 => ?_
  unfold oIsN
  split
  · unfold RepV at r2
    exact .inl ⟨_, V.bl (isNonD d), rfl, rfl, fun Q h => ⟨r2, by rw [non_iff r1]; exact h⟩⟩
  · exact .inr rfl
theorem o_notN : Op2 K mg (fun x y H Q => y = V.non ∧ Q (V.bl (!decide (x = V.non))) H) oNotN := by
  refine op2_sc fun P F al G H d e x y S r1 r2 => ?_
  unfold oNotN
  split
  · unfold RepV at r2
    exact .inl ⟨_, V.bl (!isNonD d), rfl, rfl, fun Q h => ⟨r2, by rw [non_iff r1]; exact h⟩⟩
  · exact .inr rfl
def oB2 (g : Bool → Bool → Bool) (d e : D) (G : GH) : Out D := match d, e with
  | .bl a, .bl b => .ok (.bl (g a b)) G
  | _, _ => .stuck
abbrev oIsB : D → D → GH → Out D := oB2 fun a b => decide (a = b)
abbrev oNotB : D → D → GH → Out D := oB2 fun a b => !decide (a = b)
/-! ### == by data -/
def mapO {β γ : Type} (f : β → Option γ) : List β → Option (List γ)
  | [] => some []
  | x :: xs => match f x with
    | some y => match mapO f xs with
      | some ys => some (y :: ys)
      | none => none
    | none => none
/-- the data that d is, through the cells (n: the depth that is looked into) -/
def toP (G : GH) : Nat → D → Option PyData
  | 0, _ => none
  | n + 1, d => match d with
    | .non => some .none
    | .bl b => some (.bool b)
    | .int i => some (.int i)
    | .str x => some (.str x)
    | .lst xs => (mapO (toP G n) xs).map .list
    | .ro xs => (mapO (toP G n) xs).map .list
    | .tup xs => (mapO (toP G n) xs).map .tuple
    | .loc k => match G[k]? with
      | some (.lst xs) => (mapO (toP G n) xs).map .list
      | _ => none
    | .dct0 => none
    | .exc _ => none
    | .dkf _ => none
theorem mapO_cons {β γ : Type} {f : β → Option γ} {x : β} {xs : List β} {zs : List γ} (h : mapO f (x :: xs) = some zs) : ∃ y ys, f x = some y ∧ mapO f xs = some ys ∧ zs = y :: ys := by
  unfold mapO at h
  split at h
  · rename_i y e
    split at h
    · rename_i ys e2
      cases h
      exact ⟨y, ys, e, e2, rfl⟩
    · cases h
  · cases h
theorem dpAll {F : Hp} {al : List Addr} {H : Hp} {f : D → Option PyData} (ih : ∀ d v p, RepV K F al d v → f d = some p → Dp K H v p) : ∀ {ds : List D} {vs : List V} {ps : List PyData}, RepL K F al ds vs → mapO f ds = some ps → DpAll K H vs ps
  | [], _, _, r, h => by
    unfold RepL at r
    unfold mapO at h
    cases h
    subst r
    exact .nil
  | d :: ds, _, _, r, h => by
    unfold RepL at r
    obtain ⟨v, vr, rfl, r1, r2⟩ := r
    obtain ⟨y, ys, e1, e2, rfl⟩ := mapO_cons h
    exact .cons (ih _ _ _ r1 e1) (dpAll ih r2 e2)
theorem toP_dp {P F : Hp} {al : List Addr} {H : Hp} {G : GH} (S : Sim K mg P F al H G) : ∀ (n : Nat) (d : D) (v : V) (p : PyData), RepV K F al d v → toP G n d = some p → Dp K H v p
  | 0, _, _, _, _, h => by cases h
  | n + 1, d, v, p, r, h => by
    unfold toP at h
    split at h
    · unfold RepV at r; subst r; cases h; exact .non
    · unfold RepV at r; subst r; cases h; exact .bl _
    · unfold RepV at r; subst r; cases h; exact .int _
    · unfold RepV at r; subst r; cases h; exact .str _
    · obtain ⟨ps, e, rfl⟩ := Option.map_eq_some_iff.mp h
      unfold RepV at r
      obtain ⟨a, vs, rfl, h2, h3⟩ := r
      exact .lst (SqL.of (S.sub _ _ h2)) (dpAll (toP_dp S n) h3 e)
    · obtain ⟨ps, e, rfl⟩ := Option.map_eq_some_iff.mp h
      unfold RepV at r
      obtain ⟨a, vs, rfl, h2, h3⟩ := r
      exact .lst (sqL_mono S.sub h2) (dpAll (toP_dp S n) h3 e)
    · obtain ⟨ps, e, rfl⟩ := Option.map_eq_some_iff.mp h
      unfold RepV at r
      obtain ⟨a, vs, rfl, h2, h3⟩ := r
      exact .tup (SqT.of (S.sub _ _ h2)) (dpAll (toP_dp S n) h3 e)
    · split at h
      · rename_i xs q
        obtain ⟨ps, e, rfl⟩ := Option.map_eq_some_iff.mp h
        unfold RepV at r
        obtain ⟨a, h1, rfl⟩ := r
        obtain ⟨b, e1, _, vs, e2, e3⟩ := S.at q
        rw [h1] at e1
        cases e1
        exact .lst (SqL.of e2) (dpAll (toP_dp S n) e3 e)
      · cases h
    · cases h
    · cases h
    · cases h
def shp (p : PyData) : Bool := SeqAt.shaped p
def oEq (d e : D) (G : GH) : Out D := match d, e with
  | .int i, .int j => .ok (.bl (decide (i = j))) G
  | .bl i, .bl j => .ok (.bl (decide (i = j))) G
  | .str i, .str j => .ok (.bl (decide (i = j))) G
  | d, e => match toP G 16 d, toP G 16 e with
    | some p, some q => if (SeqAt.shaped p && SeqAt.shaped q) = true then .ok (.bl (PyData.eqv p q)) G else .stuck
    | _, _ => .stuck
/-- .. by its data, or lists of other lengths -/
def oNe (d e : D) (G : GH) : Out D := match oEq d e G with
  | .stuck => match lstOf G d, lstOf G e with
    | some xs, some ys => if xs.length = ys.length then .stuck else .ok (.bl true) G
    | _, _ => .stuck
  | o => o.bind oNot
/-- lists of other lengths are unlike -/
def rNeLen (K : Frag) : R2 := fun x y H Q => ∃ (a b : Addr) (xs ys : List V), x = .ref a ∧ y = .ref b ∧ SqL K H a xs ∧ SqL K H b ys ∧ xs.length ≠ ys.length ∧ Q (.bl true) H
theorem op_neLen {X : Cx} (hu : X.A.units < cLine) : OpR X (compareOp .NotEq) (rNeLen X.K) := by
  intro pins s sg H x y v u Q I rx ry h
  obtain ⟨a, b, xs, ys, rfl, rfl, h1, h2, hne, q⟩ := h
  cases rx
  cases ry
  obtain ⟨its, r1, l1, _⟩ := I.list h1
  obtain ⟨jts, r2, l2, _⟩ := I.list h2
  refine SeqAt.RcNeAt.lists_lengths l1.isList l2.isList ?_ hu X.prog X.w _ _ ⟨.bl true, H, I, rfl, q⟩
  have n1 := r1.length
  have n2 := r2.length
  rw [bne_iff_ne, List.size_toArray, List.size_toArray, ← n1, ← n2]
  exact hne
theorem s_eq {X : Cx} (hu : X.A.units + 64 < cLine) : OpR X (compareOp .Eq) (fun x y H Q => rEq x y H Q ∨ rEqD X.K x y H Q) := op_eq.or (op_eqD hu)
theorem s_ne {X : Cx} (hu : X.A.units + 64 < cLine) : OpR X (compareOp .NotEq) (fun x y H Q => (rNe x y H Q ∨ rNeD X.K x y H Q) ∨ rNeLen X.K x y H Q) := (op_ne.or (op_neD hu)).or (op_neLen (by omega))
theorem eq_cases (P F : Hp) (al : List Addr) (G : GH) (H : Hp) (d e : D) (x y : V) (S : Sim K mg P F al H G) (r1 : RepV K F al d x) (r2 : RepV K F al e y) :
    (∃ b, oEq d e G = .ok (.bl b) G ∧ ((scal x y = true ∧ decide (x = y) = b) ∨ ∃ p q, Dp K H x p ∧ Dp K H y q ∧ SeqAt.shaped p = true ∧ SeqAt.shaped q = true ∧ PyData.eqv p q = b)) ∨ oEq d e G = .stuck := by
  unfold oEq
  split
  · unfold RepV at r1 r2
    subst r1 r2
    exact .inl ⟨_, rfl, .inl ⟨rfl, by simp⟩⟩
  · unfold RepV at r1 r2
    subst r1 r2
    exact .inl ⟨_, rfl, .inl ⟨rfl, by simp⟩⟩
  · unfold RepV at r1 r2
    subst r1 r2
    exact .inl ⟨_, rfl, .inl ⟨rfl, by simp⟩⟩
  · split
    · rename_i p q e1 e2
      split
      · rename_i hs
        rw [Bool.and_eq_true] at hs
        exact .inl ⟨_, rfl, .inr ⟨p, q, toP_dp S _ _ _ _ r1 e1, toP_dp S _ _ _ _ r2 e2, hs.1, hs.2, rfl⟩⟩
      · exact .inr rfl
    · exact .inr rfl
theorem o_eq : Op2 K mg (fun x y H Q => rEq x y H Q ∨ rEqD K x y H Q) oEq := by
  refine op2_sc fun P F al G H d e x y S r1 r2 => ?_
  rcases eq_cases P F al G H d e x y S r1 r2 with ⟨b, e1, h⟩ | e1
  · refine .inl ⟨_, V.bl b, e1, rfl, fun Q q => ?_⟩
    rcases h with ⟨h1, h2⟩ | ⟨p, p', h1, h2, h3, h4, h5⟩
    · exact .inl ⟨h1, by rw [h2]; exact q⟩
    · exact .inr ⟨p, p', h1, h2, h3, h4, by rw [h5]; exact q⟩
  · exact .inr e1
theorem o_ne : Op2 K mg (fun x y H Q => (rNe x y H Q ∨ rNeD K x y H Q) ∨ rNeLen K x y H Q) oNe := by
  refine op2_sc fun P F al G H d e x y S r1 r2 => ?_
  unfold oNe
  rcases eq_cases P F al G H d e x y S r1 r2 with ⟨b, e1, h⟩ | e1
  · rw [e1]
    refine .inl ⟨_, V.bl (!b), rfl, rfl, fun Q q => ?_⟩
    rcases h with ⟨h1, h2⟩ | ⟨p, p', h1, h2, h3, h4, h5⟩
    · exact .inl (.inl ⟨h1, by rw [h2]; exact q⟩)
    · exact .inl (.inr ⟨p, p', h1, h2, h3, h4, by rw [h5]; exact q⟩)
  · rw [e1]
    dsimp only
    split
    · rename_i xs ys q1 q2
      split
      · exact .inr rfl
      · rename_i hn
        obtain ⟨a, vs, g1, g2, g3⟩ := lst_at S r1 q1
        obtain ⟨b, us, k1, k2, k3⟩ := lst_at S r2 q2
        exact .inl ⟨_, V.bl true, rfl, rfl, fun Q q => .inr ⟨a, b, vs, us, g1, k1, g2, k2, by rw [← g3.len, ← k3.len]; exact hn, q⟩⟩
    · exact .inr rfl

/-! ### indices -/
def oIx (d e : D) (G : GH) : Out D := match e with
  | .int i => match d with
    | .tup xs => match atI xs i with
      | some x => .ok x G
      | none => .stuck
    | .str z => if z.length ≤ sizeLine then (match atI z.cps.toList i with
      | some c => .ok (.str ⟨#[c]⟩) G
      | none => .stuck) else .stuck
    | d => match lstOf G d with
      | some xs => (match atI xs i with
        | some x => .ok x G
        | none => .stuck)
      | none => .stuck
  | _ => .stuck
theorem RepL.atI {F : Hp} {al : List Addr} {ds : List D} {vs : List V} {i : Int} {d : D} (h : RepL K F al ds vs) (e : L2.atI ds i = some d) : ∃ v, L2.atI vs i = some v ∧ RepV K F al d v := by
  unfold L2.atI at e ⊢
  rw [← h.len]
  cases q : ixN ds.length i with
  | none => rw [q] at e; cases e
  | some j =>
    rw [q] at e
    exact RepL.get h e
theorem o_ix : Op2 K mg (rIx K) oIx := by
  refine op2_sc fun P F al G H d e x y S r1 r2 => ?_
  unfold oIx
  split
  · rename_i i
    unfold RepV at r2
    split
    · rename_i xs
      cases q : L2.atI xs i with
      | none => exact .inr rfl
      | some z =>
        obtain ⟨a, vs, h1, h2, h3⟩ := tup_at S r1 (xs := xs) rfl
        obtain ⟨v, e1, r3⟩ := RepL.atI h3 q
        exact .inl ⟨z, v, rfl, r3, fun Q h => .inr (.inl ⟨a, vs, i, v, h1, r2, SqT.of h2, e1, h⟩)⟩
    · rename_i z
      by_cases hz : z.length ≤ sizeLine
      · rw [if_pos hz]
        cases q : L2.atI z.cps.toList i with
        | none => exact .inr rfl
        | some c => exact .inl ⟨_, V.str ⟨#[c]⟩, rfl, rfl, fun Q h => .inr (.inr ⟨z, i, c, r1, r2, hz, q, h⟩)⟩
      · rw [if_neg hz]
        exact .inr rfl
    · cases q : lstOf G d with
      | none => exact .inr rfl
      | some xs =>
        obtain ⟨a, vs, h1, h2, h3⟩ := lst_at S r1 q
        dsimp only
        cases q2 : L2.atI xs i with
        | none => exact .inr rfl
        | some z =>
          obtain ⟨v, e1, r3⟩ := RepL.atI h3 q2
          exact .inl ⟨z, v, rfl, r3, fun Q h => .inl ⟨a, vs, i, v, h1, r2, h2, e1, h⟩⟩
  · exact .inr rfl

/-! ### slices -/
def cutD (xs : List D) (lo hi : Option Int) : List D := (xs.drop (HT.sIx xs.length 0 lo)).take (HT.sIx xs.length xs.length hi - HT.sIx xs.length 0 lo)
theorem RepL.cut {F : Hp} {al : List Addr} {ds : List D} {vs : List V} (h : RepL K F al ds vs) (lo hi : Option Int) : RepL K F al (cutD ds lo hi) (cutV vs lo hi) := by
  unfold cutD cutV
  rw [← h.len]
  exact RepL.take _ (RepL.drop _ h)
def oSl (cm : Bool) (d : D) (lo hi : Option Int) (G : GH) : Out D := match d with
  | .str z => if z.length ≤ sizeLine then .ok (.str (cutS z lo hi)) G else .stuck
  | d => match lstOf G d with
    | some xs => mk cm (cutD xs lo hi) G
    | none => .stuck
def Sl2 (K : Frag) (mg : MG) (r : V → Option Int → Option Int → Hp → VK → Prop) (o : D → Option Int → Option Int → GH → Out D) : Prop := ∀ (W : WX) (sg : St) (P F : Hp) (al : List Addr) (G : GH) (H : Hp) (d : D) (lo hi : Option Int) (x : V) (Q : VK), Sim K mg P F al H G → RepV K F al d x → Obl K mg P (RepV K) W sg F al (o d lo hi G) Q → r x lo hi H Q
theorem slR_or {X : Cx} {r r' : V → Option Int → Option Int → Hp → VK → Prop} (h : SlR X r) (h' : SlR X r') : SlR X fun x lo hi H Q => r x lo hi H Q ∨ r' x lo hi H Q := by
  intro pins s sg H x v vl vu lo hi sl Q I r1 hs p1 p2 q
  rcases q with q | q
  · exact h pins s sg H x v vl vu lo hi sl Q I r1 hs p1 p2 q
  · exact h' pins s sg H x v vl vu lo hi sl Q I r1 hs p1 p2 q
theorem s_sl {X : Cx} : SlR X fun x lo hi H Q => rSlL X.K x lo hi H Q ∨ rSlS x lo hi H Q := slR_or sl_list sl_str
theorem o_sl (cm : Bool) : Sl2 K mg (fun x lo hi H Q => rSlL K x lo hi H Q ∨ rSlS x lo hi H Q) (oSl cm) := by
  intro W sg P F al G H d lo hi x Q S r1 q
  unfold oSl at q
  split at q
  · split at q
    · rename_i hz
      unfold RepV at r1
      exact .inr ⟨_, r1, hz, obl_ok q S rfl⟩
    · exact q.elim
  · split at q
    · rename_i xs e1
      obtain ⟨a, vs, h1, h2, h3⟩ := lst_at S r1 e1
      exact .inl ⟨a, vs, h1, h2, fun p hp => mk_ok S (h3.cut lo hi) q hp⟩
    · exact q.elim
/-- a part of a slice -/
abbrev tPt (K : Frag) (mg : MG) (W : WX) (m : M (Option Int)) : TO := fun sg H Q => ∃ P F al G rh, Rel K mg P F al G rh sg H ∧ Obl K mg P (fun _ _ (a b : Option Int) => b = a) W sg F al (m rh G) Q
abbrev VP (X : Cx) (W : WX) (e : Option Expr) (m : M (Option Int)) : Prop := PO X e (tPt X.K X.mg W m)
def oPt (d : D) (G : GH) : Out (Option Int) := match d with
  | .int i => .ok (some i) G
  | _ => .stuck
def mNoPt : M (Option Int) := fun _ G => .ok none G
section
variable {X : Cx} {W : WX} {a b c : Expr} {ma mb mc : M D} {pos : Pos}
theorem po_imp {e : Option Expr} {t t' : TO} (h : PO X e t) (i : ∀ sg H Q, t' sg H Q → t sg H Q) : PO X e t' := ⟨fun pins s sg H Q I q => h.run pins s sg H Q I (i _ _ _ q)⟩
theorem vp_none : VP X W none mNoPt := po_imp po_none fun _ _ _ ⟨_, _, _, _, _, R, h⟩ => obl_ok h R.sim rfl
theorem vp_some (h : VE X W a ma) : VP X W (some a) (b1 oPt ma) := po_imp (po_some h) fun sg H Q ⟨P, F, al, G, rh, R, h1⟩ => ⟨P, F, al, G, rh, R, (step R.env h1).imp fun v H1 ⟨F1, al1, G1, d, _, R1, r1, h2⟩ => by
  unfold oPt at h2
  split at h2
  · unfold RepV at r1
    exact ⟨_, r1, obl_ok h2 R1.sim rfl⟩
  · exact h2.elim⟩
def mSl (o : D → Option Int → Option Int → GH → Out D) (ma : M D) (ml mh : M (Option Int)) : M D := fun rh G => (ma rh G).bind fun x G1 => (ml rh G1).bind fun l G2 => (mh rh G2).bind fun h G3 => o x l h G3
theorem ve_slice {r : V → Option Int → Option Int → Hp → VK → Prop} {o : D → Option Int → Option Int → GH → Out D} {lo hi : Option Expr} {ml mh : M (Option Int)} {p2 : Pos} (hs : SlR X r) (so : Sl2 X.K X.mg r o) (ha : VE X W a ma) (hl : VP X W lo ml) (hh : VP X W hi mh) :
    VE X W (.Subscript a (.Slice lo hi none p2) pos) (mSl o ma ml mh) :=
  pe_imp (pe_slice hs ha hl hh) fun sg H Q ⟨P, F, al, G, rh, R, h⟩ => ⟨P, F, al, G, rh, R, (step R.env h).imp fun v H1 ⟨F1, al1, G1, d, _, R1, r1, h1⟩ => ⟨P, F1, al1, G1, rh, R1, (step R1.env h1).imp fun l H2 ⟨F2, al2, G2, l', x2, R2, r2, h2⟩ =>
    ⟨P, F2, al2, G2, rh, R2, (step R2.env h2).imp fun u H3 ⟨F3, al3, G3, u', x3, R3, r3, h3⟩ => by
      subst r2 r3
      exact so W sg P F3 al3 G3 _ d _ _ _ Q R3.sim ((r1.ext x2).ext x3) h3⟩⟩⟩
/-- xs[::-1] of a list -/
def oRev (cm : Bool) (d : D) (G : GH) : Out D := match lstOf G d with
  | some xs => mk cm xs.reverse G
  | none => .stuck
/-- -x -/
def oNeg (d : D) (G : GH) : Out D := match d with
  | .int i => .ok (.int (-i)) G
  | _ => .stuck
theorem ve_neg (ha : VE X W a ma) : VE X W (.UnaryOp .USub a pos) (b1 oNeg ma) :=
  pe_imp (pe_un un_neg ha) fun sg H Q ⟨P, F, al, G, rh, R, h1⟩ => ⟨P, F, al, G, rh, R, (step R.env h1).imp fun v H1 ⟨F1, al1, G1, d, _, R1, r1, h2⟩ => by
    unfold oNeg at h2
    split at h2
    · unfold RepV at r1
      exact ⟨_, r1, obl_ok h2 R1.sim rfl⟩
    · exact h2.elim⟩

/-! ### built-in calls -/
def CallS (K : Frag) (mg : MG) (r : List V → Hp → VK → Prop) (o : List D → GH → Out D) : Prop := ∀ (W : WX) (sg : St) (P F : Hp) (al : List Addr) (G : GH) (H : Hp) (ds : List D) (vs : List V) (Q : VK), Sim K mg P F al H G → RepL K F al ds vs → Obl K mg P (RepV K) W sg F al (o ds G) Q → r vs H Q
theorem ve_callB {x : Str} {p : Pos} {e : Expr} {es : List Expr} {m : M (List D)} {id : String} {r : List V → Hp → VK → Prop} {o : List D → GH → Out D} (hr : CallR X (.builtin id) r) (so : CallS X.K X.mg r o) (hg : Gl X x) (hm : X.mg x = none)
    (hv : bootBuiltins x = some (.builtin id)) (ha : VA X W (e :: es) m) (hn : x ≠ ("__name__" : Str) := by decide) (hd : (x == ("__debug__" : Str)) = false := by decide)
    (he : starEach (e :: es) X.env = (false, eval e X.env) :: starEach es X.env := by rfl) (hpl : (backTo pos (starEach es X.env)).any (·.1) = false := by rfl) : VE X W (.Call (.Name x p) (e :: es) [] pos) (b1 o m) :=
  pe_imp (pe_callB hr hg hm hv ha hn hd he hpl) fun sg H Q ⟨P, F, al, G, rh, R, h1⟩ => ⟨P, F, al, G, rh, R, (step R.env h1).imp fun v H1 ⟨F1, al1, G1, d, _, R1, r1, h2⟩ => so W sg P F1 al1 G1 _ d v Q R1.sim r1 h2⟩
theorem ve_callTy {x : Str} {p : Pos} {e : Expr} {es : List Expr} {m : M (List D)} {id : String} {r : List V → Hp → VK → Prop} {o : List D → GH → Out D} (hr : CallR X (.type id) r) (so : CallS X.K X.mg r o) (hg : Gl X x) (hm : X.mg x = none)
    (hv : bootBuiltins x = some (.type id)) (ha : VA X W (e :: es) m) (hn : x ≠ ("__name__" : Str) := by decide) (hd : (x == ("__debug__" : Str)) = false := by decide)
    (he : starEach (e :: es) X.env = (false, eval e X.env) :: starEach es X.env := by rfl) (hpl : (backTo pos (starEach es X.env)).any (·.1) = false := by rfl) : VE X W (.Call (.Name x p) (e :: es) [] pos) (b1 o m) :=
  pe_imp (pe_callTy hr hg hm hv ha hn hd he hpl) fun sg H Q ⟨P, F, al, G, rh, R, h1⟩ => ⟨P, F, al, G, rh, R, (step R.env h1).imp fun v H1 ⟨F1, al1, G1, d, _, R1, r1, h2⟩ => so W sg P F1 al1 G1 _ d v Q R1.sim r1 h2⟩
end

theorem repl1 {F : Hp} {al : List Addr} {d : D} {vs : List V} (r : RepL K F al [d] vs) : ∃ v, vs = [v] ∧ RepV K F al d v := by
  unfold RepL at r
  obtain ⟨v, q, rfl, r1, r2⟩ := r
  unfold RepL at r2
  subst r2
  exact ⟨v, rfl, r1⟩
theorem repl2 {F : Hp} {al : List Addr} {d e : D} {vs : List V} (r : RepL K F al [d, e] vs) : ∃ v u, vs = [v, u] ∧ RepV K F al d v ∧ RepV K F al e u := by
  unfold RepL at r
  obtain ⟨v, q, rfl, r1, r2⟩ := r
  obtain ⟨u, rfl, r3⟩ := repl1 r2
  exact ⟨v, u, rfl, r1, r3⟩
/-- len -/
def oLen (ds : List D) (G : GH) : Out D := match ds with
  | [.str z] => if z.length ≤ sizeLine then .ok (.int z.length) G else .stuck
  | [.tup xs] => .ok (.int xs.length) G
  | [d] => match lstOf G d with
    | some xs => .ok (.int xs.length) G
    | none => .stuck
  | _ => .stuck
theorem o_len : CallS K mg (fun xs H Q => ∃ x n, xs = [x] ∧ LenV K x H n ∧ Q (V.int ↑n) H) oLen := by
  intro W sg P F al G H ds vs Q S r q
  unfold oLen at q
  split at q
  · split at q
    · rename_i hz
      obtain ⟨v, rfl, r1⟩ := repl1 r
      unfold RepV at r1
      subst r1
      exact ⟨_, _, rfl, ⟨hz, rfl⟩, obl_ok q S rfl⟩
    · exact q.elim
  · obtain ⟨v, rfl, r1⟩ := repl1 r
    obtain ⟨a, ws, rfl, h2, h3⟩ := tup_at S r1 rfl
    exact ⟨_, _, rfl, .inr ⟨ws, SqT.of h2, h3.len⟩, obl_ok q S rfl⟩
  · obtain ⟨v, rfl, r1⟩ := repl1 r
    split at q
    · rename_i xs e1
      obtain ⟨a, ws, rfl, h2, h3⟩ := lst_at S r1 e1
      exact ⟨_, _, rfl, .inl ⟨ws, h2, h3.len⟩, obl_ok q S rfl⟩
    · exact q.elim
  · exact q.elim
/-- list(x) -/
def oList (cm : Bool) (ds : List D) (G : GH) : Out D := match ds with
  | [.tup xs] => mk cm xs G
  | [d] => match lstOf G d with
    | some xs => mk cm xs G
    | none => .stuck
  | _ => .stuck
theorem o_list (cm : Bool) : CallS K mg (fun xs H Q => ∃ p ys, xs = [V.ref p] ∧ (SqL K H p ys ∨ SqT K H p ys) ∧ ∀ (l : Addr), H l = none → Q (V.ref l) (upd H l (HO.lst ys))) (oList cm) := by
  intro W sg P F al G H ds vs Q S r q
  unfold oList at q
  split at q
  · obtain ⟨v, rfl, r1⟩ := repl1 r
    obtain ⟨a, ws, rfl, h2, h3⟩ := tup_at S r1 rfl
    exact ⟨_, _, rfl, .inr (SqT.of h2), fun p hp => mk_ok S h3 q hp⟩
  · obtain ⟨v, rfl, r1⟩ := repl1 r
    split at q
    · rename_i xs e1
      obtain ⟨a, ws, rfl, h2, h3⟩ := lst_at S r1 e1
      exact ⟨_, _, rfl, .inl h2, fun p hp => mk_ok S h3 q hp⟩
    · exact q.elim
  · exact q.elim
/-- tuple(x) of a list -/
def oTuple (ds : List D) (G : GH) : Out D := match ds with
  | [.tup xs] => .ok (.tup xs) G
  | [d] => match lstOf G d with
    | some xs => .ok (.tup xs) G
    | none => .stuck
  | _ => .stuck
theorem o_tuple : CallS K mg (fun xs H Q => ∃ p ys, xs = [V.ref p] ∧ ((SqL K H p ys ∧ ∀ (l : Addr), H l = none → Q (V.ref l) (upd H l (HO.tup ys))) ∨ SqT K H p ys ∧ Q (V.ref p) H)) oTuple := by
  intro W sg P F al G H ds vs Q S r q
  unfold oTuple at q
  split at q
  · obtain ⟨v, rfl, r1⟩ := repl1 r
    obtain ⟨a, ws, rfl, h2, h3⟩ := tup_at S r1 rfl
    exact ⟨_, _, rfl, .inr ⟨SqT.of h2, obl_ok q S r1⟩⟩
  · obtain ⟨v, rfl, r1⟩ := repl1 r
    split at q
    · rename_i xs e1
      obtain ⟨a, ws, rfl, h2, h3⟩ := lst_at S r1 e1
      exact ⟨_, _, rfl, .inl ⟨h2, fun p hp => tup_ok S h3 q hp⟩⟩
    · exact q.elim
  · exact q.elim
/-- int(x) of an int, a truth; str(x) of an int; abs -/
def oInt (ds : List D) (G : GH) : Out D := match ds with
  | [.int i] => .ok (.int i) G
  | [.bl k] => .ok (.int (if k = true then 1 else 0)) G
  | _ => .stuck
def oStr (ds : List D) (G : GH) : Out D := match ds with
  | [.int i] => if i.natAbs.log2 < 1920 then .ok (.str (Str.ofString (toString i))) G else .stuck
  | _ => .stuck
theorem o_str : CallS K mg (fun xs H Q => ∃ i, xs = [V.int i] ∧ i.natAbs.log2 < 1920 ∧ Q (V.str (Str.ofString (toString i))) H) oStr := by
  intro W sg P F al G H ds vs Q S r q
  unfold oStr at q
  split at q
  · obtain ⟨v, rfl, r1⟩ := repl1 r
    unfold RepV at r1
    subst r1
    split at q
    · rename_i h
      exact ⟨_, rfl, h, obl_ok q S rfl⟩
    · exact q.elim
  · exact q.elim
def oAbs (ds : List D) (G : GH) : Out D := match ds with
  | [.int i] => .ok (.int (if i < 0 then -i else i)) G
  | _ => .stuck
theorem o_abs : CallS K mg (fun xs H Q => ∃ i, xs = [V.int i] ∧ Q (V.int (if i < 0 then -i else i)) H) oAbs := by
  intro W sg P F al G H ds vs Q S r q
  unfold oAbs at q
  split at q
  · obtain ⟨v, rfl, r1⟩ := repl1 r
    unfold RepV at r1
    subst r1
    exact ⟨_, rfl, obl_ok q S rfl⟩
  · exact q.elim

/-! ### max, min, sum, sorted of ints -/
def intsOf (G : GH) (d : D) : Option (List Int) := match lstOf G d with
  | some xs => mapO (fun x => match x with | .int i => some i | _ => none) xs
  | none => none
theorem ints_map : ∀ {F : Hp} {al : List Addr} {xs : List D} {vs : List V} {ns : List Int}, RepL K F al xs vs → mapO (fun x => match x with | .int i => some i | _ => none) xs = some ns → vs = ns.map V.int
  | _, _, [], _, _, r, h => by
    unfold RepL at r
    unfold mapO at h
    cases h
    exact r
  | _, _, x :: xs, _, _, r, h => by
    unfold RepL at r
    obtain ⟨v, q, rfl, r1, r2⟩ := r
    obtain ⟨y, ys, e1, e2, rfl⟩ := mapO_cons h
    split at e1
    · cases e1
      unfold RepV at r1
      rw [r1, ints_map r2 e2]
      rfl
    · cases e1
theorem ints_at {P F : Hp} {al : List Addr} {H : Hp} {G : GH} {d : D} {v : V} {ns : List Int} (S : Sim K mg P F al H G) (r : RepV K F al d v) (e : intsOf G d = some ns) : ∃ a, v = .ref a ∧ SqL K H a (ns.map V.int) := by
  unfold intsOf at e
  split at e
  · rename_i xs q
    obtain ⟨a, vs, h1, h2, h3⟩ := lst_at S r q
    rw [ints_map h3 e] at h2
    exact ⟨a, h1, h2⟩
  · cases e
theorem repInts {F : Hp} {al : List Addr} : ∀ ns : List Int, RepL K F al (ns.map D.int) (ns.map V.int)
  | [] => RepL.nil
  | n :: ns => RepL.cons rfl (repInts ns)
/-- the greatest, the least of a list -/
def maxL : List Int → Int
  | [] => 0
  | [x] => x
  | x :: y :: r => max x (maxL (y :: r))
def minL : List Int → Int
  | [] => 0
  | [x] => x
  | x :: y :: r => min x (minL (y :: r))
theorem maxL_ok : ∀ {ns : List Int}, 0 < ns.length → maxL ns ∈ ns ∧ ∀ y ∈ ns, y ≤ maxL ns
  | [x], _ => ⟨by simp [maxL], fun y hy => by simp at hy; subst hy; exact Int.le_refl _⟩
  | x :: y :: r, _ => by
    obtain ⟨h1, h2⟩ := maxL_ok (ns := y :: r) (Nat.succ_pos _)
    unfold maxL
    refine ⟨?_, fun z hz => ?_⟩
    · rw [Int.max_def]
      split
      · exact List.mem_cons_of_mem _ h1
      · exact List.mem_cons_self
    · rcases List.mem_cons.mp hz with rfl | hz
      · exact Int.le_max_left _ _
      · exact Int.le_trans (h2 z hz) (Int.le_max_right _ _)
theorem minL_ok : ∀ {ns : List Int}, 0 < ns.length → minL ns ∈ ns ∧ ∀ y ∈ ns, minL ns ≤ y
  | [x], _ => ⟨by simp [minL], fun y hy => by simp at hy; subst hy; exact Int.le_refl _⟩
  | x :: y :: r, _ => by
    obtain ⟨h1, h2⟩ := minL_ok (ns := y :: r) (Nat.succ_pos _)
    unfold minL
    refine ⟨?_, fun z hz => ?_⟩
    · rw [Int.min_def]
      split
      · exact List.mem_cons_self
      · exact List.mem_cons_of_mem _ h1
    · rcases List.mem_cons.mp hz with rfl | hz
      · exact Int.min_le_left _ _
      · exact Int.le_trans (Int.min_le_right _ _) (h2 z hz)
def oMax (ds : List D) (G : GH) : Out D := match ds with
  | [.int i, .int j] => .ok (.int (if j > i then j else i)) G
  | [d] => match intsOf G d with
    | some ns => if 0 < ns.length then .ok (.int (maxL ns)) G else .stuck
    | none => .stuck
  | _ => .stuck
def oMin (ds : List D) (G : GH) : Out D := match ds with
  | [.int i, .int j] => .ok (.int (if j < i then j else i)) G
  | [d] => match intsOf G d with
    | some ns => if 0 < ns.length then .ok (.int (minL ns)) G else .stuck
    | none => .stuck
  | _ => .stuck
theorem callR_or {X : Cx} {f : Value} {r r' : List V → Hp → VK → Prop} (h : CallR X f r) (h' : CallR X f r') : CallR X f fun vs H Q => r vs H Q ∨ r' vs H Q := by
  intro pins s sg H xs us Q I v q
  rcases q with q | q
  · exact h pins s sg H xs us Q I v q
  · exact h' pins s sg H xs us Q I v q
abbrev rMax2 : List V → Hp → VK → Prop := fun xs H Q => ∃ i j, xs = [V.int i, V.int j] ∧ Q (V.int (if j > i then j else i)) H
abbrev rMin2 : List V → Hp → VK → Prop := fun xs H Q => ∃ i j, xs = [V.int i, V.int j] ∧ Q (V.int (if j < i then j else i)) H
theorem s_max {X : Cx} (hc : X.calm = true) : CallR X (.builtin "max") fun vs H Q => rMax2 vs H Q ∨ rMax X.K vs H Q := callR_or (call_max2 hc) (cr_max hc)
theorem s_min {X : Cx} (hc : X.calm = true) : CallR X (.builtin "min") fun vs H Q => rMin2 vs H Q ∨ rMin X.K vs H Q := callR_or (call_min2 hc) (cr_min hc)
theorem o_max : CallS K mg (fun vs H Q => rMax2 vs H Q ∨ rMax K vs H Q) oMax := by
  intro W sg P F al G H ds vs Q S r q
  unfold oMax at q
  split at q
  · obtain ⟨v, u, rfl, r1, r2⟩ := repl2 r
    unfold RepV at r1 r2
    subst r1 r2
    exact .inl ⟨_, _, rfl, obl_ok q S rfl⟩
  · obtain ⟨v, rfl, r1⟩ := repl1 r
    split at q
    · rename_i ns e1
      split at q
      · rename_i hl
        obtain ⟨a, rfl, h2⟩ := ints_at S r1 e1
        refine .inr ⟨a, ns, rfl, h2, hl, fun m hm hall => ?_⟩
        obtain ⟨k1, k2⟩ := maxL_ok hl
        have e : m = maxL ns := Int.le_antisymm (k2 m hm) (hall _ k1)
        rw [e]
        exact obl_ok q S rfl
      · exact q.elim
    · exact q.elim
  · exact q.elim
theorem o_min : CallS K mg (fun vs H Q => rMin2 vs H Q ∨ rMin K vs H Q) oMin := by
  intro W sg P F al G H ds vs Q S r q
  unfold oMin at q
  split at q
  · obtain ⟨v, u, rfl, r1, r2⟩ := repl2 r
    unfold RepV at r1 r2
    subst r1 r2
    exact .inl ⟨_, _, rfl, obl_ok q S rfl⟩
  · obtain ⟨v, rfl, r1⟩ := repl1 r
    split at q
    · rename_i ns e1
      split at q
      · rename_i hl
        obtain ⟨a, rfl, h2⟩ := ints_at S r1 e1
        refine .inr ⟨a, ns, rfl, h2, hl, fun m hm hall => ?_⟩
        obtain ⟨k1, k2⟩ := minL_ok hl
        have e : m = minL ns := Int.le_antisymm (hall _ k1) (k2 m hm)
        rw [e]
        exact obl_ok q S rfl
      · exact q.elim
    · exact q.elim
  · exact q.elim
def oSum (ds : List D) (G : GH) : Out D := match ds with
  | [d] => match intsOf G d with
    | some ns => .ok (.int ns.sum) G
    | none => .stuck
  | _ => .stuck
theorem o_sum : CallS K mg (rSum K) oSum := by
  intro W sg P F al G H ds vs Q S r q
  unfold oSum at q
  split at q
  · obtain ⟨v, rfl, r1⟩ := repl1 r
    split at q
    · rename_i ns e1
      obtain ⟨a, rfl, h2⟩ := ints_at S r1 e1
      exact ⟨a, ns, rfl, h2, obl_ok q S rfl⟩
    · exact q.elim
  · exact q.elim
def sortI (ns : List Int) : List Int := ns.mergeSort (fun a b => decide (a ≤ b))
def oSortI (cm : Bool) (ds : List D) (G : GH) : Out D := match ds with
  | [d] => match intsOf G d with
    | some ns => mk cm ((sortI ns).map D.int) G
    | none => .stuck
  | _ => .stuck
/-! ### isinstance by the built-in classes -/
def kindD (G : GH) : D → Option String
  | .non => some "NoneType"
  | .bl _ => some "bool"
  | .int _ => some "int"
  | .str _ => some "str"
  | .lst _ => some "list"
  | .tup _ => some "tuple"
  | .dct0 => some "dict"
  | .loc k => match G[k]? with
    | some (.lst _) => some "list"
    | some (.dk _) => some "dict"
    | _ => none
  | _ => none
theorem kind_ty {P F : Hp} {al : List Addr} {H : Hp} {G : GH} {d : D} {v : V} {T : String} (S : Sim K mg P F al H G) (r : RepV K F al d v) (e : kindD G d = some T) : TyX K H v (.type T) := by
  unfold kindD at e
  split at e
  · cases e; unfold RepV at r; subst r; exact .base .non
  · cases e; unfold RepV at r; subst r; exact .base (.bl _)
  · cases e; unfold RepV at r; subst r; exact .base (.int _)
  · cases e; unfold RepV at r; subst r; exact .base (.str _)
  · cases e
    unfold RepV at r
    obtain ⟨a, vs, rfl, h, _⟩ := r
    exact .base (.lst (S.sub _ _ h))
  · cases e
    unfold RepV at r
    obtain ⟨a, vs, rfl, h, _⟩ := r
    exact .base (.tup (S.sub _ _ h))
  · cases e
    unfold RepV at r
    obtain ⟨a, rfl, h⟩ := r
    exact .base (.dK (S.sub _ _ h))
  · split at e
    · rename_i xs q
      cases e
      unfold RepV at r
      obtain ⟨a, h1, rfl⟩ := r
      obtain ⟨b, e1, _, vs, e2, _⟩ := S.at q
      rw [h1] at e1
      cases e1
      exact .base (.lst e2)
    · rename_i xs q
      cases e
      unfold RepV at r
      obtain ⟨a, h1, rfl⟩ := r
      obtain ⟨b, e1, _, vs, e2, _⟩ := S.at q
      rw [h1] at e1
      cases e1
      exact .base (.dK e2)
    · cases e
  · cases e
/-- the five classes that are asked for -/
inductive TyN where | int | bool | list | tuple | str
def TyN.nm : TyN → String
  | .int => "int" | .bool => "bool" | .list => "list" | .tuple => "tuple" | .str => "str"
def isK (T : TyN) (k : String) : Bool := k == T.nm || (match T with | .int => k == "bool" | _ => false)
def oIsi (T : TyN) (d : D) (G : GH) : Out D := match kindD G d with
  | some k => .ok (.bl (isK T k)) G
  | none => .stuck
theorem kind_mem {G : GH} {d : D} {k : String} (h : kindD G d = some k) : k ∈ ["NoneType", "bool", "int", "str", "list", "tuple", "dict"] := by
  unfold kindD at h
  split at h <;> first
    | (cases h; decide)
    | (split at h <;> first | (cases h; decide) | cases h)
    | cases h
theorem isK_kit (T : TyN) (k : String) (h : k ∈ ["NoneType", "bool", "int", "str", "list", "tuple", "dict"]) : kitB k T.nm = some (isK T k) := by
  cases T <;> (simp only [List.mem_cons, List.not_mem_nil, or_false] at h; rcases h with rfl | rfl | rfl | rfl | rfl | rfl | rfl <;> decide +kernel)
section
variable {X : Cx} {W : WX} {a : Expr} {ma : M D} {pos : Pos}
theorem ve_isi (T : TyN) {x t : Str} {p p2 : Pos} (hg : Gl X x) (hm : X.mg x = none) (hv : bootBuiltins x = some (.builtin "isinstance")) (ht : Gl X t) (hmt : X.mg t = none) (hvt : bootBuiltins t = some (.type T.nm)) (ha : VE X W a ma)
    (hn : x ≠ ("__name__" : Str) := by decide) (hd : (x == ("__debug__" : Str)) = false := by decide) (hn2 : t ≠ ("__name__" : Str) := by decide) (hd2 : (t == ("__debug__" : Str)) = false := by decide)
    (he : starEach [a, .Name t p2] X.env = (false, eval a X.env) :: starEach [.Name t p2] X.env := by rfl) (he2 : starEach [.Name t p2] X.env = (false, eval (.Name t p2) X.env) :: starEach [] X.env := by rfl)
    (hpl : (backTo pos (starEach [.Name t p2] X.env)).any (·.1) = false := by rfl) : VE X W (.Call (.Name x p) [a, .Name t p2] [] pos) (b1 (oIsi T) ma) :=
  pe_imp (pe_callB call_isi hg hm hv (pa_cons ha (pa_cons (pe_bltn (v := .ty T.nm) ht hmt hvt rfl hn2 hd2) pa_nil he2) he) hn hd he hpl) fun sg H Q ⟨P, F, al, G, rh, R, h1⟩ => ⟨P, F, al, G, rh, R, (step R.env h1).imp fun v H1 ⟨F1, al1, G1, d, _, R1, r1, h2⟩ => by
    unfold oIsi at h2
    split at h2
    · rename_i k e
      exact ⟨v, .ty T.nm, _, _, _, rfl, .ty _, kind_ty R1.sim r1 e, kit_ty (isK_kit T k (kind_mem e)), obl_ok h2 R1.sim rfl⟩
    · exact h2.elim⟩
end
end
end VL

/-! Q3: statements, targets, walks, comprehensions, methods of lists. -/
namespace VL
open PySem L2

inductive SOut where
  | nx (rh : DEnv) (G : GH)
  | rt (d : D) (G : GH)
  | bk (rh : DEnv) (G : GH)
  | ct (rh : DEnv) (G : GH)
  | exn (c : Str) (rh : DEnv) (G : GH)
  | stuck
abbrev S := DEnv → GH → SOut

def OblS (K : Frag) (mg : MG) (P : Hp) (W : WX) (F : Hp) (al : List Addr) (o : SOut) (E : Ends) : Prop := match o with
  | .nx rh G => ∀ F' al' H' sg', Ext F al F' al' → Rel K mg P F' al' G rh sg' H' → E.nx sg' H'
  | .rt d G => ∀ F' al' H' v, Ext F al F' al' → Sim K mg P F' al' H' G → RepV K F' al' d v → E.rt v H'
  | .bk rh G => ∀ F' al' H' sg', Ext F al F' al' → Rel K mg P F' al' G rh sg' H' → E.bk sg' H'
  | .ct rh G => ∀ F' al' H' sg', Ext F al F' al' → Rel K mg P F' al' G rh sg' H' → E.ct sg' H'
  | .exn c rh G => ∀ F' al' H' sg' C, Ext F al F' al' → Rel K mg P F' al' G rh sg' H' → mg c = some (.ref C) → W (.ref C) none sg' H'
  | .stuck => False
theorem OblS.ext {K : Frag} {mg : MG} {P : Hp} {W : WX} {F F' : Hp} {al al' : List Addr} {o : SOut} {E : Ends} (h : OblS K mg P W F al o E) (e : Ext F al F' al') : OblS K mg P W F' al' o E := by
  cases o with
  | nx rh G => exact fun F'' al'' H' s e' => h F'' al'' H' s (e.trans e')
  | rt d G => exact fun F'' al'' H' s e' => h F'' al'' H' s (e.trans e')
  | bk rh G => exact fun F'' al'' H' s e' => h F'' al'' H' s (e.trans e')
  | ct rh G => exact fun F'' al'' H' s e' => h F'' al'' H' s (e.trans e')
  | exn c rh G => exact fun F'' al'' H' s C e' => h F'' al'' H' s C (e.trans e')
  | stuck => exact h
def tS (K : Frag) (mg : MG) (W : WX) (g : S) : TS := fun E sg H => ∃ P F al G rh, Rel K mg P F al G rh sg H ∧ OblS K mg P W F al (g rh G) E
abbrev VS (X : Cx) (W : WX) (st : Stmt) (g : S) : Prop := PS X st (tS X.K X.mg W g)
abbrev VSs (X : Cx) (W : WX) (st : List Stmt) (g : S) : Prop := PSs X st (tS X.K X.mg W g)
theorem ps_imp {X : Cx} {st : Stmt} {t t' : TS} (h : PS X st t) (i : ∀ E sg H, t' E sg H → t E sg H) : PS X st t' := ⟨fun pins s sg H E I q => h.run pins s sg H E I (i _ _ _ q)⟩
theorem pss_imp {X : Cx} {st : List Stmt} {t t' : TS} (h : PSs X st t) (i : ∀ E sg H, t' E sg H → t E sg H) : PSs X st t' := ⟨fun pins s sg H E I q => h.run pins s sg H E I (i _ _ _ q)⟩

def sSeq (g k : S) : S := fun rh G => match g rh G with
  | .nx rh' G' => k rh' G'
  | o => o
def sNil : S := fun rh G => .nx rh G
/-- an outcome handed on -/
def fromO {β : Type} (o : Out β) (rh : DEnv) (k : β → GH → SOut) : SOut := match o with
  | .ok b G => k b G
  | .exn c G => .exn c rh G
  | .stuck => .stuck
/-- THE STEP, within a statement -/
theorem stepS {β γ : Type} {K : Frag} {mg : MG} {P : Hp} {R : Hp → List Addr → β → γ → Prop} {W : WX} {sg : St} {F : Hp} {al : List Addr} {rh : DEnv} {o : Out β} {k : β → GH → SOut} {E : Ends} (env : EnvOk K F al rh sg) (h : OblS K mg P W F al (fromO o rh k) E) :
    Obl K mg P R W sg F al o (fun v H1 => ∃ F' al' G' b, Ext F al F' al' ∧ Rel K mg P F' al' G' rh sg H1 ∧ R F' al' b v ∧ OblS K mg P W F' al' (k b G') E) := by
  cases o with
  | ok b G' => exact fun F' al' H' v x S r => ⟨F', al', G', b, x, ⟨S, env.ext x⟩, r, OblS.ext (show OblS K mg P W F al (k b G') E from h) x⟩
  | exn c G' => exact fun F' al' H' C x S m => h F' al' H' sg C x ⟨S, env.ext x⟩ m
  | stuck => exact h

section
variable {X : Cx} {W : WX} {st : Stmt} {rest : List Stmt} {g k : S} {e a b c : Expr} {ma mb mc : M D} {pos : Pos}
theorem obs_nx {K : Frag} {mg : MG} {P F : Hp} {al : List Addr} {G : GH} {rh : DEnv} {sg : St} {H : Hp} {E : Ends} (h : OblS K mg P W F al (.nx rh G) E) (R : Rel K mg P F al G rh sg H) : E.nx sg H := h F al H sg (Ext.refl _ _) R
theorem vss_nil : VSs X W [] sNil := pss_imp pss_nil fun _ _ _ ⟨_, _, _, _, _, R, h⟩ => obs_nx h R
theorem vss_cons (h1 : VS X W st g) (h2 : VSs X W rest k) : VSs X W (st :: rest) (sSeq g k) := pss_imp (pss_cons h1 h2) fun E sg H ⟨P, F, al, G, rh, R, h⟩ => ⟨P, F, al, G, rh, R, by
  unfold sSeq at h
  cases q : g rh G with
  | nx rh' G' => rw [q] at h; exact fun F' al' H' sg' x R' => ⟨P, F', al', G', rh', R', OblS.ext (show OblS X.K X.mg P W F al (k rh' G') E from h) x⟩
  | rt d G' => rw [q] at h; exact h
  | bk rh' G' => rw [q] at h; exact h
  | ct rh' G' => rw [q] at h; exact h
  | exn c rh' G' => rw [q] at h; exact h
  | stuck => rw [q] at h; exact h⟩
theorem vss_one (h : VS X W st g) : VSs X W [st] g := pss_one h
def sSet (i : Nat) (m : M D) : S := fun rh G => fromO (m rh G) rh fun d G' => .nx (rh.set i (some d)) G'
theorem vs_set {i : Nat} {x : Str} {pos' : Pos} (hN : X.N.Nodup) (hi : X.N[i]? = some x) (hx : Loc X.env.scope x) (he : VE X W e ma) (hs : swapsWith e (some (.Name x pos')) pos.line X.env = pure false := by rfl) (hf : X.fn x = true ∨ X.env.scope.names.lookup x = some .local := by first | exact .inl rfl | exact .inr rfl | assumption) :
    VS X W (.Assign [.Name x pos'] e pos) (sSet i ma) := ps_imp (ps_set hN hi hx he hs hf) fun E sg H ⟨P, F, al, G, rh, R, h⟩ => ⟨P, F, al, G, rh, R, (stepS R.env h).imp fun v H1 ⟨F1, al1, G1, d, _, R1, r1, h1⟩ =>
      obs_nx h1 ⟨R1.sim, R1.env.set i r1⟩⟩
def sRet (m : M D) : S := fun rh G => fromO (m rh G) rh fun d G' => .rt d G'
theorem vs_ret (he : VE X W e ma) : VS X W (.Return (some e) pos) (sRet ma) := ps_imp (ps_ret he) fun E sg H ⟨P, F, al, G, rh, R, h⟩ => ⟨P, F, al, G, rh, R, (stepS R.env h).imp fun v H1 ⟨F1, al1, G1, d, _, R1, r1, h1⟩ =>
  h1 F1 al1 H1 v (Ext.refl _ _) R1.sim r1⟩
def sRetN : S := fun rh G => .rt .non G
def sExpr (m : M D) : S := fun rh G => fromO (m rh G) rh fun _ G' => .nx rh G'
theorem vs_expr (he : VE X W e ma) (hs : swapsWith e none pos.line X.env = pure false := by rfl) : VS X W (.Expr e pos) (sExpr ma) := ps_imp (ps_expr he hs) fun E sg H ⟨P, F, al, G, rh, R, h⟩ => ⟨P, F, al, G, rh, R, (stepS R.env h).imp fun v H1 ⟨F1, al1, G1, d, _, R1, r1, h1⟩ =>
  obs_nx h1 R1⟩
def sIf (c : M Bool) (a b : S) : S := fun rh G => fromO (c rh G) rh fun t G' => if t = true then a rh G' else b rh G'
theorem vs_if {m : M Bool} {as bs : List Stmt} {ga gb : S} (hc : VT X W c m) (ha : VSs X W as ga) (hb : VSs X W bs gb) : VS X W (.If c as bs pos) (sIf m ga gb) := ps_imp (ps_if hc ha hb) fun E sg H ⟨P, F, al, G, rh, R, h⟩ =>
  ⟨P, F, al, G, rh, R, (stepS R.env h).imp fun v H1 ⟨F1, al1, G1, d, _, R1, r1, h1⟩ => by
    cases r1
    by_cases q : v = true
    · rw [if_pos q] at h1 ⊢
      exact ⟨P, F1, al1, G1, rh, R1, h1⟩
    · rw [if_neg q] at h1 ⊢
      exact ⟨P, F1, al1, G1, rh, R1, h1⟩⟩
def sBrk : S := fun rh G => .bk rh G
def sCnt : S := fun rh G => .ct rh G
/-- a, b = x, y -/
def sPar (i j : Nat) (m : M (List D)) : S := fun rh G => fromO (m rh G) rh fun ds G' => match ds with
  | [d, d'] => .nx ((rh.set i (some d)).set j (some d')) G'
  | _ => .stuck
theorem vs_par {i j : Nat} {x y : Str} {ml : M (List D)} {px py pt : Pos} {kt k2 pt2} (hc : X.calm = true) (hN : X.N.Nodup) (hi : X.N[i]? = some x) (hj : X.N[j]? = some y) (hij : i ≠ j)
    (hx : X.env.scope.names.lookup x = some .local) (hy : X.env.scope.names.lookup y = some .local) (ha : VA X W [a, b] ml)
    (hw : swappedStores [.Tuple [.Name x px, .Name y py] kt pt] (.Tuple [a, b] k2 pt2) X.env = pure (some [x, y]))
    (hs : swapsWithSole [.Tuple [.Name x px, .Name y py] kt pt] (.Tuple [a, b] k2 pt2) pos.line X.env = pure false := by rfl) :
    VS X W (.Assign [.Tuple [.Name x px, .Name y py] kt pt] (.Tuple [a, b] k2 pt2) pos) (sPar i j ml) := ps_imp (ps_par hc hN hi hj hij hx hy ha hw hs) fun E sg H ⟨P, F, al, G, rh, R, h⟩ =>
  ⟨P, F, al, G, rh, R, (stepS R.env h).imp fun v H1 ⟨F1, al1, G1, d, _, R1, r1, h1⟩ => by
    split at h1
    · obtain ⟨v1, v2, rfl, q1, q2⟩ := repl2 r1
      exact ⟨v1, v2, rfl, obs_nx h1 ⟨R1.sim, (R1.env.set i q1).set j q2⟩⟩
    · exact h1.elim⟩

/-! ### targets -/
abbrev T1 := D → DEnv → GH → Option DEnv
/-- the slots but those at ks are as they were -/
structure Off (ks : List Nat) (sg sg' : St) : Prop where
  len : sg'.length = sg.length
  at_ : ∀ j, j ∉ ks → sg'[j]? = sg[j]?
def tG (K : Frag) (mg : MG) (t : T1) (ks : List Nat) : TG := fun v sg H Q => ∃ P F al G rh d rh', Rel K mg P F al G rh sg H ∧ RepV K F al d v ∧ t d rh G = some rh' ∧ ∀ sg', Rel K mg P F al G rh' sg' H → Off ks sg sg' → Q sg' H
abbrev VG (X : Cx) (tg : Expr) (t : T1) (ks : List Nat) : Prop := PG X tg (tG X.K X.mg t ks)
def tgName (i : Nat) : T1 := fun d rh _ => some (rh.set i (some d))
theorem pg_imp {tg : Expr} {t t' : TG} (h : PG X tg t) (i : ∀ v sg H Q, t' v sg H Q → t v sg H Q) : PG X tg t' := ⟨fun pins s sg H v u Q I r q => h.run pins s sg H v u Q I r (i _ _ _ _ q)⟩
theorem vg_name {i : Nat} {x : Str} (hN : X.N.Nodup) (hi : X.N[i]? = some x) (hx : Loc X.env.scope x) (hf : X.fn x = true ∨ X.env.scope.names.lookup x = some .local := by first | exact .inl rfl | exact .inr rfl | assumption) : VG X (.Name x pos) (tgName i) [i] :=
  pg_imp (pg_name hN hi hx hf) fun v sg H Q ⟨P, F, al, G, rh, d, rh', R, r, e, q⟩ => by
    cases e
    exact q _ ⟨R.sim, R.env.set i r⟩ ⟨by rw [List.length_set], fun j hj => List.getElem?_set_ne fun z => hj (by simp [z])⟩
abbrev Ts := List D → DEnv → GH → Option DEnv
def tGs (K : Frag) (mg : MG) (t : Ts) (ks : List Nat) : TGs := fun vs sg H Q => ∃ P F al G rh ds rh', Rel K mg P F al G rh sg H ∧ RepL K F al ds vs ∧ t ds rh G = some rh' ∧ ∀ sg', Rel K mg P F al G rh' sg' H → Off ks sg sg' → Q sg' H
abbrev VGs (X : Cx) (ts : List Expr) (t : Ts) (ks : List Nat) : Prop := PGs X ts (tGs X.K X.mg t ks)
theorem pgs_imp {ts : List Expr} {t t' : TGs} (h : PGs X ts t) (i : ∀ v sg H Q, t' v sg H Q → t v sg H Q) : PGs X ts t' := ⟨fun pins s sg H v u Q I r q => h.run pins s sg H v u Q I r (i _ _ _ _ q)⟩
def tgNil : Ts := fun ds rh _ => match ds with
  | [] => some rh
  | _ => none
def tgCons (t : T1) (u : Ts) : Ts := fun ds rh G => match ds with
  | d :: r => (t d rh G).bind fun rh' => u r rh' G
  | [] => none
theorem vgs_nil : VGs X [] tgNil [] := pgs_imp pgs_nil fun v sg H Q ⟨P, F, al, G, rh, d, rh', R, r, e, q⟩ => by
  unfold tgNil at e
  split at e
  · cases e
    unfold RepL at r
    exact ⟨r, q _ R ⟨rfl, fun _ _ => rfl⟩⟩
  · cases e
theorem vgs_cons {e : Expr} {es : List Expr} {t : T1} {u : Ts} {ks ls : List Nat} (h1 : VG X e t ks) (h2 : VGs X es u ls)
    (hs : (assignEach (e :: es) X.env).map (·.2) = assign e X.env :: (assignEach es X.env).map (·.2) := by rfl) : VGs X (e :: es) (tgCons t u) (ks ++ ls) := pgs_imp (pgs_cons h1 h2 hs) fun v sg H Q ⟨P, F, al, G, rh, ds, rh', R, r, e, q⟩ => by
  unfold tgCons at e
  split at e
  · rename_i d dr
    unfold RepL at r
    obtain ⟨v1, vr, rfl, r1, r2⟩ := r
    obtain ⟨rh1, e1, e2⟩ := Option.bind_eq_some_iff.mp e
    exact ⟨v1, vr, rfl, P, F, al, G, rh, d, rh1, R, r1, e1, fun sg1 R1 o1 => ⟨P, F, al, G, rh1, dr, rh', R1, r2, e2, fun sg2 R2 o2 => q sg2 R2 ⟨o2.len.trans o1.len, fun j hj => by
      rw [List.mem_append, not_or] at hj
      exact (o2.at_ j hj.2).trans (o1.at_ j hj.1)⟩⟩⟩
  · cases e
def tgTup (u : Ts) (n : Nat) : T1 := fun d rh G => match tupOf d with
  | some ds => if ds.length = n then u ds rh G else none
  | none => none
theorem vg_tup {es : List Expr} {kk : Nat} {u : Ts} {n : Nat} {ks : List Nat} (hc : X.calm = true) (h : VGs X es u ks)
    (hn : (assignEach es X.env).length = n := by rfl) (hst : (assignEach es X.env).findIdx? (·.1) = none := by rfl) : VG X (.Tuple es kk pos) (tgTup u n) ks := pg_imp (pg_tup hc h hn hst) fun v sg H Q ⟨P, F, al, G, rh, d, rh', R, r, e, q⟩ => by
  unfold tgTup at e
  split at e
  · rename_i ds e1
    split at e
    · rename_i hl
      obtain ⟨a, vs, rfl, h2, h3⟩ := tup_at R.sim r e1
      exact ⟨a, vs, rfl, SqT.of h2, by rw [← h3.len]; exact hl, P, F, al, G, rh, ds, rh', R, h3, e, q⟩
    · cases e
  · cases e
/-- target = value -/
def sAsg (m : M D) (t : T1) : S := fun rh G => fromO (m rh G) rh fun d G' => match t d rh G' with
  | some rh' => .nx rh' G'
  | none => .stuck
theorem vs_asg {tg : Expr} {t : T1} {ks : List Nat} (he : VE X W e ma) (hg : VG X tg t ks) (hs : swapsWithSole [tg] e pos.line X.env = pure false := by rfl) (hw : swappedStores [tg] e X.env = pure none := by rfl)
    (h1 : (assignEach [tg] X.env).map (·.2) = [assign tg X.env] := by rfl) : VS X W (.Assign [tg] e pos) (sAsg ma t) := ps_imp (ps_asg he hg hs hw h1) fun E sg H ⟨P, F, al, G, rh, R, h⟩ =>
  ⟨P, F, al, G, rh, R, (stepS R.env h).imp fun v H1 ⟨F1, al1, G1, d, _, R1, r1, h1⟩ => by
    split at h1
    · rename_i rh' e1
      exact ⟨P, F1, al1, G1, rh, d, rh', R1, r1, e1, fun sg' R' _ => obs_nx h1 R'⟩
    · exact h1.elim⟩

/-! ### o[i] = e, of a list that is a cell -/
def oSetL (o i v : D) (G : GH) : Out Unit := match o, i with
  | .loc k, .int j => match G[k]? with
    | some (.lst xs) => match ixN xs.length j with
      | some n => .ok () (G.set k (.lst (xs.set n v)))
      | none => .stuck
    | _ => .stuck
  | _, _ => .stuck
def sSub (me mo mi : M D) (set : D → D → D → GH → Out Unit) : S := fun rh G => fromO (me rh G) rh fun v G1 => fromO (mo rh G1) rh fun o G2 => fromO (mi rh G2) rh fun i G3 => fromO (set o i v G3) rh fun _ G4 => .nx rh G4
theorem cell_lst {K : Frag} {mg : MG} {P F : Hp} {al : List Addr} {H : Hp} {G : GH} {k : Nat} {xs ys : List D} {x : V} {us : List V} (S : Sim K mg P F al H G) (r : RepV K F al (.loc k) x) (e : G[k]? = some (.lst xs)) (ry : RepL K F al ys us) :
    ∃ a vs, x = .ref a ∧ H a = some (.lst vs) ∧ RepL K F al xs vs ∧ Sim K mg P F al (upd H a (.lst us)) (G.set k (.lst ys)) := by
  unfold RepV at r
  obtain ⟨a, h1, rfl⟩ := r
  obtain ⟨b, e1, hf, vs, e2, e3⟩ := S.at e
  rw [h1] at e1
  cases e1
  exact ⟨a, vs, rfl, e2, e3, S.setC h1 hf ⟨hf, us, upd_same, ry⟩⟩
theorem vs_sub {o i : Expr} {mo mi : M D} {op : Pos} (he : VE X W e ma) (ho : VE X W o mo) (hi : VE X W i mi)
    (ha : ∀ v, assign (.Subscript o i op) X.env v = (do
      let ov ← holding [v] (eval o X.env)
      let iv ← holding [v, ov] (eval i X.env)
      standAt op
      holding [v, ov, iv] (setItem ov iv v)
      release [v, ov, iv] []) := by intro _; rfl)
    (hs : swapsWithSole [.Subscript o i op] e pos.line X.env = pure false := by rfl) (hw : swappedStores [.Subscript o i op] e X.env = pure none := by rfl)
    (h1 : (assignEach [.Subscript o i op] X.env).map (·.2) = [assign (.Subscript o i op) X.env] := by rfl) : VS X W (.Assign [.Subscript o i op] e pos) (sSub ma mo mi oSetL) := ps_imp (ps_asg he (pg_sub ho hi set_list ha) hs hw h1) fun E sg H ⟨P, F, al, G, rh, R, h⟩ =>
  ⟨P, F, al, G, rh, R, (stepS R.env h).imp fun v H1 ⟨F1, al1, G1, d, _, R1, r1, h1⟩ => ⟨P, F1, al1, G1, rh, R1, (stepS R1.env h1).imp fun ov H2 ⟨F2, al2, G2, od, x2, R2, r2, h2⟩ => ⟨P, F2, al2, G2, rh, R2, (stepS R2.env h2).imp fun iv H3 ⟨F3, al3, G3, id, x3, R3, r3, h3⟩ => by
    have r1' := (r1.ext x2).ext x3
    have r2' := r2.ext x3
    unfold oSetL at h3
    split at h3
    · split at h3
      · rename_i xs e1
        split at h3
        · rename_i n e2
          unfold RepV at r3
          have hx : ∀ vs, RepL X.K F3 al3 xs vs → RepL X.K F3 al3 (xs.set n d) (vs.set n v) := fun vs q => RepL.set n q r1'
          obtain ⟨a, vs, rfl, k2, k3, _⟩ := cell_lst R3.sim r2' e1 (ys := []) RepL.nil
          obtain ⟨a', vs', ea, k2', _, S'⟩ := cell_lst R3.sim r2' e1 (hx vs k3)
          cases ea
          refine ⟨a, vs, _, n, rfl, r3, k2, by rw [← k3.len]; exact e2, ?_⟩
          exact obs_nx h3 ⟨S', R3.env⟩
        · exact h3.elim
      · exact h3.elim
    · exact h3.elim⟩⟩⟩

/-! ### methods of the built-in types -/
def tyD (T : String) (d : D) (G : GH) : Bool := match d with
  | .str _ => T == "str"
  | .dct0 => T == "dict"
  | .loc k => match G[k]? with
    | some (.lst _) => T == "list"
    | some (.dk _) => T == "dict"
    | _ => false
  | .lst _ => T == "list"
  | .ro _ => T == "list"
  | _ => false
theorem tyD_at {K : Frag} {mg : MG} {P F : Hp} {al : List Addr} {H : Hp} {G : GH} {d : D} {v : V} {T : String} (S : Sim K mg P F al H G) (r : RepV K F al d v) (h : tyD T d G = true) : tyV K T v H := by
  unfold tyD at h
  split at h
  · unfold RepV at r; subst r; exact beq_iff_eq.mp h
  · unfold RepV at r
    obtain ⟨a, rfl, q⟩ := r
    exact .inr (.inr (.inl ⟨beq_iff_eq.mp h, .inl ⟨_, S.sub _ _ q⟩⟩))
  · split at h
    · rename_i xs q
      unfold RepV at r
      obtain ⟨a, h1, rfl⟩ := r
      obtain ⟨b, e1, _, vs, e2, _⟩ := S.at q
      rw [h1] at e1
      cases e1
      exact .inl ⟨beq_iff_eq.mp h, vs, SqL.of e2⟩
    · rename_i xs q
      unfold RepV at r
      obtain ⟨a, h1, rfl⟩ := r
      obtain ⟨b, e1, _, vs, e2, _⟩ := S.at q
      rw [h1] at e1
      cases e1
      exact .inr (.inr (.inl ⟨beq_iff_eq.mp h, .inl ⟨_, e2⟩⟩))
    · cases h
  · unfold RepV at r
    obtain ⟨a, vs, rfl, q, _⟩ := r
    exact .inl ⟨beq_iff_eq.mp h, vs, SqL.of (S.sub _ _ q)⟩
  · unfold RepV at r
    obtain ⟨a, vs, rfl, q, _⟩ := r
    exact .inl ⟨beq_iff_eq.mp h, vs, sqL_mono S.sub q⟩
  · cases h
def MtS (K : Frag) (mg : MG) (r : V → List V → Hp → VK → Prop) (o : D → List D → GH → Out D) : Prop := ∀ (W : WX) (sg : St) (P F : Hp) (al : List Addr) (G : GH) (H : Hp) (d : D) (ds : List D) (x : V) (vs : List V) (Q : VK), Sim K mg P F al H G → RepV K F al d x → RepL K F al ds vs → Obl K mg P (RepV K) W sg F al (o d ds G) Q → r x vs H Q
def mMt (T : String) (o : D → List D → GH → Out D) (mo : M D) (ma : M (List D)) : M D := fun rh G => (mo rh G).bind fun d G1 => if tyD T d G1 = true then (ma rh G1).bind fun ds G2 => o d ds G2 else .stuck
theorem ve_bm {o : Expr} {es : List Expr} {mo : M D} {ml : M (List D)} {name : Str} {apos cpos : Pos} {T id : String} {r : V → List V → Hp → VK → Prop} {od : D → List D → GH → Out D} (pa : PlainAttrs T) (sl : Slot T name id) (ty : typeOf (Value.builtin id) = pure (Value.type "method_descriptor"))
    (hr : MtR X id r) (so : MtS X.K X.mg r od) (ho : VE X W o mo) (ha : VA X W (e :: es) ml) (hb : attributeBase o name X.env (eval o X.env) = eval o X.env := by rfl)
    (h2 : ((((backTo cpos (starEach (e :: es) X.env)).all fun x => !x.fst) && (backToKw cpos (keywordEach [] X.env)).all fun x => x.fst.isSome) && decide (((e :: es).length + ([] : List Keyword).length + if ([] : List Keyword).isEmpty = true then 0 else 1) < 30)) = true := by rfl)
    (h3 : (apos.endLine == cpos.line) = true := by rfl) (h4 : starEach (e :: es) X.env = (false, eval e X.env) :: starEach es X.env := by rfl) (h5 : (backTo cpos (starEach es X.env)).any (·.1) = false := by rfl) : VE X W (.Call (.Attribute o name apos) (e :: es) [] cpos) (mMt T od mo ml) :=
  pe_imp (pe_bm pa sl ty hr ho ha hb h2 h3 h4 h5) fun sg H Q ⟨P, F, al, G, rh, R, h⟩ => ⟨P, F, al, G, rh, R, (step R.env h).imp fun v H1 ⟨F1, al1, G1, d, _, R1, r1, h1⟩ => by
    split at h1
    · rename_i ht
      exact ⟨tyD_at R1.sim r1 ht, P, F1, al1, G1, rh, R1, (step R1.env h1).imp fun vs H2 ⟨F2, al2, G2, ds, x2, R2, r2, h2⟩ => so W sg P F2 al2 G2 H2 d ds v vs Q R2.sim (r1.ext x2) r2 h2⟩
    · exact h1.elim⟩
def oAppend (d : D) (ds : List D) (G : GH) : Out D := match d, ds with
  | .loc k, [x] => match G[k]? with
    | some (.lst xs) => if xs.length < sizeLine then .ok .non (G.set k (.lst (xs ++ [x]))) else .stuck
    | _ => .stuck
  | _, _ => .stuck
theorem o_append {K : Frag} {mg : MG} : MtS K mg rAppend oAppend := by
  intro W sg P F al G H d ds x vs Q S r1 r2 q
  unfold oAppend at q
  split at q
  · split at q
    · rename_i xs e1
      split at q
      · rename_i hl
        obtain ⟨u, rfl, r3⟩ := repl1 r2
        obtain ⟨a, ws, rfl, k2, k3, _⟩ := cell_lst S r1 e1 (ys := []) RepL.nil
        obtain ⟨a', ws', ea, k2', _, S'⟩ := cell_lst S r1 e1 (RepL.append k3 (RepL.cons r3 RepL.nil))
        cases ea
        exact ⟨a, ws, u, rfl, rfl, k2, by rw [← k3.len]; exact hl, obl_ok q S' rfl⟩
      · exact q.elim
    · exact q.elim
  · exact q.elim
def oExtend (d : D) (ds : List D) (G : GH) : Out D := match d, ds with
  | .loc k, [x] => match G[k]?, lstO G x with
    | some (.lst xs), some ys => if xs.length + ys.length ≤ sizeLine then .ok .non (G.set k (.lst (xs ++ ys))) else .stuck
    | _, _ => .stuck
  | _, _ => .stuck
theorem o_extend {K : Frag} {mg : MG} : MtS K mg rExtend oExtend := by
  intro W sg P F al G H d ds x vs Q S r1 r2 q
  unfold oExtend at q
  split at q
  · split at q
    · rename_i xs ys e1 e2
      split at q
      · rename_i hl
        obtain ⟨u, rfl, r3⟩ := repl1 r2
        obtain ⟨b, zs, rfl, z2, z3⟩ := lstO_at S r3 e2
        obtain ⟨a, ws, rfl, k2, k3, _⟩ := cell_lst S r1 e1 (ys := []) RepL.nil
        obtain ⟨a', ws', ea, k2', _, S'⟩ := cell_lst S r1 e1 (RepL.append k3 z3)
        cases ea
        exact ⟨a, b, ws, zs, rfl, rfl, k2, z2, by rw [← k3.len, ← z3.len]; exact hl, obl_ok q S' rfl⟩
      · exact q.elim
    · exact q.elim
  · exact q.elim

/-! ### what is walked -/
structure Src where
  at_ : GH → Nat → Option (Option D)
  fuel : Nat
def SrcOk (K : Frag) (mg : MG) (P : Hp) (F : Hp) (al : List Addr) (s : Src) (J : It) : Prop := ∀ (i : Nat) (F' : Hp) (al' : List Addr) (H : Hp) (G : GH) (P' : Hp), Ext F al F' al' → Sim K mg P' F' al' H G →
  (s.at_ G i = some none → J.stop i H) ∧ ∀ d, s.at_ G i = some (some d) → J.go i H ∧ ∀ x H', J.yld i H x H' → ∃ F'', Le F' F'' ∧ Sim K mg P' F'' al' H' G ∧ RepV K F'' al' d x
def tI (K : Frag) (mg : MG) (W : WX) (m : M Src) : TI := fun sg H R => ∃ P F al G rh, Rel K mg P F al G rh sg H ∧ Obl K mg P (SrcOk K mg P) W sg F al (m rh G) (fun J H' => R J H')
abbrev VI (X : Cx) (W : WX) (tg iter : Expr) (m : M Src) : Prop := PI X tg iter (tI X.K X.mg W m)
theorem pi_imp {tg iter : Expr} {t t' : TI} (h : PI X tg iter t) (i : ∀ sg H R, t' sg H R → t sg H R) : PI X tg iter t' := ⟨fun pins s sg H R I q => h.run pins s sg H R I (i _ _ _ q)⟩
def srcL (xs? : GH → Option (List D)) (n : Nat) : Src := ⟨fun G i => match xs? G with
  | some xs => some xs[i]?
  | none => none, n⟩
def srcC (xs : List D) : Src := srcL (fun _ => some xs) xs.length
def oSrcL (d : D) (G : GH) : Out Src := match lstOf G d with
  | some xs => .ok (srcL (fun G' => lstOf G' d) xs.length) G
  | none => .stuck
theorem src_list {K : Frag} {mg : MG} {P F : Hp} {al : List Addr} {d : D} {a : Addr} {n : Nat} (r : RepV K F al d (.ref a)) : SrcOk K mg P F al (srcL (fun G' => lstOf G' d) n) (Itl K a) := by
  intro i F' al' H G P' x S
  have r' := r.ext x
  refine ⟨fun h => ?_, fun e h => ?_⟩
  · unfold srcL at h
    dsimp only at h
    split at h
    · rename_i xs q
      obtain ⟨b, vs, eb, h2, h3⟩ := lst_at S r' q
      cases eb
      refine ⟨vs, h2, ?_⟩
      rw [← h3.len]
      exact List.getElem?_eq_none_iff.mp (Option.some.inj h)
    · cases h
  · unfold srcL at h
    dsimp only at h
    split at h
    · rename_i xs q
      obtain ⟨b, vs, eb, h2, h3⟩ := lst_at S r' q
      cases eb
      obtain ⟨v, h4, h5⟩ := RepL.get h3 (Option.some.inj h)
      refine ⟨⟨vs, v, h2, h4⟩, fun y H' hy => ?_⟩
      obtain ⟨e1, hy⟩ := hy
      subst e1
      have := hy vs h2
      rw [h4] at this
      cases this
      exact ⟨F', Le.refl _, S, h5⟩
    · cases h
theorem vi_list {tg : Expr} (h : VE X W a ma) : VI X W tg a (b1 oSrcL ma) := pi_imp (pi_list h) fun sg H R ⟨P, F, al, G, rh, R0, h⟩ => ⟨P, F, al, G, rh, R0, (step (R' := SrcOk X.K X.mg P) R0.env h).imp fun v H1 ⟨F1, al1, G1, d, _, R1, r1, h1⟩ => by
  unfold oSrcL at h1
  split at h1
  · rename_i xs e1
    obtain ⟨b, vs, rfl, h2, h3⟩ := lst_at R1.sim r1 e1
    exact ⟨b, rfl, ⟨vs, h2⟩, obl_ok h1 R1.sim (src_list r1)⟩
  · exact h1.elim⟩
def oSrcT (d : D) (G : GH) : Out Src := match d with
  | .tup xs => .ok (srcC xs) G
  | _ => .stuck
theorem src_tup {K : Frag} {mg : MG} {P F : Hp} {al : List Addr} {xs : List D} {a : Addr} (r : RepV K F al (.tup xs) (.ref a)) : SrcOk K mg P F al (srcC xs) (Itt K a) := by
  intro i F' al' H G P' x S
  obtain ⟨b, vs, eb, h2, h3⟩ := tup_at S (r.ext x) (xs := xs) rfl
  cases eb
  refine ⟨fun h => ⟨vs, SqT.of h2, ?_⟩, fun e h => ?_⟩
  · rw [← h3.len]
    exact List.getElem?_eq_none_iff.mp (Option.some.inj h)
  · obtain ⟨v, h4, h5⟩ := RepL.get h3 (Option.some.inj h)
    refine ⟨⟨vs, v, SqT.of h2, h4⟩, fun y H' hy => ?_⟩
    obtain ⟨e1, hy⟩ := hy
    subst e1
    have := hy vs (SqT.of h2)
    rw [h4] at this
    cases this
    exact ⟨F', Le.refl _, S, h5⟩
theorem vi_tup {tg : Expr} (h : VE X W a ma) : VI X W tg a (b1 oSrcT ma) := pi_imp (pi_tup h) fun sg H R ⟨P, F, al, G, rh, R0, h⟩ => ⟨P, F, al, G, rh, R0, (step (R' := SrcOk X.K X.mg P) R0.env h).imp fun v H1 ⟨F1, al1, G1, d, _, R1, r1, h1⟩ => by
  unfold oSrcT at h1
  split at h1
  · obtain ⟨b, vs, rfl, h2, h3⟩ := tup_at R1.sim r1 rfl
    exact ⟨b, rfl, ⟨vs, SqT.of h2⟩, obl_ok h1 R1.sim (src_tup r1)⟩
  · exact h1.elim⟩
def rngL (lo : Int) (n : Nat) : List D := (List.range n).map fun i => D.int (lo + (i : Nat))
def oRng1 (ds : List D) (G : GH) : Out Src := match ds with
  | [.int j] => if -(2 ^ 62) ≤ j ∧ j < 2 ^ 62 then .ok (srcC (rngL 0 j.toNat)) G else .stuck
  | _ => .stuck
def oRng2 (ds : List D) (G : GH) : Out Src := match ds with
  | [.int i, .int j] => if (-(2 ^ 62) ≤ i ∧ i < 2 ^ 62) ∧ -(2 ^ 62) ≤ j ∧ j < 2 ^ 62 then .ok (srcC (rngL i (j - i).toNat)) G else .stuck
  | _ => .stuck
theorem src_rng {K : Frag} {mg : MG} {P F : Hp} {al : List Addr} {lo : Int} {n : Nat} : SrcOk K mg P F al (srcC (rngL lo n)) (Itr lo n) := by
  intro i F' al' H G P' x S
  have hl : (rngL lo n).length = n := by unfold rngL; simp
  refine ⟨fun h => ?_, fun e h => ?_⟩
  · have h0 : (rngL lo n)[i]? = none := Option.some.inj h
    have h1 := List.getElem?_eq_none_iff.mp h0
    rw [hl] at h1
    exact h1
  · have h0 : (rngL lo n)[i]? = some e := Option.some.inj h
    have hi : i < n := by
      have := (List.getElem?_eq_some_iff.mp h0).1
      rwa [hl] at this
    refine ⟨hi, fun y H' hy => ?_⟩
    obtain ⟨e1, e2⟩ := hy
    subst e1
    have h2 : e = D.int (lo + (i : Nat)) := by
      unfold rngL at h0
      rw [List.getElem?_map, List.getElem?_range hi] at h0
      exact (Option.some.inj h0).symm
    subst h2
    refine ⟨F', Le.refl _, S, ?_⟩
    unfold RepV
    exact e2
theorem vi_rng1 {tg : Expr} {p : Pos} {ml : M (List D)} (hg : Gl X "range") (hm : X.mg "range" = none) (ha : VA X W [a] ml) (hs : starEach [a] X.env = [(false, eval a X.env)] := by rfl) : VI X W tg (.Call (.Name "range" p) [a] [] pos) (b1 oRng1 ml) :=
  pi_imp (pi_range1 hg hm ha hs) fun sg H R ⟨P, F, al, G, rh, R0, h⟩ => ⟨P, F, al, G, rh, R0, (step (R' := SrcOk X.K X.mg P) R0.env h).imp fun v H1 ⟨F1, al1, G1, d, _, R1, r1, h1⟩ => by
    unfold oRng1 at h1
    split at h1
    · split at h1
      · rename_i hl
        obtain ⟨u, rfl, q⟩ := repl1 r1
        unfold RepV at q
        subst q
        exact ⟨_, rfl, hl.1, hl.2, obl_ok h1 R1.sim src_rng⟩
      · exact h1.elim
    · exact h1.elim⟩
theorem vi_rng2 {tg : Expr} {p : Pos} {ml : M (List D)} (hg : Gl X "range") (hm : X.mg "range" = none) (ha : VA X W [a, b] ml) (hs : starEach [a, b] X.env = [(false, eval a X.env), (false, eval b X.env)] := by rfl) (hs2 : starEach [b] X.env = [(false, eval b X.env)] := by rfl) :
    VI X W tg (.Call (.Name "range" p) [a, b] [] pos) (b1 oRng2 ml) :=
  pi_imp (pi_range2 hg hm ha hs hs2) fun sg H R ⟨P, F, al, G, rh, R0, h⟩ => ⟨P, F, al, G, rh, R0, (step (R' := SrcOk X.K X.mg P) R0.env h).imp fun v H1 ⟨F1, al1, G1, d, _, R1, r1, h1⟩ => by
    unfold oRng2 at h1
    split at h1
    · split at h1
      · rename_i hl
        obtain ⟨u, w, rfl, q, q'⟩ := repl2 r1
        unfold RepV at q q'
        subst q q'
        exact ⟨_, _, rfl, ⟨hl.1.1, hl.1.2, hl.2.1, hl.2.2⟩, obl_ok h1 R1.sim src_rng⟩
      · exact h1.elim
    · exact h1.elim⟩

/-! ### for -/
def loopS (at_ : GH → Nat → Option (Option D)) (t : T1) (body : S) : Nat → Nat → S
  | 0, i => fun rh G => match at_ G i with
    | some none => .nx rh G
    | _ => .stuck
  | f + 1, i => fun rh G => match at_ G i with
    | none => .stuck
    | some none => .nx rh G
    | some (some d) => match t d rh G with
      | none => .stuck
      | some rh' => match body rh' G with
        | .nx rh2 G2 => loopS at_ t body f (i + 1) rh2 G2
        | .ct rh2 G2 => loopS at_ t body f (i + 1) rh2 G2
        | .bk rh2 G2 => .nx rh2 G2
        | .rt d G2 => .rt d G2
        | .exn c rh2 G2 => .exn c rh2 G2
        | .stuck => .stuck
def sFor (m : M Src) (t : T1) (body : S) : S := fun rh G => fromO (m rh G) rh fun s G1 => loopS s.at_ t body s.fuel 0 rh G1
theorem vs_for {iter : Expr} {tg : Expr} {body : List Stmt} {m : M Src} {t : T1} {ks : List Nat} {gb : S} (hp : PassesOwn (model X.prog X.w) X.A X.env X.xe) (hc : X.calm = true) (hi : VI X W tg iter m) (hg : VG X tg t ks) (hb : VSs X W body gb)
    (hs : ∀ x, foldedSetIterable iter X.env x = pure x := by intro _; rfl) : VS X W (.For tg iter body [] pos) (sFor m t gb) :=
  ps_imp (ps_for hp hc hi hg hb hs) fun E sg H ⟨P, F, al, G, rh, R, h⟩ => ⟨P, F, al, G, rh, R, (stepS (R := SrcOk X.K X.mg P) R.env h).imp fun J H1 ⟨F1, al1, G1, s, _, R1, ok, h1⟩ => by
    refine ⟨fun i n sg H => ∃ F2 al2 G2 rh2, Ext F1 al1 F2 al2 ∧ Rel X.K X.mg P F2 al2 G2 rh2 sg H ∧ OblS X.K X.mg P W F2 al2 (loopS s.at_ t gb n i rh2 G2) E, ⟨s.fuel, F1, al1, G1, rh, Ext.refl _ _, R1, h1⟩, ?_⟩
    rintro i n sg2 H2 ⟨F2, al2, G2, rh2, x2, R2, h2⟩
    obtain ⟨o1, o2⟩ := ok i F2 al2 H2 G2 P x2 R2.sim
    cases q : s.at_ G2 i with
    | none =>
      cases n with
      | zero => unfold loopS at h2; rw [q] at h2; exact h2.elim
      | succ n => unfold loopS at h2; rw [q] at h2; exact h2.elim
    | some q' =>
      cases q' with
      | none =>
        refine .inl ⟨o1 q, ?_⟩
        cases n with
        | zero => unfold loopS at h2; rw [q] at h2; exact obs_nx h2 R2
        | succ n => unfold loopS at h2; rw [q] at h2; exact obs_nx h2 R2
      | some d =>
        obtain ⟨hgo, hy⟩ := o2 d q
        cases n with
        | zero => unfold loopS at h2; rw [q] at h2; exact h2.elim
        | succ n =>
          unfold loopS at h2
          rw [q] at h2
          dsimp only at h2
          refine .inr ⟨hgo, fun sg' H' => ∃ F3 al3 G3 rh3, Ext F1 al1 F3 al3 ∧ Rel X.K X.mg P F3 al3 G3 rh3 sg' H' ∧ OblS X.K X.mg P W F3 al3 (loopS s.at_ t gb n (i + 1) rh3 G3) E, fun sg' H' hN => ⟨n, Nat.lt_succ_self _, hN⟩, fun x H3 yl => ?_⟩
          obtain ⟨F3, l3, S3, r3⟩ := hy x H3 yl
          have x3 : Ext F2 al2 F3 al2 := ⟨l3, List.prefix_refl _⟩
          cases q3 : t d rh2 G2 with
          | none => rw [q3] at h2; exact h2.elim
          | some rh3 =>
            rw [q3] at h2
            dsimp only at h2
            refine ⟨P, F3, al2, G2, rh2, d, rh3, ⟨S3, R2.env.ext x3⟩, r3, q3, fun sg3 R3 _ => ⟨P, F3, al2, G2, rh3, R3, ?_⟩⟩
            have h3 := OblS.ext h2 x3
            cases q4 : gb rh3 G2 with
            | nx rh4 G4 => rw [q4] at h3; exact fun F4 al4 H4 sg4 x4 R4 => ⟨F4, al4, G4, rh4, (x2.trans x3).trans x4, R4, OblS.ext h3 x4⟩
            | ct rh4 G4 => rw [q4] at h3; exact fun F4 al4 H4 sg4 x4 R4 => ⟨F4, al4, G4, rh4, (x2.trans x3).trans x4, R4, OblS.ext h3 x4⟩
            | bk rh4 G4 => rw [q4] at h3; exact h3
            | rt d4 G4 => rw [q4] at h3; exact h3
            | exn c rh4 G4 => rw [q4] at h3; exact h3
            | stuck => rw [q4] at h3; exact h3⟩
end
end VL

/-! Q4: comprehensions, while, more walks, calls of defs, raise. -/
namespace VL
open PySem L2
section
variable {X : Cx} {W : WX} {st : Stmt} {rest : List Stmt} {g k : S} {e a b c : Expr} {ma mb mc : M D} {pos : Pos}

/-! ### what is kept aside -/
theorem Sim.pin {K : Frag} {mg : MG} {P F : Hp} {al : List Addr} {H : Hp} {G : GH} {p : Addr} (S : Sim K mg P F al H G) (hp : H p = none) (o : HO) : Sim K mg (upd P p o) F al (upd H p o) G :=
  let J := S.junk hp o
  ⟨J.sub, fun a u q => by
      by_cases h : a = p
      · subst h; rw [upd_same] at q ⊢; exact q
      · rw [upd_ne h] at q; exact J.fr a u q,
    fun a u q => by
      by_cases h : a = p
      · subst h
        exact ⟨S.freeF hp, fun z => (S.ne hp z) rfl⟩
      · rw [upd_ne h] at q; exact S.dj a u q, J.nd, J.len, J.thr, J.cell⟩
theorem Sim.repin {K : Frag} {mg : MG} {P F : Hp} {al : List Addr} {H : Hp} {G : GH} {p : Addr} {o : HO} (S : Sim K mg (upd P p o) F al H G) (o' : HO) : Sim K mg (upd P p o') F al (upd H p o') G := by
  obtain ⟨f0, f1⟩ := S.dj p o upd_same
  exact ⟨fun a u q => by rw [upd_ne (ne_of_none q f0)]; exact S.sub a u q,
    fun a u q => by
      by_cases h : a = p
      · subst h; rw [upd_same] at q ⊢; exact q
      · rw [upd_ne h] at q ⊢; exact S.fr a u (by rw [upd_ne h]; exact q),
    fun a u q => by
      by_cases h : a = p
      · subst h; exact ⟨f0, f1⟩
      · rw [upd_ne h] at q; exact S.dj a u (by rw [upd_ne h]; exact q), S.nd, S.len, fun a ha => by
      obtain ⟨u, q⟩ := S.thr a ha
      exact ⟨u, by rw [upd_ne fun z => f1 (by rw [← z]; exact ha)]; exact q⟩,
    fun j c' a h1 h2 => (S.cell j c' a h1 h2).stay (Le.refl _) (List.prefix_refl _) (fun f => f) fun u q => by
      rw [upd_ne fun z => f1 (by rw [← z]; exact get_mem h2)]; exact q⟩
/-- what was kept aside is handed out: frozen, or as a cell -/
theorem Sim.unpinF {K : Frag} {mg : MG} {P F : Hp} {al : List Addr} {H : Hp} {G : GH} {p : Addr} {o : HO} (S : Sim K mg (upd P p o) F al H G) (hp : P p = none) : Sim K mg P (upd F p o) al H G := by
  obtain ⟨f0, f1⟩ := S.dj p o upd_same
  have hH := S.fr p o upd_same
  exact ⟨fun a u q => by
      by_cases h : a = p
      · subst h; rw [upd_same] at q; cases q; exact hH
      · rw [upd_ne h] at q; exact S.sub a u q,
    fun a u q => S.fr a u (by rw [upd_ne (ne_of_none q hp)]; exact q),
    fun a u q => by
      have h := ne_of_none q hp
      rw [upd_ne h]
      exact S.dj a u (by rw [upd_ne h]; exact q), S.nd, S.len, S.thr,
    fun j c' a h1 h2 => (S.cell j c' a h1 h2).stay (Le.upd f0) (List.prefix_refl _) (fun f => by rw [upd_ne fun z => f1 (by rw [← z]; exact get_mem h2)]; exact f) fun u q => q⟩
theorem Sim.unpinC {K : Frag} {mg : MG} {P F : Hp} {al : List Addr} {H : Hp} {G : GH} {p : Addr} {o : HO} (S : Sim K mg (upd P p o) F al H G) (hp : P p = none) {cl : Cell} (hc : CellOk K mg F (al ++ [p]) H p cl) : Sim K mg P F (al ++ [p]) H (G ++ [cl]) := by
  obtain ⟨f0, f1⟩ := S.dj p o upd_same
  have hH := S.fr p o upd_same
  exact ⟨S.sub, fun a u q => S.fr a u (by rw [upd_ne (ne_of_none q hp)]; exact q),
    fun a u q => by
      have h := ne_of_none q hp
      obtain ⟨z1, z2⟩ := S.dj a u (by rw [upd_ne h]; exact q)
      refine ⟨z1, fun z => ?_⟩
      rcases List.mem_append.mp z with z | z
      · exact z2 z
      · exact h (by simpa using z),
    by
      rw [List.nodup_append]
      refine ⟨S.nd, by simp, fun a ha b hb => ?_⟩
      have e : b = p := by simpa using hb
      subst e
      exact fun z => f1 (by rw [← z]; exact ha),
    by rw [List.length_append, List.length_append, S.len]; rfl,
    fun a ha => by
      rcases List.mem_append.mp ha with ha | ha
      · exact S.thr a ha
      · have e : a = p := by simpa using ha
        subst e
        exact ⟨o, hH⟩,
    fun j c' a hk ha => by
      by_cases hl : j < G.length
      · rw [List.getElem?_append_left hl] at hk
        rw [List.getElem?_append_left (by rw [S.len]; exact hl)] at ha
        exact (S.cell j c' a hk ha).stay (Le.refl _) (List.prefix_append _ _) (fun f => f) fun u q => q
      · rw [List.getElem?_append_right (Nat.le_of_not_lt hl)] at hk
        rw [List.getElem?_append_right (by rw [S.len]; exact Nat.le_of_not_lt hl), S.len] at ha
        have z : j - G.length = 0 := by
          have := (List.getElem?_eq_some_iff.mp hk).1
          simp at this
          omega
        rw [z] at hk ha
        cases hk
        cases ha
        exact hc⟩
theorem mk_at {K : Frag} {mg : MG} {W : WX} {sg : St} {P F : Hp} {al : List Addr} {H : Hp} {G : GH} {cm : Bool} {ds : List D} {vs : List V} {Q : VK} {p : Addr} (S : Sim K mg (upd P p (.lst vs)) F al H G) (hp : P p = none) (r : RepL K F al ds vs) (h : Obl K mg P (RepV K) W sg F al (mk cm ds G) Q) : Q (.ref p) H := by
  obtain ⟨f0, f1⟩ := S.dj p _ upd_same
  have hH := S.fr p _ upd_same
  unfold mk at h
  split at h
  · refine h F (al ++ [p]) _ _ ⟨Le.refl _, List.prefix_append _ _⟩ (S.unpinC hp ⟨f0, vs, hH, r.mono (Le.refl _) (List.prefix_append _ _)⟩) ?_
    unfold RepV
    refine ⟨p, ?_, rfl⟩
    rw [← S.len, List.getElem?_append_right (Nat.le_refl _), Nat.sub_self]
    rfl
  · have lu : Le F (upd F p (.lst vs)) := Le.upd f0
    refine h (upd F p (.lst vs)) al _ _ ⟨lu, List.prefix_refl _⟩ (S.unpinF hp) ?_
    unfold RepV
    exact ⟨p, vs, rfl, upd_same, r.mono lu (List.prefix_refl _)⟩

/-! ### comprehensions -/
def wipeD (rh : DEnv) : List Nat → DEnv
  | [] => rh
  | v :: vs => (wipeD rh vs).set v none
theorem wipeD_len (rh : DEnv) : ∀ vs : List Nat, (wipeD rh vs).length = rh.length
  | [] => rfl
  | v :: vs => by unfold wipeD; rw [List.length_set, wipeD_len rh vs]
theorem wipe_at (sg : St) : ∀ (vs : List Nat) (j : Nat), j ∉ vs → (wipe sg vs)[j]? = sg[j]?
  | [], _, _ => rfl
  | v :: vs, j, h => by
    unfold wipe
    rw [List.mem_cons, not_or] at h
    rw [List.getElem?_set_ne (Ne.symm h.1)]
    exact wipe_at sg vs j h.2
theorem wipe_in (sg : St) : ∀ (vs : List Nat) (j : Nat), j ∈ vs → (wipe sg vs)[j]? = if j < sg.length then some none else none
  | v :: vs, j, h => by
    unfold wipe
    by_cases hj : v = j
    · subst hj
      by_cases hl : v < sg.length
      · rw [if_pos hl, List.getElem?_set_self (by rw [wipe_length]; exact hl)]
      · rw [if_neg hl]
        exact List.getElem?_eq_none (by rw [List.length_set, wipe_length]; omega)
    · rw [List.getElem?_set_ne hj]
      rcases List.mem_cons.mp h with z | z
      · exact absurd z.symm hj
      · exact wipe_in sg vs j z
theorem wipe_eq {vs ks : List Nat} {sg sg2 : St} (o : Off ks (wipe sg vs) sg2) (hk : ∀ j ∈ ks, j ∈ vs) : wipe sg2 vs = wipe sg vs := by
  apply List.ext_getElem?
  intro j
  have hl : sg2.length = sg.length := by rw [o.len, wipe_length]
  by_cases hj : j ∈ vs
  · rw [wipe_in _ _ _ hj, wipe_in _ _ _ hj, hl]
  · rw [wipe_at _ _ _ hj, o.at_ j fun z => hj (hk j z)]
theorem EnvOk.wipe {K : Frag} {F : Hp} {al : List Addr} {rh : DEnv} {sg : St} (h : EnvOk K F al rh sg) : ∀ vs : List Nat, EnvOk K F al (wipeD rh vs) (wipe sg vs)
  | [] => h
  | v :: vs => by
    have ih := EnvOk.wipe h vs
    unfold wipeD L2.wipe
    refine ⟨by rw [List.length_set, List.length_set]; exact ih.len, fun i d q => ?_⟩
    by_cases hi : v = i
    · subst hi
      have hl : v < (wipeD rh vs).length := by
        have := (List.getElem?_eq_some_iff.mp q).1
        rwa [List.length_set] at this
      rw [List.getElem?_set_self hl] at q
      cases q
    · rw [List.getElem?_set_ne hi] at q ⊢
      exact ih.at_ i d q
abbrev WF : WX := fun _ _ _ _ => False
def lcS (at_ : GH → Nat → Option (Option D)) (t : T1) (tt : M Bool) (te : M D) (rw_ : DEnv) : Nat → Nat → List D → GH → Out (List D)
  | 0, i, acc, G => match at_ G i with
    | some none => .ok acc G
    | _ => .stuck
  | f + 1, i, acc, G => match at_ G i with
    | none => .stuck
    | some none => .ok acc G
    | some (some d) => match t d rw_ G with
      | none => .stuck
      | some rh2 => match tt rh2 G with
        | .ok true G2 => match te rh2 G2 with
          | .ok y G3 => if acc.length < sizeLine then lcS at_ t tt te rw_ f (i + 1) (acc ++ [y]) G3 else .stuck
          | _ => .stuck
        | .ok false G2 => lcS at_ t tt te rw_ f (i + 1) acc G2
        | _ => .stuck
def mLc (cm : Bool) (vs : List Nat) (m : M Src) (t : T1) (tt : M Bool) (te : M D) : M D := fun rh G => (m rh G).bind fun s G1 => (lcS s.at_ t tt te (wipeD rh vs) s.fuel 0 [] G1).bind fun ds G2 => mk cm ds G2
def mYes : M Bool := fun _ G => .ok true G
theorem lc_imp (cm : Bool) {m : M Src} {t : T1} {tt : M Bool} {te : M D} {vs ks : List Nat} (hk : ∀ j ∈ ks, j ∈ vs) : ∀ sg H Q, tV X.K X.mg W (mLc cm vs m t tt te) sg H Q → tLc (tI X.K X.mg W m) (tG X.K X.mg t ks) (tT X.K X.mg WF tt) (tV X.K X.mg WF te) vs sg H Q := fun sg H Q ⟨P, F, al, G, rh, R, h⟩ =>
  ⟨P, F, al, G, rh, R, (step (R := SrcOk X.K X.mg P) R.env h).imp fun J H1 ⟨F1, al1, G1, s, _, R1, ok, h1⟩ => by
    intro Dl hD
    have PD : P Dl = none := by
      cases q : P Dl with
      | none => rfl
      | some u => rw [R1.sim.fr Dl u q] at hD; cases hD
    have E1 := R1.env.wipe vs
    refine ⟨fun i n H => ∃ F2 al2 G2 acc vacc, Ext F1 al1 F2 al2 ∧ Sim X.K X.mg (upd P Dl (.lst vacc)) F2 al2 H G2 ∧ RepL X.K F2 al2 acc vacc ∧ Obl X.K X.mg P (RepV X.K) W sg F2 al2 ((lcS s.at_ t tt te (wipeD rh vs) n i acc G2).bind fun ds G3 => mk cm ds G3) Q,
      ⟨s.fuel, F1, al1, G1, [], [], Ext.refl _ _, R1.sim.pin hD _, RepL.nil, h1⟩, ?_⟩
    rintro i n H2 ⟨F2, al2, G2, acc, vacc, x2, S2, ra, h2⟩
    obtain ⟨o1, o2⟩ := ok i F2 al2 H2 G2 _ x2 S2
    cases q : s.at_ G2 i with
    | none =>
      cases n with
      | zero => unfold lcS at h2; rw [q] at h2; exact h2.elim
      | succ n => unfold lcS at h2; rw [q] at h2; exact h2.elim
    | some q' =>
      cases q' with
      | none =>
        refine .inl ⟨o1 q, ?_⟩
        cases n with
        | zero => unfold lcS at h2; rw [q] at h2; exact mk_at S2 PD ra h2
        | succ n => unfold lcS at h2; rw [q] at h2; exact mk_at S2 PD ra h2
      | some d =>
        obtain ⟨hgo, hy⟩ := o2 d q
        cases n with
        | zero => unfold lcS at h2; rw [q] at h2; exact h2.elim
        | succ n =>
          unfold lcS at h2
          rw [q] at h2
          dsimp only at h2
          refine .inr ⟨hgo, fun H' => ∃ F3 al3 G3 acc3 vacc3, Ext F1 al1 F3 al3 ∧ Sim X.K X.mg (upd P Dl (.lst vacc3)) F3 al3 H' G3 ∧ RepL X.K F3 al3 acc3 vacc3 ∧ Obl X.K X.mg P (RepV X.K) W sg F3 al3 ((lcS s.at_ t tt te (wipeD rh vs) n (i + 1) acc3 G3).bind fun ds G3 => mk cm ds G3) Q,
            fun H' hN => ⟨n, Nat.lt_succ_self _, hN⟩, fun x H3 yl => ?_⟩
          obtain ⟨F3, l3, S3, r3⟩ := hy x H3 yl
          have x3 : Ext F2 al2 F3 al2 := ⟨l3, List.prefix_refl _⟩
          cases q3 : t d (wipeD rh vs) G2 with
          | none => rw [q3] at h2; exact h2.elim
          | some rh3 =>
            rw [q3] at h2
            dsimp only at h2
            refine ⟨_, F3, al2, G2, wipeD rh vs, d, rh3, ⟨S3, E1.ext (x2.trans x3)⟩, r3, q3, fun sg3 R3 off => ⟨wipe_eq off hk, ?_⟩⟩
            refine ⟨_, F3, al2, G2, rh3, R3, ?_⟩
            cases q4 : tt rh3 G2 with
            | exn c G4 => rw [q4] at h2; exact h2.elim
            | stuck => rw [q4] at h2; exact h2.elim
            | ok bb G4 =>
              intro F4 al4 H4 vb x4 S4 rb
              cases rb
              have h4 := h2.ext (x3.trans x4)
              rw [q4] at h4
              cases bb with
              | false =>
                rw [if_neg Bool.false_ne_true]
                exact ⟨F4, al4, G4, acc, vacc, (x2.trans x3).trans x4, S4, (ra.ext x3).ext x4, h4⟩
              | true =>
                rw [if_pos rfl]
                dsimp only at h4
                refine ⟨_, F4, al4, G4, rh3, ⟨S4, R3.env.ext x4⟩, ?_⟩
                cases q5 : te rh3 G4 with
                | exn c G5 => rw [q5] at h4; exact h4.elim
                | stuck => rw [q5] at h4; exact h4.elim
                | ok y G5 =>
                  intro F5 al5 H5 vy x5 S5 ry
                  have h5 := h4.ext x5
                  rw [q5] at h5
                  dsimp only at h5
                  split at h5
                  · rename_i hl
                    refine ⟨vacc, S5.fr Dl _ upd_same, by rw [← ra.len]; exact hl, F5, al5, G5, acc ++ [y], vacc ++ [vy], ((x2.trans x3).trans x4).trans x5, S5.repin _, RepL.append (((ra.ext x3).ext x4).ext x5) (RepL.cons ry RepL.nil), h5⟩
                  · exact h5.elim⟩
abbrev XB (X : Cx) (s : Shared) (H : Hp) (scope : Scope) (C : Addr) (cl : List (Str × Addr)) (fp : List Addr) : Cx := X.blk s H scope (compEnvC scope cl C X.env) fp
theorem ve_lc (cm : Bool) {elt tg iter : Expr} {ifs : List Expr} {scope : Scope} {own : List (Str × Nat)} {m : M Src} {t : T1} {ks : List Nat} {tt : M Bool} {te : M D} (hc : X.calm = true) (hN : X.N.Nodup) (hi : VI X W tg iter m) (ok : BlkOk X.N X.env.scope scope own) (hk : ∀ j ∈ ks, j ∈ own.map (·.2))
    (hg : ∀ (s : Shared) (H : Hp) (C : Addr) (cl : List (Str × Addr)) (fp : List Addr), VG (XB X s H scope C cl fp) tg t ks) (ht : ∀ (s : Shared) (H : Hp) (C : Addr) (cl : List (Str × Addr)) (fp : List Addr), PTs (XB X s H scope C cl fp) ifs (tT X.K X.mg WF tt))
    (he : ∀ (s : Shared) (H : Hp) (C : Addr) (cl : List (Str × Addr)) (fp : List Addr), VE (XB X s H scope C cl fp) WF elt te) (hs : ∀ x, foldedSetIterable iter X.env x = pure x := by intro _; rfl) :
    VE X W (.ListComp elt [⟨tg, iter, ifs, 0⟩] scope pos) (mLc cm (own.map (·.2)) m t tt te) := pe_imp (pe_lc hc hN hi ok hg ht he hs) (lc_imp cm hk)
theorem vts_nil : PTs X [] (tT X.K X.mg W mYes) := ⟨fun pins s sg H Q I h => pts_nil.run pins s sg H Q I (by obtain ⟨P, F, al, G, rh, R, h⟩ := h; exact obl_ok h R.sim rfl)⟩
theorem vts_one {m : M Bool} (h : VT X W c m) : PTs X [c] (tT X.K X.mg W m) := pts_one h
/-- y = [..] on one line -/
theorem vs_setLc (cm : Bool) {i : Nat} {y : Str} {py : Pos} {elt tg iter : Expr} {ifs : List Expr} {scope : Scope} {own : List (Str × Nat)} {spos : Pos} {m : M Src} {t : T1} {ks : List Nat} {tt : M Bool} {te : M D} (hc : X.calm = true) (hN : X.N.Nodup) (hy : X.N[i]? = some y) (hyl : X.env.scope.names.lookup y = some .local)
    (hsw : swapsWith (.ListComp elt [⟨tg, iter, ifs, 0⟩] scope pos) (some (.Name y py)) spos.line X.env = pure true) (hi : VI X W tg iter m) (ok : BlkOk X.N X.env.scope scope own) (hk : ∀ j ∈ ks, j ∈ own.map (·.2))
    (hg : ∀ (s : Shared) (H : Hp) (C : Addr) (cl : List (Str × Addr)) (fp : List Addr), VG (XB X s H scope C cl fp) tg t ks) (ht : ∀ (s : Shared) (H : Hp) (C : Addr) (cl : List (Str × Addr)) (fp : List Addr), PTs (XB X s H scope C cl fp) ifs (tT X.K X.mg WF tt))
    (he : ∀ (s : Shared) (H : Hp) (C : Addr) (cl : List (Str × Addr)) (fp : List Addr), VE (XB X s H scope C cl fp) WF elt te) (hs : ∀ x, foldedSetIterable iter X.env x = pure x := by intro _; rfl) :
    VS X W (.Assign [.Name y py] (.ListComp elt [⟨tg, iter, ifs, 0⟩] scope pos) spos) (sSet i (mLc cm (own.map (·.2)) m t tt te)) :=
  ps_imp (ps_setLc hc hN hy hyl hsw hi ok hg ht he hs) fun E sg H ⟨P, F, al, G, rh, R, h⟩ => lc_imp (W := W) cm hk sg H _ ⟨P, F, al, G, rh, R, (stepS R.env h).imp fun v H1 ⟨F1, al1, G1, d, _, R1, r1, h1⟩ => obs_nx h1 ⟨R1.sim, R1.env.set i r1⟩⟩

/-! ### while -/
def whileS (c : M Bool) (body : S) : Nat → S
  | 0 => fun _ _ => .stuck
  | f + 1 => fun rh G => fromO (c rh G) rh fun b G1 => if b = true then (match body rh G1 with
      | .nx rh2 G2 => whileS c body f rh2 G2
      | .ct rh2 G2 => whileS c body f rh2 G2
      | .bk rh2 G2 => .nx rh2 G2
      | .rt d G2 => .rt d G2
      | .exn c rh2 G2 => .exn c rh2 G2
      | .stuck => .stuck) else .nx rh G1
theorem vs_while (fuel : Nat) {body : List Stmt} {m : M Bool} {gb : S} (hp : PassesOwn (model X.prog X.w) X.A X.env X.xe) (hc : VT X W c m) (hb : VSs X W body gb) : VS X W (.While c body [] pos) (whileS m gb fuel) :=
  ps_imp (ps_while hp hc hb) fun E sg H ⟨P, F, al, G, rh, R, h⟩ => by
    refine ⟨fun n sg H => ∃ F2 al2 G2 rh2, Rel X.K X.mg P F2 al2 G2 rh2 sg H ∧ OblS X.K X.mg P W F2 al2 (whileS m gb n rh2 G2) E, ⟨fuel, F, al, G, rh, R, h⟩, ?_⟩
    rintro n sg2 H2 ⟨F2, al2, G2, rh2, R2, h2⟩
    cases n with
    | zero => exact h2.elim
    | succ n =>
      unfold whileS at h2
      refine ⟨P, F2, al2, G2, rh2, R2, (stepS R2.env h2).imp fun v H3 ⟨F3, al3, G3, d, x3, R3, r3, h3⟩ => ?_⟩
      cases r3
      by_cases q : v = true
      · rw [if_pos q] at h3 ⊢
        refine ⟨fun sg' H' => ∃ F4 al4 G4 rh4, Rel X.K X.mg P F4 al4 G4 rh4 sg' H' ∧ OblS X.K X.mg P W F4 al4 (whileS m gb n rh4 G4) E, fun sg' H' hN => ⟨n, Nat.lt_succ_self _, hN⟩, P, F3, al3, G3, rh2, R3, ?_⟩
        cases q4 : gb rh2 G3 with
        | nx rh4 G4 => rw [q4] at h3; exact fun F4 al4 H4 sg4 x4 R4 => ⟨F4, al4, G4, rh4, R4, OblS.ext h3 x4⟩
        | ct rh4 G4 => rw [q4] at h3; exact fun F4 al4 H4 sg4 x4 R4 => ⟨F4, al4, G4, rh4, R4, OblS.ext h3 x4⟩
        | bk rh4 G4 => rw [q4] at h3; exact h3
        | rt d4 G4 => rw [q4] at h3; exact h3
        | exn c rh4 G4 => rw [q4] at h3; exact h3
        | stuck => rw [q4] at h3; exact h3
      · rw [if_neg q] at h3 ⊢
        exact obs_nx h3 R3

/-! ### x += e -/
def sAug (i : Nat) (o : D → D → GH → Out D) (m : M D) : S := fun rh G => match rh[i]? with
  | some (some d) => fromO (m rh G) rh fun e G1 => fromO (o d e G1) rh fun z G2 => .nx (rh.set i (some z)) G2
  | _ => .stuck
theorem vs_aug {i : Nat} {x : Str} {op : Operator} {pos' : Pos} {f : Int → Int → Int} (hN : X.N.Nodup) (hi : X.N[i]? = some x) (hx : Loc X.env.scope x) (he : VE X W e ma) (ho : PIp X op (ipI f)) (hf : X.fn x = true ∨ X.env.scope.names.lookup x = some .local := by first | exact .inl rfl | exact .inr rfl | assumption) :
    VS X W (.AugAssign (.Name x pos') op e pos) (sAug i (oI fun i j => .int (f i j)) ma) := ps_imp (ps_aug hN hi hx he ho hf) fun E sg H ⟨P, F, al, G, rh, R, h⟩ => by
  unfold sAug at h
  split at h
  · rename_i d e1
    obtain ⟨v, q1, q2⟩ := R.env.at_ i d e1
    refine ⟨v, q1, P, F, al, G, rh, R, (stepS R.env h).imp fun w H1 ⟨F1, al1, G1, d1, x1, R1, r1, h1⟩ => ?_⟩
    unfold oI at h1
    split at h1
    · rw [if_pos rfl] at h1
      have q2' := q2.ext x1
      unfold RepV at q2' r1
      exact ⟨_, _, q2', r1, obs_nx h1 ⟨R1.sim, R1.env.set i rfl⟩⟩
    · exact h1.elim
  · exact h.elim

/-! ### enumerate, zip, a text -/
def oSrcE (ds : List D) (G : GH) : Out Src := match ds with
  | [d] => match lstOf G d with
    | some xs => .ok ⟨fun G' i => match lstOf G' d with
      | some ys => some ((ys[i]?).map fun y => D.tup [.int (i : Nat), y])
      | none => none, xs.length⟩ G
    | none => .stuck
  | _ => .stuck
theorem src_enum {K : Frag} {mg : MG} {P F : Hp} {al : List Addr} {d : D} {a : Addr} {n : Nat} (r : RepV K F al d (.ref a)) : SrcOk K mg P F al ⟨fun G' i => match lstOf G' d with
      | some ys => some ((ys[i]?).map fun y => D.tup [.int (i : Nat), y])
      | none => none, n⟩ (Ite K a) := by
  intro i F' al' H G P' x S
  have r' := r.ext x
  refine ⟨fun h => ?_, fun e h => ?_⟩
  · dsimp only at h
    split at h
    · rename_i xs q
      obtain ⟨b, vs, eb, h2, h3⟩ := lst_at S r' q
      cases eb
      refine ⟨vs, h2, ?_⟩
      rw [← h3.len]
      have := Option.some.inj h
      rw [Option.map_eq_none_iff] at this
      exact List.getElem?_eq_none_iff.mp this
    · cases h
  · dsimp only at h
    split at h
    · rename_i xs q
      obtain ⟨b, vs, eb, h2, h3⟩ := lst_at S r' q
      cases eb
      obtain ⟨y, ey, rfl⟩ := Option.map_eq_some_iff.mp (Option.some.inj h)
      obtain ⟨v, h4, h5⟩ := RepL.get h3 ey
      refine ⟨⟨vs, v, h2, h4⟩, fun z H' hz => ?_⟩
      obtain ⟨T, w, rfl, hT, rfl, hw⟩ := hz
      have := hw vs h2
      rw [h4] at this
      cases this
      have lu : Le F' (upd F' T (.tup [.int (i : Nat), v])) := Le.upd (S.freeF hT)
      refine ⟨upd F' T (.tup [.int (i : Nat), v]), lu, S.newF hT _, ?_⟩
      unfold RepV
      exact ⟨T, _, rfl, upd_same, RepL.cons rfl (RepL.cons (h5.mono lu (List.prefix_refl _)) RepL.nil)⟩
    · cases h
theorem vi_enum {es : List Expr} {kk : Nat} {tpos p : Pos} {ml : M (List D)} (hg : Gl X "enumerate") (hm : X.mg "enumerate" = none) (ha : VA X W [a] ml) (hs : starEach [a] X.env = [(false, eval a X.env)] := by rfl) :
    VI X W (.Tuple es kk tpos) (.Call (.Name "enumerate" p) [a] [] pos) (b1 oSrcE ml) := pi_imp (pi_enum hg hm ha hs) fun sg H R ⟨P, F, al, G, rh, R0, h⟩ => ⟨P, F, al, G, rh, R0, (step (R' := SrcOk X.K X.mg P) R0.env h).imp fun v H1 ⟨F1, al1, G1, d, _, R1, r1, h1⟩ => by
  unfold oSrcE at h1
  split at h1
  · split at h1
    · rename_i xs e1
      obtain ⟨u, rfl, q⟩ := repl1 r1
      obtain ⟨b, vs, rfl, h2, h3⟩ := lst_at R1.sim q e1
      exact ⟨b, vs, rfl, h2, obl_ok h1 R1.sim (src_enum q)⟩
    · exact h1.elim
  · exact h1.elim⟩
def oSrcZ (ds : List D) (G : GH) : Out Src := match ds with
  | [d, d'] => match lstOf G d, lstOf G d' with
    | some xs, some _ => .ok ⟨fun G' i => match lstOf G' d, lstOf G' d' with
      | some ys, some zs => match ys[i]?, zs[i]? with
        | some y, some z => some (some (D.tup [y, z]))
        | _, _ => some none
      | _, _ => none, xs.length⟩ G
    | _, _ => .stuck
  | _ => .stuck
def strL (x : Str) : List D := x.cps.toList.map fun c => D.str ⟨#[c]⟩
def oSrcS (d : D) (G : GH) : Out Src := match d with
  | .str x => .ok (srcC (strL x)) G
  | _ => .stuck
theorem src_str {K : Frag} {mg : MG} {P F : Hp} {al : List Addr} {x : Str} : SrcOk K mg P F al (srcC (strL x)) (Its x) := by
  intro i F' al' H G P' x' S
  have hl : (strL x).length = x.cps.size := by unfold strL; simp
  refine ⟨fun h => ?_, fun e h => ?_⟩
  · have h0 : (strL x)[i]? = none := Option.some.inj h
    have h1 := List.getElem?_eq_none_iff.mp h0
    rw [hl] at h1
    exact h1
  · have h0 : (strL x)[i]? = some e := Option.some.inj h
    have hi : i < x.cps.size := by
      have := (List.getElem?_eq_some_iff.mp h0).1
      rwa [hl] at this
    refine ⟨hi, fun y H' hy => ?_⟩
    obtain ⟨e1, cc, e2, e3⟩ := hy
    subst e1
    refine ⟨F', Le.refl _, S, ?_⟩
    unfold strL at h0
    rw [List.getElem?_map, Array.getElem?_toList, e2] at h0
    cases h0
    unfold RepV
    exact e3
theorem vi_str {tg : Expr} (h : VE X W a ma) : VI X W tg a (b1 oSrcS ma) := pi_imp (pi_str h) fun sg H R ⟨P, F, al, G, rh, R0, h⟩ => ⟨P, F, al, G, rh, R0, (step (R' := SrcOk X.K X.mg P) R0.env h).imp fun v H1 ⟨F1, al1, G1, d, _, R1, r1, h1⟩ => by
  unfold oSrcS at h1
  split at h1
  · unfold RepV at r1
    exact ⟨_, r1, obl_ok h1 R1.sim src_str⟩
  · exact h1.elim⟩

/-! ### defs -/
abbrev MF := List D → GH → Out D
/-- what a def promises: it is worth mf -/
def spD (K : Frag) (mg : MG) (n : Nat) (mf : MF) : Sp := fun vs H Q E => ∃ P F al G ds, Sim K mg P F al H G ∧ RepL K F al ds vs ∧ ds.length = n ∧ Obl K mg P (RepV K) (fun cls d _ H' => E cls d H') [] F al (mf ds G) Q
def startD (n : Nat) (ds : List D) : DEnv := ds.map some ++ List.replicate (n - ds.length) none
def runF (n : Nat) (g : S) : MF := fun ds G => match g (startD n ds) G with
  | .nx _ G' => .ok .non G'
  | .rt d G' => .ok d G'
  | .exn c _ G' => .exn c G'
  | _ => .stuck
theorem EnvOk.start {K : Frag} {F : Hp} {al : List Addr} {ds : List D} {vs : List V} (N : List Str) (r : RepL K F al ds vs) : EnvOk K F al (startD N.length ds) (start N vs) := by
  unfold startD L2.start
  refine ⟨by simp only [List.length_append, List.length_map, List.length_replicate, r.len], fun i d q => ?_⟩
  by_cases hi : i < ds.length
  · rw [List.getElem?_append_left (by rw [List.length_map]; exact hi), List.getElem?_map] at q
    obtain ⟨e, e1, e2⟩ := Option.map_eq_some_iff.mp q
    cases e2
    obtain ⟨v, h1, h2⟩ := RepL.get r e1
    refine ⟨v, ?_, h2⟩
    rw [List.getElem?_append_left (by rw [List.length_map, ← r.len]; exact hi), List.getElem?_map, h1]
    rfl
  · rw [List.getElem?_append_right (by rw [List.length_map]; omega)] at q
    have := List.mem_replicate.mp (List.mem_of_getElem? q)
    cases this.2
abbrev WE0 (E : XK) : WX := fun cls d _ H => E cls d H
section
variable {Pr : Program} {w : World} {K : Frag} {mg : MG} {base : Heap}
end
theorem obl_call {K : Frag} {mg : MG} {P F : Hp} {al : List Addr} {W : WX} {sg : St} {o : Out D} {Q : VK} (h : Obl K mg P (RepV K) W sg F al o Q) : Obl K mg P (RepV K) (fun cls d _ H' => WE W sg cls d H') [] F al o Q := by
  cases o with
  | ok b G => exact h
  | exn c G => exact h
  | stuck => exact h
/-- f(..) -/
theorem ve_call {kf n : Nat} {f : Addr} {fd : FuncData} {ps : List Str} {mf : MF} {x : Str} {p : Pos} {es : List Expr} {ml : M (List D)} (tk : Takes X W) (Fk : FnOk X.prog X.w X.K X.mg X.base (L2.CX X.prog X.w) kf f fd ps (spD X.K X.mg n mf)) (hr : Room kf X.A) (hg : Gl X x) (hm : X.mg x = some (.ref f))
    (hk : PySem.W.keepIn X.K (.ref f) = true) (hb : Binds X.K fd ps []) (ha : VA X W (e :: es) ml) (hl : (e :: es).length = n := by rfl) (hdb : (x == ("__debug__" : Str)) = false := by decide) (he : starEach (e :: es) X.env = (false, eval e X.env) :: starEach es X.env := by rfl) (hpl : (backTo pos (starEach es X.env)).any (·.1) = false := by rfl) :
    VE X W (.Call (.Name x p) (e :: es) [] pos) (b1 (fun ds G => if ds.length = n then mf ds G else .stuck) ml) :=
  pe_imp (pe_callS (E := WE W) Fk hr hg hm hk hb (fun sg => passAt tk sg) ha hdb he hpl) fun sg H Q ⟨P, F, al, G, rh, R, h⟩ => ⟨P, F, al, G, rh, R, (step R.env h).imp fun vs H1 ⟨F1, al1, G1, ds, _, R1, r1, h1⟩ => by
    split at h1
    · rename_i hl'
      exact ⟨P, F1, al1, G1, ds, R1.sim, r1, hl', obl_call h1⟩
    · exact h1.elim⟩
theorem ve_call0 {kf : Nat} {f : Addr} {fd : FuncData} {ps : List Str} {mf : MF} {x : Str} {p : Pos} (tk : Takes X W) (Fk : FnOk X.prog X.w X.K X.mg X.base (L2.CX X.prog X.w) kf f fd ps (spD X.K X.mg 0 mf)) (hr : Room kf X.A) (hg : Gl X x) (hm : X.mg x = some (.ref f))
    (hk : PySem.W.keepIn X.K (.ref f) = true) (hb : Binds X.K fd ps []) (hdb : (x == ("__debug__" : Str)) = false := by decide) : VE X W (.Call (.Name x p) [] [] pos) (fun _ G => mf [] G) := by
  refine ⟨fun pins s sg H Q I ⟨P, F, al, G, rh, R, h⟩ => ?_⟩
  refine wpAny_Call_Name_kw (ld_glob I hg hm ?_ hdb)
  exact PySem.W.callWith_K0 I.kIn hk (run_fnS (us := []) (vs := []) (E := WE W) Fk hr hb (passAt tk sg) I .nil ⟨P, F, al, G, [], R.sim, RepL.nil, rfl, obl_call h⟩)

/-! ### raise -/
def sRaise (c : Str) : S := fun rh G => .exn c rh G
theorem vs_raise {x m : Str} {C : Addr} {j : Nat} {p p2 cpos : Pos} (hc : X.calm = true) (tk : Takes X W) (q : PySem.W.excIn X.K C [.type "ValueError", .type "Exception", .type "BaseException", .type "object"] "ValueError.__new__" = true) (gC : X.mg x = some (.ref C))
    (kC : PySem.W.keepIn X.K (.ref C) = true) (r : Raises X (.ref C)) (hg : Gl X x) (hdb : (x == ("__debug__" : Str)) = false := by decide) : VS X W (.Raise (some (.Call (.Name x p) [.Constant (.str m) j p2] [] cpos)) none pos) (sRaise x) :=
  ps_imp (ps_raise hc tk (pmk_own PySem.F.excBase_ValueError q gC kC r hg hdb)) fun E sg H ⟨P, F, al, G, rh, R, h⟩ => h F al H sg C (Ext.refl _ _) R gC
end
end VL

/-! Q5: defs by the head's facts; calls that see less; ghost steps. -/
namespace VL
open PySem L2

/-- THE RULE for a def of the head's facts -/
theorem vfnD {Pr : Program} {w : World} {K : Frag} {mg : MG} {base : Heap} {x qual : Str} {pm : Arguments} {body : List Stmt} {sc : Scope} {f : Addr} {fd : FuncData} {N ps : List Str} {k n : Nat} {g : S} (Fn : FunD K x qual pm body sc [] [] f fd) (Sc : FnScope N ps sc) (hn : N.length = n)
    (hb : ∀ (cdv : Value) (A : Around) (outer : List Env) (s : Shared) (H : Hp) (E : XK), Room k (A.deeper (PyProof.Rows.envOfC qual sc s.heap.objs.size f cdv)) → VSs (cxOf (L2.CX Pr w) Pr w K mg base N qual sc f cdv A outer s H E) (WE0 E) body g) :
    FnOk Pr w K mg base (L2.CX Pr w) (k + 1) f fd ps (spD K mg ps.length (runF n g)) := by
  refine Fn.ok Sc (fun vs H Q E h => ?_) (fun cdv A outer s H vs Q E hr h => ?_)
  · obtain ⟨P, F, al, G, ds, _, r, hl, _⟩ := h
    rw [← r.len]; exact hl
  · obtain ⟨P, F, al, G, ds, S, r, hl, h⟩ := h
    refine ⟨_, hb cdv A outer s H E hr, P, F, al, G, startD n ds, ⟨S, by rw [← hn]; exact EnvOk.start N r⟩, ?_⟩
    unfold runF at h
    show OblS K mg P (WE0 E) F al (g (startD n ds) G) _
    cases q : g (startD n ds) G with
    | nx rh' G' => rw [q] at h; exact fun F' al' H' sg' x R => h F' al' H' .non x R.sim rfl
    | rt d G' => rw [q] at h; exact h
    | bk rh' G' => rw [q] at h; exact h.elim
    | ct rh' G' => rw [q] at h; exact h.elim
    | exn c rh' G' => rw [q] at h; exact fun F' al' H' sg' C x R m => h F' al' H' C x R.sim m
    | stuck => rw [q] at h; exact h.elim

/-- the def of that name is worth mf, at most level lv -/
def Ok (Pr : Program) (w : World) (K : Frag) (mg : MG) (base : Heap) (lv : Nat) (x : Str) (n : Nat) (mf : MF) : Prop :=
  ∃ (f : Addr) (fd : FuncData) (ps : List Str), mg x = some (.ref f) ∧ PySem.W.keepIn K (.ref f) = true ∧ Binds K fd ps [] ∧ ps.length = n ∧ FnOk Pr w K mg base (L2.CX Pr w) lv f fd ps (spD K mg n mf)
theorem Ok.mono {Pr : Program} {w : World} {K : Frag} {mg : MG} {base : Heap} {j k : Nat} {x : Str} {n : Nat} {mf : MF} (h : Ok Pr w K mg base j x n mf) (l : j ≤ k) : Ok Pr w K mg base k x n mf := by
  obtain ⟨f, fd, ps, h1, h2, h3, h4, h5⟩ := h
  exact ⟨f, fd, ps, h1, h2, h3, h4, h5.mono l⟩
/-- another mirror of the same worth -/
theorem Ok.eq {Pr : Program} {w : World} {K : Frag} {mg : MG} {base : Heap} {k : Nat} {x : Str} {n : Nat} {mf mf' : MF} (h : Ok Pr w K mg base k x n mf) (e : mf = mf') : Ok Pr w K mg base k x n mf' := e ▸ h

def mCall (n : Nat) (mf : MF) (ml : M (List D)) : M D := b1 (fun ds G => if ds.length = n then mf ds G else .stuck) ml
section
variable {X : Cx} {W : WX} {st : Stmt} {rest : List Stmt} {g k : S} {e a b c : Expr} {ma mb mc : M D} {pos : Pos}
theorem ve_callK {lv n : Nat} {mf : MF} {x : Str} {p : Pos} {es : List Expr} {ml : M (List D)} (tk : Takes X W) (h : Ok X.prog X.w X.K X.mg X.base lv x n mf) (hr : Room lv X.A) (hg : Gl X x)
    (ha : VA X W (e :: es) ml) (hl : (e :: es).length = n := by rfl) (hdb : (x == ("__debug__" : Str)) = false := by decide) (he : starEach (e :: es) X.env = (false, eval e X.env) :: starEach es X.env := by rfl) (hpl : (backTo pos (starEach es X.env)).any (·.1) = false := by rfl) :
    VE X W (.Call (.Name x p) (e :: es) [] pos) (mCall n mf ml) := by
  obtain ⟨f, fd, ps, h1, h2, h3, h4, h5⟩ := h
  exact ve_call tk h5 hr hg h1 h2 h3 ha hl hdb he hpl
theorem ve_callK0 {lv : Nat} {mf : MF} {x : Str} {p : Pos} (tk : Takes X W) (h : Ok X.prog X.w X.K X.mg X.base lv x 0 mf) (hr : Room lv X.A) (hg : Gl X x) (hdb : (x == ("__debug__" : Str)) = false := by decide) : VE X W (.Call (.Name x p) [] [] pos) (fun _ G => mf [] G) := by
  obtain ⟨f, fd, ps, h1, h2, h3, h4, h5⟩ := h
  exact ve_call0 tk h5 hr hg h1 h2 h3 hdb

/-! ### in, not in, of flat things -/
def vOf : D → Option V
  | .non => some .non
  | .bl b => some (.bl b)
  | .int i => some (.int i)
  | .str x => some (.str x)
  | _ => none
theorem vOf_ok {K : Frag} {F : Hp} {al : List Addr} {d : D} {v x : V} (h : vOf d = some v) (r : RepV K F al d x) : x = v ∧ flatV x = true := by
  unfold vOf at h
  split at h
  · cases h; unfold RepV at r; subst r; exact ⟨rfl, rfl⟩
  · cases h; unfold RepV at r; subst r; exact ⟨rfl, rfl⟩
  · cases h; unfold RepV at r; subst r; exact ⟨rfl, rfl⟩
  · cases h; unfold RepV at r; subst r; exact ⟨rfl, rfl⟩
  · cases h
theorem vOfs_ok {K : Frag} {F : Hp} {al : List Addr} : ∀ {ds : List D} {vs xs : List V}, mapO vOf ds = some vs → RepL K F al ds xs → xs = vs ∧ xs.all flatV = true
  | [], _, _, h, r => by
    unfold mapO at h
    cases h
    unfold RepL at r
    subst r
    exact ⟨rfl, rfl⟩
  | d :: ds, _, _, h, r => by
    obtain ⟨y, ys, e1, e2, rfl⟩ := mapO_cons h
    unfold RepL at r
    obtain ⟨v, q, rfl, r1, r2⟩ := r
    obtain ⟨h1, h2⟩ := vOf_ok e1 r1
    obtain ⟨h3, h4⟩ := vOfs_ok e2 r2
    subst h1 h3
    exact ⟨rfl, by rw [List.all_cons, h2, h4]; rfl⟩
def seqOf (G : GH) (d : D) : Option (List D) := match d with
  | .tup xs => some xs
  | d => lstOf G d
theorem seq_at {K : Frag} {mg : MG} {P F : Hp} {al : List Addr} {H : Hp} {G : GH} {d : D} {v : V} {xs : List D} (S : Sim K mg P F al H G) (r : RepV K F al d v) (e : seqOf G d = some xs) : ∃ a vs, v = .ref a ∧ (SqL K H a vs ∨ SqT K H a vs) ∧ RepL K F al xs vs := by
  unfold seqOf at e
  split at e
  · cases e
    obtain ⟨a, vs, h1, h2, h3⟩ := tup_at S r rfl
    exact ⟨a, vs, h1, .inr (SqT.of h2), h3⟩
  · obtain ⟨a, vs, h1, h2, h3⟩ := lst_at S r e
    exact ⟨a, vs, h1, .inl h2, h3⟩
def oIn (neg : Bool) (d e : D) (G : GH) : Out D := match vOf d, (seqOf G e).bind (mapO vOf) with
  | some v, some vs => .ok (.bl (if neg = true then !inV v vs else inV v vs)) G
  | _, _ => .stuck
theorem o_in {K : Frag} {mg : MG} (neg : Bool) : Op2 K mg (rIn K neg) (oIn neg) := by
  refine op2_sc fun P F al G H d e x y S r1 r2 => ?_
  unfold oIn
  split
  · rename_i v vs e1 e2
    obtain ⟨xs, e3, e4⟩ := Option.bind_eq_some_iff.mp e2
    obtain ⟨a, us, h1, h2, h3⟩ := seq_at S r2 e3
    obtain ⟨q1, q2⟩ := vOf_ok e1 r1
    obtain ⟨q3, q4⟩ := vOfs_ok e4 h3
    subst q1 q3
    exact .inl ⟨_, _, rfl, rfl, fun Q h => ⟨a, us, h1, h2, q2, q4, h⟩⟩
  · exact .inr rfl

/-! ### ghost steps -/
/-- the list at slot i is frozen -/
def sFrz (i : Nat) (g : S) : S := fun rh G => match rh[i]? with
  | some (some (.loc k)) => match G[k]? with
    | some (.lst xs) => g (rh.set i (some (.lst xs))) (G.set k .dead)
    | _ => .stuck
  | _ => g rh G
theorem vss_frz (i : Nat) {sts : List Stmt} (h : VSs X W sts g) : VSs X W sts (sFrz i g) := pss_imp h fun E sg H ⟨P, F, al, G, rh, R, h⟩ => by
  unfold sFrz at h
  split at h
  · rename_i k e1
    split at h
    · rename_i xs e2
      obtain ⟨v, q1, q2⟩ := R.env.at_ i _ e1
      unfold RepV at q2
      obtain ⟨a, h1, rfl⟩ := q2
      obtain ⟨b, e3, hf, vs, e4, e5⟩ := R.sim.at e2
      rw [h1] at e3
      cases e3
      have lu : Le F (upd F a (.lst vs)) := Le.upd hf
      refine ⟨P, upd F a (.lst vs), al, _, _, ⟨R.sim.freeze h1 hf e4, ?_⟩, OblS.ext h ⟨lu, List.prefix_refl _⟩⟩
      have e6 := (R.env.mono lu (List.prefix_refl _)).set (d := .lst xs) (v := .ref a) i (by unfold RepV; exact ⟨a, vs, rfl, upd_same, e5.mono lu (List.prefix_refl _)⟩)
      have e7 : sg.set i (some (.ref a)) = sg := by
        apply List.ext_getElem?
        intro j
        by_cases hj : i = j
        · subst hj
          rw [List.getElem?_set_self (List.getElem?_eq_some_iff.mp q1).1, q1]
        · rw [List.getElem?_set_ne hj]
      rw [e7] at e6
      exact e6
    · exact h.elim
  · exact ⟨P, F, al, G, rh, R, h⟩
/-- no place within -/
def noLoc : Nat → D → Bool
  | 0, _ => false
  | n + 1, d => match d with
    | .lst xs => xs.all (noLoc n)
    | .ro xs => xs.all (noLoc n)
    | .tup xs => xs.all (noLoc n)
    | .loc _ => false
    | _ => true
theorem repL_all {K : Frag} {F : Hp} {al al' : List Addr} {n : Nat} (ih : ∀ d v, noLoc n d = true → RepV K F al d v → RepV K F al' d v) : ∀ {ds : List D} {vs : List V}, ds.all (noLoc n) = true → RepL K F al ds vs → RepL K F al' ds vs
  | [], _, _, r => by unfold RepL at r ⊢; exact r
  | d :: ds, _, h, r => by
    rw [List.all_cons, Bool.and_eq_true] at h
    unfold RepL at r ⊢
    obtain ⟨v, q, e, r1, r2⟩ := r
    exact ⟨v, q, e, ih _ _ h.1 r1, repL_all ih h.2 r2⟩
theorem noLoc_any {K : Frag} {F : Hp} {al al' : List Addr} : ∀ (n : Nat) (d : D) (v : V), noLoc n d = true → RepV K F al d v → RepV K F al' d v
  | 0, _, _, h, _ => by cases h
  | n + 1, d, v, h, r => by
    cases d with
    | non => exact r
    | bl b => exact r
    | int i => exact r
    | str x => exact r
    | dct0 => unfold RepV at r ⊢; exact r
    | dkf kvs => unfold RepV at r ⊢; exact r
    | loc k => cases h
    | exc c => unfold RepV at r ⊢; exact r
    | lst xs =>
      unfold RepV at r ⊢
      obtain ⟨a, vs, h1, h2, h3⟩ := r
      exact ⟨a, vs, h1, h2, repL_all (noLoc_any n) h h3⟩
    | tup xs =>
      unfold RepV at r ⊢
      obtain ⟨a, vs, h1, h2, h3⟩ := r
      exact ⟨a, vs, h1, h2, repL_all (noLoc_any n) h h3⟩
    | ro xs =>
      unfold RepV at r ⊢
      obtain ⟨a, vs, h1, h2, h3⟩ := r
      exact ⟨a, vs, h1, h2, repL_all (noLoc_any n) h h3⟩
def nl (d : D) : Bool := noLoc 8 d
/-- only places below n within -/
def bel : Nat → Nat → D → Bool
  | 0, _, _ => false
  | f + 1, n, d => match d with
    | .lst xs => xs.all (bel f n)
    | .ro xs => xs.all (bel f n)
    | .tup xs => xs.all (bel f n)
    | .loc k => decide (k < n)
    | _ => true
theorem bel_any {K : Frag} {F : Hp} {al al' : List Addr} {n : Nat} (hl : ∀ k, k < n → ∀ a, al[k]? = some a → al'[k]? = some a) : ∀ (f : Nat) (d : D) (v : V), bel f n d = true → RepV K F al d v → RepV K F al' d v
  | 0, d, v, h, _ => by cases h
  | f + 1, d, v, h, r => by
    cases d with
    | non => exact r
    | bl b => exact r
    | int i => exact r
    | str x => exact r
    | dct0 => unfold RepV at r ⊢; exact r
    | dkf kvs => unfold RepV at r ⊢; exact r
    | loc k =>
      unfold RepV at r ⊢
      obtain ⟨a, h1, h2⟩ := r
      exact ⟨a, hl k (of_decide_eq_true h) a h1, h2⟩
    | exc c => unfold RepV at r ⊢; exact r
    | lst xs =>
      unfold RepV at r ⊢
      obtain ⟨a, vs, h1, h2, h3⟩ := r
      exact ⟨a, vs, h1, h2, repL_all' (bel_any hl f) h h3⟩
    | tup xs =>
      unfold RepV at r ⊢
      obtain ⟨a, vs, h1, h2, h3⟩ := r
      exact ⟨a, vs, h1, h2, repL_all' (bel_any hl f) h h3⟩
    | ro xs =>
      unfold RepV at r ⊢
      obtain ⟨a, vs, h1, h2, h3⟩ := r
      exact ⟨a, vs, h1, h2, repL_all' (bel_any hl f) h h3⟩
where
  repL_all' {K : Frag} {F : Hp} {al al' : List Addr} {p : D → Bool} (ih : ∀ d v, p d = true → RepV K F al d v → RepV K F al' d v) : ∀ {ds : List D} {vs : List V}, ds.all p = true → RepL K F al ds vs → RepL K F al' ds vs
  | [], _, _, r => by unfold RepL at r ⊢; exact r
  | d :: ds, _, h, r => by
    rw [List.all_cons, Bool.and_eq_true] at h
    unfold RepL at r ⊢
    obtain ⟨v, q, e, r1, r2⟩ := r
    exact ⟨v, q, e, ih _ _ h.1 r1, repL_all' ih h.2 r2⟩
theorem repF_all {K : Frag} {F : Hp} {al al' : List Addr} {p : D → Bool} (ih : ∀ d v, p d = true → RepV K F al d v → RepV K F al' d v) : ∀ {ds : List (Str × D)} {vs : List (Str × V)}, ds.all (fun q => p q.2) = true → RepF K F al ds vs → RepF K F al' ds vs
  | [], _, _, r => by unfold RepF at r ⊢; exact r
  | (n, d) :: ds, _, h, r => by
    rw [List.all_cons, Bool.and_eq_true] at h
    unfold RepF at r ⊢
    obtain ⟨v, q, e, r1, r2⟩ := r
    exact ⟨v, q, e, ih _ _ h.1 r1, repF_all ih h.2 r2⟩
theorem repK_all {K : Frag} {F : Hp} {al al' : List Addr} {p : D → Bool} (ih : ∀ d v, p d = true → RepV K F al d v → RepV K F al' d v) : ∀ {ds : List (Key × D)} {vs : List (Key × V)}, ds.all (fun q => p q.2) = true → RepK K F al ds vs → RepK K F al' ds vs
  | [], _, _, r => by unfold RepK at r ⊢; exact r
  | (n, d) :: ds, _, h, r => by
    rw [List.all_cons, Bool.and_eq_true] at h
    unfold RepK at r ⊢
    obtain ⟨v, q, e, r1, r2⟩ := r
    exact ⟨v, q, e, ih _ _ h.1 r1, repK_all ih h.2 r2⟩
theorem repN_all {K : Frag} {F : Hp} {al al' : List Addr} {p : D → Bool} (ih : ∀ d v, p d = true → RepV K F al d v → RepV K F al' d v) : ∀ {ds : List (NK × D)} {vs : List (NK × Addr × V)}, ds.all (fun q => p q.2) = true → RepN K F al ds vs → RepN K F al' ds vs
  | _, _, _, .nil => .nil
  | d :: ds, _, h, .cons r t => by
    rw [List.all_cons, Bool.and_eq_true] at h
    exact .cons ⟨r.1, r.2.1, ih _ _ h.1 r.2.2⟩ (repN_all ih h.2 t)
def belC (n : Nat) : Cell → Bool
  | .lst xs => xs.all (bel 8 n)
  | .ins _ fs => fs.all fun q => bel 8 n q.2
  | .dk kvs => kvs.all fun q => bel 8 n q.2
  | .dn kvs => kvs.all fun q => bel 8 n q.2
  | .dead => true
theorem cell_any {K : Frag} {mg : MG} {F : Hp} {al al' : List Addr} {H : Hp} {a : Addr} {c : Cell} {n : Nat} (hl : ∀ k, k < n → ∀ a, al[k]? = some a → al'[k]? = some a) (h : belC n c = true) (r : CellOk K mg F al H a c) : CellOk K mg F al' H a c := by
  cases c with
  | lst xs =>
    obtain ⟨h0, vs, h1, h2⟩ := r
    exact ⟨h0, vs, h1, bel_any.repL_all' (bel_any hl 8) h h2⟩
  | ins c fs =>
    obtain ⟨h0, C, dx, fv, h1, h2, h3⟩ := r
    exact ⟨h0, C, dx, fv, h1, h2, repF_all (bel_any hl 8) h h3⟩
  | dk kvs =>
    obtain ⟨h0, kv, h1, h2⟩ := r
    exact ⟨h0, kv, h1, repK_all (bel_any hl 8) h h2⟩
  | dn kvs =>
    obtain ⟨h0, xs, h1, h2⟩ := r
    exact ⟨h0, xs, h1, repN_all (bel_any hl 8) h h2⟩
  | dead => trivial
def truncG (n : Nat) (G : GH) : Option GH := if (G.take n).all (belC n) = true then some (G.take n) else none
def truncR (n : Nat) (rh : DEnv) : DEnv := rh.map fun o => o.filter (bel 8 n)
theorem pre_at {al al' : List Addr} (p : al <+: al') {n : Nat} (hn : al.length = n) : ∀ k, k < n → ∀ a, al'[k]? = some a → al[k]? = some a := fun k hk a h => by
  obtain ⟨t, rfl⟩ := p
  rw [List.getElem?_append_left (by rw [hn]; exact hk)] at h
  exact h
theorem Sim.trunc {K : Frag} {mg : MG} {P F : Hp} {al al' : List Addr} {H : Hp} {G G2 : GH} {n : Nat} (S : Sim K mg P F al' H G) (p : al <+: al') (hn : al.length = n) (h : truncG n G = some G2) : Sim K mg P F al H G2 := by
  unfold truncG at h
  split at h
  · rename_i hb
    cases h
    have hle : al.length ≤ G.length := by rw [← S.len]; exact p.length_le
    refine ⟨S.sub, S.fr, fun a o e => ⟨(S.dj a o e).1, fun z => (S.dj a o e).2 (p.subset z)⟩, S.nd.sublist p.sublist, by rw [List.length_take, ← hn]; omega, fun a ha => S.thr a (p.subset ha), fun k c a h1 h2 => ?_⟩
    have hk : k < n := by
      rw [← hn]; exact (List.getElem?_eq_some_iff.mp h2).1
    have h1' : G[k]? = some c := by rw [List.getElem?_take, if_pos hk] at h1; exact h1
    have hc : belC n c = true := List.all_eq_true.mp hb c (List.mem_of_getElem? h1)
    exact cell_any (pre_at p hn) hc (S.cell k c a h1' (pre_get p h2))
  · cases h
theorem EnvOk.trunc {K : Frag} {F : Hp} {al al' : List Addr} {rh : DEnv} {sg : St} {n : Nat} (h : EnvOk K F al' rh sg) (p : al <+: al') (hn : al.length = n) : EnvOk K F al (truncR n rh) sg := by
  refine ⟨by unfold truncR; rw [List.length_map]; exact h.len, fun i d q => ?_⟩
  unfold truncR at q
  rw [List.getElem?_map] at q
  obtain ⟨o, e1, e2⟩ := Option.map_eq_some_iff.mp q
  obtain ⟨rfl, hb⟩ := Option.filter_eq_some_iff.mp e2
  obtain ⟨v, q1, q2⟩ := h.at_ i d e1
  exact ⟨v, q1, bel_any (pre_at p hn) 8 d v hb q2⟩
/-- behind it the new cells are forgotten -/
def sTrunc (g : S) : S := fun rh G => match g rh G with
  | .nx rh' G' => match truncG G.length G' with
    | some G2 => .nx (truncR G.length rh') G2
    | none => .stuck
  | .ct rh' G' => match truncG G.length G' with
    | some G2 => .ct (truncR G.length rh') G2
    | none => .stuck
  | .bk rh' G' => match truncG G.length G' with
    | some G2 => .bk (truncR G.length rh') G2
    | none => .stuck
  | .rt d G' => match truncG G.length G' with
    | some G2 => if bel 8 G.length d = true then .rt d G2 else .stuck
    | none => .stuck
  | .exn c rh' G' => match truncG G.length G' with
    | some G2 => .exn c (truncR G.length rh') G2
    | none => .stuck
  | .stuck => .stuck
theorem vss_trunc {sts : List Stmt} (h : VSs X W sts g) : VSs X W sts (sTrunc g) := pss_imp h fun E sg H ⟨P, F, al, G, rh, R, h⟩ => ⟨P, F, al, G, rh, R, by
  have hn : al.length = G.length := R.sim.len
  unfold sTrunc at h
  cases q : g rh G with
  | nx rh' G' =>
    rw [q] at h
    dsimp only at h
    split at h
    · rename_i G2 e
      exact fun F' al' H' sg' x R' => h F' al H' sg' ⟨x.le, List.prefix_refl _⟩ ⟨R'.sim.trunc x.pre hn e, R'.env.trunc x.pre hn⟩
    · exact h.elim
  | ct rh' G' =>
    rw [q] at h
    dsimp only at h
    split at h
    · rename_i G2 e
      exact fun F' al' H' sg' x R' => h F' al H' sg' ⟨x.le, List.prefix_refl _⟩ ⟨R'.sim.trunc x.pre hn e, R'.env.trunc x.pre hn⟩
    · exact h.elim
  | bk rh' G' =>
    rw [q] at h
    dsimp only at h
    split at h
    · rename_i G2 e
      exact fun F' al' H' sg' x R' => h F' al H' sg' ⟨x.le, List.prefix_refl _⟩ ⟨R'.sim.trunc x.pre hn e, R'.env.trunc x.pre hn⟩
    · exact h.elim
  | rt d G' =>
    rw [q] at h
    dsimp only at h
    split at h
    · rename_i G2 e
      split at h
      · rename_i hb
        exact fun F' al' H' v x S r => h F' al H' v ⟨x.le, List.prefix_refl _⟩ (S.trunc x.pre hn e) (bel_any (pre_at x.pre hn) 8 d v hb r)
      · exact h.elim
    · exact h.elim
  | exn c rh' G' =>
    rw [q] at h
    dsimp only at h
    split at h
    · rename_i G2 e
      exact fun F' al' H' sg' C x R' => h F' al H' sg' C ⟨x.le, List.prefix_refl _⟩ ⟨R'.sim.trunc x.pre hn e, R'.env.trunc x.pre hn⟩
    · exact h.elim
  | stuck => rw [q] at h; exact h.elim⟩

/-! ### calls that see only what they are handed -/
def locsOf (ds : List D) : List Nat := ds.filterMap fun d => match d with | .loc k => some k | _ => none
def renD (ks : List Nat) (d : D) : D := match d with
  | .loc k => .loc (ks.idxOf k)
  | d => d
def okArg (d : D) : Bool := match d with
  | .loc _ => true
  | d => nl d
def putBack (G : GH) : List Nat → GH → GH
  | k :: ks, c :: cs => putBack (G.set k c) ks cs
  | _, _ => G
/-- the def sees the cells of its own arguments alone -/
def locCall (mf : MF) (ds : List D) (G : GH) : Out D :=
  let ks := locsOf ds
  if ks.Nodup ∧ ds.all okArg = true then
    match mapO (fun k => G[k]?) ks with
    | some cs => if cs.all (belC 0) = true then (match mf (ds.map (renD ks)) cs with
      | .ok d G' => if nl d = true ∧ G'.length = ks.length ∧ G'.all (belC 0) = true then .ok d (putBack G ks G') else .stuck
      | .exn c G' => if G'.length = ks.length ∧ G'.all (belC 0) = true then .exn c (putBack G ks G') else .stuck
      | .stuck => .stuck) else .stuck
    | none => .stuck
  else .stuck
theorem mapO_at {β γ : Type} {f : β → Option γ} : ∀ {xs : List β} {ys : List γ}, mapO f xs = some ys → xs.length = ys.length ∧ ∀ (j : Nat) (x : β), xs[j]? = some x → ∃ y, ys[j]? = some y ∧ f x = some y
  | [], _, h => by unfold mapO at h; cases h; exact ⟨rfl, fun j x e => by simp at e⟩
  | x :: xs, _, h => by
    obtain ⟨y, ys, e1, e2, rfl⟩ := mapO_cons h
    obtain ⟨i1, i2⟩ := mapO_at e2
    refine ⟨by rw [List.length_cons, List.length_cons, i1], fun j z e => ?_⟩
    cases j with
    | zero => cases e; exact ⟨y, rfl, e1⟩
    | succ j => exact i2 j z e
theorem mapO_all {β γ : Type} {f : β → Option γ} : ∀ {xs : List β}, (∀ x ∈ xs, ∃ y, f x = some y) → ∃ ys, mapO f xs = some ys
  | [], _ => ⟨[], rfl⟩
  | x :: xs, h => by
    obtain ⟨y, e⟩ := h x List.mem_cons_self
    obtain ⟨ys, e2⟩ := mapO_all (xs := xs) fun z hz => h z (List.mem_cons_of_mem _ hz)
    exact ⟨y :: ys, by unfold mapO; rw [e, e2]⟩
theorem putBack_len : ∀ (G : GH) (ks : List Nat) (cs : GH), (putBack G ks cs).length = G.length
  | G, [], [] => rfl
  | G, [], _ :: _ => rfl
  | G, k :: ks, [] => rfl
  | G, k :: ks, c :: cs => by unfold putBack; rw [putBack_len, List.length_set]
theorem putBack_off : ∀ (G : GH) (ks : List Nat) (cs : GH) (i : Nat), i ∉ ks → (putBack G ks cs)[i]? = G[i]?
  | G, [], [], _, _ => rfl
  | G, [], _ :: _, _, _ => rfl
  | G, k :: ks, [], _, _ => rfl
  | G, k :: ks, c :: cs, i, h => by
    rw [List.mem_cons, not_or] at h
    unfold putBack
    rw [putBack_off _ _ _ _ h.2, List.getElem?_set_ne (Ne.symm h.1)]
theorem putBack_at : ∀ (G : GH) (ks : List Nat) (cs : GH) (j k : Nat) (c : Cell), ks.Nodup → (∀ k ∈ ks, k < G.length) → ks.length = cs.length → ks[j]? = some k → cs[j]? = some c → (putBack G ks cs)[k]? = some c
  | G, [], _, j, k, c, _, _, _, h, _ => by simp at h
  | G, k0 :: ks, [], _, _, _, _, _, hl, _, _ => by simp at hl
  | G, k0 :: ks, c0 :: cs, j, k, c, nd, hb, hl, h1, h2 => by
    rw [List.nodup_cons] at nd
    unfold putBack
    cases j with
    | zero =>
      cases h1
      cases h2
      rw [putBack_off _ _ _ _ nd.1, List.getElem?_set_self (hb _ List.mem_cons_self)]
    | succ j =>
      exact putBack_at _ ks cs j k c nd.2 (fun z hz => by rw [List.length_set]; exact hb z (List.mem_cons_of_mem _ hz)) (by simpa using hl) h1 h2
theorem cell0 {K : Frag} {mg : MG} {F : Hp} {al al' : List Addr} {H : Hp} {a : Addr} {c : Cell} (h : belC 0 c = true) (r : CellOk K mg F al H a c) : CellOk K mg F al' H a c := cell_any (n := 0) (fun k hk => absurd hk (Nat.not_lt_zero _)) h r
/-- the heap that the callee sees, and what is kept aside meanwhile -/
theorem Sim.local {K : Frag} {mg : MG} {P F : Hp} {al : List Addr} {H : Hp} {G : GH} {ks : List Nat} {cs : GH} (S : Sim K mg P F al H G) (nd : ks.Nodup) (hc : mapO (fun k => G[k]?) ks = some cs) (hb : cs.all (belC 0) = true) :
    ∃ P' ac, Sim K mg P' F ac H cs ∧ (∀ (j k : Nat), ks[j]? = some k → ac[j]? = al[k]?) ∧ ∀ (F' : Hp) (H' : Hp) (ac' : List Addr) (cs' : GH), Le F F' → ac <+: ac' → Sim K mg P' F' ac' H' cs' → cs'.length = ks.length → cs'.all (belC 0) = true → Sim K mg P F' al H' (putBack G ks cs') := by
  obtain ⟨hl, hat⟩ := mapO_at hc
  have hk : ∀ k ∈ ks, ∃ a, al[k]? = some a := fun k hm => by
    obtain ⟨j, e⟩ := List.mem_iff_getElem?.mp hm
    obtain ⟨c, _, e2⟩ := hat j k e
    obtain ⟨a, e3, _⟩ := S.at e2
    exact ⟨a, e3⟩
  obtain ⟨ac, hac⟩ := mapO_all hk
  obtain ⟨hl2, hat2⟩ := mapO_at hac
  have acmem : ∀ a ∈ ac, ∃ j k, ks[j]? = some k ∧ ac[j]? = some a ∧ al[k]? = some a := fun a hm => by
    obtain ⟨j, e⟩ := List.mem_iff_getElem?.mp hm
    have hj : j < ks.length := by rw [hl2]; exact (List.getElem?_eq_some_iff.mp e).1
    obtain ⟨b, e2, e3⟩ := hat2 j ks[j] (List.getElem?_eq_getElem hj)
    rw [e] at e2
    cases e2
    exact ⟨j, ks[j], List.getElem?_eq_getElem hj, e, e3⟩
  refine ⟨fun a => if a ∈ al ∧ a ∉ ac ∧ F a = none then H a else P a, ac, ⟨S.sub, fun a o e => ?_, fun a o e => ?_, ?_, by rw [← hl2, hl], fun a ha => ?_, fun j c a h1 h2 => ?_⟩, fun j k e => ?_, ?_⟩
  · split at e
    · exact e
    · exact S.fr a o e
  · split at e
    · rename_i h; exact ⟨h.2.2, h.2.1⟩
    · obtain ⟨h1, h2⟩ := S.dj a o e
      refine ⟨h1, fun z => h2 ?_⟩
      obtain ⟨_, _, _, _, q⟩ := acmem a z
      exact get_mem q
  · refine List.pairwise_iff_getElem.mpr fun i j hi hj hij e => ?_
    have hj' : j < ks.length := by rw [hl2]; exact hj
    have hi' : i < ks.length := by omega
    obtain ⟨b, e2, e3⟩ := hat2 i ks[i] (List.getElem?_eq_getElem hi')
    obtain ⟨b', e2', e3'⟩ := hat2 j ks[j] (List.getElem?_eq_getElem hj')
    rw [List.getElem?_eq_getElem hi] at e2
    rw [List.getElem?_eq_getElem hj] at e2'
    have z1 := Option.some.inj e2
    have z2 := Option.some.inj e2'
    rw [← z1] at e3
    rw [← z2, ← e] at e3'
    have := S.inj e3 e3'
    have := (List.getElem_inj nd).mp this
    omega
  · obtain ⟨_, _, _, _, q⟩ := acmem a ha
    exact S.thr a (get_mem q)
  · have hj : j < ks.length := by rw [hl]; exact (List.getElem?_eq_some_iff.mp h1).1
    obtain ⟨c', e1, e2⟩ := hat j ks[j] (List.getElem?_eq_getElem hj)
    obtain ⟨a', e3, e4⟩ := hat2 j ks[j] (List.getElem?_eq_getElem hj)
    rw [h1] at e1
    cases e1
    rw [h2] at e3
    cases e3
    exact cell0 (List.all_eq_true.mp hb c (List.mem_of_getElem? h1)) (S.cell _ c a e2 e4)
  · obtain ⟨a, e1, e2⟩ := hat2 j k e
    rw [e1, e2]
  · intro F' H' ac' cs' le p S' hl' hb'
    have keep : ∀ a, a ∈ al → a ∉ ac → F a = none → (∀ o, H a = some o → H' a = some o) ∧ F' a = none := fun a h1 h2 h3 => by
      have e : ∀ o, H a = some o → (fun a => if a ∈ al ∧ a ∉ ac ∧ F a = none then H a else P a) a = some o := fun o q => by
        dsimp only
        rw [if_pos ⟨h1, h2, h3⟩]; exact q
      obtain ⟨o, q⟩ := S.thr a h1
      exact ⟨fun o q => S'.fr a o (e o q), (S'.dj a o (e o q)).1⟩
    have toP' : ∀ a o, P a = some o → (fun a => if a ∈ al ∧ a ∉ ac ∧ F a = none then H a else P a) a = some o := fun a o q => by
      dsimp only
      rw [if_neg fun h => (S.dj a o q).2 h.1]; exact q
    refine ⟨S'.sub, fun a o q => S'.fr a o (toP' a o q), fun a o q => ⟨(S'.dj a o (toP' a o q)).1, (S.dj a o q).2⟩, S.nd, by rw [putBack_len]; exact S.len, fun a ha => ?_, fun i c a h1 h2 => ?_⟩
    · by_cases hm : a ∈ ac
      · exact S'.thr a (p.subset hm)
      · cases q : F a with
        | none =>
          obtain ⟨o, q2⟩ := S.thr a ha
          exact ⟨o, (keep a ha hm q).1 o q2⟩
        | some o => exact ⟨o, S'.sub a o (le a o q)⟩
    · by_cases hm : i ∈ ks
      · obtain ⟨j, e⟩ := List.mem_iff_getElem?.mp hm
        have hj : j < cs'.length := by rw [hl']; exact (List.getElem?_eq_some_iff.mp e).1
        have e1 := putBack_at G ks cs' j i cs'[j] nd (fun k hm => by
          obtain ⟨a, q⟩ := hk k hm
          rw [← S.len]; exact (List.getElem?_eq_some_iff.mp q).1) hl'.symm e (List.getElem?_eq_getElem hj)
        rw [h1] at e1
        cases e1
        obtain ⟨b, e2, e3⟩ := hat2 j i e
        rw [h2] at e3
        cases e3
        have q := S'.cell j cs'[j] a (List.getElem?_eq_getElem hj) (pre_get p e2)
        exact cell0 (List.all_eq_true.mp hb' _ (List.getElem_mem hj)) q
      · rw [putBack_off _ _ _ _ hm] at h1
        have hn : a ∉ ac := fun z => by
          obtain ⟨j, k, q1, _, q3⟩ := acmem a z
          have := S.inj q3 h2
          subst this
          exact hm (get_mem q1)
        have q := S.cell i c a h1 h2
        cases c with
        | dead => trivial
        | lst xs => exact q.stay le (List.prefix_refl _) (fun f => (keep a (get_mem h2) hn f).2) (keep a (get_mem h2) hn q.1).1
        | ins c fs => exact q.stay le (List.prefix_refl _) (fun f => (keep a (get_mem h2) hn f).2) (keep a (get_mem h2) hn q.1).1
        | dk kvs => exact q.stay le (List.prefix_refl _) (fun f => (keep a (get_mem h2) hn f).2) (keep a (get_mem h2) hn q.1).1
        | dn kvs => exact q.stay le (List.prefix_refl _) (fun f => (keep a (get_mem h2) hn f).2) (keep a (get_mem h2) hn q.1).1
theorem repL_ren {K : Frag} {F : Hp} {al ac : List Addr} {ks : List Nat} (hac : ∀ (j k : Nat), ks[j]? = some k → ac[j]? = al[k]?) : ∀ {ds : List D} {vs : List V}, (∀ k ∈ locsOf ds, k ∈ ks) → ds.all okArg = true → RepL K F al ds vs → RepL K F ac (ds.map (renD ks)) vs
  | [], _, _, _, r => by unfold RepL at r; subst r; exact RepL.nil
  | d :: ds, _, hm, ha, r => by
    rw [List.all_cons, Bool.and_eq_true] at ha
    unfold RepL at r
    obtain ⟨v, q, rfl, r1, r2⟩ := r
    have hm2 : ∀ k ∈ locsOf ds, k ∈ ks := fun k hk => hm k (by
      unfold locsOf at hk ⊢
      rw [List.filterMap_cons]
      split
      · exact hk
      · exact List.mem_cons_of_mem _ hk)
    refine RepL.cons ?_ (repL_ren hac hm2 ha.2 r2)
    cases d with
    | loc k =>
      have hk : k ∈ ks := hm k (by unfold locsOf; rw [List.filterMap_cons]; exact List.mem_cons_self)
      unfold RepV at r1
      obtain ⟨a, h1, h2⟩ := r1
      show RepV K F ac (.loc (ks.idxOf k)) v
      unfold RepV
      refine ⟨a, ?_, h2⟩
      rw [hac (ks.idxOf k) k (by
        have hlt := List.idxOf_lt_length_of_mem hk
        rw [List.getElem?_eq_getElem hlt, List.getElem_idxOf hlt])]
      exact h1
    | non => exact r1
    | bl b => exact r1
    | int i => exact r1
    | str x => exact r1
    | dct0 => exact noLoc_any 8 _ _ ha.1 r1
    | dkf kvs => exact noLoc_any 8 _ _ ha.1 r1
    | exc c => exact noLoc_any 8 _ _ ha.1 r1
    | lst xs => exact noLoc_any 8 _ _ ha.1 r1
    | tup xs => exact noLoc_any 8 _ _ ha.1 r1
    | ro xs => exact noLoc_any 8 _ _ ha.1 r1
/-- the callee may be taken locally -/
theorem spD_local {K : Frag} {mg : MG} {n : Nat} {mf : MF} {vs : List V} {H : Hp} {Q : VK} {E : XK} (h : spD K mg n (locCall mf) vs H Q E) : spD K mg n mf vs H Q E := by
  obtain ⟨P, F, al, G, ds, S, r, hl, h⟩ := h
  unfold locCall at h
  dsimp only at h
  split at h
  · rename_i hc
    split at h
    · rename_i cs e1
      split at h
      · rename_i hb
        obtain ⟨P', ac, S1, hac, back⟩ := S.local hc.1 e1 hb
        refine ⟨P', F, ac, cs, ds.map (renD (locsOf ds)), S1, repL_ren hac (fun _ h => h) hc.2 r, by rw [List.length_map]; exact hl, ?_⟩
        cases q : mf (ds.map (renD (locsOf ds))) cs with
        | ok d G' =>
          rw [q] at h
          dsimp only at h
          split at h
          · rename_i hd
            exact fun F' al' H' v x S' r' => h F' al H' v ⟨x.le, List.prefix_refl _⟩ (back F' H' al' G' x.le x.pre S' hd.2.1 hd.2.2) (noLoc_any 8 d v hd.1 r')
          · exact h.elim
        | exn c G' =>
          rw [q] at h
          dsimp only at h
          split at h
          · rename_i hd
            exact fun F' al' H' C x S' m => h F' al H' C ⟨x.le, List.prefix_refl _⟩ (back F' H' al' G' x.le x.pre S' hd.1 hd.2) m
          · exact h.elim
        | stuck => rw [q] at h; exact h.elim
      · exact h.elim
    · exact h.elim
  · exact h.elim
theorem Ok.local {Pr : Program} {w : World} {K : Frag} {mg : MG} {base : Heap} {k : Nat} {x : Str} {n : Nat} {mf : MF} (h : Ok Pr w K mg base k x n mf) : Ok Pr w K mg base k x n (locCall mf) := by
  obtain ⟨f, fd, ps, h1, h2, h3, h4, h5⟩ := h
  exact ⟨f, fd, ps, h1, h2, h3, h4, h5.imp fun vs H Q E q => spD_local q⟩

/-! ### the end -/
/-- the law's own promise: True comes out of every script -/
theorem end_law {K : Frag} {mg : MG} {mf : MF} (h : ∀ ns : List Int, ns.length ≤ 63 → ∃ G, mf [.ro (ns.map D.int)] [] = .ok (.bl true) G) (H : Hp) (a : Addr) (ns : List Int) (hl : ns.length ≤ 63) (hO : Only H) (hS : SqL K H a (ns.map V.int)) : spD K mg 1 mf [.ref a] H (fun v _ => v = .bl true) fun _ _ _ => False := by
  obtain ⟨G, e⟩ := h ns hl
  refine ⟨fun _ => none, H, [], [], [.ro (ns.map D.int)], ⟨Le.refl _, fun a o e => (nomatch e), fun a o e => (nomatch e), List.nodup_nil, rfl, fun a z => (nomatch z), fun k c a e => by simp at e⟩, ?_, rfl, ?_⟩
  · refine RepL.cons ?_ RepL.nil
    unfold RepV
    exact ⟨a, _, rfl, hS, repInts ns⟩
  · rw [e]
    intro F' al' H' v x S r
    exact r
end
end VL

/-! Q6: the head's facts by their places; short words for the printed proofs. -/
namespace VL
open PySem L2
/-- the facts of the head, over some heap -/
def TxtP (fa : List He.Fa) (fn : List He.DefD) (K : Frag) (mg : MG) : Prop := ∃ h : Heap, K.In h ∧ h.Ns mainGlobals mg ∧ He.SaysD fa fn K
section
variable {fa : List He.Fa} {fn : List He.DefD} {K : Frag} {mg : MG}
theorem TxtP.glo (T : TxtP fa fn K mg) (i : Nat) {x : Str} (h : fa[i]? = some (.glo x) := by rfl) : mg x = some (.ref (He.ga K x)) := by
  obtain ⟨hp, X, G, c⟩ := T
  exact He.glo_ok X G (c.fact i h)
theorem TxtP.fr (T : TxtP fa fn K mg) (i : Nat) {x : Str} (h : fa[i]? = some (.free x) := by rfl) : mg x = none := by
  obtain ⟨hp, X, G, c⟩ := T
  exact He.free_ok X G (c.fact i h)
theorem TxtP.int_ (T : TxtP fa fn K mg) (i : Nat) {x : Str} {z : Int} (h : fa[i]? = some (.int x z) := by rfl) : ∃ t, mg x = some (.int z t) := by
  obtain ⟨hp, X, G, c⟩ := T
  exact He.int_ok X G (c.fact i h)
theorem TxtP.str_ (T : TxtP fa fn K mg) (i : Nat) {x z : Str} (h : fa[i]? = some (.str x z) := by rfl) : ∃ t, mg x = some (.str z t) := by
  obtain ⟨hp, X, G, c⟩ := T
  exact He.str_ok X G (c.fact i h)
theorem TxtP.exc1 (T : TxtP fa fn K mg) (i : Nat) {x : Str} (h : fa[i]? = some (.exc x) := by rfl) : PySem.W.excIn K (He.ga K x) [.type "ValueError", .type "Exception", .type "BaseException", .type "object"] "ValueError.__new__" = true := by
  obtain ⟨hp, X, G, c⟩ := T
  exact (He.exc_ok (c.fact i h)).1
theorem TxtP.exc2 (T : TxtP fa fn K mg) (i : Nat) {x : Str} (h : fa[i]? = some (.glo x) := by rfl) : mg x = some (.ref (He.ga K x)) := T.glo i h
theorem TxtP.exc3 (T : TxtP fa fn K mg) (i : Nat) {x : Str} (h : fa[i]? = some (.exc x) := by rfl) : PySem.W.keepIn K (.ref (He.ga K x)) = true := by
  obtain ⟨hp, X, G, c⟩ := T
  exact (He.exc_ok (c.fact i h)).2.1
theorem TxtP.exc4 (T : TxtP fa fn K mg) (i : Nat) {x : Str} {X : Cx} (hK : X.K = K := by rfl) (h : fa[i]? = some (.exc x) := by rfl) : Raises X (.ref (He.ga K x)) := by
  obtain ⟨hp, Y, G, c⟩ := T
  subst hK
  exact raises_own (He.exc_ok (c.fact i h)).2.2.1 (He.exc_ok (c.fact i h)).2.2.2
theorem TxtP.def_ (T : TxtP fa fn K mg) (i : Nat) {d : He.DefD} (h : fn[i]? = some d := by rfl) : ∃ fd, FunD K d.name d.qual d.params d.body d.scope (d.dvs K) (d.kws K) (He.fAd K d.at_) fd := by
  obtain ⟨hp, X, G, c⟩ := T
  exact c.def_ i h
end
section
variable {X : Cx} {W : WX} {pos : Pos}
theorem ve_globI {x : Str} {i : Int} (hg : Gl X x) (h : ∃ t, X.mg x = some (.int i t)) (hd : (x == ("__debug__" : Str)) = false := by decide) : VE X W (.Name x pos) (mC (.int i)) := by
  obtain ⟨t, e⟩ := h
  exact ve_glob (v := .int i) hg e ⟨t, rfl⟩ (fun _ _ => rfl) hd
theorem ve_globS {x z : Str} (hg : Gl X x) (h : ∃ t, X.mg x = some (.str z t)) (hd : (x == ("__debug__" : Str)) = false := by decide) : VE X W (.Name x pos) (mC (.str z)) := by
  obtain ⟨t, e⟩ := h
  exact ve_glob (v := .str z) hg e ⟨t, rfl⟩ (fun _ _ => rfl) hd
end
theorem tk_of {Pr : Program} {w : World} {K : Frag} {mg : MG} {base : Heap} {N : List Str} {qual : Str} {sc : Scope} {f : Addr} {cd : Value} {A : Around} {outer : List Env} {s : Shared} {H : Hp} {E : XK} :
    Takes (cxOf (L2.CX Pr w) Pr w K mg base N qual sc f cd A outer s H E) (WE0 E) := takes_of rfl rfl rfl rfl
theorem pw_of {Pr : Program} {w : World} {K : Frag} {mg : MG} {base : Heap} {N : List Str} {qual : Str} {sc : Scope} {f : Addr} {cd : Value} {A : Around} {outer : List Env} {s : Shared} {H : Hp} {E : XK} :
    PassesOwn (model (cxOf (L2.CX Pr w) Pr w K mg base N qual sc f cd A outer s H E).prog (cxOf (L2.CX Pr w) Pr w K mg base N qual sc f cd A outer s H E).w) (cxOf (L2.CX Pr w) Pr w K mg base N qual sc f cd A outer s H E).A
      (cxOf (L2.CX Pr w) Pr w K mg base N qual sc f cd A outer s H E).env (cxOf (L2.CX Pr w) Pr w K mg base N qual sc f cd A outer s H E).xe := passes_of rfl
/-- what a law's row wants, from its own def's worth -/
theorem walk_law {l : PySem.W.OpenLaw} {k : Nat} {q : Program} {loose : List Str} {XP : (Str → Option Value) → Heap → Prop} {YP : World → Heap → Prop} {d : DefRec} {mf : MF}
    (h63 : l.most = some 63) (hdf : d.params.defaults = []) (room : Room k PySem.callerA) (htrue : ∀ ns : List Int, ns.length ≤ 63 → ∃ G, mf [.ro (ns.map D.int)] [] = .ok (.bl true) G)
    (hF : ∀ (w : World) (mg : MG) (fa : Addr) (h : Heap), YP w h → h.Ns mainGlobals mg → mg d.name = some (.ref fa) →
      ∃ (K : Frag) (fd : FuncData), K.In h ∧ (∀ (s : Shared) (u : Value), BindsTo s fd ⟨[u], []⟩ [("script", u)]) ∧
        ∀ base : Heap, K.In base → base.Ns mainGlobals mg → FnOk l.prog w K mg base (L2.CX l.prog w) k fa fd ["script"] (spD K mg 1 mf)) :
    PySem.W.WalkO q loose XP YP l.row.toRowW d [] (fun f vs => PySem.call f vs) := by
  refine Att.attach_call h63 hdf fun w s0 s1 mg mb fa ob pm cd doc a vs ns G Y h1 h2 h3 h4 h5 h6 h7 h8 => ?_
  obtain ⟨K, fd, KX, hb, hOk⟩ := hF w mg fa _ Y G.T.g h4
  refine law_call KX G.T.g G.T.b G.T.builtins G.T.nolimit h8 h5 h6 (Nat.le_trans h7 (by decide)) room hOk hb (fun H hO hS => end_law htrue H a ns h7 hO hS) fun H e s' z => ?_
  obtain ⟨_, _, _, _, _, _, _, _, _, _, _, _, z⟩ := z
  exact z.elim
theorem bb_len : bootBuiltins "len" = some (.builtin "len") := by decide +kernel
theorem bb_isinstance : bootBuiltins "isinstance" = some (.builtin "isinstance") := by decide +kernel
theorem bb_max : bootBuiltins "max" = some (.builtin "max") := by decide +kernel
theorem bb_min : bootBuiltins "min" = some (.builtin "min") := by decide +kernel
theorem bb_sum : bootBuiltins "sum" = some (.builtin "sum") := by decide +kernel
theorem bb_abs : bootBuiltins "abs" = some (.builtin "abs") := by decide +kernel
theorem bb_sorted : bootBuiltins "sorted" = some (.builtin "sorted") := by decide +kernel
theorem bb_list : bootBuiltins "list" = some (.type "list") := by decide +kernel
theorem bb_tuple : bootBuiltins "tuple" = some (.type "tuple") := by decide +kernel
theorem bb_int : bootBuiltins "int" = some (.type "int") := by decide +kernel
theorem bb_str : bootBuiltins "str" = some (.type "str") := by decide +kernel
theorem bb_bool : bootBuiltins "bool" = some (.type "bool") := by decide +kernel
end VL

/-! Q7: reasoning about what mirrors give. -/
namespace VL
open PySem L2

def Out.P {β : Type} (o : Out β) (Q : β → GH → Prop) (X : Str → GH → Prop) : Prop := match o with
  | .ok b G => Q b G
  | .exn c G => X c G
  | .stuck => False
def SOut.P (o : SOut) (N : DEnv → GH → Prop) (R : D → GH → Prop) (X : Str → DEnv → GH → Prop) : Prop := match o with
  | .nx rh G => N rh G
  | .rt d G => R d G
  | .exn c rh G => X c rh G
  | _ => False
abbrev X0 : Str → GH → Prop := fun _ _ => False
abbrev X1 : Str → DEnv → GH → Prop := fun _ _ _ => False

section
variable {β γ : Type} {Q : β → GH → Prop} {X : Str → GH → Prop} {G : GH} {rh : DEnv}
theorem P_ok {b : β} : (Out.ok b G).P Q X = Q b G := rfl
theorem P_bind {o : Out γ} {k : γ → GH → Out β} : (o.bind k).P Q X = o.P (fun b G' => (k b G').P Q X) X := by cases o <;> rfl
theorem Out.P.imp {o : Out β} {Q' : β → GH → Prop} {X' : Str → GH → Prop} (h : o.P Q X) (i : ∀ b G, Q b G → Q' b G) (j : ∀ c G, X c G → X' c G) : o.P Q' X' := by
  cases o with
  | ok b G => exact i _ _ h
  | exn c G => exact j _ _ h
  | stuck => exact h
theorem Out.P.ok {o : Out β} (h : o.P Q X0) : ∃ b G, o = .ok b G ∧ Q b G := by
  cases o with
  | ok b G => exact ⟨b, G, rfl, h⟩
  | exn c G => exact h.elim
  | stuck => exact h.elim
variable {q : D → GH → Prop}
theorem P_mVar {i : Nat} {d : D} (h : rh[i]? = some (some d)) : (mVar i rh G).P q X = q d G := by unfold mVar; rw [h]; rfl
theorem P_b1 {o : γ → GH → Out β} {m : M γ} : (b1 o m rh G).P Q X = (m rh G).P (fun x G1 => (o x G1).P Q X) X := P_bind
theorem P_b2 {o : D → D → GH → Out D} {m n : M D} : (b2 o m n rh G).P q X = (m rh G).P (fun x G1 => (n rh G1).P (fun y G2 => (o x y G2).P q X) X) X := by
  unfold b2; simp only [P_bind]
variable {ql : List D → GH → Prop} {qb : Bool → GH → Prop}
theorem P_mCons {m : M D} {n : M (List D)} : (mCons m n rh G).P ql X = (m rh G).P (fun x G1 => (n rh G1).P (fun xs G2 => ql (x :: xs) G2) X) X := by
  unfold mCons; simp only [P_bind, P_ok]
theorem P_toB {m : M D} : (toB m rh G).P qb X = (m rh G).P (fun d G1 => (oB d G1).P qb X) X := P_bind
theorem P_mNot {m : M Bool} : (mNot m rh G).P qb X = (m rh G).P (fun b G1 => qb (!b) G1) X := P_bind
theorem P_mAnd {m n : M Bool} : (mAnd m n rh G).P qb X = (m rh G).P (fun b G1 => if b = true then (n rh G1).P qb X else qb false G1) X := by
  unfold mAnd; rw [P_bind]; congr 1; funext b G1; split <;> rfl
theorem P_mOr {m n : M Bool} : (mOr m n rh G).P qb X = (m rh G).P (fun b G1 => if b = true then qb true G1 else (n rh G1).P qb X) X := by
  unfold mOr; rw [P_bind]; congr 1; funext b G1; split <;> rfl
theorem P_mAndV {m n : M D} : (mAndV m n rh G).P q X = (m rh G).P (fun d G1 => match d with | .bl true => (n rh G1).P q X | .bl false => q (.bl false) G1 | _ => False) X := by
  unfold mAndV; rw [P_bind]; congr 1; funext b G1
  cases b with
  | bl c => cases c <;> rfl
  | _ => rfl
theorem P_mOrV {m n : M D} : (mOrV m n rh G).P q X = (m rh G).P (fun d G1 => match d with | .bl true => q (.bl true) G1 | .bl false => (n rh G1).P q X | _ => False) X := by
  unfold mOrV; rw [P_bind]; congr 1; funext b G1
  cases b with
  | bl c => cases c <;> rfl
  | _ => rfl
theorem P_mIf {c : M Bool} {m n : M β} : (mIf c m n rh G).P Q X = (c rh G).P (fun b G1 => if b = true then (m rh G1).P Q X else (n rh G1).P Q X) X := by
  unfold mIf; rw [P_bind]; congr 1; funext b G1; split <;> rfl
theorem P_mSl {o : D → Option Int → Option Int → GH → Out D} {m : M D} {l h : M (Option Int)} : (mSl o m l h rh G).P q X = (m rh G).P (fun d G1 => (l rh G1).P (fun a G2 => (h rh G2).P (fun b G3 => (o d a b G3).P q X) X) X) X := by
  unfold mSl; simp only [P_bind]
theorem P_mChain {o o' : D → D → GH → Out D} {m n l : M D} : (mChain o o' m n l rh G).P q X = (m rh G).P (fun x G1 => (n rh G1).P (fun y G2 => (o x y G2).P (fun z G3 => match z with | .bl true => (l rh G3).P (fun w G4 => (o' y w G4).P q X) X | .bl false => q (.bl false) G3 | _ => False) X) X) X := by
  unfold mChain
  simp only [P_bind]
  congr 1; funext x G1; congr 1; funext y G2; congr 1; funext z G3
  cases z with
  | bl c =>
    cases c with
    | true => simp only [P_bind]
    | false => rfl
  | _ => rfl
theorem P_mCall {n : Nat} {mf : MF} {ml : M (List D)} : (mCall n mf ml rh G).P q X = (ml rh G).P (fun ds G1 => if ds.length = n then (mf ds G1).P q X else False) X := by
  unfold mCall b1; rw [P_bind]; congr 1; funext b G1; split <;> rfl
theorem P_mMt {T : String} {o : D → List D → GH → Out D} {m : M D} {ml : M (List D)} : (mMt T o m ml rh G).P q X = (m rh G).P (fun d G1 => if tyD T d G1 = true then (ml rh G1).P (fun ds G2 => (o d ds G2).P q X) X else False) X := by
  unfold mMt; rw [P_bind]; congr 1; funext b G1; split
  · rw [P_bind]
  · rfl
end

section
variable {N : DEnv → GH → Prop} {R : D → GH → Prop} {X : Str → DEnv → GH → Prop} {G : GH} {rh : DEnv}
theorem P_nx : (SOut.nx rh G).P N R X = N rh G := rfl
theorem P_sSeq {g k : S} : (sSeq g k rh G).P N R X = (g rh G).P (fun rh' G' => (k rh' G').P N R X) R X := by
  unfold sSeq; cases g rh G <;> rfl
theorem P_fromO {β : Type} {o : Out β} {k : β → GH → SOut} : (fromO o rh k).P N R X = o.P (fun b G' => (k b G').P N R X) (fun c G' => X c rh G') := by cases o <;> rfl
theorem P_sSet {i : Nat} {m : M D} : (sSet i m rh G).P N R X = (m rh G).P (fun d G' => N (rh.set i (some d)) G') (fun c G' => X c rh G') := P_fromO
theorem P_sRet {m : M D} : (sRet m rh G).P N R X = (m rh G).P R (fun c G' => X c rh G') := P_fromO
theorem P_sExpr {m : M D} : (sExpr m rh G).P N R X = (m rh G).P (fun _ G' => N rh G') (fun c G' => X c rh G') := P_fromO
theorem P_sIf {c : M Bool} {a b : S} : (sIf c a b rh G).P N R X = (c rh G).P (fun t G' => if t = true then (a rh G').P N R X else (b rh G').P N R X) (fun c G' => X c rh G') := by
  unfold sIf; rw [P_fromO]; congr 1; funext t G'; split <;> rfl
theorem P_sAsg {m : M D} {t : T1} : (sAsg m t rh G).P N R X = (m rh G).P (fun d G' => match t d rh G' with | some rh' => N rh' G' | none => False) (fun c G' => X c rh G') := by
  unfold sAsg; rw [P_fromO]; congr 1; funext d G'; cases t d rh G' <;> rfl
theorem P_sPar {i j : Nat} {m : M (List D)} : (sPar i j m rh G).P N R X = (m rh G).P (fun ds G' => match ds with | [d, d'] => N ((rh.set i (some d)).set j (some d')) G' | _ => False) (fun c G' => X c rh G') := by
  unfold sPar; rw [P_fromO]; congr 1; funext t G'
  match t with
  | [] => rfl
  | [_] => rfl
  | [_, _] => rfl
  | _ :: _ :: _ :: _ => rfl
theorem P_sSub {e o i : M D} {st : D → D → D → GH → Out Unit} : (sSub e o i st rh G).P N R X = (e rh G).P (fun v G1 => (o rh G1).P (fun o G2 => (i rh G2).P (fun i G3 => (st o i v G3).P (fun _ G4 => N rh G4) (fun c G' => X c rh G')) (fun c G' => X c rh G')) (fun c G' => X c rh G')) (fun c G' => X c rh G') := by
  unfold sSub; simp only [P_fromO, P_nx]
theorem P_sFor {m : M Src} {t : T1} {b : S} : (sFor m t b rh G).P N R X = (m rh G).P (fun s G1 => (loopS s.at_ t b s.fuel 0 rh G1).P N R X) (fun c G' => X c rh G') := P_fromO
theorem P_runF {n : Nat} {g : S} {ds : List D} {Q : D → GH → Prop} {Y : Str → GH → Prop} : (runF n g ds G).P Q Y = (g (startD n ds) G).P (fun _ G' => Q .non G') Q (fun c _ G' => Y c G') := by
  unfold runF; cases g (startD n ds) G <;> rfl
theorem P_sTrunc {g : S} : (sTrunc g rh G).P N R X = (g rh G).P (fun rh' G' => match truncG G.length G' with | some G2 => N (truncR G.length rh') G2 | none => False)
    (fun d G' => match truncG G.length G' with | some G2 => if bel 8 G.length d = true then R d G2 else False | none => False) (fun c rh' G' => match truncG G.length G' with | some G2 => X c (truncR G.length rh') G2 | none => False) := by
  unfold sTrunc
  cases g rh G with
  | nx rh' G' => dsimp only [SOut.P]; cases truncG G.length G' <;> rfl
  | ct rh' G' => dsimp only [SOut.P]; cases truncG G.length G' <;> rfl
  | bk rh' G' => dsimp only [SOut.P]; cases truncG G.length G' <;> rfl
  | rt d G' =>
    dsimp only [SOut.P]
    cases truncG G.length G' with
    | none => rfl
    | some G2 =>
      by_cases hb : bel 8 G.length d = true
      · simp only [if_pos hb]
      · simp only [if_neg hb]
  | exn c rh' G' => dsimp only [SOut.P]; cases truncG G.length G' <;> rfl
  | stuck => rfl
theorem P_sFrz {i : Nat} {g : S} : (sFrz i g rh G).P N R X = match rh[i]? with
  | some (some (.loc k)) => match G[k]? with
    | some (.lst xs) => (g (rh.set i (some (.lst xs))) (G.set k .dead)).P N R X
    | _ => False
  | _ => (g rh G).P N R X := by
  unfold sFrz
  cases h1 : rh[i]? with
  | none => rfl
  | some o =>
    cases o with
    | none => rfl
    | some d =>
      cases d with
      | loc k =>
        dsimp only
        cases h2 : G[k]? with
        | none => rfl
        | some c => cases c <;> rfl
      | _ => rfl
theorem SOut.P.imp {o : SOut} {N' : DEnv → GH → Prop} {R' : D → GH → Prop} {X' : Str → DEnv → GH → Prop} (h : o.P N R X) (i : ∀ r G, N r G → N' r G) (j : ∀ d G, R d G → R' d G) (k : ∀ c r G, X c r G → X' c r G) : o.P N' R' X' := by
  cases o with
  | nx r G => exact i _ _ h
  | rt d G => exact j _ _ h
  | exn c r G => exact k _ _ _ h
  | _ => exact h.elim

/-! ### the same, step by step: what the first part gives, then the rest -/
def onB (d : D) (k : Bool → Prop) : Prop := match d with
  | .bl b => k b
  | _ => False
section
variable {β γ : Type} {Q : β → GH → Prop} {X : Str → GH → Prop} {G : GH} {rh : DEnv} {q : D → GH → Prop} {ql : List D → GH → Prop} {qb : Bool → GH → Prop}
theorem e_onB {b : Bool} {k : Bool → Prop} (h : k b) : onB (.bl b) k := h
theorem e_ok {o : Out β} {b : β} {G' : GH} (e : o = .ok b G') (h : Q b G') : o.P Q X := by rw [e]; exact h
theorem e_exn {o : Out β} {c : Str} {G' : GH} (e : o = .exn c G') (h : X c G') : o.P Q X := by rw [e]; exact h
theorem e_bind {o : Out γ} {k : γ → GH → Out β} (h : o.P (fun b G' => (k b G').P Q X) X) : (o.bind k).P Q X := by rw [P_bind]; exact h
theorem e_mC {d : D} (h : q d G) : (mC d rh G).P q X := h
theorem e_var {i : Nat} {d : D} (e : rh[i]? = some (some d)) (h : q d G) : (mVar i rh G).P q X := by rw [P_mVar e]; exact h
theorem e_b1 {o : γ → GH → Out β} {m : M γ} (h : (m rh G).P (fun x G1 => (o x G1).P Q X) X) : (b1 o m rh G).P Q X := by rw [P_b1]; exact h
theorem e_b2 {o : D → D → GH → Out D} {m n : M D} (h : (m rh G).P (fun x G1 => (n rh G1).P (fun y G2 => (o x y G2).P q X) X) X) : (b2 o m n rh G).P q X := by rw [P_b2]; exact h
theorem e_nil (h : ql [] G) : (mNil rh G).P ql X := h
theorem e_cons {m : M D} {n : M (List D)} (h : (m rh G).P (fun x G1 => (n rh G1).P (fun xs G2 => ql (x :: xs) G2) X) X) : (mCons m n rh G).P ql X := by rw [P_mCons]; exact h
theorem e_oB {b : Bool} (h : qb b G) : (oB (.bl b) G).P qb X := h
theorem e_toB {m : M D} (h : (m rh G).P (fun d G1 => (oB d G1).P qb X) X) : (toB m rh G).P qb X := by rw [P_toB]; exact h
theorem e_not {m : M Bool} (h : (m rh G).P (fun b G1 => qb (!b) G1) X) : (mNot m rh G).P qb X := by rw [P_mNot]; exact h
theorem e_and {m n : M Bool} (h : (m rh G).P (fun b G1 => if b = true then (n rh G1).P qb X else qb false G1) X) : (mAnd m n rh G).P qb X := by rw [P_mAnd]; exact h
theorem e_or {m n : M Bool} (h : (m rh G).P (fun b G1 => if b = true then qb true G1 else (n rh G1).P qb X) X) : (mOr m n rh G).P qb X := by rw [P_mOr]; exact h
theorem e_andV {m n : M D} (h : (m rh G).P (fun d G1 => onB d fun b => if b = true then (n rh G1).P q X else q (.bl false) G1) X) : (mAndV m n rh G).P q X := by
  rw [P_mAndV]
  exact h.imp (fun d G1 z => by
    cases d with
    | bl b => cases b <;> simpa [onB] using z
    | _ => exact z.elim) fun _ _ z => z
theorem e_orV {m n : M D} (h : (m rh G).P (fun d G1 => onB d fun b => if b = true then q (.bl true) G1 else (n rh G1).P q X) X) : (mOrV m n rh G).P q X := by
  rw [P_mOrV]
  exact h.imp (fun d G1 z => by
    cases d with
    | bl b => cases b <;> simpa [onB] using z
    | _ => exact z.elim) fun _ _ z => z
theorem e_oNot {b : Bool} (h : q (.bl (!b)) G) : (oNot (.bl b) G).P q X := h
theorem e_ifE {c : M Bool} {m n : M β} (h : (c rh G).P (fun b G1 => if b = true then (m rh G1).P Q X else (n rh G1).P Q X) X) : (mIf c m n rh G).P Q X := by rw [P_mIf]; exact h
theorem e_yes (h : qb true G) : (mYes rh G).P qb X := h
theorem e_sl {o : D → Option Int → Option Int → GH → Out D} {m : M D} {l h' : M (Option Int)} (h : (m rh G).P (fun d G1 => (l rh G1).P (fun a G2 => (h' rh G2).P (fun b G3 => (o d a b G3).P q X) X) X) X) : (mSl o m l h' rh G).P q X := by rw [P_mSl]; exact h
theorem e_noPt {qo : Option Int → GH → Prop} (h : qo none G) : (mNoPt rh G).P qo X := h
theorem e_oPt {qo : Option Int → GH → Prop} {i : Int} (h : qo (some i) G) : (oPt (.int i) G).P qo X := h
theorem e_chain {o o' : D → D → GH → Out D} {m n l : M D} (h : (m rh G).P (fun x G1 => (n rh G1).P (fun y G2 => (o x y G2).P (fun z G3 => onB z fun b => if b = true then (l rh G3).P (fun w G4 => (o' y w G4).P q X) X else q (.bl false) G3) X) X) X) : (mChain o o' m n l rh G).P q X := by
  rw [P_mChain]
  refine h.imp (fun x G1 z => z.imp (fun y G2 z => z.imp (fun d G3 z => ?_) fun _ _ z => z) fun _ _ z => z) fun _ _ z => z
  cases d with
  | bl b => cases b <;> simpa [onB] using z
  | _ => exact z.elim
theorem e_call {n : Nat} {mf : MF} {ml : M (List D)} (h : (ml rh G).P (fun ds G1 => ds.length = n ∧ (mf ds G1).P q X) X) : (mCall n mf ml rh G).P q X := by
  rw [P_mCall]
  exact h.imp (fun ds G1 z => by rw [if_pos z.1]; exact z.2) fun _ _ z => z
theorem e_mt {T : String} {o : D → List D → GH → Out D} {m : M D} {ml : M (List D)} (h : (m rh G).P (fun d G1 => tyD T d G1 = true ∧ (ml rh G1).P (fun ds G2 => (o d ds G2).P q X) X) X) : (mMt T o m ml rh G).P q X := by
  rw [P_mMt]
  exact h.imp (fun d G1 z => by rw [if_pos z.1]; exact z.2) fun _ _ z => z
/-- ints -/
theorem e_add {cm : Bool} {i j : Int} (h : q (.int (i + j)) G) : (oAdd cm (.int i) (.int j) G).P q X := h
theorem e_sub {i j : Int} (h : q (.int (i - j)) G) : (oSub (.int i) (.int j) G).P q X := h
theorem e_mul {cm : Bool} {i j : Int} (hs : small64 i = true ∨ small64 j = true) (h : q (.int (i * j)) G) : (oMul cm (.int i) (.int j) G).P q X := by
  show (if (small64 i || small64 j) = true then Out.ok (.int (i * j)) G else .stuck).P q X
  rw [if_pos (by rcases hs with e | e <;> simp [e])]
  exact h
theorem e_div {i j : Int} (hs : cDiv i j = true) (h : q (.int (i / j)) G) : (oDiv (.int i) (.int j) G).P q X := by
  show (if cDiv i j = true then Out.ok (.int (i / j)) G else .stuck).P q X
  rw [if_pos hs]
  exact h
theorem e_mod {i j : Int} (hs : 0 < j) (h : q (.int (i % j)) G) : (oMod (.int i) (.int j) G).P q X := by
  show (if decide (0 < j) = true then Out.ok (.int (i % j)) G else .stuck).P q X
  rw [if_pos (decide_eq_true hs)]
  exact h
theorem e_lt {i j : Int} (h : q (.bl (decide (i < j))) G) : (oLt (.int i) (.int j) G).P q X := h
theorem e_le {i j : Int} (h : q (.bl (decide (i ≤ j))) G) : (oLe (.int i) (.int j) G).P q X := h
theorem e_gt {i j : Int} (h : q (.bl (decide (j < i))) G) : (oGt (.int i) (.int j) G).P q X := h
theorem e_ge {i j : Int} (h : q (.bl (decide (j ≤ i))) G) : (oGe (.int i) (.int j) G).P q X := h
theorem e_eqI {i j : Int} (h : q (.bl (decide (i = j))) G) : (oEq (.int i) (.int j) G).P q X := h
theorem e_neI {i j : Int} (h : q (.bl (!decide (i = j))) G) : (oNe (.int i) (.int j) G).P q X := h
theorem e_ix {d e x : D} (h1 : oIx d e G = .ok x G) (h : q x G) : (oIx d e G).P q X := e_ok h1 h
theorem e_st {d e v : D} {G' : GH} {u : Unit → GH → Prop} (h1 : oSetL d e v G = .ok () G') (h : u () G') : (oSetL d e v G).P u X := e_ok h1 h
theorem e_mk {cm : Bool} {ds : List D} {d : D} {G' : GH} (h1 : oMk cm ds G = .ok d G') (h : q d G') : (oMk cm ds G).P q X := e_ok h1 h
theorem e_tup {ds : List D} (h1 : ds.length ≤ sizeLine) (h : q (.tup ds) G) : (oTup ds G).P q X := e_ok (by unfold oTup; rw [if_pos h1]) h
theorem e_len {ds : List D} {d : D} (h1 : oLen ds G = .ok d G) (h : q d G) : (oLen ds G).P q X := e_ok h1 h
theorem e_isi {T : TyN} {d x : D} (h1 : oIsi T d G = .ok x G) (h : q x G) : (oIsi T d G).P q X := e_ok h1 h
theorem e_int {ds : List D} {d : D} (h1 : oInt ds G = .ok d G) (h : q d G) : (oInt ds G).P q X := e_ok h1 h
theorem e_neg {i : Int} (h : q (.int (-i)) G) : (oNeg (.int i) G).P q X := h
theorem e_app {d : D} {ds : List D} {x : D} {G' : GH} (h1 : oAppend d ds G = .ok x G') (h : q x G') : (oAppend d ds G).P q X := e_ok h1 h
theorem e_pow {i j : Int} {x : D} (h1 : oPow (.int i) (.int j) G = .ok x G) (h : q x G) : (oPow (.int i) (.int j) G).P q X := e_ok h1 h
theorem e_isN {d : D} {x : D} (h1 : oIsN d .non G = .ok x G) (h : q x G) : (oIsN d .non G).P q X := e_ok h1 h
theorem e_notN {d : D} {x : D} (h1 : oNotN d .non G = .ok x G) (h : q x G) : (oNotN d .non G).P q X := e_ok h1 h
theorem e_rng1 {j : Int} {qs : Src → GH → Prop} (h1 : -(2 ^ 62) ≤ j ∧ j < 2 ^ 62) (h : qs (srcC (rngL 0 j.toNat)) G) : (oRng1 [.int j] G).P qs X := e_ok (by unfold oRng1; dsimp only; rw [if_pos h1]) h
theorem e_rng2 {i j : Int} {qs : Src → GH → Prop} (h1 : (-(2 ^ 62) ≤ i ∧ i < 2 ^ 62) ∧ -(2 ^ 62) ≤ j ∧ j < 2 ^ 62) (h : qs (srcC (rngL i (j - i).toNat)) G) : (oRng2 [.int i, .int j] G).P qs X := e_ok (by unfold oRng2; dsimp only; rw [if_pos h1]) h
end
section
variable {N : DEnv → GH → Prop} {R : D → GH → Prop} {X : Str → DEnv → GH → Prop} {G : GH} {rh : DEnv}
theorem e_sNil (h : N rh G) : (sNil rh G).P N R X := h
theorem e_seq {g k : S} (h : (g rh G).P (fun rh' G' => (k rh' G').P N R X) R X) : (sSeq g k rh G).P N R X := by rw [P_sSeq]; exact h
theorem e_set {i : Nat} {m : M D} (h : (m rh G).P (fun d G' => N (rh.set i (some d)) G') (fun c G' => X c rh G')) : (sSet i m rh G).P N R X := by rw [P_sSet]; exact h
theorem e_ret {m : M D} (h : (m rh G).P R (fun c G' => X c rh G')) : (sRet m rh G).P N R X := by rw [P_sRet]; exact h
theorem e_retN (h : R .non G) : (sRetN rh G).P N R X := h
theorem e_expr {m : M D} (h : (m rh G).P (fun _ G' => N rh G') (fun c G' => X c rh G')) : (sExpr m rh G).P N R X := by rw [P_sExpr]; exact h
theorem e_raise {c : Str} (h : X c rh G) : (sRaise c rh G).P N R X := h
theorem e_if {c : M Bool} {a b : S} (h : (c rh G).P (fun t G' => if t = true then (a rh G').P N R X else (b rh G').P N R X) (fun c G' => X c rh G')) : (sIf c a b rh G).P N R X := by rw [P_sIf]; exact h
theorem e_asg {m : M D} {t : T1} (h : (m rh G).P (fun d G' => ∃ rh', t d rh G' = some rh' ∧ N rh' G') (fun c G' => X c rh G')) : (sAsg m t rh G).P N R X := by
  rw [P_sAsg]
  exact h.imp (fun d G' z => by obtain ⟨rh', e, z⟩ := z; rw [e]; exact z) fun _ _ z => z
theorem e_par {i j : Nat} {m : M (List D)} (h : (m rh G).P (fun ds G' => ∃ d d', ds = [d, d'] ∧ N ((rh.set i (some d)).set j (some d')) G') (fun c G' => X c rh G')) : (sPar i j m rh G).P N R X := by
  rw [P_sPar]
  exact h.imp (fun d G' z => by obtain ⟨d, d', rfl, z⟩ := z; exact z) fun _ _ z => z
theorem e_sSub {e o i : M D} {st : D → D → D → GH → Out Unit} (h : (e rh G).P (fun v G1 => (o rh G1).P (fun o G2 => (i rh G2).P (fun i G3 => (st o i v G3).P (fun _ G4 => N rh G4) (fun c G' => X c rh G')) (fun c G' => X c rh G')) (fun c G' => X c rh G')) (fun c G' => X c rh G')) : (sSub e o i st rh G).P N R X := by
  rw [P_sSub]; exact h
theorem e_for {m : M Src} {t : T1} {b : S} (h : (m rh G).P (fun s G1 => (loopS s.at_ t b s.fuel 0 rh G1).P N R X) (fun c G' => X c rh G')) : (sFor m t b rh G).P N R X := by rw [P_sFor]; exact h
theorem e_runF {n : Nat} {g : S} {ds : List D} {Q : D → GH → Prop} {Y : Str → GH → Prop} (h : (g (startD n ds) G).P (fun _ G' => Q .non G') Q (fun c _ G' => Y c G')) : (runF n g ds G).P Q Y := by rw [P_runF]; exact h
theorem e_trunc {g : S} (h : (g rh G).P (fun rh' G' => ∃ G2, truncG G.length G' = some G2 ∧ N (truncR G.length rh') G2)
    (fun d G' => ∃ G2, truncG G.length G' = some G2 ∧ bel 8 G.length d = true ∧ R d G2) (fun c rh' G' => ∃ G2, truncG G.length G' = some G2 ∧ X c (truncR G.length rh') G2)) : (sTrunc g rh G).P N R X := by
  rw [P_sTrunc]
  refine h.imp (fun rh' G' z => ?_) (fun d G' z => ?_) fun c rh' G' z => ?_
  · obtain ⟨G2, e, z⟩ := z; rw [e]; exact z
  · obtain ⟨G2, e, hb, z⟩ := z; rw [e]; dsimp only; rw [if_pos hb]; exact z
  · obtain ⟨G2, e, z⟩ := z; rw [e]; exact z
theorem e_frz {i k : Nat} {g : S} {xs : List D} (e1 : rh[i]? = some (some (.loc k))) (e2 : G[k]? = some (.lst xs)) (h : (g (rh.set i (some (.lst xs))) (G.set k .dead)).P N R X) : (sFrz i g rh G).P N R X := by
  rw [P_sFrz, e1]; dsimp only; rw [e2]; exact h
end
theorem e_iteT {c A B : Prop} [Decidable c] (hc : c) (h : A) : if c then A else B := by rw [if_pos hc]; exact h
theorem e_iteF {c A B : Prop} [Decidable c] (hc : ¬ c) (h : B) : if c then A else B := by rw [if_neg hc]; exact h
theorem e_iteB {p : Prop} [Decidable p] {A B : Prop} (h1 : p → A) (h2 : ¬ p → B) : if decide p = true then A else B := by
  by_cases h : p
  · rw [if_pos (decide_eq_true h)]; exact h1 h
  · rw [if_neg (by simp [h])]; exact h2 h

/-! ### loops -/
/-- a loop by its invariant: at turn i; L: what is walked -/
theorem loop_P {at_ : GH → Nat → Option (Option D)} {t : T1} {body : S} (L : List D) (I : Nat → DEnv → GH → Prop) (hat : ∀ i rh G, i ≤ L.length → I i rh G → at_ G i = some L[i]?)
    (step : ∀ i x rh G, L[i]? = some x → I i rh G → ∃ rh', t x rh G = some rh' ∧ (body rh' G).P (I (i + 1)) R X) {fuel : Nat} (hf : L.length ≤ fuel) (h0 : I 0 rh G) (hN : ∀ rh G, I L.length rh G → N rh G) : (loopS at_ t body fuel 0 rh G).P N R X := by
  have go : ∀ (m i f : Nat) rh G, L.length - i = m → i ≤ L.length → m ≤ f → I i rh G → (loopS at_ t body f i rh G).P N R X := by
    intro m
    induction m with
    | zero =>
      intro i f rh G hm hi hf hI
      have e : i = L.length := by omega
      subst e
      have ha := hat _ rh G hi hI
      rw [List.getElem?_eq_none (Nat.le_refl _)] at ha
      cases f with
      | zero => unfold loopS; rw [ha]; exact hN _ _ hI
      | succ f => unfold loopS; rw [ha]; exact hN _ _ hI
    | succ m ih =>
      intro i f rh G hm hi hf hI
      have hl : i < L.length := by omega
      have ha := hat _ rh G hi hI
      rw [List.getElem?_eq_getElem hl] at ha
      obtain ⟨rh', e1, hb⟩ := step i L[i] rh G (List.getElem?_eq_getElem hl) hI
      cases f with
      | zero => omega
      | succ f =>
        unfold loopS
        rw [ha]
        dsimp only
        rw [e1]
        dsimp only
        cases q : body rh' G with
        | nx rh2 G2 => rw [q] at hb; exact ih (i + 1) f rh2 G2 (by omega) hl (by omega) hb
        | rt d G2 => rw [q] at hb; exact hb
        | exn c rh2 G2 => rw [q] at hb; exact hb
        | ct rh2 G2 => rw [q] at hb; exact hb.elim
        | bk rh2 G2 => rw [q] at hb; exact hb.elim
        | stuck => rw [q] at hb; exact hb.elim
  exact go _ 0 fuel rh G rfl (Nat.zero_le _) (by omega) h0
/-- .. over a list that does not change -/
theorem loopC_P {t : T1} {body : S} (L : List D) (I : Nat → DEnv → GH → Prop) (step : ∀ i x rh G, L[i]? = some x → I i rh G → ∃ rh', t x rh G = some rh' ∧ (body rh' G).P (I (i + 1)) R X) (h0 : I 0 rh G) (hN : ∀ rh G, I L.length rh G → N rh G) :
    (loopS (fun _ i => some L[i]?) t body L.length 0 rh G).P N R X := loop_P L I (fun _ _ _ _ _ => rfl) step (Nat.le_refl _) h0 hN
theorem srcC_fuel {L : List D} : (srcC L).fuel = L.length := rfl
theorem rngL_len {lo : Int} {n : Nat} : (rngL lo n).length = n := by unfold rngL; simp
theorem rngL_at {lo : Int} {n i : Nat} {x : D} (h : (rngL lo n)[i]? = some x) : i < n ∧ x = .int (lo + i) := by
  have hi : i < n := by
    have := (List.getElem?_eq_some_iff.mp h).1
    rwa [rngL_len] at this
  unfold rngL at h
  rw [List.getElem?_map, List.getElem?_range hi] at h
  exact ⟨hi, (Option.some.inj h).symm⟩
/-- a loop over a range -/
theorem rng_P {lo : Int} {n : Nat} {t : T1} {body : S} (I : Nat → DEnv → GH → Prop) (step : ∀ (i : Nat) rh G, i < n → I i rh G → ∃ rh', t (.int (lo + i)) rh G = some rh' ∧ (body rh' G).P (I (i + 1)) R X) (h0 : I 0 rh G) (hN : ∀ rh G, I n rh G → N rh G) :
    (loopS (srcC (rngL lo n)).at_ t body (srcC (rngL lo n)).fuel 0 rh G).P N R X :=
  loopC_P (rngL lo n) I (fun i x rh G hx hI => by
    obtain ⟨h1, rfl⟩ := rngL_at hx
    exact step i rh G h1 hI) h0 (by rw [rngL_len]; exact hN)
end

/-! ### comprehensions -/
section
variable {Q : D → GH → Prop} {X : Str → GH → Prop} {G : GH} {rh : DEnv}
/-- every element is worth f, the test p; G stays -/
theorem lcS_pure {t : T1} {tt : M Bool} {te : M D} {rw_ : DEnv} {at_ : GH → Nat → Option (Option D)} {L : List D} (hat : ∀ i, at_ G i = some L[i]?) (p : D → Bool) (f : D → D)
    (h : ∀ x ∈ L, ∃ rh2, t x rw_ G = some rh2 ∧ tt rh2 G = .ok (p x) G ∧ (p x = true → te rh2 G = .ok (f x) G)) : ∀ (m i fuel : Nat) (acc : List D), L.length - i = m → m ≤ fuel → acc.length + m ≤ sizeLine →
      lcS at_ t tt te rw_ fuel i acc G = .ok (acc ++ ((L.drop i).filter p).map f) G := by
  intro m
  induction m with
  | zero =>
    intro i fuel acc hm hf hs
    have hn : L[i]? = none := List.getElem?_eq_none (by omega)
    have hd : L.drop i = [] := List.drop_eq_nil_of_le (by omega)
    rw [hd]
    cases fuel with
    | zero => unfold lcS; rw [hat, hn]; simp
    | succ n => unfold lcS; rw [hat, hn]; simp
  | succ m ih =>
    intro i fuel acc hm hf hs
    have hl : i < L.length := by omega
    have hd : L.drop i = L[i] :: L.drop (i + 1) := by rw [List.drop_eq_getElem_cons hl]
    obtain ⟨rh2, e1, e2, e3⟩ := h L[i] (List.getElem_mem hl)
    cases fuel with
    | zero => omega
    | succ n =>
      unfold lcS
      rw [hat, List.getElem?_eq_getElem hl]
      dsimp only
      rw [e1]
      dsimp only
      rw [e2]
      cases q : p L[i] with
      | false =>
        dsimp only
        rw [ih (i + 1) n acc (by omega) (by omega) (by omega), hd, List.filter_cons, q]
        rfl
      | true =>
        dsimp only
        rw [e3 q]
        dsimp only
        rw [if_pos (by omega), ih (i + 1) n _ (by omega) (by omega) (by rw [List.length_append]; simp; omega), hd, List.filter_cons, q]
        simp
theorem lc_pure {cm : Bool} {vs : List Nat} {m : M Src} {t : T1} {tt : M Bool} {te : M D} {s : Src} {L : List D} (hm : m rh G = .ok s G) (hat : ∀ i, s.at_ G i = some L[i]?) (hf : L.length ≤ s.fuel) (hs : L.length ≤ sizeLine) (p : D → Bool) (f : D → D)
    (h : ∀ x ∈ L, ∃ rh2, t x (wipeD rh vs) G = some rh2 ∧ tt rh2 G = .ok (p x) G ∧ (p x = true → te rh2 G = .ok (f x) G)) : mLc cm vs m t tt te rh G = mk cm ((L.filter p).map f) G := by
  unfold mLc
  rw [hm]
  show (lcS s.at_ t tt te (wipeD rh vs) s.fuel 0 [] G).bind _ = _
  rw [lcS_pure hat p f h (L.length - 0) 0 s.fuel [] rfl (by omega) (by simpa using hs)]
  rfl
end

/-! ### calls that see their own cell -/
theorem locCall_one {mf : MF} {args : List D} {G : GH} {k : Nat} {c c' : Cell} {d : D} (hk : G[k]? = some c) (hc : belC 0 c = true) (ha : args.all nl = true) (h : mf (.loc 0 :: args) [c] = .ok d [c']) (hd : nl d = true) (hc' : belC 0 c' = true) :
    locCall mf (.loc k :: args) G = .ok d (G.set k c') := by
  have l0 : locsOf args = [] := by
    unfold locsOf
    rw [List.filterMap_eq_nil_iff]
    intro x hx
    have := List.all_eq_true.mp ha x hx
    cases x <;> first | rfl | (exfalso; revert this; decide) | (exfalso; exact Bool.noConfusion (show false = true from this))
  have l1 : locsOf (.loc k :: args) = [k] := by
    show k :: locsOf args = [k]
    rw [l0]
  have ho : (D.loc k :: args).all okArg = true := by
    rw [List.all_cons]
    refine Bool.and_eq_true_iff.mpr ⟨rfl, List.all_eq_true.mpr fun x hx => ?_⟩
    have := List.all_eq_true.mp ha x hx
    cases x <;> first | rfl | exact this
  have hr : (D.loc k :: args).map (renD [k]) = .loc 0 :: args := by
    rw [List.map_cons]
    congr 1
    · show D.loc ([k].idxOf k) = .loc 0
      simp
    · rw [List.map_congr_left (g := id), List.map_id]
      intro x hx
      have := List.all_eq_true.mp ha x hx
      cases x <;> first | rfl | (exfalso; exact Bool.noConfusion (show false = true from this))
  unfold locCall
  rw [l1]
  dsimp only
  rw [if_pos ⟨by simp, ho⟩]
  have hm : mapO (fun k => G[k]?) [k] = some [c] := by simp [mapO, hk]
  rw [hm]
  dsimp only
  rw [if_pos (by simp [hc]), hr, h]
  dsimp only
  rw [if_pos ⟨hd, rfl, by simp [hc']⟩]
  rfl
theorem small64_of {i : Int} (h1 : -(2 ^ 64) < i) (h2 : i < 2 ^ 64) : small64 i = true := by
  unfold small64; rw [Bool.and_eq_true]; exact ⟨decide_eq_true h1, decide_eq_true h2⟩
theorem cDiv_of {i j : Int} (h1 : 0 < j) (h2 : j < 2 ^ 64) : cDiv i j = true := by
  unfold cDiv
  rw [Bool.and_eq_true]
  refine ⟨decide_eq_true h1, decide_eq_true ?_⟩
  have h3 : j.natAbs < 2 ^ 64 := by omega
  exact Nat.lt_trans h3 (by decide)
/-- a call that sees the one cell at k -/
theorem loc1_P {mf : MF} {args : List D} {G : GH} {k : Nat} {c : Cell} {Q : D → GH → Prop} {X : Str → GH → Prop} (R : D → Cell → Prop) (h : (mf (.loc 0 :: args) [c]).P (fun d G' => ∃ c', G' = [c'] ∧ R d c') X0) (hk : G[k]? = some c) (hc : belC 0 c = true) (ha : args.all nl = true)
    (hR : ∀ d c', R d c' → nl d = true ∧ belC 0 c' = true) (hQ : ∀ d c', R d c' → Q d (G.set k c')) : (locCall mf (.loc k :: args) G).P Q X := by
  obtain ⟨d, G', e, c', rfl, r⟩ := h.ok
  rw [locCall_one hk hc ha e (hR d c' r).1 (hR d c' r).2]
  exact hQ d c' r

end VL

/-! Q8: plain facts on data: lists of numbers, tables, ==, slices. -/
namespace VL
open PySem L2

theorem Out.P.eq {β : Type} {o : Out β} {v : β} {G : GH} (h : o.P (fun d G' => d = v ∧ G' = G) X0) : o = .ok v G := by
  obtain ⟨b, G', e, rfl, rfl⟩ := h.ok; exact e
theorem mapO_map {β γ : Type} {f : β → Option γ} {g : β → γ} : ∀ {xs : List β}, (∀ x ∈ xs, f x = some (g x)) → mapO f xs = some (xs.map g)
  | [], _ => rfl
  | x :: xs, h => by
    unfold mapO
    rw [h x List.mem_cons_self, mapO_map fun z hz => h z (List.mem_cons_of_mem _ hz)]
    rfl
theorem mapO_mapR {α β γ : Type} {f : β → Option γ} {g : α → γ} {e : α → β} {xs : List α} (h : ∀ x ∈ xs, f (e x) = some (g x)) : mapO f (xs.map e) = some (xs.map g) := by
  induction xs with
  | nil => rfl
  | cons x xs ih =>
    rw [List.map_cons]
    unfold mapO
    rw [h x List.mem_cons_self, ih fun z hz => h z (List.mem_cons_of_mem _ hz)]
    rfl
theorem mapO_ix {β γ : Type} {f : β → Option γ} : ∀ {xs : List β} {ys : List γ}, xs.length = ys.length → (∀ (i : Nat) (y : γ), ys[i]? = some y → ∃ x, xs[i]? = some x ∧ f x = some y) → mapO f xs = some ys
  | [], [], _, _ => rfl
  | [], _ :: _, h, _ => by cases h
  | _ :: _, [], h, _ => by cases h
  | x :: xs, y :: ys, hl, h => by
    unfold mapO
    obtain ⟨x', e, h0⟩ := h 0 y rfl
    cases e
    rw [h0, mapO_ix (by simpa using hl) fun i z hz => h (i + 1) z hz]

abbrev rowD (r : List Int) : D := .lst (r.map D.int)
abbrev tabD (T : List (List Int)) : D := .lst (T.map rowD)
abbrev rowP (r : List Int) : PyData := .list (r.map PyData.int)
abbrev tabP (T : List (List Int)) : PyData := .list (T.map rowP)

theorem intsOf_at {G : GH} {d : D} {r : List Int} (h : lstOf G d = some (r.map D.int)) : intsOf G d = some r := by
  unfold intsOf; rw [h]
  have e := mapO_mapR (f := fun x => match x with | .int i => some i | _ => none) (g := id) (e := D.int) (xs := r) (fun _ _ => rfl)
  rw [List.map_id] at e
  exact e
theorem lstOf_of {G : GH} {d : D} {xs : List D} (h : lstO G d = some xs) : lstOf G d = some xs := by
  unfold lstO at h; unfold lstOf
  cases d with
  | lst ys => exact h
  | loc k => exact h
  | _ => cases h
theorem kind_of {G : GH} {d : D} {xs : List D} (h : lstO G d = some xs) : kindD G d = some "list" := by
  unfold lstO at h; unfold kindD
  cases d with
  | lst ys => rfl
  | loc k =>
    dsimp only at h ⊢
    split at h
    · rename_i e
      rw [e]
    · cases h
  | _ => cases h
theorem isi_list {G : GH} {d : D} {xs : List D} (h : lstO G d = some xs) : oIsi .list d G = .ok (.bl true) G := by
  unfold oIsi; rw [kind_of h]; rfl
theorem len_of {G : GH} {d : D} {xs : List D} (h : lstOf G d = some xs) : oLen [d] G = .ok (D.int (xs.length : Nat)) G := by
  unfold lstOf at h
  cases d with
  | lst ys => cases h; rfl
  | ro ys => cases h; rfl
  | loc k =>
    show (match lstOf G (.loc k) with | some xs => Out.ok (D.int (xs.length : Nat)) G | none => .stuck) = _
    have e : lstOf G (.loc k) = some xs := h
    rw [e]
  | _ => cases h
theorem ixN_nat {n j : Nat} (h : j < n) : ixN n (j : Int) = some j := by
  unfold ixN
  simp [h]
theorem atI_nat {α : Type} {xs : List α} {j : Nat} (h : j < xs.length) : atI xs (j : Int) = xs[j]? := by
  unfold atI; rw [ixN_nat h]; rfl
theorem atI_int {α : Type} {xs : List α} {j : Int} (h0 : 0 ≤ j) (h : j < xs.length) : atI xs j = xs[j.toNat]? := by
  obtain ⟨n, rfl⟩ := Int.eq_ofNat_of_zero_le h0
  exact atI_nat (by omega)
theorem ix_of {G : GH} {d x : D} {xs : List D} {j : Int} (h : lstOf G d = some xs) (h0 : 0 ≤ j) (e : xs[j.toNat]? = some x) : oIx d (.int j) G = .ok x G := by
  have hl : j.toNat < xs.length := (List.getElem?_eq_some_iff.mp e).1
  have ea : atI xs j = some x := by rw [atI_int h0 (by omega)]; exact e
  unfold lstOf at h
  cases d with
  | lst ys => cases h; unfold oIx; dsimp only [lstOf]; rw [ea]
  | ro ys => cases h; unfold oIx; dsimp only [lstOf]; rw [ea]
  | loc k =>
    have eh : lstOf G (.loc k) = some xs := h
    unfold oIx; dsimp only; rw [eh]; dsimp only; rw [ea]
  | _ => cases h
theorem ix_nat {G : GH} {d x : D} {xs : List D} {j : Nat} (h : lstOf G d = some xs) (e : xs[j]? = some x) : oIx d (.int (j : Int)) G = .ok x G := ix_of h (by omega) (by simpa using e)
theorem ix_tup {G : GH} {x : D} {xs : List D} {j : Int} (h0 : 0 ≤ j) (e : xs[j.toNat]? = some x) : oIx (.tup xs) (.int j) G = .ok x G := by
  have hl : j.toNat < xs.length := (List.getElem?_eq_some_iff.mp e).1
  have ea : atI xs j = some x := by rw [atI_int h0 (by omega)]; exact e
  unfold oIx; dsimp only; rw [ea]

/-! ### == -/
/-- all of it may be compared, n: how deep -/
structure Lay (n : Nat) (p : PyData) : Prop where
  lay : p.canLay0 = true
  deep : p.depth ≤ n
structure LayL (n : Nat) (ps : List PyData) : Prop where
  lay : PyData.canLayAll0 ps = true
  deep : PyData.depthAll ps ≤ n
theorem LayL.nil {n : Nat} : LayL n [] := ⟨rfl, by simp [PyData.depthAll]⟩
theorem LayL.cons {n : Nat} {p : PyData} {ps : List PyData} (h : Lay n p) (t : LayL n ps) : LayL n (p :: ps) := ⟨by simp [PyData.canLayAll0, h.lay, t.lay], by
  have := h.deep; have := t.deep; simp [PyData.depthAll]; omega⟩
theorem LayL.of {n : Nat} : ∀ {ps : List PyData}, (∀ p ∈ ps, Lay n p) → LayL n ps
  | [], _ => LayL.nil
  | p :: ps, h => LayL.cons (h p List.mem_cons_self) (LayL.of fun q hq => h q (List.mem_cons_of_mem _ hq))
theorem LayL.list {n : Nat} {ps : List PyData} (h : LayL n ps) : Lay (n + 1) (.list ps) := ⟨h.lay, by have := h.deep; simp [PyData.depth]; omega⟩
theorem LayL.tuple {n : Nat} {ps : List PyData} (h : LayL n ps) : Lay (n + 1) (.tuple ps) := ⟨h.lay, by have := h.deep; simp [PyData.depth]; omega⟩
theorem Lay.int {n : Nat} (i : Int) (h : 1 ≤ n := by omega) : Lay n (.int i) := ⟨rfl, by simp [PyData.depth]; try omega⟩
theorem Lay.bl {n : Nat} (i : Bool) (h : 1 ≤ n := by omega) : Lay n (.bool i) := ⟨rfl, by simp [PyData.depth]; try omega⟩
theorem Lay.non {n : Nat} (h : 1 ≤ n := by omega) : Lay n .none := ⟨rfl, by simp [PyData.depth]; try omega⟩
theorem Lay.row (r : List Int) : Lay 2 (rowP r) := (LayL.of fun p hp => by obtain ⟨i, _, rfl⟩ := List.mem_map.mp hp; exact Lay.int i).list
theorem Lay.tab (T : List (List Int)) : Lay 3 (tabP T) := (LayL.of fun p hp => by obtain ⟨r, _, rfl⟩ := List.mem_map.mp hp; exact Lay.row r).list
theorem Lay.shp {n : Nat} {p : PyData} (h : Lay n p) (hn : n ≤ 64 := by omega) : SeqAt.shaped p = true := by
  unfold SeqAt.shaped; rw [Bool.and_eq_true]; exact ⟨h.lay, decide_eq_true (Nat.le_trans h.deep hn)⟩
theorem eqv_same {n : Nat} {p : PyData} (h : Lay n p) : PyData.eqv p p = true := SeqAt.eqv_refl p h.lay
theorem oEq_P {G : GH} {d e : D} {p q : PyData} (h1 : toP G 16 d = some p) (h2 : toP G 16 e = some q) (s1 : SeqAt.shaped p = true) (s2 : SeqAt.shaped q = true) : oEq d e G = .ok (D.bl (PyData.eqv p q)) G := by
  have key : (match toP G 16 d, toP G 16 e with
    | some p, some q => if (SeqAt.shaped p && SeqAt.shaped q) = true then Out.ok (D.bl (PyData.eqv p q)) G else .stuck
    | _, _ => .stuck) = Out.ok (D.bl (PyData.eqv p q)) G := by
    rw [h1, h2]; dsimp only; rw [if_pos (by rw [s1, s2]; rfl)]
  unfold oEq
  split
  · cases h1; cases h2
    rename_i i j
    show _ = Out.ok (D.bl (i == j)) G
    rw [show (i == j) = decide (i = j) from rfl]
  · cases h1; cases h2
    rename_i i j
    show _ = Out.ok (D.bl (i == j)) G
    cases i <;> cases j <;> rfl
  · cases h1; cases h2
    rename_i i j
    show _ = Out.ok (D.bl (i == j)) G
    congr 2
  · exact key
theorem oEq_same {G : GH} {d e : D} {p : PyData} {n : Nat} (h1 : toP G 16 d = some p) (h2 : toP G 16 e = some p) (s : Lay n p) (hn : n ≤ 64 := by omega) : oEq d e G = .ok (.bl true) G := by
  rw [oEq_P h1 h2 (s.shp hn) (s.shp hn), eqv_same s]
theorem oNe_of {G : GH} {d e : D} {b : Bool} (h : oEq d e G = .ok (.bl b) G) : oNe d e G = .ok (.bl (!b)) G := by unfold oNe; rw [h]; rfl
theorem toP_lst {G : GH} {n : Nat} {d : D} {xs : List D} {ps : List PyData} (h : lstOf G d = some xs) (h2 : mapO (toP G n) xs = some ps) : toP G (n + 1) d = some (.list ps) := by
  unfold lstOf at h
  cases d with
  | lst ys => cases h; unfold toP; dsimp only; rw [h2]; rfl
  | ro ys => cases h; unfold toP; dsimp only; rw [h2]; rfl
  | loc k =>
    dsimp only at h
    unfold toP; dsimp only
    split at h
    · rename_i zs e
      cases h
      first
        | (rw [e]; dsimp only; rw [h2]; rfl)
        | (rw [h2]; rfl)
    · cases h
  | _ => cases h
theorem toP_row {G : GH} {n : Nat} {d : D} {r : List Int} (h : lstOf G d = some (r.map D.int)) : toP G (n + 2) d = some (rowP r) := toP_lst h (mapO_mapR fun _ _ => rfl)
/-- the table T stands at d -/
structure IsTab (G : GH) (d : D) (T : List (List Int)) : Prop where
  ex : ∃ rows, lstO G d = some rows ∧ rows.length = T.length ∧ ∀ (i : Nat) (r : List Int), T[i]? = some r → ∃ x, rows[i]? = some x ∧ lstO G x = some (r.map D.int)
theorem IsTab.frozen {G : GH} (T : List (List Int)) : IsTab G (tabD T) T := ⟨T.map rowD, rfl, List.length_map _, fun i r h => ⟨rowD r, by rw [List.getElem?_map, h]; rfl, rfl⟩⟩
theorem IsTab.toP {G : GH} {n : Nat} {d : D} {T : List (List Int)} (h : IsTab G d T) : VL.toP G (n + 3) d = some (tabP T) := by
  obtain ⟨rows, h1, h2, h3⟩ := h.ex
  refine toP_lst (lstOf_of h1) (mapO_ix (by rw [h2, List.length_map]) fun i y hy => ?_)
  rw [List.getElem?_map] at hy
  obtain ⟨r, e, rfl⟩ := Option.map_eq_some_iff.mp hy
  obtain ⟨x, e1, e2⟩ := h3 i r e
  exact ⟨x, e1, toP_row (lstOf_of e2)⟩
theorem eq_nilL {G : GH} {d : D} {ps : List PyData} {n : Nat} (h : toP G 16 d = some (.list ps)) (s : Lay n (.list ps)) (hn : n ≤ 64 := by omega) : oEq d (.lst []) G = .ok (.bl (decide (ps = []))) G := by
  rw [oEq_P (q := .list []) h rfl (s.shp hn) ((LayL.nil (n := 0)).list.shp)]
  cases ps with
  | nil => rfl
  | cons p ps => simp [PyData.eqv, PyData.eqvAll]

/-! ### slices -/
theorem oSl_of {G : GH} {d : D} {xs : List D} {cm : Bool} {lo hi : Option Int} (h : lstOf G d = some xs) : oSl cm d lo hi G = mk cm (cutD xs lo hi) G := by
  unfold lstOf at h
  cases d with
  | lst ys => cases h; rfl
  | ro ys => cases h; rfl
  | loc k =>
    have eh : lstOf G (.loc k) = some xs := h
    unfold oSl; dsimp only; rw [eh]
  | _ => cases h
theorem e_eq {d e x : D} {G : GH} {q : D → GH → Prop} {X : Str → GH → Prop} (h1 : oEq d e G = .ok x G) (h : q x G) : (oEq d e G).P q X := e_ok h1 h
theorem e_ne {d e : D} {b : Bool} {G : GH} {q : D → GH → Prop} {X : Str → GH → Prop} (h1 : oEq d e G = .ok (.bl b) G) (h : q (.bl (!b)) G) : (oNe d e G).P q X := e_ok (oNe_of h1) h
theorem bel_int {n : Nat} {r : List Int} : (r.map D.int).all (bel 7 n) = true := by simp [bel]
theorem bel_row {n : Nat} {r : List Int} : bel 8 n (rowD r) = true := by unfold rowD bel; exact bel_int
theorem oSrcL_of {G : GH} {d : D} {xs : List D} (h : lstOf G d = some xs) : oSrcL d G = .ok (srcL (fun G' => lstOf G' d) xs.length) G := by unfold oSrcL; rw [h]
/-- a comprehension over a list, or a range -/
theorem lc_list {cm : Bool} {vs : List Nat} {m : M D} {t : T1} {tt : M Bool} {te : M D} {d : D} {L : List D} {G : GH} {rh : DEnv} {q : D → GH → Prop} {X : Str → GH → Prop} (hm : m rh G = .ok d G) (hd : lstOf G d = some L) (hs : L.length ≤ sizeLine) (p : D → Bool) (f : D → D)
    (h : ∀ x ∈ L, ∃ rh2, t x (wipeD rh vs) G = some rh2 ∧ tt rh2 G = .ok (p x) G ∧ (p x = true → te rh2 G = .ok (f x) G)) (k : (mk cm ((L.filter p).map f) G).P q X) : (mLc cm vs (b1 oSrcL m) t tt te rh G).P q X := by
  rw [lc_pure (L := L) (s := srcL (fun G' => lstOf G' d) L.length) (by unfold b1; rw [hm]; exact oSrcL_of hd) (fun i => by unfold srcL; dsimp only; rw [hd]) (Nat.le_refl _) hs p f h]
  exact k
theorem filter_all {L : List D} : (L.filter fun _ => true) = L := by simp
theorem e_mkF {ds : List D} {G : GH} {q : D → GH → Prop} {X : Str → GH → Prop} (h : q (.lst ds) G) : (mk false ds G).P q X := h
/-- a loop over a list that stands still: I does not move it -/
theorem listL_P {d : D} {L : List D} {G : GH} {rh : DEnv} {N : DEnv → GH → Prop} {R : D → GH → Prop} {X : Str → DEnv → GH → Prop} {t : T1} {body : S} (I : Nat → DEnv → GH → Prop) (hat : ∀ i rh G, I i rh G → lstOf G d = some L)
    (step : ∀ i x rh G, L[i]? = some x → I i rh G → ∃ rh', t x rh G = some rh' ∧ (body rh' G).P (I (i + 1)) R X) (h0 : I 0 rh G) (hN : ∀ rh G, I L.length rh G → N rh G) : (loopS (srcL (fun G' => lstOf G' d) L.length).at_ t body (srcL (fun G' => lstOf G' d) L.length).fuel 0 rh G).P N R X :=
  loop_P L I (fun i rh G _ hI => by unfold srcL; dsimp only; rw [hat i rh G hI]) step (Nat.le_refl _) h0 hN

/-! ### tables that rise both ways -/
def Up (r : List Int) : Prop := ∀ (j : Nat) (x y : Int), r[j]? = some x → r[j + 1]? = some y → x ≤ y
def Below (a b : List Int) : Prop := ∀ (j : Nat) (x y : Int), a[j]? = some x → b[j]? = some y → x ≤ y
structure Tab (w : Nat) (T : List (List Int)) : Prop where
  h1 : 1 ≤ T.length
  h6 : T.length ≤ 6
  w1 : 1 ≤ w
  w6 : w ≤ 6
  wide : ∀ r ∈ T, r.length = w
  right : ∀ r ∈ T, Up r
  down : ∀ (i : Nat) (a b : List Int), T[i]? = some a → T[i + 1]? = some b → Below a b
theorem Up.snoc {r : List Int} {x : Int} (h : Up r) (hx : ∀ y, r[r.length - 1]? = some y → y ≤ x) : Up (r ++ [x]) := by
  intro j a b ha hb
  by_cases hj : j + 1 < r.length
  · rw [List.getElem?_append_left (by omega)] at ha
    rw [List.getElem?_append_left hj] at hb
    exact h j a b ha hb
  · by_cases hj2 : j + 1 = r.length
    · rw [List.getElem?_append_left (by omega)] at ha
      rw [List.getElem?_append_right (by omega), hj2, Nat.sub_self] at hb
      cases hb
      exact hx a (by rw [show r.length - 1 = j by omega]; exact ha)
    · rw [List.getElem?_append_right (by omega)] at hb
      have : j + 1 - r.length ≠ 0 := by omega
      obtain ⟨n, hn⟩ := Nat.exists_eq_succ_of_ne_zero this
      rw [hn] at hb
      cases hb
theorem Below.snoc {a b : List Int} {x : Int} (h : Below a b) (hx : ∀ y, a[b.length]? = some y → y ≤ x) : Below a (b ++ [x]) := by
  intro j u v hu hv
  by_cases hj : j < b.length
  · rw [List.getElem?_append_left hj] at hv
    exact h j u v hu hv
  · by_cases hj2 : j = b.length
    · subst hj2
      rw [List.getElem?_append_right (Nat.le_refl _), Nat.sub_self] at hv
      cases hv
      exact hx u hu
    · rw [List.getElem?_append_right (by omega)] at hv
      obtain ⟨n, hn⟩ := Nat.exists_eq_succ_of_ne_zero (show j - b.length ≠ 0 by omega)
      rw [hn] at hv
      cases hv
end VL

/-! Q9: more steps: unpacking a list, while, more methods of lists. -/
namespace VL
open PySem L2
section
variable {X : Cx} {W : WX} {pos : Pos}
def tgLst (u : Ts) (n : Nat) : T1 := fun d rh G => match lstOf G d with
  | some ds => if ds.length = n then u ds rh G else none
  | none => none
end
section
variable {N : DEnv → GH → Prop} {R : D → GH → Prop} {X : Str → DEnv → GH → Prop} {G : GH} {rh : DEnv}
/-- a loop by a measure that falls -/
theorem while_P {c : M Bool} {body : S} (I : Nat → DEnv → GH → Prop) (step : ∀ m rh G, I m rh G → (c rh G).P (fun b G1 => if b = true then (body rh G1).P (fun rh2 G2 => ∃ m', m' < m ∧ I m' rh2 G2) R X else N rh G1) (fun c G' => X c rh G')) :
    ∀ (fuel m : Nat) (rh : DEnv) (G : GH), m < fuel → I m rh G → (whileS c body fuel rh G).P N R X := by
  intro fuel
  induction fuel with
  | zero => intro m rh G h; omega
  | succ f ih =>
    intro m rh G hm hI
    unfold whileS
    rw [P_fromO]
    refine (step m rh G hI).imp (fun b G1 z => ?_) fun _ _ z => z
    by_cases hb : b = true
    · rw [if_pos hb] at z ⊢
      cases q : body rh G1 with
      | nx rh2 G2 =>
        rw [q] at z
        obtain ⟨m', h1, h2⟩ := z
        exact ih m' rh2 G2 (by omega) h2
      | rt d G2 => rw [q] at z; exact z
      | exn c rh2 G2 => rw [q] at z; exact z
      | ct rh2 G2 => rw [q] at z; exact z.elim
      | bk rh2 G2 => rw [q] at z; exact z.elim
      | stuck => rw [q] at z; exact z.elim
    · rw [if_neg hb] at z ⊢
      exact z
theorem e_aug {i : Nat} {o : D → D → GH → Out D} {m : M D} {d : D} (e : rh[i]? = some (some d)) (h : (m rh G).P (fun v G1 => (o d v G1).P (fun z G2 => N (rh.set i (some z)) G2) (fun c G' => X c rh G')) (fun c G' => X c rh G')) : (sAug i o m rh G).P N R X := by
  unfold sAug; rw [e]; dsimp only; rw [P_fromO]
  exact h.imp (fun v G1 z => by rw [P_fromO]; exact z) fun _ _ z => z
end
theorem e_oI {g : Int → Int → D} {i j : Int} {G : GH} {q : D → GH → Prop} {X : Str → GH → Prop} (h : q (g i j) G) : (oI g (fun _ _ => true) (.int i) (.int j) G).P q X := h

/-! ### pop, insert, reverse, clear, count -/
def oPop (d : D) (ds : List D) (G : GH) : Out D := match d, ds with
  | .loc k, [] => match G[k]? with
    | some (.lst xs) => (match xs[xs.length - 1]? with
      | some y => .ok y (G.set k (.lst xs.dropLast))
      | none => .stuck)
    | _ => .stuck
  | .loc k, [.int i] => match G[k]? with
    | some (.lst xs) => if -(2 ^ 63) ≤ i ∧ i < 2 ^ 63 then (match seqIndex? i xs.length with
      | some n => (match xs[n]? with
        | some y => .ok y (G.set k (.lst (xs.eraseIdx n)))
        | none => .stuck)
      | none => .stuck) else .stuck
    | _ => .stuck
  | _, _ => .stuck
def oInsert (d : D) (ds : List D) (G : GH) : Out D := match d, ds with
  | .loc k, [.int i, y] => match G[k]? with
    | some (.lst xs) => if xs.length < sizeLine ∧ 0 ≤ i ∧ i < 2 ^ 63 then .ok .non (G.set k (.lst (xs.take i.toNat ++ [y] ++ xs.drop i.toNat))) else .stuck
    | _ => .stuck
  | _, _ => .stuck
def oReverse (d : D) (ds : List D) (G : GH) : Out D := match d, ds with
  | .loc k, [] => match G[k]? with
    | some (.lst xs) => .ok .non (G.set k (.lst xs.reverse))
    | _ => .stuck
  | _, _ => .stuck
def oClear (d : D) (ds : List D) (G : GH) : Out D := match d, ds with
  | .loc k, [] => match G[k]? with
    | some (.lst _) => .ok .non (G.set k (.lst []))
    | _ => .stuck
  | _, _ => .stuck
def oCount (d : D) (ds : List D) (G : GH) : Out D := match intsOf G d, ds with
  | some ns, [.int k] => .ok (.int (ns.count k : Nat)) G
  | _, _ => .stuck
section
variable {K : Frag} {mg : MG}
theorem RepL.dropLast {F : Hp} {al : List Addr} {ds : List D} {vs : List V} (h : RepL K F al ds vs) : RepL K F al ds.dropLast vs.dropLast := by
  rw [List.dropLast_eq_take, List.dropLast_eq_take, h.len]
  exact RepL.take _ h
theorem RepL.eraseIdx {F : Hp} {al : List Addr} {ds : List D} {vs : List V} (h : RepL K F al ds vs) (n : Nat) : RepL K F al (ds.eraseIdx n) (vs.eraseIdx n) := by
  rw [List.eraseIdx_eq_take_drop_succ, List.eraseIdx_eq_take_drop_succ]
  exact RepL.append (RepL.take _ h) (RepL.drop _ h)
abbrev rPop2 : V → List V → Hp → VK → Prop := fun x vs H Q => rPop x vs H Q ∨ rPopAt x vs H Q
end
end VL

/-! Q10: more plain facts: tables built, turned, cells, sizes. -/
namespace VL
open PySem L2
/-! the store and its draws -/
def StC (c : Cell) : Prop := ∃ g c0 k : Int, c = .lst [.int g, .int c0, .int k]
theorem StC.bel {c : Cell} (h : StC c) (n : Nat) : belC n c = true := by obtain ⟨g, c0, k, rfl⟩ := h; rfl
def Draws (mf : MF) (args : List D) (R : D → Prop) : Prop := ∀ c, StC c → (mf (.loc 0 :: args) [c]).P (fun d G' => ∃ c', G' = [c'] ∧ StC c' ∧ R d) X0
theorem Draws.call {mf : MF} {args : List D} {R : D → Prop} (h : Draws mf args R) {G : GH} {k : Nat} {c : Cell} {Q : D → GH → Prop} {X : Str → GH → Prop} (hk : G[k]? = some c) (hc : StC c) (ha : args.all nl = true) (hR : ∀ d, R d → nl d = true)
    (hQ : ∀ d c', R d → StC c' → Q d (G.set k c')) : (locCall mf (.loc k :: args) G).P Q X :=
  loc1_P (fun d c' => R d ∧ StC c') ((h c hc).imp (fun d G' ⟨c', e, s, r⟩ => ⟨c', e, r, s⟩) fun _ _ z => z) hk (hc.bel 0) ha (fun d c' ⟨r, s⟩ => ⟨hR d r, s.bel 0⟩) fun d c' ⟨r, s⟩ => hQ d c' r s
def IntIn (lo hi : Int) (d : D) : Prop := ∃ r : Int, d = .int r ∧ lo ≤ r ∧ r < hi
theorem IntIn.nl {lo hi : Int} {d : D} (h : IntIn lo hi d) : nl d = true := by obtain ⟨r, rfl, _⟩ := h; rfl
/-! the program's own tests on good tables -/
theorem lt_fact {r : List Int} (h : Up r) {k : Int} (h1 : 1 ≤ k) (h2 : k < r.length) : ∃ x y, r[k.toNat]? = some x ∧ r[(k - 1).toNat]? = some y ∧ y ≤ x := by
  have a1 : k.toNat < r.length := by omega
  have a2 : (k - 1).toNat < r.length := by omega
  refine ⟨r[k.toNat], r[(k-1).toNat], List.getElem?_eq_getElem a1, List.getElem?_eq_getElem a2, h (k-1).toNat _ _ (List.getElem?_eq_getElem a2) ?_⟩
  rw [show (k-1).toNat + 1 = k.toNat by omega]
  exact List.getElem?_eq_getElem a1
theorem ints_get {r : List Int} {i : Nat} {x : Int} (h : r[i]? = some x) : (r.map D.int)[i]? = some (.int x) := by rw [List.getElem?_map, h]; rfl
def colOf (T : List (List Int)) (j : Nat) : List Int := T.map fun r => r.getD j 0
theorem col_at {w : Nat} {T : List (List Int)} (hT : Tab w T) {j : Nat} (hj : j < w) {i : Nat} {r : List Int} (h : T[i]? = some r) : r[j]? = some (r.getD j 0) := by
  have := hT.wide r (List.mem_of_getElem? h)
  simp [List.getD, List.getElem?_eq_getElem (show j < r.length by omega)]
theorem col_up {w : Nat} {T : List (List Int)} (hT : Tab w T) {j : Nat} (hj : j < w) : Up (colOf T j) := by
  intro i x y hx hy
  unfold colOf at hx hy
  rw [List.getElem?_map] at hx hy
  obtain ⟨a, ha, rfl⟩ := Option.map_eq_some_iff.mp hx
  obtain ⟨b, hb, rfl⟩ := Option.map_eq_some_iff.mp hy
  exact hT.down i a b ha hb j _ _ (col_at hT hj ha) (col_at hT hj hb)
/-- [row[j] for row in table] -/
theorem col_ok {cm : Bool} {G : GH} {d : D} {w : Nat} {T : List (List Int)} (hd : IsTab G d T) (hT : Tab w T) {j : Nat} (hj : j < w) {a b : Nat} {rh : DEnv} (h0 : rh[0]? = some (some d)) (ha : a < rh.length) (hab : b ≠ a) (hb : rh[b]? = some (some (.int j))) :
    (mLc cm [a] (b1 oSrcL (mVar 0)) (tgName a) (mYes) (b2 oIx (mVar a) (mVar b))) rh G = mk cm ((colOf T j).map D.int) G := by
  obtain ⟨rows, e1, e2, e3⟩ := hd.ex
  have h6 := hT.h6
  have key : ∀ (i : Nat) x, rows[i]? = some x → ∃ r : List Int, T[i]? = some r ∧ lstO G x = some (r.map D.int) := by
    intro i x hx
    have hi : i < T.length := by rw [← e2]; exact (List.getElem?_eq_some_iff.mp hx).1
    obtain ⟨x', f1, f2⟩ := e3 i T[i] (List.getElem?_eq_getElem hi)
    rw [hx] at f1
    cases f1
    exact ⟨_, List.getElem?_eq_getElem hi, f2⟩
  rw [lc_pure (L := rows) (s := srcL (fun G' => lstOf G' d) rows.length) (by unfold b1 mVar; rw [h0]; exact oSrcL_of (lstOf_of e1)) (fun i => by unfold srcL; dsimp only; rw [lstOf_of e1]) (Nat.le_refl _) (by show _ ≤ 2 ^ 24; omega) (fun _ => true) (fun x => match lstOf G x with | some l => l.getD j .non | none => .non)]
  · congr 1
    apply List.ext_getElem?
    intro i
    rw [filter_all, List.getElem?_map, List.getElem?_map]
    unfold colOf
    rw [List.getElem?_map]
    by_cases hi : i < T.length
    · obtain ⟨x, f1, f2⟩ := e3 i T[i] (List.getElem?_eq_getElem hi)
      rw [f1, List.getElem?_eq_getElem hi]
      simp only [Option.map_some]
      rw [lstOf_of f2]
      have := hT.wide T[i] (List.getElem_mem hi)
      simp [List.getD, List.getElem?_eq_getElem (show j < T[i].length by omega)]
    · rw [List.getElem?_eq_none (by omega), List.getElem?_eq_none (by omega)]
      rfl
  · intro x hx
    obtain ⟨i, hi⟩ := List.mem_iff_getElem?.mp hx
    obtain ⟨r, hr, f2⟩ := key i x hi
    refine ⟨_, rfl, rfl, fun _ => ?_⟩
    have hw : a < (wipeD rh [a]).length := by unfold wipeD; simp [wipeD]; exact ha
    have v1 : ((wipeD rh [a]).set a (some x))[a]? = some (some x) := by rw [List.getElem?_set_self hw]
    have v2 : ((wipeD rh [a]).set a (some x))[b]? = some (some (.int j)) := by
      rw [List.getElem?_set_ne (by omega)]
      unfold wipeD
      simp only [wipeD]
      rw [List.getElem?_set_ne (by omega)]
      exact hb
    refine Out.P.eq (e_b2 (e_var v1 (e_var v2 (e_ix (ix_nat (lstOf_of f2) (ints_get (col_at hT hj hr))) ⟨?_, rfl⟩))))
    rw [lstOf_of f2]
    have h2 := ints_get (col_at hT hj hr)
    simp only [List.getD] at h2 ⊢
    rw [h2]
    rfl

/-- the table of a store -/
structure TabI (w i : Nat) (T : List (List Int)) : Prop where
  len : T.length = i
  wide : ∀ r ∈ T, r.length = w
  right : ∀ r ∈ T, Up r
  down : ∀ (i : Nat) (a b : List Int), T[i]? = some a → T[i + 1]? = some b → Below a b
theorem TabI.snoc {w i : Nat} {T : List (List Int)} {l : List Int} (h : TabI w i T) (hl : l.length = w) (hu : Up l) (hd : ∀ b, T[T.length - 1]? = some b → Below b l) : TabI w (i + 1) (T ++ [l]) where
  len := by rw [List.length_append, h.len]; rfl
  wide := fun r hr => by
    rcases List.mem_append.mp hr with hr | hr
    · exact h.wide r hr
    · rw [List.mem_singleton] at hr; rw [hr]; exact hl
  right := fun r hr => by
    rcases List.mem_append.mp hr with hr | hr
    · exact h.right r hr
    · rw [List.mem_singleton] at hr; rw [hr]; exact hu
  down := fun j a b ha hb => by
    by_cases hj : j + 1 < T.length
    · rw [List.getElem?_append_left (by omega)] at ha
      rw [List.getElem?_append_left hj] at hb
      exact h.down j a b ha hb
    · by_cases hj2 : j + 1 = T.length
      · rw [List.getElem?_append_left (by omega)] at ha
        rw [List.getElem?_append_right (by omega), hj2, Nat.sub_self] at hb
        cases hb
        exact hd a (by rw [show T.length - 1 = j by omega]; exact ha)
      · rw [List.getElem?_append_right (by omega)] at hb
        obtain ⟨n, hn⟩ := Nat.exists_eq_succ_of_ne_zero (show j + 1 - T.length ≠ 0 by omega)
        rw [hn] at hb
        cases hb
/-- the numbers ahead of a place: to the left, above -/
def aheadOf (l : List Int) (T : List (List Int)) (j : Nat) : List Int := l.drop (l.length - 1) ++ (T.drop (T.length - 1)).map fun r => r.getD j 0
def IsTabD (d : D) : Prop := ∃ w T, Tab w T ∧ d = tabD T

theorem mkF_eq {ds : List D} {G : GH} : mk false ds G = .ok (.lst ds) G := rfl
theorem appC {G : GH} {k : Nat} {xs : List D} {x : D} (h : G[k]? = some (.lst xs)) (hl : xs.length < sizeLine) : oAppend (.loc k) [x] G = .ok .non (G.set k (.lst (xs ++ [x]))) := by unfold oAppend; dsimp only; rw [h]; dsimp only; rw [if_pos hl]
def overT (w : Nat) (T : List (List Int)) : List (List Int) := (List.range w).map (colOf T)
def negR (r : List Int) : List Int := (r.map fun x => 0 - x).reverse
def aboutT (T : List (List Int)) : List (List Int) := (T.map negR).reverse
theorem trunc_ok {G fs : GH} (h : G.all (belC G.length) = true) : truncG G.length (G ++ fs) = some G := by
  unfold truncG
  rw [List.take_left' rfl, if_pos h]
/-- the table U in cells of its own, behind G -/
def cellsOf (G : GH) (U : List (List Int)) : GH := G ++ U.map (fun r => .lst (r.map D.int)) ++ [.lst ((List.range' G.length U.length).map D.loc)]
/-- the rows with their place behind each -/
def endT (i : Nat) (U : List (List Int)) : List (List Int) := U.mapIdx fun k r => if k < i then r ++ [(k : Int)] else r
theorem e_max2 {i j : Int} {G : GH} {q : D → GH → Prop} {X : Str → GH → Prop} (h : q (.int (if j > i then j else i)) G) : (oMax [.int i, .int j] G).P q X := h
theorem e_min2 {i j : Int} {G : GH} {q : D → GH → Prop} {X : Str → GH → Prop} (h : q (.int (if j < i then j else i)) G) : (oMin [.int i, .int j] G).P q X := h
theorem keep {n : Nat} {d : D} (h : bel 8 n d = true) : (some d).filter (bel 8 n) = some d := by simp [Option.filter, h]
theorem bel_ro {n : Nat} {r : List Int} : bel 8 n (.ro (r.map D.int)) = true := by unfold bel; exact bel_int
theorem upOf {r : List Int} (h : ∀ j, j < r.length → j + 1 < r.length → r.getD j 0 ≤ r.getD (j + 1) 0) : Up r := by
  intro j x y hx hy
  have h1 := (List.getElem?_eq_some_iff.mp hx).1
  have h2 := (List.getElem?_eq_some_iff.mp hy).1
  have := h j h1 h2
  simpa [List.getD, hx, hy] using this
theorem belowOf {a b : List Int} (h : ∀ j, j < a.length → j < b.length → a.getD j 0 ≤ b.getD j 0) : Below a b := by
  intro j x y hx hy
  have h1 := (List.getElem?_eq_some_iff.mp hx).1
  have h2 := (List.getElem?_eq_some_iff.mp hy).1
  have := h j h1 h2
  simpa [List.getD, hx, hy] using this
theorem tabA : Tab 3 [[1, 2, 3]] := ⟨by decide, by decide, by decide, by decide, by decide, fun r hr => by
  rw [List.mem_singleton] at hr; subst hr; exact upOf (by decide), fun i a b ha hb => by cases i <;> simp at hb⟩
theorem tabB : Tab 2 [[0, 5], [7, 7]] := ⟨by decide, by decide, by decide, by decide, by decide, fun r hr => by
  simp only [List.mem_cons, List.not_mem_nil, or_false] at hr
  rcases hr with rfl | rfl
  · exact upOf (by decide)
  · exact upOf (by decide), fun i a b ha hb => by
  match i with
  | 0 => cases ha; cases hb; exact belowOf (by decide)
  | i + 1 => simp at hb⟩
end VL

/-! Q11: plain facts: places of a table, walks, lists of numbers by index. -/
namespace VL
open PySem L2
theorem e_ifF {A B : Prop} (h : B) : if false = true then A else B := h
theorem e_ifT {A B : Prop} (h : A) : if true = true then A else B := h
theorem e_ifNT {A B : Prop} (h : B) : if (!true) = true then A else B := h
theorem e_ifNF {A B : Prop} (h : A) : if (!false) = true then A else B := h
theorem e_tup2 {a b : D} {G : GH} {q : D → GH → Prop} {X : Str → GH → Prop} (h : q (.tup [a, b]) G) : (oTup [a, b] G).P q X := e_tup (show 2 ≤ 2 ^ 24 by decide) h
theorem e_tup3 {a b c : D} {G : GH} {q : D → GH → Prop} {X : Str → GH → Prop} (h : q (.tup [a, b, c]) G) : (oTup [a, b, c] G).P q X := e_tup (show 3 ≤ 2 ^ 24 by decide) h
def isI : D → Bool
  | .int _ => true
  | _ => false
/-- a place -/
def cellD (i j : Nat) : D := .tup [.int i, .int j]
def IsC (d : D) : Prop := ∃ i j : Nat, d = cellD i j
def cP : D → PyData
  | .tup [.int i, .int j] => .tuple [.int i, .int j]
  | _ => .none
theorem toP_cell {G : GH} {n : Nat} {d : D} (h : IsC d) : toP G (n + 2) d = some (cP d) := by
  obtain ⟨i, j, rfl⟩ := h; rfl
theorem lay_cell {d : D} (h : IsC d) : Lay 2 (cP d) := by
  obtain ⟨i, j, rfl⟩ := h
  exact (LayL.cons (Lay.int _) (LayL.cons (Lay.int _) LayL.nil)).tuple
theorem toP_cells {G : GH} {n : Nat} {d : D} {xs : List D} (hd : lstOf G d = some xs) (h : ∀ y ∈ xs, IsC y) : toP G (n + 3) d = some (.list (xs.map cP)) := toP_lst hd (mapO_map fun y hy => toP_cell (h y hy))
theorem lay_cells {xs : List D} (h : ∀ y ∈ xs, IsC y) : Lay 3 (.list (xs.map cP)) := (LayL.of fun p hp => by
  obtain ⟨y, hy, rfl⟩ := List.mem_map.mp hp
  exact lay_cell (h y hy)).list
theorem bel_cell {n m : Nat} {d : D} (h : IsC d) : bel (m + 2) n d = true := by
  obtain ⟨i, j, rfl⟩ := h; rfl
theorem bel_cells {n : Nat} {xs : List D} (h : ∀ y ∈ xs, IsC y) : bel 8 n (.lst xs) = true := by
  unfold bel
  exact List.all_eq_true.mpr fun y hy => bel_cell (h y hy)
/-- the places looked at, and where it is found: row, places left (p: one more than the place) -/
def stepsF (T : List (List Int)) (x : Int) : Nat → Nat → Nat → List D × D
  | 0, _, _ => ([], .non)
  | _ + 1, _, 0 => ([], .non)
  | f + 1, row, p + 1 => match T[row]? with
    | none => ([], .non)
    | some r => if r.getD p 0 = x then ([cellD row p], cellD row p)
      else if x < r.getD p 0 then (cellD row p :: (stepsF T x f row p).1, (stepsF T x f row p).2)
      else (cellD row p :: (stepsF T x f (row + 1) (p + 1)).1, (stepsF T x f (row + 1) (p + 1)).2)
theorem steps_cells {T : List (List Int)} {x : Int} : ∀ (f row p : Nat), (∀ y ∈ (stepsF T x f row p).1, IsC y) ∧ ((stepsF T x f row p).2 = .non ∨ IsC (stepsF T x f row p).2)
  | 0, _, _ => ⟨by simp [stepsF], .inl rfl⟩
  | f + 1, row, 0 => ⟨by simp [stepsF], .inl rfl⟩
  | f + 1, row, p + 1 => by
    unfold stepsF
    cases h : T[row]? with
    | none => exact ⟨by simp, .inl rfl⟩
    | some r =>
      dsimp only
      split
      · exact ⟨fun y hy => by simp at hy; exact ⟨_, _, hy⟩, .inr ⟨_, _, rfl⟩⟩
      · split
        · obtain ⟨h1, h2⟩ := steps_cells (T := T) (x := x) f row p
          exact ⟨fun y hy => by
            rcases List.mem_cons.mp hy with rfl | hy
            · exact ⟨_, _, rfl⟩
            · exact h1 y hy, h2⟩
        · obtain ⟨h1, h2⟩ := steps_cells (T := T) (x := x) f (row + 1) (p + 1)
          exact ⟨fun y hy => by
            rcases List.mem_cons.mp hy with rfl | hy
            · exact ⟨_, _, rfl⟩
            · exact h1 y hy, h2⟩
theorem steps_end {T : List (List Int)} {x : Int} {f row p : Nat} (h : T.length ≤ row ∨ p = 0) : stepsF T x f row p = ([], .non) := by
  cases f with
  | zero => rfl
  | succ f =>
    cases p with
    | zero => rfl
    | succ p =>
      have : T[row]? = none := List.getElem?_eq_none (by omega)
      unfold stepsF; rw [this]
theorem tab_get {w : Nat} {T : List (List Int)} (hT : Tab w T) {i j : Nat} (hi : i < T.length) (hj : j < w) : ∃ r, T[i]? = some r ∧ r.length = w ∧ r[j]? = some (r.getD j 0) := by
  have hw := hT.wide T[i] (List.getElem_mem hi)
  refine ⟨T[i], List.getElem?_eq_getElem hi, hw, ?_⟩
  simp [List.getD, List.getElem?_eq_getElem (show j < T[i].length by omega)]
theorem row_ix {G : GH} {T : List (List Int)} {r : List Int} {i : Int} {j : Nat} (e : i = (j : Int)) (h : T[j]? = some r) : oIx (tabD T) (.int i) G = .ok (rowD r) G := by
  subst e; exact ix_nat (xs := T.map rowD) rfl (by rw [List.getElem?_map, h]; rfl)
theorem num_ix {G : GH} {r : List Int} {v i : Int} {j : Nat} (e : i = (j : Int)) (h : r[j]? = some v) : oIx (rowD r) (.int i) G = .ok (.int v) G := by
  subst e; exact ix_nat (xs := r.map D.int) rfl (ints_get h)
theorem snoc1_get {G : GH} {x : Cell} : (G ++ [x])[G.length]? = some x := by rw [List.getElem?_append_right (by omega), Nat.sub_self]; rfl
theorem snoc1_set {G : GH} {x y : Cell} : (G ++ [x]).set G.length y = G ++ [y] := by rw [List.set_append_right _ _ (by omega), Nat.sub_self]; rfl
theorem snoc2_get0 {G : GH} {x y : Cell} : (G ++ [x, y])[G.length]? = some x := by rw [List.getElem?_append_right (by omega), Nat.sub_self]; rfl
theorem snoc2_get1 {G : GH} {x y : Cell} : (G ++ [x, y])[G.length + 1]? = some y := by rw [List.getElem?_append_right (by omega), Nat.add_sub_cancel_left]; rfl
theorem snoc2_set1 {G : GH} {x y z : Cell} : (G ++ [x, y]).set (G.length + 1) z = G ++ [x, z] := by rw [List.set_append_right _ _ (by omega), Nat.add_sub_cancel_left]; rfl
theorem loc_ix {G : GH} {k j : Nat} {xs : List D} {x : D} {i : Int} (h : G[k]? = some (.lst xs)) (e : i = (j : Int)) (hx : xs[j]? = some x) : oIx (.loc k) (.int i) G = .ok x G := by
  subst e; exact ix_nat (by unfold lstOf; dsimp only; rw [h]) hx
theorem ty_list {G : GH} {k : Nat} {xs : List D} (h : G[k]? = some (.lst xs)) : tyD "list" (.loc k) G = true := by unfold tyD; dsimp only; rw [h]; rfl
theorem loc_lstO {G : GH} {k : Nat} {xs : List D} (h : G[k]? = some (.lst xs)) : lstO G (.loc k) = some xs := by unfold lstO; dsimp only; rw [h]
theorem setL_of {G : GH} {k : Nat} {xs : List D} {v : D} {j : Nat} (h : G[k]? = some (.lst xs)) (hj : j < xs.length) : oSetL (.loc k) (.int (j : Int)) v G = .ok () (G.set k (.lst (xs.set j v))) := by
  unfold oSetL; dsimp only; rw [h]; dsimp only; rw [ixN_nat hj]
end VL

/-! Q12: draws out of a cell of any kind, numbers out of listed ones. -/
namespace VL
open PySem L2
/-- a def that draws: the cell stays of its kind, what is told is R -/
def DrawsS (S : Cell → Prop) (mf : MF) (args : List D) (R : D → Prop) : Prop := ∀ c, S c → (mf (.loc 0 :: args) [c]).P (fun d G' => ∃ c', G' = [c'] ∧ S c' ∧ R d) X0
theorem DrawsS.call {S : Cell → Prop} (hS : ∀ c n, S c → belC n c = true) {mf : MF} {args : List D} {R : D → Prop} (h : DrawsS S mf args R) {G : GH} {k : Nat} {c : Cell} {Q : D → GH → Prop} {X : Str → GH → Prop} (hk : G[k]? = some c) (hc : S c) (ha : args.all nl = true) (hR : ∀ d, R d → nl d = true)
    (hQ : ∀ d c', R d → S c' → Q d (G.set k c')) : (locCall mf (.loc k :: args) G).P Q X :=
  loc1_P (fun d c' => R d ∧ S c') ((h c hc).imp (fun d G' ⟨c', e, s, r⟩ => ⟨c', e, r, s⟩) fun _ _ z => z) hk (hS c 0 hc) ha (fun d c' ⟨r, s⟩ => ⟨hR d r, hS c' 0 s⟩) fun d c' ⟨r, s⟩ => hQ d c' r s
def IntD (d : D) : Prop := ∃ v : Int, d = .int v
theorem IntD.nl {d : D} (h : IntD d) : nl d = true := by obtain ⟨v, rfl⟩ := h; rfl

def AllI (P : Int → Prop) : List D → Prop
  | [] => True
  | .int i :: xs => P i ∧ AllI P xs
  | _ :: _ => False
theorem AllI.at {P : Int → Prop} : ∀ {xs : List D} {j : Nat} {x : D}, AllI P xs → xs[j]? = some x → ∃ i, x = .int i ∧ P i
  | [], j, x, _, e => by simp at e
  | y :: xs, j, x, h, e => by
    cases y with
    | int i =>
      cases j with
      | zero => cases e; exact ⟨i, rfl, h.1⟩
      | succ j => exact AllI.at (xs := xs) h.2 e
    | _ => exact h.elim
theorem AllI.ints {P : Int → Prop} {r : List Int} (h : ∀ i ∈ r, P i) : AllI P (r.map D.int) := by
  induction r with
  | nil => trivial
  | cons i r ih => exact ⟨h i List.mem_cons_self, ih fun j hj => h j (List.mem_cons_of_mem _ hj)⟩
/-- the last of a list -/
theorem ix_last {G : GH} {d x : D} {xs : List D} (h : lstOf G d = some xs) (e : xs[xs.length - 1]? = some x) : oIx d (.int (-1)) G = .ok x G := by
  have hl : xs.length - 1 < xs.length := (List.getElem?_eq_some_iff.mp e).1
  have ea : atI xs (-1) = some x := by
    unfold atI ixN
    rw [if_neg (by decide), if_pos (by omega)]
    show xs[((-1 : Int) + (xs.length : Int)).toNat]? = some x
    rw [show ((-1 : Int) + (xs.length : Int)).toNat = xs.length - 1 by omega, e]
  unfold lstOf at h
  cases d with
  | lst ys => cases h; unfold oIx; dsimp only [lstOf]; rw [ea]
  | ro ys => cases h; unfold oIx; dsimp only [lstOf]; rw [ea]
  | loc k =>
    have eh : lstOf G (.loc k) = some xs := h
    unfold oIx; dsimp only; rw [eh]; dsimp only; rw [ea]
  | _ => cases h
theorem e_abs {i : Int} {G : GH} {q : D → GH → Prop} {X : Str → GH → Prop} (h : ∀ j : Int, 0 ≤ j → q (.int j) G) : (oAbs [.int i] G).P q X := by
  refine e_ok (b := .int (if i < 0 then -i else i)) rfl (h _ ?_)
  split <;> omega
/-- a store: what is drawn, where it stands -/
def StD (c : Cell) : Prop := ∃ (ds : List Int) (k : Int), c = .lst [rowD ds, .int k] ∧ 1 ≤ ds.length
theorem StD.bel {c : Cell} (n : Nat) (h : StD c) : belC n c = true := by
  obtain ⟨ds, k, rfl, _⟩ := h
  show ([rowD ds, D.int k]).all (VL.bel 8 n) = true
  rw [List.all_cons, bel_row]; rfl
theorem sum_of {G : GH} {d : D} {r : List Int} (h : lstOf G d = some (r.map D.int)) : oSum [d] G = .ok (.int r.sum) G := by
  unfold oSum; dsimp only; rw [intsOf_at h]
/-- for k, x in enumerate(d), d a list that stands still -/
theorem e_enum {d : D} {L : List D} {G : GH} {rh : DEnv} {N : DEnv → GH → Prop} {R : D → GH → Prop} {X : Str → DEnv → GH → Prop} {X' : Str → GH → Prop} {t : T1} {body : S} (I : Nat → DEnv → GH → Prop) (hd : lstOf G d = some L) (hat : ∀ i rh G, I i rh G → lstOf G d = some L)
    (step : ∀ (i : Nat) x rh G, L[i]? = some x → I i rh G → ∃ rh', t (.tup [.int (i : Nat), x]) rh G = some rh' ∧ (body rh' G).P (I (i + 1)) R X) (h0 : I 0 rh G) (hN : ∀ rh G, I L.length rh G → N rh G) :
    (oSrcE [d] G).P (fun s G1 => (loopS s.at_ t body s.fuel 0 rh G1).P N R X) X' := by
  have e : oSrcE [d] G = .ok ⟨fun G' i => match lstOf G' d with
      | some ys => some ((ys[i]?).map fun y => D.tup [.int (i : Nat), y])
      | none => none, L.length⟩ G := by
    unfold oSrcE; dsimp only; rw [hd]; try rfl
  refine e_ok e ?_
  refine loop_P (L.mapIdx fun i y => D.tup [.int (i : Nat), y]) I (fun i rh G _ hI => ?_) (fun i x rh G hx hI => ?_) (by simp) h0 (fun rh G h => hN rh G (by simpa using h))
  · dsimp only
    rw [hat i rh G hI]
    simp
  · rw [List.getElem?_mapIdx] at hx
    obtain ⟨y, hy, rfl⟩ := Option.map_eq_some_iff.mp hx
    exact step i y rh G hy hI

/-! ### comprehensions over listed things -/
section
variable {A : Type} {t : T1} {tt : M Bool} {te : M D} {G : GH} {rh : DEnv} {q : D → GH → Prop} {X : Str → GH → Prop} {cm : Bool} {vs : List Nat}
theorem lcS_map {as : List A} {rw_ : DEnv} {at_ : GH → Nat → Option (Option D)} (e : A → D) (hat : ∀ i, at_ G i = some ((as.map e)[i]?)) (P : A → Bool) (g : A → D)
    (h : ∀ a ∈ as, ∃ rh2, t (e a) rw_ G = some rh2 ∧ tt rh2 G = .ok (P a) G ∧ (P a = true → te rh2 G = .ok (g a) G)) : ∀ (m i fuel : Nat) (acc : List D), as.length - i = m → m ≤ fuel → acc.length + m ≤ sizeLine →
      lcS at_ t tt te rw_ fuel i acc G = .ok (acc ++ ((as.drop i).filter P).map g) G := by
  intro m
  induction m with
  | zero =>
    intro i fuel acc hm hf hs
    have hn : (as.map e)[i]? = none := List.getElem?_eq_none (by rw [List.length_map]; omega)
    have hd : as.drop i = [] := List.drop_eq_nil_of_le (by omega)
    rw [hd]
    cases fuel with
    | zero => unfold lcS; rw [hat, hn]; simp
    | succ n => unfold lcS; rw [hat, hn]; simp
  | succ m ih =>
    intro i fuel acc hm hf hs
    have hl : i < as.length := by omega
    have hd : as.drop i = as[i] :: as.drop (i + 1) := by rw [List.drop_eq_getElem_cons hl]
    have hn : (as.map e)[i]? = some (e as[i]) := by rw [List.getElem?_map, List.getElem?_eq_getElem hl]; rfl
    obtain ⟨rh2, e1, e2, e3⟩ := h as[i] (List.getElem_mem hl)
    cases fuel with
    | zero => omega
    | succ n =>
      unfold lcS
      rw [hat, hn]
      dsimp only
      rw [e1]
      dsimp only
      rw [e2]
      cases q : P as[i] with
      | false =>
        dsimp only
        rw [ih (i + 1) n acc (by omega) (by omega) (by omega), hd, List.filter_cons, q]
        rfl
      | true =>
        dsimp only
        rw [e3 q]
        dsimp only
        rw [if_pos (by omega), ih (i + 1) n _ (by omega) (by omega) (by rw [List.length_append]; simp; omega), hd, List.filter_cons, q]
        simp
theorem lc_as {m : M Src} {s : Src} (as : List A) (e : A → D) (P : A → Bool) (g : A → D) (hm : m rh G = .ok s G) (hat : ∀ i, s.at_ G i = some ((as.map e)[i]?)) (hf : as.length ≤ s.fuel) (hs : as.length ≤ sizeLine)
    (h : ∀ a ∈ as, ∃ rh2, t (e a) (wipeD rh vs) G = some rh2 ∧ tt rh2 G = .ok (P a) G ∧ (P a = true → te rh2 G = .ok (g a) G)) (k : (mk cm ((as.filter P).map g) G).P q X) : (mLc cm vs m t tt te rh G).P q X := by
  unfold mLc
  rw [hm]
  show ((lcS s.at_ t tt te (wipeD rh vs) s.fuel 0 [] G).bind fun ds G2 => mk cm ds G2).P q X
  rw [lcS_map e hat P g h (as.length - 0) 0 s.fuel [] rfl (by omega) (by simpa using hs)]
  exact k
/-- over a list -/
theorem lc_asL {m : M D} {d : D} (as : List A) (e : A → D) (P : A → Bool) (g : A → D) (hm : m rh G = .ok d G) (hd : lstOf G d = some (as.map e)) (hs : as.length ≤ sizeLine)
    (h : ∀ a ∈ as, ∃ rh2, t (e a) (wipeD rh vs) G = some rh2 ∧ tt rh2 G = .ok (P a) G ∧ (P a = true → te rh2 G = .ok (g a) G)) (k : (mk cm ((as.filter P).map g) G).P q X) : (mLc cm vs (b1 oSrcL m) t tt te rh G).P q X :=
  lc_as (s := srcL (fun G' => lstOf G' d) (as.map e).length) as e P g (by unfold b1; rw [hm]; exact oSrcL_of hd) (fun i => by unfold srcL; dsimp only; rw [hd]) (by show as.length ≤ (as.map e).length; rw [List.length_map]; exact Nat.le_refl _) hs h k
/-- over a range: the numbers from lo on -/
theorem lc_asR {m : M Src} {lo : Int} {n : Nat} (P : Nat → Bool) (g : Nat → D) (hm : m rh G = .ok (srcC (rngL lo n)) G) (hs : n ≤ 2 ^ 24)
    (h : ∀ i, i < n → ∃ rh2, t (.int (lo + (i : Nat))) (wipeD rh vs) G = some rh2 ∧ tt rh2 G = .ok (P i) G ∧ (P i = true → te rh2 G = .ok (g i) G)) (k : (mk cm (((List.range n).filter P).map g) G).P q X) : (mLc cm vs m t tt te rh G).P q X :=
  lc_as (List.range n) (fun i => .int (lo + (i : Nat))) P g hm (fun i => rfl) (by rw [List.length_range, srcC_fuel, rngL_len]; exact Nat.le_refl _) (by rw [List.length_range]; exact hs) (fun i hi => h i (List.mem_range.mp hi)) k
theorem filtT {as : List A} : (as.filter fun _ => true) = as := by simp
end
theorem flat_pos {w : Nat} {T : List (List Int)} (hT : Tab w T) : 0 < T.flatten.length ∧ T.flatten.length ≤ 36 := by
  have key : ∀ (L : List (List Int)), (∀ r ∈ L, r.length = w) → L.flatten.length = L.length * w := by
    intro L
    induction L with
    | nil => intro _; simp
    | cons r L ih =>
      intro h
      rw [List.flatten_cons, List.length_append, ih fun q hq => h q (List.mem_cons_of_mem _ hq), h r List.mem_cons_self, List.length_cons, Nat.succ_mul, Nat.add_comm]
  have h1 := hT.h1
  have h6 := hT.h6
  have w1 := hT.w1
  have w6 := hT.w6
  rw [key T hT.wide]
  exact ⟨Nat.mul_pos h1 w1, Nat.mul_le_mul h6 w6⟩
end VL

/-! Q13: stairs of tables: how many of each row's numbers are less, at most. -/
namespace VL
open PySem L2
def lessT (T : List (List Int)) (x : Int) : List Int := T.map fun r => ((r.filter fun n => decide (n < x)).length : Nat)
def highT (T : List (List Int)) (x : Int) : List Int := T.map fun r => ((r.filter fun n => decide (n ≤ x)).length : Nat)
theorem sum_less (T : List (List Int)) (x : Int) : (lessT T x).sum = ((T.flatten.filter fun n => decide (n < x)).length : Nat) := by
  unfold lessT
  induction T with
  | nil => rfl
  | cons r T ih => rw [List.map_cons, List.sum_cons, ih, List.flatten_cons, List.filter_append, List.length_append]; omega
theorem Up.pair {r : List Int} (h : Up r) : r.Pairwise (· ≤ ·) := by
  induction r with
  | nil => exact List.Pairwise.nil
  | cons a r ih =>
    have ht : Up r := fun j x y hx hy => h (j + 1) x y hx hy
    refine List.pairwise_cons.mpr ⟨fun b hb => ?_, ih ht⟩
    cases r with
    | nil => cases hb
    | cons c r =>
      have h1 : a ≤ c := h 0 a c rfl rfl
      rcases List.mem_cons.mp hb with rfl | hb
      · exact h1
      · exact Int.le_trans h1 ((List.pairwise_cons.mp (ih ht)).1 b hb)
theorem none_of {P : Int → Bool} {r : List Int} (h : ∀ y ∈ r, P y = false) : r.filter P = [] := by
  rw [List.filter_eq_nil_iff]; intro y hy; rw [h y hy]; decide
/-- in a rising row: a number is less just ahead of as many places -/
theorem cnt_lt {x : Int} : ∀ {r : List Int}, r.Pairwise (· ≤ ·) → ∀ {j : Nat} {y : Int}, r[j]? = some y → (y < x ↔ j < (r.filter fun n => decide (n < x)).length)
  | [], _, j, y, h => by simp at h
  | a :: r, hp, j, y, h => by
    obtain ⟨h1, h2⟩ := List.pairwise_cons.mp hp
    by_cases ha : a < x
    · rw [List.filter_cons_of_pos (by simpa using ha), List.length_cons]
      cases j with
      | zero => cases h; exact ⟨fun _ => by omega, fun _ => ha⟩
      | succ j => rw [cnt_lt h2 (j := j) h]; omega
    · have hn : ((a :: r).filter fun n => decide (n < x)) = [] := none_of fun z hz => by
        rcases List.mem_cons.mp hz with rfl | hz
        · exact decide_eq_false ha
        · exact decide_eq_false (by have := h1 z hz; omega)
      rw [hn]
      have hy : a ≤ y := by
        rcases List.mem_cons.mp (List.mem_of_getElem? h) with rfl | hz
        · exact Int.le_refl _
        · exact h1 y hz
      exact ⟨fun z => by omega, fun z => by simp at z⟩
theorem less_len {T : List (List Int)} {x : Int} : (lessT T x).length = T.length := by unfold lessT; simp
theorem e_neB {a b : Bool} {G : GH} {q : D → GH → Prop} {X : Str → GH → Prop} (h : q (.bl (!decide (a = b))) G) : (oNe (.bl a) (.bl b) G).P q X := h
end VL

/-! Q14: cells of numbers, papers, tables laid over and turned about. -/
namespace VL
open PySem L2
/-! ### cells -/
def allC (n w : Nat) : List (Nat × Nat) := (List.range n).flatMap fun r => (List.range w).map fun p => (r, p)
def cD (c : Nat × Nat) : D := cellD c.1 c.2
def numT (T : List (List Int)) (c : Nat × Nat) : Int := (T.getD c.1 []).getD c.2 0
def cellsT (T : List (List Int)) (w : Nat) (x : Int) : List (Nat × Nat) := (allC T.length w).filter fun c => decide (numT T c = x)
theorem isC_cD (c : Nat × Nat) : IsC (cD c) := ⟨c.1, c.2, rfl⟩
theorem allC_succ {n w : Nat} : allC (n + 1) w = allC n w ++ (List.range w).map fun p => (n, p) := by
  unfold allC; rw [List.range_succ, List.flatMap_append]; simp
theorem allC_len {n w : Nat} : (allC n w).length = n * w := by
  induction n with
  | zero => simp [allC]
  | succ n ih => rw [allC_succ, List.length_append, ih, List.length_map, List.length_range, Nat.succ_mul]
theorem allC_mem {n w : Nat} {c : Nat × Nat} (h : c ∈ allC n w) : c.1 < n ∧ c.2 < w := by
  unfold allC at h
  obtain ⟨r, hr, h⟩ := List.mem_flatMap.mp h
  obtain ⟨p, hp, rfl⟩ := List.mem_map.mp h
  exact ⟨List.mem_range.mp hr, List.mem_range.mp hp⟩
theorem numT_at {w : Nat} {T : List (List Int)} (hT : Tab w T) {c : Nat × Nat} (h1 : c.1 < T.length) (h2 : c.2 < w) : ∃ r, T[c.1]? = some r ∧ r[c.2]? = some (numT T c) := by
  obtain ⟨r, e1, e2, e3⟩ := tab_get hT h1 h2
  refine ⟨r, e1, ?_⟩
  unfold numT
  rw [e3]
  simp [List.getD, e1]
/-! ### a rising row parted -/
def okRow (x : Int) (r : List Int) (e : Nat) : Bool := (r.take e).all (fun n => decide (n < x)) && (r.drop e).all (fun n => decide (x < n))
/-! ### stairs fall -/
/-! ### laid over, turned about -/
theorem extC {G : GH} {k : Nat} {xs ys : List D} (h : G[k]? = some (.lst xs)) (hl : xs.length + ys.length ≤ sizeLine) : oExtend (.loc k) [.lst ys] G = .ok .non (G.set k (.lst (xs ++ ys))) := by
  unfold oExtend; dsimp only [lstO]; rw [h]; dsimp only; rw [if_pos hl]
/-- a stair as numbers from nought -/
def lessN (T : List (List Int)) (x : Int) : List Nat := T.map fun r => (r.filter fun n => decide (n < x)).length
def highN (T : List (List Int)) (x : Int) : List Nat := T.map fun r => (r.filter fun n => decide (n ≤ x)).length
end VL

/-! Q15: sorted(list of tuples of ints of any sign). -/
namespace VL
open PySem L2 PySem.Spec PyProof.Rows
/-- in order: by the first that differs -/
def lexB : List Int → List Int → Bool
  | p :: ns, q :: ms => if p = q then lexB ns ms else decide (p < q)
  | [], _ :: _ => true
  | _, [] => false
def Rim (B : Int) (ns : List Int) : Prop := ∀ m ∈ ns, -B ≤ m ∧ m < B
/-- a number that orders as lexB does -/
def rankT (B : Int) (ns : List Int) : Int := TS.code (2 * B) (ns.map fun m => m + B)
theorem Rim.bd {B : Int} {ns : List Int} (h : Rim B ns) : TS.Bd (2 * B) (ns.map fun m => m + B) := fun m hm => by
  obtain ⟨k, hk, rfl⟩ := List.mem_map.mp hm
  have := h k hk
  omega
theorem rank_lex {B : Int} : ∀ {ns ms : List Int}, ns.length = ms.length → Rim B ns → Rim B ms → (rankT B ns < rankT B ms ↔ lexB ns ms = true)
  | [], [], _, _, _ => ⟨fun z => absurd z (Int.lt_irrefl _), fun z => nomatch z⟩
  | [], _ :: _, l, _, _ => nomatch l
  | _ :: _, [], l, _, _ => nomatch l
  | p :: ns, q :: ms, l, hp, hq => by
    have l1 : ns.length = ms.length := Nat.succ.inj l
    have hp1 : Rim B ns := fun m hm => hp m (List.mem_cons_of_mem _ hm)
    have hq1 : Rim B ms := fun m hm => hq m (List.mem_cons_of_mem _ hm)
    have l2 : (ns.map fun m => m + B).length = (ms.map fun m => m + B).length := by rw [List.length_map, List.length_map, l1]
    unfold lexB
    by_cases e : p = q
    · subst e
      rw [if_pos rfl, ← rank_lex l1 hp1 hq1]
      exact TS.code_same l2
    · rw [if_neg e, decide_eq_true_eq]
      refine ⟨fun z => ?_, fun z => TS.code_lt l2 hp1.bd hq1.bd (show p + B < q + B by omega)⟩
      by_cases g : p < q
      · exact g
      · have := TS.code_lt l2.symm hq1.bd hp1.bd (show q + B < p + B by omega)
        have z2 : TS.code (2 * B) ((p + B) :: ns.map fun m => m + B) < TS.code (2 * B) ((q + B) :: ms.map fun m => m + B) := z
        omega
section
variable {prog : Program} {w : World} {A : Around} {E : Value → Shared → Prop} {s : Shared}
theorem lexRun {Q : Bool → Shared → Prop} {b : Bool} : ∀ {us vs : List Value} {ns ms : List Int} (i : Nat), IntsAre us ns → IntsAre vs ms → ns.length = ms.length → Q (lexB ns ms) s → PySem.W.KatLex prog w A b false Q (us.zip vs) i s
  | _, _, _, _, _, .nil, .nil, _, q => PySem.W.kat_nil q
  | _, _, _, _, _, .nil, .cons _ _ _, l, _ => nomatch l
  | _, _, _, _, _, .cons _ _ _, .nil, l, _ => nomatch l
  | _, _, _, _, i, .cons (ns := ns) p _ hu, .cons (ns := ms) q' _ hv, l, q => by
    refine PySem.W.kat_cons (wpAny_eqBool_int ?_)
    unfold lexB at q
    by_cases e : p = q'
    · rw [if_pos e] at q
      rw [beq_iff_eq.mpr e]
      exact PySem.W.kat_yes (lexRun (i + 1) hu hv (Nat.succ.inj l) q)
    · rw [if_neg e] at q
      rw [beq_eq_false_iff_ne.mpr e]
      exact PySem.W.kat_no (TS.oneLt_ints _ q)
/-- all are tuples of d ints within the rim -/
def TupsIn (h : Heap) (d : Nat) (B : Int) (vs : List Value) : Prop := ∀ v ∈ vs, ∃ ns, TS.TupInts h v ns ∧ ns.length = d ∧ Rim B ns
theorem heads {h : Heap} {d : Nat} {B : Int} (hd : 1 ≤ d) : ∀ {vs : List Value}, TupsIn h d B vs → ∃ fs, PySem.W.KatTups h vs fs ∧ fs.length = vs.length ∧ ∀ f ∈ fs, ∃ n t, f = Value.int n t
  | [], _ => ⟨[], .nil, rfl, fun _ m => nomatch m⟩
  | v :: vs, x => by
    obtain ⟨fs, k1, k2, k3⟩ := heads hd (vs := vs) fun u m => x u (.tail _ m)
    obtain ⟨ns, ⟨a, us, ea, ⟨o, g1, g2, n, g3⟩, ia⟩, ln, _⟩ := x v (.head _)
    have hlen : us.toList.length = d := ia.length.trans ln
    have hpos : 0 < us.toList.length := by omega
    obtain ⟨m, t, hy⟩ := ia.all us.toList[0] (List.getElem_mem hpos)
    have hy0 : us[0]? = some us.toList[0] := by
      rw [← Array.getElem?_toList]; exact List.getElem?_eq_getElem hpos
    subst ea
    refine ⟨us.toList[0] :: fs, .cons g1 g2 g3 hy0 k1, congrArg Nat.succ k2, fun f m => ?_⟩
    cases m with
    | head => exact ⟨_, t, hy⟩
    | tail _ m => exact k3 f m
theorem kindT {d : Nat} {B : Int} {vs : List Value} (hd : 1 ≤ d) (h2 : 2 ≤ vs.length) (x : TupsIn s.heap d B vs) (rk : Value → Int) (hr : ∀ v ∈ vs, ∀ ns, TS.TupInts s.heap v ns → rk v = rankT B ns) (Q : SortKind → Shared → Prop)
    (h : ∀ kd, TS.Cmp prog w A s kd (pairsOf vs) rk → Q kd s) : wpAny (model prog w) A (keyKind' vs.toArray) Q E s := by
  obtain ⟨fs, k1, k2, k3⟩ := heads hd x
  refine PySem.W.kat_kind (T := .type "int") k1 (k2 ▸ Nat.lt_of_lt_of_le Nat.zero_lt_two h2) (fun f m => by obtain ⟨n, t, e⟩ := k3 f m; rw [e]; exact PySem.W.Looks.of_pure rfl) rfl (h _ fun u v hu hv R F hR => ?_)
  rw [pairsOf_toList] at hu hv
  have mu := (mem_zip_self hu).2
  have mv := (mem_zip_self hv).2
  obtain ⟨ns, tu, lu, bu⟩ := x _ mu
  obtain ⟨ms, tv, lv, bv⟩ := x _ mv
  have hR2 : R (lexB ns ms) s := by
    have z : lexB ns ms = decide (rk u.1 < rk v.1) := by
      rw [hr _ mu _ tu, hr _ mv _ tv, Bool.eq_iff_iff, decide_eq_true_eq]
      exact (rank_lex (lu.trans lv.symm) bu bv).symm
    rw [z]; exact hR
  obtain ⟨a, us, ea, ⟨o, g1, g2, n, g3⟩, iu⟩ := tu
  obtain ⟨b, ws, eb, ⟨o', g1', g2', n', g3'⟩, iv⟩ := tv
  rw [ea, eb]
  refine PySem.W.kat_lt g1 g3 g1' g3' ?_
  have e1 := iu.length
  have e2 := iv.length
  rw [Array.length_toList] at e1 e2
  rw [decide_eq_false (show ¬ us.size < ws.size by omega)]
  exact lexRun 0 iu iv (lu.trans lv.symm) hR2
theorem TupsIn.keep {h h' : Heap} {d : Nat} {B : Int} {vs : List Value} (x : TupsIn h d B vs) (k : ∀ b o, h.get? b = some o → o.cls = .type "tuple" → h'.get? b = some o) : TupsIn h' d B vs := fun v m => by
  obtain ⟨ns, t, r⟩ := x v m
  exact ⟨ns, t.keeps k, r⟩
theorem one_ints {h h' : Heap} {d : Nat} {B : Int} {vs : List Value} (x : TupsIn h d B vs) (k : ∀ b o, h.get? b = some o → o.cls = .type "tuple" → h'.get? b = some o) {rk : Value → Int} (hr : ∀ v ∈ vs, ∀ ns, TS.TupInts h v ns → rk v = rankT B ns) : ∀ v ∈ vs, ∀ ns, TS.TupInts h' v ns → rk v = rankT B ns := fun v m ns t => by
  obtain ⟨ns0, t0, _⟩ := x v m
  rw [t.ints.symm.trans (t0.keeps k).ints]
  exact hr v m ns0 t0
theorem sortRun {a : Addr} {vs : List Value} {n d : Nat} {B : Int} {P : PySem.Fin → Shared → Prop} (ho : s.heap.get? a = some (seqObj "list" vs.toArray n)) (h64 : vs.length < 64) (hd : 1 ≤ d) (x : TupsIn s.heap d B vs) (rk : Value → Int) (hr : ∀ v ∈ vs, ∀ ns, TS.TupInts s.heap v ns → rk v = rankT B ns)
    (fin : ∀ out : Array Value, out.toList.Perm vs → out.toList.Pairwise (fun u v => rk u ≤ rk v) → P (.done (.ret .none)) { s with heap := sortedHeap s.heap a vs out }) : wpAny (model prog w) A (Builtin.«list.sort» ⟨[.ref a], []⟩) P E s := by
  have keep : ∀ b o, s.heap.get? b = some o → o.cls = .type "tuple" → (TS.midHeap s.heap a vs).get? b = some o := fun b o e hc => TS.midHeap_old (fun q => by
    subst q
    have e2 := Option.some.inj (ho.symm.trans e)
    subst e2
    exact absurd (Value.type.inj hc) (by decide)) e
  exact SK.plain_sort (r := rk) ho h64 (fun h2 Q hQ => kindT (s := { s with heap := TS.midHeap s.heap a vs }) hd h2 (x.keep keep) rk (one_ints x keep hr) Q hQ) fun ps out h1 h2 h3 => fin out (TS.out_rank h1 h2 h3).1 (TS.out_rank h1 h2 h3).2
theorem sortedRun {l : Addr} {vs : List Value} {d : Nat} {B : Int} {Q : Value → Shared → Prop} (hl : s.heap.IsList l vs.toArray) (h64 : vs.length < 64) (hd : 1 ≤ d) (x : TupsIn s.heap d B vs)
    (fin : ∀ out : Array Value, out.toList.Perm vs → out.toList.Pairwise (fun u v => rankT B (TS.intsOf s.heap u) ≤ rankT B (TS.intsOf s.heap v)) → Q (.ref (s.heap.objs.size + 1)) { s with heap := sortedAll s.heap vs out }) : wpAny (model prog w) A (call (.builtin "sorted") [.ref l]) Q E s := by
  refine Calls.call_function_entry kind_sorted plain_sorted entry_sorted (args_sorted1 _) ?_
  unfold Builtin.«sorted»
  refine wpAny_bind (m := checkCount "sorted" 1 1 _) (wpAny_pure (wpAny_bind (collect_list hl ?_ (by rw [sizeLine_eq]; omega))))
  refine wpAny_bind (wpAny_newList ?_ (by rw [sizeLine_eq]; omega))
  have z1 : ((s.heap.push (seqObj "list" #[] 0)).update s.heap.objs.size (Obj.mapSeq (· ++ vs.toArray))).objs.size = s.heap.objs.size + 1 := (Heap.size_update _ _ _).trans (by rw [size_push'])
  show wpAny _ _ _ _ _ { s with heap := ((s.heap.push (seqObj "list" #[] 0)).update s.heap.objs.size (Obj.mapSeq (· ++ vs.toArray))).push (seqObj "list" vs.toArray 0) }
  rw [z1]
  have z2 : (((s.heap.push (seqObj "list" #[] 0)).update s.heap.objs.size (Obj.mapSeq (· ++ vs.toArray))).push (seqObj "list" vs.toArray 0)).get? (s.heap.objs.size + 1) = some (seqObj "list" vs.toArray 0) := z1 ▸ Heap.get?_push_size _ rfl
  have z3 : ∀ b o, s.heap.get? b = some o → o.cls = .type "tuple" → (((s.heap.push (seqObj "list" #[] 0)).update s.heap.objs.size (Obj.mapSeq (· ++ vs.toArray))).push (seqObj "list" vs.toArray 0)).get? b = some o := fun b o q _ => by
    have lt : b < s.heap.objs.size := Heap.lt_size q
    have ne1 := Nat.ne_of_lt lt
    have ne2 : b ≠ ((s.heap.push (seqObj "list" #[] 0)).update s.heap.objs.size (Obj.mapSeq (· ++ vs.toArray))).objs.size := fun q => absurd (q.trans z1) (Nat.ne_of_lt (Nat.lt_succ_of_lt lt))
    rw [Heap.get?_push_ne _ _ _ ne2, Heap.get?_update_ne _ _ _ _ ne1, Heap.get?_push_ne _ _ _ ne1, q]
  refine wpAny_bind (wpAny_holding (wpAny_call_entry slot_list_sort ⟨_, z2, rfl⟩ entry_list_sort (sortRun z2 h64 hd (x.keep z3) (fun v => rankT B (TS.intsOf s.heap v)) (one_ints x z3 fun v _ ns t => congrArg (rankT B) t.ints) fun out a1 a2 => ⟨_, rfl, wpAny_pure ⟨_, rfl, fin out a1 a2⟩⟩) (args_list_sort _)))
end
/-! ### as a step of the layer -/
def TupV (K : PySem.W.Frag) (H : Hp) (x : V) (ns : List Int) : Prop := ∃ t, x = .ref t ∧ SqT K H t (ns.map V.int)
def rSortL (K : PySem.W.Frag) (d : Nat) : List V → Hp → VK → Prop := fun vs H Q => ∃ (a : Addr) (xs : List V) (B : Int), 1 ≤ d ∧ vs = [V.ref a] ∧ SqL K H a xs ∧ xs.length < 64 ∧ (∀ x ∈ xs, ∃ ns, TupV K H x ns ∧ ns.length = d ∧ Rim B ns) ∧
  ∀ (ys : List V) (p : Addr), ys.Perm xs → ys.Pairwise (fun x y => ∀ n m, TupV K H x n → TupV K H y m → rankT B n ≤ rankT B m) → H p = none → Q (.ref p) (upd H p (.lst ys))
theorem cr_sortL {X : Cx} {d : Nat} : CallR X (.builtin "sorted") (rSortL X.K d) := by
  intro pins s sg H vs us Q I r h
  obtain ⟨a, xs, B, hd, rfl, hs, h64, hx, q⟩ := h
  obtain ⟨its, rv, hl, hz⟩ := I.list hs
  rw [Vals.ref1 r]
  have hraw : ∀ {t : Addr} {ns : List Int}, SqT X.K H t (ns.map V.int) → TS.TupInts s.heap (.ref t) ns := fun h => tupI_raw I h
  obtain ⟨e1, e2⟩ := bkV_refs rv fun x m => by
    obtain ⟨_, ⟨t, e, _⟩, _⟩ := hx x m
    exact ⟨t, e⟩
  refine sortedRun (d := d) (B := B) hl.isList (rv.length ▸ h64) hd (fun v hv => ?_) fun out h1 h2 => ?_
  · obtain ⟨t, rfl⟩ := e2 v hv
    obtain ⟨ns, ⟨t', e, ht⟩, hn⟩ := hx (V.ref t) (e1 ▸ List.mem_map.mpr ⟨_, hv, rfl⟩)
    cases e
    exact ⟨ns, hraw ht, hn⟩
  · obtain ⟨ep, he'⟩ := sortedAll_at s.heap its out
    have hp : (out.toList.map bkV).Perm xs := e1 ▸ h1.map bkV
    refine ⟨.ref _, upd H (s.heap.objs.size + 1) (.lst (out.toList.map bkV)), I.laid (t' := s.toks) (fun _ _ => sortedAll_old) (Nat.le_succ _) ⟨hp.length_eq ▸ hz, out.toList, ep, bkV_vals fun u hu => e2 u (h1.mem_iff.mp hu), he'⟩, rfl, q _ _ hp (List.pairwise_map.mpr (h2.imp fun {u v} huv n m hn hm => ?_)) (I.hok.fresh (Nat.le_succ _))⟩
    obtain ⟨t, et, ht⟩ := hn
    obtain ⟨t', et', ht'⟩ := hm
    have i1 : TS.intsOf s.heap u = n := bkV_ref et ▸ (hraw ht).ints
    have i2 : TS.intsOf s.heap v = m := bkV_ref et' ▸ (hraw ht').ints
    rw [i1, i2] at huv
    exact huv

/-! ### sorted, of data -/
def intsT : D → Option (List Int)
  | .tup xs => mapO (fun x => match x with | .int i => some i | _ => none) xs
  | _ => none
def leT (x y : D) : Bool := !lexB ((intsT y).getD []) ((intsT x).getD [])
def sortT (xs : List D) : List D := xs.mergeSort leT
def absM : List Int → Int
  | [] => 0
  | n :: ns => max (n.natAbs : Int) (absM ns)
def rimOf : List D → Int
  | [] => 0
  | x :: xs => max (absM ((intsT x).getD [])) (rimOf xs)
theorem absM_ge : ∀ {ns : List Int}, ∀ m ∈ ns, -(absM ns) ≤ m ∧ m ≤ absM ns
  | n :: ns, m, h => by
    unfold absM
    rcases List.mem_cons.mp h with rfl | h
    · omega
    · have := absM_ge m h; omega
theorem rimOf_ge : ∀ {xs : List D}, ∀ x ∈ xs, Rim (rimOf xs + 1) ((intsT x).getD [])
  | x :: xs, y, h => by
    unfold rimOf
    rcases List.mem_cons.mp h with rfl | h
    · intro m hm; have := absM_ge m hm; omega
    · intro m hm; have := rimOf_ge y h m hm; omega
def oSortT (d : Nat) (cm : Bool) (ds : List D) (G : GH) : Out D := match ds with
  | [x] => match lstOf G x with
    | some xs => if 1 ≤ d ∧ xs.length < 64 ∧ xs.all (fun y => match intsT y with | some ns => ns.length == d | none => false) = true then mk cm (sortT xs) G else .stuck
    | none => .stuck
  | _ => .stuck
section
variable {K : Frag} {mg : MG}
theorem RepL.perm {F : Hp} {al : List Addr} {vs ys : List V} (p : ys.Perm vs) : ∀ {ds : List D}, RepL K F al ds vs → ∃ es : List D, es.Perm ds ∧ RepL K F al es ys := by
  induction p with
  | nil => intro ds r; exact ⟨ds, .refl _, r⟩
  | @cons v ys vs p ih =>
    intro ds r
    cases ds with
    | nil => unfold RepL at r; cases r
    | cons d ds =>
      unfold RepL at r
      obtain ⟨u, q, e, r1, r2⟩ := r
      cases e
      obtain ⟨es, h1, h2⟩ := ih r2
      exact ⟨d :: es, h1.cons d, RepL.cons r1 h2⟩
  | swap a b l =>
    intro ds r
    cases ds with
    | nil => unfold RepL at r; cases r
    | cons d ds =>
      unfold RepL at r
      obtain ⟨u, q, e, r1, r2⟩ := r
      cases e
      cases ds with
      | nil => unfold RepL at r2; cases r2
      | cons d' ds =>
        unfold RepL at r2
        obtain ⟨u, q, e, r3, r4⟩ := r2
        cases e
        exact ⟨d' :: d :: ds, .swap _ _ _, RepL.cons r3 (RepL.cons r1 r4)⟩
  | trans p1 p2 ih1 ih2 =>
    intro ds r
    obtain ⟨es, h1, h2⟩ := ih2 r
    obtain ⟨fs, h3, h4⟩ := ih1 h2
    exact ⟨fs, h3.trans h1, h4⟩
theorem lex_total : ∀ {ns ms : List Int}, ns.length = ms.length → lexB ns ms = false → lexB ms ns = false → ns = ms
  | [], [], _, _, _ => rfl
  | [], _ :: _, l, _, _ => nomatch l
  | _ :: _, [], l, _, _ => nomatch l
  | p :: ns, q :: ms, l, h1, h2 => by
    unfold lexB at h1 h2
    by_cases e : p = q
    · subst e
      rw [if_pos rfl] at h1 h2
      rw [lex_total (Nat.succ.inj l) h1 h2]
    · rw [if_neg e] at h1
      rw [if_neg fun z => e z.symm] at h2
      have a1 := of_decide_eq_false h1
      have a2 := of_decide_eq_false h2
      omega
theorem mapO_ints (ns : List Int) : mapO (fun x => match x with | .int i => some i | _ => none) (ns.map D.int) = some ns := by
  have e := mapO_mapR (f := fun x => match x with | .int i => some i | _ => none) (g := id) (e := D.int) (xs := ns) (fun _ _ => rfl)
  rw [List.map_id] at e
  exact e
theorem ints_tup : ∀ {xs : List D} {ns : List Int}, mapO (fun x => match x with | .int i => some i | _ => none) xs = some ns → xs = ns.map D.int
  | [], ns, h => by unfold mapO at h; cases h; rfl
  | x :: xs, ns, h => by
    obtain ⟨y, ys, e1, e2, rfl⟩ := mapO_cons h
    cases x with
    | int i => cases e1; rw [ints_tup e2]; rfl
    | _ => cases e1
theorem intsT_tup {d : D} {ns : List Int} (h : intsT d = some ns) : d = .tup (ns.map D.int) := by
  unfold intsT at h
  split at h
  · rw [ints_tup h]
  · cases h
theorem repTup {P F : Hp} {al : List Addr} {H : Hp} {G : GH} {d : D} {v : V} {ns : List Int} (S : Sim K mg P F al H G) (r : RepV K F al d v) (h : intsT d = some ns) : TupV K H v ns := by
  rw [intsT_tup h] at r
  obtain ⟨a, vs, h1, h2, h3⟩ := tup_at S r rfl
  have e : vs = ns.map V.int := ints_map h3 (mapO_ints ns)
  rw [e] at h2
  exact ⟨a, h1, SqT.of h2⟩
theorem lex_flip {B : Int} {ns ms : List Int} (l : ns.length = ms.length) (h1 : Rim B ns) (h2 : Rim B ms) : rankT B ns ≤ rankT B ms ↔ lexB ms ns = false := by
  have := rank_lex l.symm h2 h1
  constructor
  · intro h
    cases hb : lexB ms ns with
    | false => rfl
    | true => rw [← this] at hb; omega
  · intro h
    by_cases g : rankT B ns ≤ rankT B ms
    · exact g
    · rw [this.mp (by omega)] at h; cases h
theorem lex_trans : ∀ {a b c : List Int}, lexB b a = false → lexB c b = false → lexB c a = false
  | [], _, c, _, _ => by cases c <;> rfl
  | _ :: _, [], _, h, _ => nomatch h
  | _ :: _, _ :: _, [], _, h => nomatch h
  | p :: a, q :: b, r :: c, h1, h2 => by
    unfold lexB at h1 h2 ⊢
    by_cases e1 : q = p
    · subst e1
      rw [if_pos rfl] at h1
      by_cases e2 : r = q
      · subst e2
        rw [if_pos rfl] at h2 ⊢
        exact lex_trans h1 h2
      · rw [if_neg e2] at h2 ⊢; exact h2
    · rw [if_neg e1] at h1
      have a1 := of_decide_eq_false h1
      by_cases e2 : r = q
      · subst e2
        rw [if_neg e1]; exact h1
      · rw [if_neg e2] at h2
        have a2 := of_decide_eq_false h2
        rw [if_neg (by omega)]
        exact decide_eq_false (by omega)
theorem lex_tot : ∀ (a b : List Int), (!lexB b a || !lexB a b) = true
  | [], b => by cases b <;> rfl
  | _ :: _, [] => rfl
  | p :: a, q :: b => by
    unfold lexB
    by_cases e : p = q
    · subst e
      rw [if_pos rfl, if_pos rfl]; exact lex_tot a b
    · rw [if_neg e, if_neg fun z => e z.symm]
      by_cases g : p < q
      · rw [decide_eq_false (show ¬ q < p by omega)]; rfl
      · rw [decide_eq_false g]; simp
theorem sortT_sorted (xs : List D) : (sortT xs).Pairwise (fun x y => leT x y = true) :=
  List.pairwise_mergeSort (fun a b c h1 h2 => by
    have g1 : (!lexB ((intsT b).getD []) ((intsT a).getD [])) = true := h1
    have g2 : (!lexB ((intsT c).getD []) ((intsT b).getD [])) = true := h2
    show (!lexB ((intsT c).getD []) ((intsT a).getD [])) = true
    rw [lex_trans (by simpa using g1) (by simpa using g2)]; rfl) (fun a b => lex_tot _ _) xs
theorem sortT_perm (xs : List D) : (sortT xs).Perm xs := List.mergeSort_perm _ _
theorem o_sortT (d : Nat) (cm : Bool) : CallS K mg (rSortL K d) (oSortT d cm) := by
  intro W sg P F al G H ds vs Q S r q
  unfold oSortT at q
  split at q
  · rename_i x
    obtain ⟨v, rfl, r1⟩ := repl1 r
    split at q
    · rename_i xs e1
      split at q
      · rename_i hc
        obtain ⟨hd, h64, hall⟩ := hc
        obtain ⟨a, us, rfl, h2, h3⟩ := lst_at S r1 e1
        have hi : ∀ y ∈ xs, ∃ ns, intsT y = some ns ∧ ns.length = d := fun y hy => by
          have := List.all_eq_true.mp hall y hy
          cases h : intsT y with
          | none => rw [h] at this; cases this
          | some ns => rw [h] at this; exact ⟨ns, rfl, by simpa using this⟩
        refine ⟨a, us, rimOf xs + 1, hd, rfl, h2, by rw [← h3.len]; exact h64, fun u hu => ?_, fun ys p hp hs hf => ?_⟩
        · obtain ⟨j, hj⟩ := List.mem_iff_getElem?.mp hu
          have hjx : j < xs.length := by rw [h3.len]; exact (List.getElem?_eq_some_iff.mp hj).1
          obtain ⟨u', eu, ru⟩ := RepL.get h3 (List.getElem?_eq_getElem hjx)
          rw [hj] at eu
          cases eu
          obtain ⟨ns, en, ln⟩ := hi _ (List.getElem_mem hjx)
          have hr := rimOf_ge _ (List.getElem_mem hjx)
          rw [en] at hr
          exact ⟨ns, repTup S ru en, ln, hr⟩
        · obtain ⟨es, p1, p2⟩ := RepL.perm hp h3
          have hlen : ∀ y ∈ es, ∃ ns, intsT y = some ns ∧ ns.length = d ∧ Rim (rimOf xs + 1) ns := fun y hy => by
            have hx := p1.mem_iff.mp hy
            obtain ⟨ns, en, ln⟩ := hi y hx
            have hr := rimOf_ge y hx
            rw [en] at hr
            exact ⟨ns, en, ln, hr⟩
          have hes : es = sortT xs := by
            have hsorted : es.Pairwise (fun x y => leT x y = true) := by
              rw [List.pairwise_iff_getElem]
              intro i j hi' hj' hij
              obtain ⟨n, en, ln, rn⟩ := hlen _ (List.getElem_mem hi')
              obtain ⟨m, em, lm, rm⟩ := hlen _ (List.getElem_mem hj')
              obtain ⟨u, eu, ru⟩ := RepL.get p2 (List.getElem?_eq_getElem hi')
              obtain ⟨v, ev, rv⟩ := RepL.get p2 (List.getElem?_eq_getElem hj')
              obtain ⟨hi2, eu⟩ := List.getElem?_eq_some_iff.mp eu
              obtain ⟨hj2, ev⟩ := List.getElem?_eq_some_iff.mp ev
              have := List.pairwise_iff_getElem.mp hs i j hi2 hj2 hij
              rw [eu, ev] at this
              have := this n m (repTup S ru en) (repTup S rv em)
              unfold leT
              rw [en, em]
              show (!lexB m n) = true
              rw [(lex_flip (ln.trans lm.symm) rn rm).mp this]
              rfl
            have hms := sortT_sorted xs
            refine List.Perm.eq_of_pairwise (le := fun x y => leT x y = true) (fun x y hx hy h1 h2 => ?_) hsorted hms (p1.trans (List.mergeSort_perm _ _).symm)
            obtain ⟨n, en, ln, _⟩ := hlen x hx
            obtain ⟨m, em, lm⟩ := hi y ((List.mergeSort_perm xs leT).mem_iff.mp hy)
            unfold leT at h1 h2
            rw [en, em] at h1 h2
            have := lex_total (ln.trans lm.symm) (by simpa using h2) (by simpa using h1)
            rw [intsT_tup en, intsT_tup em, this]
          rw [hes] at p2
          exact mk_ok S p2 q hf
      · exact q.elim
    · exact q.elim
  · exact q.elim
end
end VL

/-! Q16: all numbers of a table with their places, in order. -/
namespace VL
open PySem L2
/-- over enumerate(a list of numbers) -/
theorem lc_enum {t : T1} {tt : M Bool} {te : M D} {G : GH} {rh : DEnv} {q : D → GH → Prop} {X : Str → GH → Prop} {cm : Bool} {vs : List Nat} {m : M D} {d : D} (r : List Int) (g : Nat → D) (hm : m rh G = .ok d G) (hd : lstOf G d = some (r.map D.int)) (hs : r.length ≤ 2 ^ 24)
    (h : ∀ i, i < r.length → ∃ rh2, t (.tup [.int (i : Nat), .int (r.getD i 0)]) (wipeD rh vs) G = some rh2 ∧ tt rh2 G = .ok true G ∧ te rh2 G = .ok (g i) G) (k : (mk cm ((List.range r.length).map g) G).P q X) : (mLc cm vs (b1 oSrcE (mCons m mNil)) t tt te rh G).P q X := by
  have hb : b1 oSrcE (mCons m mNil) rh G = .ok ⟨fun G' i => match lstOf G' d with
      | some ys => some ((ys[i]?).map fun y => D.tup [.int (i : Nat), y])
      | none => none, (r.map D.int).length⟩ G := by
    unfold b1 mCons
    rw [hm]
    show oSrcE [d] G = _
    unfold oSrcE; dsimp only; rw [hd]; try rfl
  refine lc_as (List.range r.length) (fun i => .tup [.int (i : Nat), .int (r.getD i 0)]) (fun _ => true) g hb (fun i => ?_) (by rw [List.length_range, List.length_map]; exact Nat.le_refl _) (by rw [List.length_range]; exact hs) (fun i hi => ?_) ?_
  · dsimp only
    rw [hd]
    dsimp only
    congr 1
    rw [List.getElem?_map, List.getElem?_map]
    by_cases hi : i < r.length
    · rw [List.getElem?_range hi, List.getElem?_eq_getElem hi]
      simp [List.getD, hi]
    · rw [List.getElem?_eq_none (by omega), List.getElem?_eq_none (by rw [List.length_range]; omega)]
      rfl
  · obtain ⟨rh2, e1, e2, e3⟩ := h i (List.mem_range.mp hi)
    exact ⟨rh2, e1, e2, fun _ => e3⟩
  · rw [filtT]; exact k
abbrev Tri := Int × Nat × Nat
def triD (t : Tri) : D := .tup [.int t.1, .int (t.2.1 : Nat), .int (t.2.2 : Nat)]
def triR (i : Nat) (r : List Int) : List Tri := (List.range r.length).map fun p => (r.getD p 0, i, p)
def triN : Nat → List (List Int) → List Tri
  | 0, _ => []
  | n + 1, T => triN n T ++ triR n (T.getD n [])
theorem triR_fst (i : Nat) (r : List Int) : (triR i r).map (·.1) = r := by
  unfold triR
  rw [List.map_map]
  apply List.ext_getElem?
  intro k
  rw [List.getElem?_map]
  by_cases hk : k < r.length
  · rw [List.getElem?_range hk, List.getElem?_eq_getElem hk]
    simp [List.getD, hk]
  · rw [List.getElem?_eq_none (show (List.range r.length).length ≤ k by rw [List.length_range]; omega), List.getElem?_eq_none (show r.length ≤ k by omega)]
    rfl
theorem triN_fst {T : List (List Int)} : ∀ n, n ≤ T.length → (triN n T).map (·.1) = (T.take n).flatten
  | 0, _ => by simp [triN]
  | n + 1, h => by
    have hl : n < T.length := by omega
    unfold triN
    rw [List.map_append, triN_fst n (by omega), triR_fst, List.take_add_one, List.getElem?_eq_getElem hl, List.flatten_append]
    simp [List.getD, hl]
def trisT (T : List (List Int)) : List Tri := triN T.length T
theorem trisT_fst (T : List (List Int)) : (trisT T).map (·.1) = T.flatten := by
  unfold trisT; rw [triN_fst _ (Nat.le_refl _), List.take_length]
/-- in order -/
def mergedT (T : List (List Int)) : List D := sortT ((trisT T).map triD)
def fstD : D → Int
  | .tup (.int v :: _) => v
  | _ => 0
theorem merged_mem {T : List (List Int)} {y : D} (h : y ∈ mergedT T) : ∃ t ∈ trisT T, y = triD t := by
  obtain ⟨t, ht, e⟩ := List.mem_map.mp ((sortT_perm _).mem_iff.mp h)
  exact ⟨t, ht, e.symm⟩
/-- the numbers in order -/
def ordT (T : List (List Int)) : List Int := (mergedT T).map fstD
theorem ord_perm (T : List (List Int)) : (ordT T).Perm T.flatten := by
  unfold ordT mergedT
  have h := (sortT_perm ((trisT T).map triD)).map fstD
  rw [List.map_map] at h
  rw [← trisT_fst]
  exact h
theorem ord_sorted (T : List (List Int)) : (ordT T).Pairwise (· ≤ ·) := by
  unfold ordT
  rw [List.pairwise_map]
  refine List.Pairwise.imp_of_mem (fun {x y} hx hy h => ?_) (sortT_sorted _)
  obtain ⟨t, _, rfl⟩ := merged_mem hx
  obtain ⟨u, _, rfl⟩ := merged_mem hy
  have h2 : (!lexB [u.1, (u.2.1 : Nat), (u.2.2 : Nat)] [t.1, (t.2.1 : Nat), (t.2.2 : Nat)]) = true := h
  show t.1 ≤ u.1
  unfold lexB at h2
  by_cases e : u.1 = t.1
  · omega
  · rw [if_neg e] at h2
    simp at h2
    exact h2
theorem merged_len (T : List (List Int)) : (mergedT T).length = T.flatten.length := by
  have := (ord_perm T).length_eq
  unfold ordT at this
  rwa [List.length_map] at this
theorem ord_less {T : List (List Int)} {k : Nat} {v : Int} (h : (ordT T)[k]? = some v) : (T.flatten.filter fun n => decide (n < v)).length ≤ k ∧ k < (T.flatten.filter fun n => decide (n ≤ v)).length ∧ v ∈ T.flatten := by
  have p := ord_perm T
  have e1 := (p.filter fun n => decide (n < v)).length_eq
  have e2 := (p.filter fun n => decide (n < v + 1)).length_eq
  have e3 : (T.flatten.filter fun n => decide (n ≤ v)) = T.flatten.filter fun n => decide (n < v + 1) := List.filter_congr fun n _ => by rw [decide_eq_decide]; omega
  have c1 := cnt_lt (x := v) (ord_sorted T) h
  have c2 := cnt_lt (x := v + 1) (ord_sorted T) h
  rw [e3, ← e1, ← e2]
  exact ⟨by omega, by omega, p.mem_iff.mp (List.mem_of_getElem? h)⟩
theorem flat_len {w : Nat} {T : List (List Int)} (h : ∀ r ∈ T, r.length = w) : T.flatten.length = T.length * w := by
  induction T with
  | nil => simp
  | cons r T ih =>
    rw [List.flatten_cons, List.length_append, ih fun q hq => h q (List.mem_cons_of_mem _ hq), h r List.mem_cons_self, List.length_cons, Nat.succ_mul, Nat.add_comm]
theorem triN_len {w : Nat} {T : List (List Int)} (hT : ∀ r ∈ T, r.length = w) {n : Nat} (h : n ≤ T.length) : (triN n T).length = n * w := by
  have := congrArg List.length (triN_fst n h)
  rw [List.length_map, flat_len (w := w) fun r hr => hT r (List.mem_of_mem_take hr), List.length_take] at this
  rw [this]; congr 1; omega
theorem sortTri {G : GH} {k : Nat} {ts : List Tri} {cm : Bool} (h : G[k]? = some (.lst (ts.map triD))) (hl : ts.length < 64) : oSortT 3 cm [.loc k] G = mk cm (sortT (ts.map triD)) G := by
  unfold oSortT
  dsimp only
  rw [lstOf_of (loc_lstO h)]
  dsimp only
  refine if_pos ⟨by omega, by rw [List.length_map]; exact hl, ?_⟩
  rw [List.all_eq_true]
  intro y hy
  obtain ⟨t, _, rfl⟩ := List.mem_map.mp hy
  rfl
theorem bel_tris {n : Nat} {L : List D} (h : ∀ y ∈ L, ∃ t, y = triD t) : bel 8 n (.lst L) = true := by
  unfold bel
  refine List.all_eq_true.mpr fun y hy => ?_
  obtain ⟨t, rfl⟩ := h y hy
  rfl
end VL

/-! Q17: tables that stand in cells. -/
namespace VL
open PySem L2
def rowC (r : List Int) : Cell := .lst (r.map D.int)
def locs2 (n : Nat) : List D := (List.range' 2 n).map D.loc
/-- the store, the table, its rows -/
def HT (c : Cell) (T : List (List Int)) : GH := c :: .lst (locs2 T.length) :: T.map rowC
theorem lstO_ext {G fs : GH} {d : D} {xs : List D} (h : lstO G d = some xs) : lstO (G ++ fs) d = some xs := by
  unfold lstO at h ⊢
  cases d with
  | lst ys => exact h
  | loc k =>
    dsimp only at h ⊢
    split at h
    · rename_i zs e
      rw [List.getElem?_append_left (List.getElem?_eq_some_iff.mp e).1, e]
      exact h
    · cases h
  | _ => cases h
theorem IsTab.ext {G fs : GH} {d : D} {T : List (List Int)} (h : IsTab G d T) : IsTab (G ++ fs) d T := by
  obtain ⟨rows, h1, h2, h3⟩ := h.ex
  exact ⟨rows, lstO_ext h1, h2, fun i r hr => by obtain ⟨x, e1, e2⟩ := h3 i r hr; exact ⟨x, e1, lstO_ext e2⟩⟩
def sgn (x n : Int) : Int := (if decide (n < x) = true then 1 else 0) - (if decide (x < n) = true then 1 else 0)
end VL

/-! Q18: < of tuples; putting in, in order. -/
namespace VL
open PySem L2
def oLtT (d e : D) (G : GH) : Out D := match intsT d, intsT e with
  | some n, some m => .ok (.bl (HT.lexLt n m)) G
  | _, _ => .stuck
def ltT (z y : D) : Bool := lexB ((intsT z).getD []) ((intsT y).getD [])
/-- put in where it belongs -/
def putT (y : D) (L : List D) : List D := L.take (L.filter fun z => ltT z y).length ++ [y] ++ L.drop (L.filter fun z => ltT z y).length
def triP : D → PyData
  | .tup [.int a, .int b, .int c] => .tuple [.int a, .int b, .int c]
  | _ => .none
end VL

/-! Q19: a deck of pools in cells, tables behind it. -/
namespace VL
open PySem L2
abbrev Pool := Int × Int × Int
def poolC (p : Pool) : Cell := .lst [.int p.1, .int p.2.1, .int p.2.2]
def dkl (n : Nat) : List D := (List.range' 1 n).map D.loc
def DK (ps : List Pool) (k : Int) : GH := .dead :: (ps.map poolC ++ [.lst [.lst (dkl ps.length), .int k]])
def IsDK (n : Nat) (B : GH) : Prop := ∃ ps k, ps.length = n ∧ B = DK ps k
theorem dk_len {ps : List Pool} {k : Int} : (DK ps k).length = ps.length + 2 := by unfold DK; simp
/-- a deck of n pools, then R0 -/
def DKe (n : Nat) (R0 A : GH) : Prop := 1 ≤ n ∧ ∃ B, IsDK n B ∧ A = B ++ R0
theorem DKe.len {n : Nat} {R0 A : GH} (h : DKe n R0 A) : A.length = n + 2 + R0.length := by
  obtain ⟨_, B, ⟨ps, k, hl, rfl⟩, rfl⟩ := h
  rw [List.length_append, dk_len, hl]
theorem DKe.bel {n N : Nat} {R0 A : GH} (h : DKe n R0 A) (hN : n + 2 ≤ N) (hR : R0.all (belC N) = true) : A.all (belC N) = true := by
  obtain ⟨_, B, ⟨ps, k, hl, rfl⟩, rfl⟩ := h
  rw [List.all_append, hR, Bool.and_true]
  unfold DK
  rw [List.all_cons, List.all_append, Bool.and_eq_true, Bool.and_eq_true]
  refine ⟨rfl, List.all_eq_true.mpr fun y hy => ?_, ?_⟩
  · obtain ⟨p, _, rfl⟩ := List.mem_map.mp hy; rfl
  · rw [List.all_cons, List.all_nil, Bool.and_true]
    show ([D.lst (dkl ps.length), D.int k]).all (VL.bel 8 N) = true
    rw [List.all_cons, Bool.and_eq_true]
    refine ⟨?_, rfl⟩
    show (dkl ps.length).all (VL.bel 7 N) = true
    refine List.all_eq_true.mpr fun y hy => ?_
    unfold dkl at hy
    obtain ⟨j, hj, rfl⟩ := List.mem_map.mp hy
    rw [List.mem_range'_1] at hj
    exact decide_eq_true (show j < N by omega)
def locsB (m n : Nat) : List D := (List.range' (m + 1) n).map D.loc
/-- A, then the table T, then fs; m: how long A is -/
abbrev HC (m : Nat) (A : GH) (T : List (List Int)) (fs : GH) : GH := A ++ (.lst (locsB m T.length) :: (T.map rowC ++ fs))
section
variable {m : Nat} {A : GH} {T : List (List Int)} {fs : GH} (hA : A.length = m)
include hA
end
end VL

/-! Q20: in, by data; what the walk over a table meets. -/
namespace VL
open PySem L2
def oInD (neg : Bool) (d e : D) (G : GH) : Out D := match toP G 16 d, toP G 16 e with
  | some p, some (.list ps) => if (SeqAt.shaped p && SeqAt.shaped (.list ps)) = true then .ok (.bl (if neg = true then !ps.any fun z => PyData.eqv z p else ps.any fun z => PyData.eqv z p)) G else .stuck
  | _, _ => .stuck
/-! ### the walk, as places -/
/-- places looked at; where it ends: found, or not -/
def walkC (T : List (List Int)) (x : Int) : Nat → Nat → Nat → List (Nat × Nat) × Option (Nat × Nat)
  | 0, _, _ => ([], none)
  | _ + 1, _, 0 => ([], none)
  | f + 1, row, p + 1 => match T[row]? with
    | none => ([], none)
    | some r => if r.getD p 0 = x then ([(row, p)], some (row, p))
      else if x < r.getD p 0 then ((row, p) :: (walkC T x f row p).1, (walkC T x f row p).2)
      else ((row, p) :: (walkC T x f (row + 1) (p + 1)).1, (walkC T x f (row + 1) (p + 1)).2)
def optD : Option (Nat × Nat) → D
  | none => .non
  | some c => cD c
theorem steps_walk {T : List (List Int)} {x : Int} : ∀ (f row p : Nat), (stepsF T x f row p).1 = (walkC T x f row p).1.map cD ∧ (stepsF T x f row p).2 = optD (walkC T x f row p).2
  | 0, _, _ => ⟨rfl, rfl⟩
  | f + 1, row, 0 => ⟨rfl, rfl⟩
  | f + 1, row, p + 1 => by
    unfold stepsF walkC
    cases h : T[row]? with
    | none => exact ⟨rfl, rfl⟩
    | some r =>
      dsimp only
      split
      · exact ⟨rfl, rfl⟩
      · split
        · obtain ⟨h1, h2⟩ := steps_walk (T := T) (x := x) f row p
          exact ⟨by rw [h1]; rfl, h2⟩
        · obtain ⟨h1, h2⟩ := steps_walk (T := T) (x := x) f (row + 1) (p + 1)
          exact ⟨by rw [h1]; rfl, h2⟩
theorem walk_len {T : List (List Int)} {x : Int} : ∀ (f row p : Nat), (walkC T x f row p).1.length ≤ T.length - row + p - 1
  | 0, _, _ => by simp [walkC]
  | f + 1, row, 0 => by simp [walkC]
  | f + 1, row, p + 1 => by
    unfold walkC
    cases h : T[row]? with
    | none => simp
    | some r =>
      have hl := (List.getElem?_eq_some_iff.mp h).1
      have h1 := walk_len (T := T) (x := x) f row p
      have h2 := walk_len (T := T) (x := x) f (row + 1) (p + 1)
      dsimp only
      split
      · simp; omega
      · split
        · simp only [List.length_cons]
          cases p with
          | zero =>
            have : (walkC T x f row 0).1 = [] := by cases f <;> rfl
            rw [this]; simp; omega
          | succ p => omega
        · simp only [List.length_cons]
          by_cases h3 : row + 1 < T.length
          · omega
          · have : (walkC T x f (row + 1) (p + 1)).1 = [] := by
              cases f with
              | zero => rfl
              | succ f => unfold walkC; rw [List.getElem?_eq_none (by omega)]
            rw [this]; simp; omega
end VL

/-! Q21: the walk finds what is there; its turns are the stair; turned about it is the same. -/
namespace VL
open PySem L2
def Good (w : Nat) (T : List (List Int)) (x : Int) (L : List (Nat × Nat)) : Option (Nat × Nat) → Prop
  | some c => c.1 < T.length ∧ c.2 < w ∧ numT T c = x ∧ L[L.length - 1]? = some c
  | none => ∀ r c, r < T.length → c < w → numT T (r, c) ≠ x
/-! ### where it goes down -/
def dueF (T : List (List Int)) (x : Int) (d : List Int) (L : List (Nat × Nat)) : List Int := L.foldl (fun d c => if numT T c < x then d.set c.1 ((c.2 : Int) + 1) else d) d
/-! ### turned about and laid over -/
def otherT (w : Nat) (T : List (List Int)) : List (List Int) := overT w (aboutT T)
def flipC (n w : Nat) (c : Nat × Nat) : Nat × Nat := (w - 1 - c.2, n - 1 - c.1)
theorem walk_in {w : Nat} {T : List (List Int)} {x : Int} : ∀ (f row p : Nat), p ≤ w → ∀ c ∈ (walkC T x f row p).1, c.1 < T.length ∧ c.2 < w
  | 0, _, _, _ => by simp [walkC]
  | f + 1, row, 0, _ => by simp [walkC]
  | f + 1, row, p + 1, hp => by
    unfold walkC
    cases h : T[row]? with
    | none => simp
    | some r =>
      have hr := (List.getElem?_eq_some_iff.mp h).1
      have h1 := walk_in (w := w) (T := T) (x := x) f row p (by omega)
      have h2 := walk_in (w := w) (T := T) (x := x) f (row + 1) (p + 1) hp
      have h0 : ∀ {L : List (Nat × Nat)}, (∀ c ∈ L, c.1 < T.length ∧ c.2 < w) → ∀ c ∈ (row, p) :: L, c.1 < T.length ∧ c.2 < w := fun hL c hc => by
        rcases List.mem_cons.mp hc with rfl | hc
        · exact ⟨hr, by show p < w; omega⟩
        · exact hL c hc
      dsimp only
      split
      · exact h0 (by simp)
      · split
        · exact h0 h1
        · exact h0 h2
end VL

/-! Q22: tables of numbers that need not rise: is it one? -/
namespace VL
open PySem L2
structure Shape (w : Nat) (T : List (List Int)) : Prop where
  h1 : 1 ≤ T.length
  h6 : T.length ≤ 6
  w1 : 1 ≤ w
  w6 : w ≤ 6
  wide : ∀ r ∈ T, r.length = w
theorem Tab.shape {w : Nat} {T : List (List Int)} (h : Tab w T) : Shape w T := ⟨h.h1, h.h6, h.w1, h.w6, h.wide⟩
def falls (r : List Int) : List Nat := (List.range (r.length - 1)).filter fun i => decide (r.getD (i + 1) 0 < r.getD i 0)
def upB (r : List Int) : Bool := decide (falls r = [])
theorem upB_iff {r : List Int} : upB r = true ↔ Up r := by
  unfold upB falls
  rw [decide_eq_true_eq, List.filter_eq_nil_iff]
  constructor
  · intro h j x y hx hy
    have h2 := (List.getElem?_eq_some_iff.mp hy).1
    have := h j (List.mem_range.mpr (by omega))
    simp only [List.getD, hx, hy, Option.getD_some, decide_eq_true_eq] at this
    omega
  · intro h i hi
    have hi2 := List.mem_range.mp hi
    have a1 : i < r.length := by omega
    have a2 : i + 1 < r.length := by omega
    have := h i r[i] r[i + 1] (List.getElem?_eq_getElem a1) (List.getElem?_eq_getElem a2)
    simp only [List.getD, List.getElem?_eq_getElem a1, List.getElem?_eq_getElem a2, Option.getD_some, decide_eq_true_eq]
    omega
/-- rows rise, places rise -/
def rectB (w : Nat) (T : List (List Int)) : Bool := (T.all upB) && ((List.range w).all fun j => upB (colOf T j))
theorem rectB_iff {w : Nat} {T : List (List Int)} (hT : Shape w T) : rectB w T = true ↔ Tab w T := by
  unfold rectB
  rw [Bool.and_eq_true, List.all_eq_true, List.all_eq_true]
  constructor
  · rintro ⟨h1, h2⟩
    refine ⟨hT.h1, hT.h6, hT.w1, hT.w6, hT.wide, fun r hr => upB_iff.mp (h1 r hr), fun i a b ha hb j x y hx hy => ?_⟩
    have hj : j < w := by
      have := (List.getElem?_eq_some_iff.mp hx).1
      rw [hT.wide a (List.mem_of_getElem? ha)] at this
      exact this
    have hc := upB_iff.mp (h2 j (List.mem_range.mpr hj))
    refine hc i x y ?_ ?_
    · unfold colOf; rw [List.getElem?_map, ha]; simp [List.getD, hx]
    · unfold colOf; rw [List.getElem?_map, hb]; simp [List.getD, hy]
  · intro h
    exact ⟨fun r hr => upB_iff.mpr (h.right r hr), fun j hj => upB_iff.mpr (col_up h (List.mem_range.mp hj))⟩
end VL

/-! Q23: a table with one number otherwise, a part of a table; a copy of a table in cells. -/
namespace VL
open PySem L2
def spoil (T : List (List Int)) (i j : Nat) (v : Int) : List (List Int) := T.set i ((T.getD i []).set j v)
/-- all from a cell on -/
def partT (T : List (List Int)) (i j : Nat) : List (List Int) := (T.drop i).map fun r => r.drop j
end VL

/-! Q24: a list cell within a list cell is frozen. -/
namespace VL
open PySem L2
/-- a cell is told in other words -/
theorem Sim.say {K : Frag} {mg : MG} {P F : Hp} {al : List Addr} {H : Hp} {G : GH} (S : Sim K mg P F al H G) {k : Nat} {a : Addr} {c : Cell} (ha : al[k]? = some a) (hc : CellOk K mg F al H a c) : Sim K mg P F al H (G.set k c) where
  sub := S.sub
  fr := S.fr
  dj := S.dj
  nd := S.nd
  len := by rw [List.length_set]; exact S.len
  thr := S.thr
  cell := fun j c' b hj hb => by
    by_cases h : k = j
    · subst h
      rw [ha] at hb; cases hb
      rw [List.getElem?_set_self (by rw [← S.len]; exact (List.getElem?_eq_some_iff.mp ha).1)] at hj
      cases hj
      exact hc
    · rw [List.getElem?_set_ne h] at hj
      exact S.cell j c' b hj hb
/-- the list at place j of the list at slot i is frozen -/
def sFrzE (i j : Nat) (g : S) : S := fun rh G => match rh[i]? with
  | some (some (.loc c)) => match G[c]? with
    | some (.lst xs) => match xs[j]? with
      | some (.loc k) => match (G.set k .dead)[c]?, G[k]? with
        | some (.lst xs'), some (.lst ys) => g rh ((G.set k .dead).set c (.lst (xs'.set j (.lst ys))))
        | _, _ => .stuck
      | _ => .stuck
    | _ => .stuck
  | _ => .stuck
/-- a comprehension whose elements change the cells, by an invariant -/
theorem lcS_inv {t : T1} {tt : M Bool} {te : M D} {rw_ : DEnv} {at_ : GH → Nat → Option (Option D)} {L : List D} (hat : ∀ G i, at_ G i = some L[i]?) (I : Nat → List D → GH → Prop)
    (step : ∀ i x acc G, L[i]? = some x → I i acc G → ∃ rh2, t x rw_ G = some rh2 ∧ (tt rh2 G).P (fun b G1 => if b = true then (te rh2 G1).P (fun d G2 => I (i + 1) (acc ++ [d]) G2) X0 else I (i + 1) acc G1) X0) :
    ∀ (m i fuel : Nat) (acc : List D) (G : GH), L.length - i = m → i ≤ L.length → m ≤ fuel → acc.length ≤ i → L.length ≤ sizeLine → I i acc G → (lcS at_ t tt te rw_ fuel i acc G).P (fun ds G2 => ds.length ≤ L.length ∧ I L.length ds G2) X0 := by
  intro m
  induction m with
  | zero =>
    intro i fuel acc G hm hi hf ha hs hI
    have e : i = L.length := by omega
    subst e
    have hn : L[L.length]? = none := List.getElem?_eq_none (Nat.le_refl _)
    cases fuel with
    | zero => unfold lcS; rw [hat, hn]; exact ⟨ha, hI⟩
    | succ n => unfold lcS; rw [hat, hn]; exact ⟨ha, hI⟩
  | succ m ih =>
    intro i fuel acc G hm hi hf ha hs hI
    have hl : i < L.length := by omega
    obtain ⟨rh2, e1, e2⟩ := step i L[i] acc G (List.getElem?_eq_getElem hl) hI
    cases fuel with
    | zero => omega
    | succ n =>
      unfold lcS
      rw [hat, List.getElem?_eq_getElem hl]
      dsimp only
      rw [e1]
      dsimp only
      obtain ⟨b, G1, e3, e4⟩ := e2.ok
      rw [e3]
      cases b with
      | true =>
        dsimp only
        rw [if_pos rfl] at e4
        obtain ⟨d, G2, e5, e6⟩ := e4.ok
        rw [e5]
        dsimp only
        rw [if_pos (by omega)]
        exact ih (i + 1) n _ G2 (by omega) hl (by omega) (by rw [List.length_append]; simp; omega) hs e6
      | false =>
        dsimp only
        rw [if_neg Bool.false_ne_true] at e4
        exact ih (i + 1) n _ G1 (by omega) hl (by omega) (by omega) hs e4
theorem lc_inv {cm : Bool} {vs : List Nat} {m : M Src} {t : T1} {tt : M Bool} {te : M D} {rh : DEnv} {G : GH} {s : Src} {L : List D} {q : D → GH → Prop} {X : Str → GH → Prop} (hm : m rh G = .ok s G) (hat : ∀ G i, s.at_ G i = some L[i]?) (hf : L.length ≤ s.fuel) (hs : L.length ≤ sizeLine) (I : Nat → List D → GH → Prop) (h0 : I 0 [] G)
    (step : ∀ i x acc G, L[i]? = some x → I i acc G → ∃ rh2, t x (wipeD rh vs) G = some rh2 ∧ (tt rh2 G).P (fun b G1 => if b = true then (te rh2 G1).P (fun d G2 => I (i + 1) (acc ++ [d]) G2) X0 else I (i + 1) acc G1) X0)
    (k : ∀ acc G, acc.length ≤ L.length → I L.length acc G → (mk cm acc G).P q X) : (mLc cm vs m t tt te rh G).P q X := by
  unfold mLc
  rw [hm]
  show ((lcS s.at_ t tt te (wipeD rh vs) s.fuel 0 [] G).bind fun ds G2 => mk cm ds G2).P q X
  refine e_bind ((lcS_inv hat I step (L.length - 0) 0 s.fuel [] G rfl (Nat.zero_le _) (by omega) (Nat.le_refl _) hs h0).imp (fun ds G2 z => k ds G2 z.1 z.2) fun _ _ z => z.elim)
/-! ### lists of ints by place -/
abbrev lk (l : List Int) (i : Nat) : Int := l.getD i 0
theorem lk_get {l : List Int} {i : Nat} (h : i < l.length) : l[i]? = some (lk l i) := by
  unfold lk; rw [List.getD_eq_getElem?_getD, List.getElem?_eq_getElem h]; rfl
theorem lk_of {l : List Int} {i : Nat} {x : Int} (h : l[i]? = some x) : lk l i = x := by
  unfold lk; rw [List.getD_eq_getElem?_getD, h]; rfl
theorem lk_mk {f : Nat → Int} {r i : Nat} (h : i < r) : lk ((List.range r).map f) i = f i := lk_of (by rw [List.getElem?_map, List.getElem?_range h]; rfl)
theorem lk_mem {l : List Int} {x : Int} (h : x ∈ l) : ∃ i, i < l.length ∧ lk l i = x := by
  obtain ⟨i, hi⟩ := List.mem_iff_getElem?.mp h
  exact ⟨i, (List.getElem?_eq_some_iff.mp hi).1, lk_of hi⟩
end VL

/-! Q25: slices of tuples; how many unlike tuples there are. -/
namespace VL
open PySem L2
/-- t[lo:hi] of a tuple, not the whole of it -/
def oSlT (d : D) (lo hi : Option Int) (G : GH) : Out D := match d with
  | .tup xs => if HT.sIx xs.length 0 lo = 0 ∧ HT.sIx xs.length xs.length hi = xs.length then .stuck else .ok (.tup (cutD xs lo hi)) G
  | _ => .stuck
/-! ### len(set(xs)), xs a list of tuples of ints, each another one -/
section
variable {X : Cx}
/-- what is wanted of the list -/
def tUnlike (K : Frag) (ta : TE) : TE := fun sg H Q => ta sg H fun x H1 => ∃ (l : Addr) (ks : List (Addr × List Int)), x = V.ref l ∧ SqL K H1 l (ks.map fun p => V.ref p.1) ∧ (∀ p ∈ ks, SqT K H1 p.1 (p.2.map V.int)) ∧ ks.length < 64 ∧ (ks.map (·.2)).Nodup ∧ Q (.int (ks.length : Nat)) H1
end
def oUnlike (d : D) (G : GH) : Out D := match lstOf G d with
  | some xs => match mapO intsT xs with
    | some kss => if kss.Nodup ∧ kss.length < 64 then .ok (.int (kss.length : Nat)) G else .stuck
    | none => .stuck
  | none => .stuck
end VL

/-! Q26: the whole order: what is merged as triples, cells in order, turned tables' order. -/
namespace VL
open PySem L2
/-- a pair ahead of another one -/
def ltC (c d : Nat × Nat) : Prop := c.1 < d.1 ∨ (c.1 = d.1 ∧ c.2 < d.2)
def invD : D → Tri
  | .tup [.int a, .int b, .int c] => (a, b.toNat, c.toNat)
  | _ => (0, 0, 0)
/-- what is merged, as triples -/
def mrg (T : List (List Int)) : List Tri := (mergedT T).map invD
end VL

/-! Q27: try .. except X as e: name = e: the exception is kept as a value. -/
namespace VL
open PySem PySem.Spec PyProof.Rows L2
section
variable {X : Cx} {pins : List (Addr × Obj)} {st : L2.St} {H : Hp} {s : Shared}
/-- an object that stands pinned is tracked from now on -/
theorem track {a : Addr} {ob : Obj} {o : HO} (I : Inv X ((a, ob) :: pins) st H s) (new0 : X.s_0.heap.get? a = none) (apart : ∀ p ∈ X.pn ++ pins, p.1 ≠ a) (ok : ObjOk X.prog X.w (upd H a o) s.heap a o) : Inv X pins st (upd H a o) s := by
  obtain ⟨gt, un, nl, nf, nc⟩ := I.pin (a, ob) (List.mem_append_right _ List.mem_cons_self)
  have far : ∀ b u, X.s_0.heap.get? b = some u → b ≠ a := fun b u e z => by rw [z, new0] at e; cases e
  have not : ∀ b u, H b = some u → b ≠ a := fun b u e z => by rw [z] at e; exact absurd (e.symm.trans un) (by simp)
  exact {
    ok := I.ok
    os := I.os
    bare := I.bare
    base := {
      keep := I.base.keep
      slot := I.base.slot
      free := fun b u e n x => by rw [upd_ne (far b u e)]; exact I.base.free b u e n x
      there := I.base.there
      tups := fun b xs e => by rw [upd_ne (not _ _ (I.base.tups b xs e))]; exact I.base.tups b xs e
      frzs := fun b u v e => by rw [upd_ne (not _ _ (I.base.frzs b u v e))]; exact I.base.frzs b u v e
      tbls := fun b ps e => by
        obtain ⟨m, q⟩ := I.base.tbls b ps e
        exact ⟨m, by rw [upd_ne (not _ _ q)]; exact q⟩ }
    loc := I.loc
    cell := I.cell
    free := by rw [upd_ne (Ne.symm nl)]; exact I.free
    freeC := fun y c e => by
      have z : c ≠ a := fun z => by
        obtain ⟨v, oc, hc, hd⟩ := I.cell y c e
        rw [z] at hc
        have q : some ob = some oc := gt.symm.trans hc
        cases q
        exact nc v hd
      rw [upd_ne z]; exact I.freeC y c e
    pin := fun p hp => by
      have hp2 : p ∈ X.pn ++ (a, ob) :: pins := by
        rcases List.mem_append.mp hp with h | h
        · exact List.mem_append_left _ h
        · exact List.mem_append_right _ (List.mem_cons_of_mem _ h)
      obtain ⟨q1, q2, q3⟩ := I.pin p hp2
      exact ⟨q1, by rw [upd_ne (apart p hp)]; exact q2, q3⟩
    hok := HOk.laidN I.hok (fun _ _ e => e) un ok
    len := I.len }
end
/-- the suite's ends: it runs on alone -/
def onlyNx (k : L2.St → Hp → Prop) : Ends := { nx := k, rt := fun _ _ => False, bk := fun _ _ => False, ct := fun _ _ => False }
/-- what is wanted of what the body raises: each is caught, and kept -/
def wKeep (K : Frag) (cls : Value) (i : Nat) (ts : Addr → TS) (D : Ends) : WX := fun c d st H => ∃ C, c = .ref C ∧ d = none ∧ PySem.W.exmOne K c cls = some true ∧
  ∀ a, H a = none → ts a (onlyNx fun st' H' => H' a = none → D.nx (st'.set i none) (upd H' a (ExV C a))) (st.set i (some (.ref a))) H
section
variable {X : Cx} {x n : Str} {cls : Value} {i : Nat} {body suite : List Stmt} {b0 : Stmt} {np pos pos' : Pos} {tb : WX → TS} {ts : Addr → TS}
end
end VL

/-! Q28: defs that are run with no repr under way; the law's call for such a def. -/
namespace VL
open PySem PySem.Spec PyProof.Rows L2
/-- a def's promise where no repr is under way -/
structure FnG (P : Program) (w : World) (K : Frag) (mg : MG) (base : Heap) (CX : CXT) (k : Nat) (f : Addr) (fd : FuncData) (ps : List Str) (sp : Sp) : Prop where
  many : ∀ vs H Q E, sp vs H Q E → vs.length = ps.length
  goes : ∀ (A : Around) (outer : List Env) (s : Shared) (H : Hp) (args : Args) (us : List Value) (vs : List V) (Q : VK) (E : XK), Room k A → A.guards = some [] → Env0 P w K mg base A outer s H → BindsTo s fd args (ps.zip us) → Vals vs us → sp vs H Q E →
    codeAny (model P w) A (.call (.ref f) args) (CR CX outer P w H s Q E) s
theorem FnG.mono {P : Program} {w : World} {K : Frag} {mg : MG} {base : Heap} {CX : CXT} {j k : Nat} {f : Addr} {fd : FuncData} {ps : List Str} {sp : Sp} (F : FnG P w K mg base CX j f fd ps sp) (h : j ≤ k) : FnG P w K mg base CX k f fd ps sp :=
  ⟨F.many, fun A outer s H args us vs Q E r => F.goes A outer s H args us vs Q E (r.mono h)⟩
theorem FnG.of {P : Program} {w : World} {K : Frag} {mg : MG} {base : Heap} {CX : CXT} {k : Nat} {f : Addr} {fd : FuncData} {ps : List Str} {sp : Sp} (F : FnOk P w K mg base CX k f fd ps sp) : FnG P w K mg base CX k f fd ps sp :=
  ⟨F.len, fun A outer s H args us vs Q E r _ => F.run A outer s H args us vs Q E r⟩
/-- the def of that name is worth mf where no repr is under way -/
def OkG (Pr : Program) (w : World) (K : Frag) (mg : MG) (base : Heap) (lv : Nat) (x : Str) (n : Nat) (mf : MF) : Prop :=
  ∃ (f : Addr) (fd : FuncData) (ps : List Str), mg x = some (.ref f) ∧ PySem.W.keepIn K (.ref f) = true ∧ Binds K fd ps [] ∧ ps.length = n ∧ FnG Pr w K mg base (L2.CX Pr w) lv f fd ps (spD K mg n mf)
section
variable {X : Cx} {W : WX} {k : Nat} {f : Addr} {fd : FuncData} {ps : List Str}
end
/-! ### the law's own call -/
section
variable {P : Program} {w : World} {K : Frag} {mg mb : MG} {CX : CXT} {k : Nat} {fa a : Addr} {fd : FuncData} {x : Str} {sp : Sp} {s0 : Shared} {vs : List Value} {ns : List Int}
end
end VL

/-! Q29: repr of data; isinstance of a kept exception; the head's facts about exception classes; try that keeps, on data. -/
namespace VL
open PySem PySem.Spec PyProof.Rows L2
/-! ### what the head must say besides -/
/-- the table of modules stands in K: a dict -/
def sysB (K : Frag) : Bool := match K.lookup sysModules with
  | some o => decide (o.cls = .type "dict")
  | none => false
theorem sys_far {K : Frag} {h : Heap} (k : sysB K = true) (X : K.In h) {a : Addr} {o : Obj} (e : h.get? a = some o) (c : o.cls = .type "list") : a ≠ sysModules := by
  rintro rfl
  unfold sysB at k
  split at k
  · rename_i u q
    have z := (X _ _ q).symm.trans e
    cases z
    rw [c] at k
    exact absurd (of_decide_eq_true k) (by decide)
  · cases k
/-- an exception class that isinstance asks rightly -/
def excB (K : Frag) (C : Addr) : Bool := decide (PySem.W.findIn K (.ref C) "__getattribute__" = some (some (.builtin "BaseException.__getattribute__"))) && (decide (PySem.W.findIn K (.ref C) "__getattr__" = some none) && (decide (PySem.W.subIn K (.ref C) (.type "BaseException") = some true) && (PySem.W.hasDictIn K C &&
  (decide (PySem.W.findIn K (.ref C) "__class__" = some (some (.builtin "object.__class__"))) && (decide (PySem.W.specialIn K (.builtin "object.__class__") "__get__" = some (some (.builtin "getset_descriptor.__get__"))) && (decide (PySem.W.takesIn K (.builtin "object.__class__") = some true) && decide (PySem.W.mroIn K C (.type "object") = some true)))))))
theorem excB_ok {K : Frag} {C : Addr} (h : excB K C = true) : ExcC K C := by
  unfold excB at h
  simp only [Bool.and_eq_true, decide_eq_true_eq] at h
  obtain ⟨h1, h2, h3, h4, h5, h6, h7, h8⟩ := h
  exact ⟨h1, h2, h3, h4, h5, h6, h7, h8⟩
def chkX (es ys : List Str) (K : Frag) : Bool := sysB K && es.all fun e => (excB K (He.ga K e) && ((ys.all fun y => decide (PySem.W.kitOne K (.ref (He.ga K e)) (.ref (He.ga K y)) = some (decide (e = y)))) && (decide (PySem.W.kitOne K (.ref (He.ga K e)) (.type "ValueError") = some true) && decide (PySem.W.exmOne K (.ref (He.ga K e)) (.ref (He.ga K "SeekError")) = some true)))) && decide (PySem.W.exmOne K (.ref (He.ga K e)) (.ref (He.ga K e)) = some true)
theorem chk_exc {es ys : List Str} {K : Frag} (h : chkX es ys K = true) {e : Str} (he : e ∈ es) : ExcC K (He.ga K e) ∧ (∀ y ∈ ys, PySem.W.kitOne K (.ref (He.ga K e)) (.ref (He.ga K y)) = some (decide (e = y))) ∧ PySem.W.kitOne K (.ref (He.ga K e)) (.type "ValueError") = some true ∧ PySem.W.exmOne K (.ref (He.ga K e)) (.ref (He.ga K "SeekError")) = some true := by
  unfold chkX at h
  rw [Bool.and_eq_true] at h
  have q := List.all_eq_true.mp h.2 e he
  simp only [Bool.and_eq_true, decide_eq_true_eq] at q
  obtain ⟨⟨q1, q2, q3, q4⟩, _⟩ := q
  exact ⟨excB_ok q1, fun y hy => of_decide_eq_true (List.all_eq_true.mp q2 y hy), q3, q4⟩
abbrev AlX : Type := He.AlD × Bool
def fragX (n : Nat) (g : Addr → Option Obj) : Frag := He.frG g (sysModules :: He.asD g n)
def obsXG (n : Nat) (fa : List He.Fa) (fn : List He.DefD) (es ys : List Str) (g : Addr → Option Obj) : AlX := (He.obsD fa fn (fragX n g), chkX es ys (fragX n g))
def hookX (n : Nat) (fa : List He.Fa) (fn : List He.DefD) (es ys : List Str) : PySem.W.Hook where
  α := AlX
  obs := fun s => obsXG n fa fn es ys s.heap.get?
  val := fun _ => (He.valD fn, true)
  says := fun _ h => ∃ K : Frag, K.In h ∧ He.SaysD fa fn K ∧ chkX es ys K = true
  of := fun _ _ e => ⟨_, He.frG_in, (Prod.mk.inj e).1, (Prod.mk.inj e).2⟩
  keeps := fun _ _ _ ⟨K, hK, c, x⟩ k => ⟨K, PySem.W.Frag.In.keeps hK k, c, x⟩
/-- the facts of the head, with those of exception classes -/
structure TxtX (fa : List He.Fa) (fn : List He.DefD) (es ys : List Str) (K : Frag) (mg : MG) : Prop where
  t : TxtP fa fn K mg
  x : chkX es ys K = true
/-! ### repr -/
mutual
/-- v is worth the data d (dicts: the empty one alone) -/
inductive Dq (K : Frag) (H : Hp) : V → PyData → Prop
  | non : Dq K H .non .none
  | bl (b : Bool) : Dq K H (.bl b) (.bool b)
  | int (i : Int) : Dq K H (.int i) (.int i)
  | str (x : Str) : Dq K H (.str x) (.str x)
  | lst {a : Addr} {xs : List V} {ds : List PyData} : SqL K H a xs → DqAll K H xs ds → Dq K H (.ref a) (.list ds)
  | tup {a : Addr} {xs : List V} {ds : List PyData} : SqT K H a xs → DqAll K H xs ds → Dq K H (.ref a) (.tuple ds)
  | dct {a : Addr} : H a = some (.dK []) → Dq K H (.ref a) (.dict [])
inductive DqAll (K : Frag) (H : Hp) : List V → List PyData → Prop
  | nil : DqAll K H [] []
  | cons {v : V} {vs : List V} {d : PyData} {ds : List PyData} : Dq K H v d → DqAll K H vs ds → DqAll K H (v :: vs) (d :: ds)
end
section
variable {X : Cx} {pins : List (Addr × Obj)} {st : L2.St} {H : Hp} {s : Shared}
mutual
theorem Dq.reads (I : Inv X pins st H s) (k : sysB X.K = true) : ∀ (d : PyData) (v : V) (u : Value), Dq X.K H v d → RelV v u → ∃ as, Reads s.heap u d as ∧ sysModules ∉ as
  | .none, _, _, h, r => by cases h; cases r; exact ⟨_, .none, fun z => nomatch z⟩
  | .bool b, _, _, h, r => by cases h; cases r; exact ⟨_, .bool b, fun z => nomatch z⟩
  | .int i, _, _, h, r => by cases h; obtain ⟨t, rfl⟩ := r; exact ⟨_, .int i t, fun z => nomatch z⟩
  | .str x, _, _, h, r => by cases h; obtain ⟨t, rfl⟩ := r; exact ⟨_, .str x t, fun z => nomatch z⟩
  | .list ds, _, _, h, r => by
    cases h with
    | lst sq all_ =>
      cases r
      obtain ⟨its, rv, ⟨o, n, look, cls, _, data⟩, _⟩ := I.list sq
      obtain ⟨as, rd, far⟩ := DqAll.reads I k ds _ its all_ rv
      refine ⟨_, .list look cls data rd, fun z => ?_⟩
      rcases List.mem_cons.mp z with z | z
      · exact sys_far k I.kIn look cls z.symm
      · exact far z
  | .tuple ds, _, _, h, r => by
    cases h with
    | tup sq all_ =>
      cases r
      obtain ⟨its, rv, ⟨o, look, cls, n, data⟩, _⟩ := I.tuple sq
      obtain ⟨as, rd, far⟩ := DqAll.reads I k ds _ its all_ rv
      exact ⟨_, .tuple look cls data rd, far⟩
  | .dict kvs, _, _, h, r => by
    cases h with
    | dct at_ =>
      cases r
      obtain ⟨_, far, vs, kv, o, es, ep, look, ex, data, keys, prs, _⟩ := I.hok _ _ at_
      cases kv
      have e0 : es.toList = [] := by
        cases q : es.toList with
        | nil => rfl
        | cons y ys => rw [q] at prs; cases prs
      refine ⟨_, .dict look ex.1 data (kvs := []) (as := []) (bs := []) (by rw [e0]; exact .nil) (by rw [e0]; exact .nil), fun z => ?_⟩
      rw [List.append_nil, List.mem_singleton] at z
      rw [← z] at far
      exact absurd far (by simp)
theorem DqAll.reads (I : Inv X pins st H s) (k : sysB X.K = true) : ∀ (ds : List PyData) (vs : List V) (us : List Value), DqAll X.K H vs ds → Vals vs us → ∃ as, ReadsAll s.heap us ds as ∧ sysModules ∉ as
  | [], _, _, h, r => by cases h; cases r; exact ⟨_, .nil, fun z => nomatch z⟩
  | d :: ds, _, _, h, r => by
    cases h with
    | cons h1 h2 =>
      cases r with
      | cons r1 r2 =>
        obtain ⟨as, q1, f1⟩ := Dq.reads I k d _ _ h1 r1
        obtain ⟨bs, q2, f2⟩ := DqAll.reads I k ds _ _ h2 r2
        exact ⟨_, .cons q1 q2, fun z => (List.mem_append.mp z).elim f1 f2⟩
end
def rReprQ (K : Frag) : List V → Hp → VK → Prop := fun xs H Q => ∃ (v : V) (d : PyData), xs = [v] ∧ Dq K H v d ∧ d.showable = true ∧ d.shown.length ≤ sizeLine ∧ d.depth ≤ 60 ∧ Q (.str d.shown) H
end
/-- d as data, the empty dict too -/
def toR (G : GH) : Nat → D → Option PyData
  | 0, _ => none
  | n + 1, d => match d with
    | .non => some .none
    | .bl b => some (.bool b)
    | .int i => some (.int i)
    | .str x => some (.str x)
    | .lst xs => (mapO (toR G n) xs).map .list
    | .ro xs => (mapO (toR G n) xs).map .list
    | .tup xs => (mapO (toR G n) xs).map .tuple
    | .loc k => match G[k]? with
      | some (.lst xs) => (mapO (toR G n) xs).map .list
      | _ => none
    | .dct0 => some (.dict [])
    | .exc _ => none
    | .dkf _ => none
section
variable {K : Frag} {mg : MG} {P F : Hp} {al : List Addr} {H : Hp} {G : GH}
end
def isSeqD : D → Bool
  | .lst _ => true
  | .ro _ => true
  | .tup _ => true
  | .loc _ => true
  | .dct0 => true
  | _ => false
def oRepr (ds : List D) (G : GH) : Out D := match ds with
  | [d] => match toR G 16 d with
    | some p => if p.showable = true ∧ p.shown.length ≤ sizeLine ∧ p.depth ≤ 60 then .ok (.str p.shown) G else .stuck
    | none => .stuck
  | _ => .stuck
/-! ### isinstance(e, C), e a kept exception -/
/-- e of the class at D, asked for the class c -/
def rIsX (K : Frag) : List V → Hp → VK → Prop := fun xs H Q => ∃ (a D : Addr) (c : V) (cv : Value) (b : Bool), xs = [.ref a, c] ∧ ClsV c cv ∧ H a = some (ExV D a) ∧ ExcC K D ∧ PySem.W.kitOne K (.ref D) cv = some b ∧ Q (.bl b) H
theorem call_isX {X : Cx} : CallR X (.builtin "isinstance") (rIsX X.K) := by
  intro pins s st H xs us Q I r h
  obtain ⟨a, D, c, cv, b, rfl, cls, at_, ex, kit, q⟩ := h
  obtain ⟨u1, u2, rfl, r1, r2⟩ := vals2 r
  have same := cls.eq r2
  subst same
  cases (show u1 = Value.ref a from r1)
  obtain ⟨⟨oe, vs, look, zc, data⟩, _, _⟩ := I.hok a _ at_
  have inst : PySem.W.InstAt s.heap a oe D none := by
    obtain ⟨oc, od, odat, osl⟩ := oe
    obtain ⟨z1, z2⟩ := zc
    dsimp only at z1 z2 data
    subst z1 z2 data
    exact ⟨look, rfl, rfl, trivial⟩
  exact PySem.W.kia_one (PySem.W.handS_kitx_exc ex.hg ex.hk ex.hs ex.hd ex.ha ex.hn ex.ht ex.hm) I.kIn inst kit (fun z => nomatch z) fun tk => ⟨.bl b, H, I.tok tk, rfl, q⟩
/-- of an own class y -/
def oIsE (es : List Str) (y : Str) (d : D) (G : GH) : Out D := match d with
  | .exc e => if e ∈ es then .ok (.bl (decide (e = y))) G else .stuck
  | _ => .stuck
/-- of a class that all are -/
def oIsV (es : List Str) (d : D) (G : GH) : Out D := match d with
  | .exc e => if e ∈ es then .ok (.bl true) G else .stuck
  | _ => .stuck
section
variable {X : Cx} {W : WX} {a : Expr} {ma : M D} {pos : Pos}
theorem ve_isE {es ys : List Str} (chk : chkX es ys X.K = true) {x t : Str} {p p2 : Pos} (hy : t ∈ ys) (hg : Gl X x) (hm : X.mg x = none) (hv : bootBuiltins x = some (.builtin "isinstance")) (ht : Gl X t) (hmt : X.mg t = some (.ref (He.ga X.K t))) (ha : VE X W a ma)
    (hn : x ≠ ("__name__" : Str) := by decide) (hd : (x == ("__debug__" : Str)) = false := by decide) (hd2 : (t == ("__debug__" : Str)) = false := by decide)
    (he : starEach [a, .Name t p2] X.env = (false, eval a X.env) :: starEach [.Name t p2] X.env := by rfl) (he2 : starEach [.Name t p2] X.env = (false, eval (.Name t p2) X.env) :: starEach [] X.env := by rfl)
    (hpl : (backTo pos (starEach [.Name t p2] X.env)).any (·.1) = false := by rfl) : VE X W (.Call (.Name x p) [a, .Name t p2] [] pos) (b1 (oIsE es t) ma) :=
  pe_imp (pe_callB call_isX hg hm hv (pa_cons ha (pa_cons (pe_glob (v := .ref (He.ga X.K t)) ht hmt rfl hd2) pa_nil he2) he) hn hd he hpl) fun sg H Q ⟨P, F, al, G, rh, R, h1⟩ => ⟨P, F, al, G, rh, R, (step R.env h1).imp fun v H1 ⟨F1, al1, G1, d, _, R1, r1, h2⟩ => by
    unfold oIsE at h2
    split at h2
    · rename_i e
      split at h2
      · rename_i hin
        unfold RepV at r1
        obtain ⟨a1, rfl, k1⟩ := r1
        obtain ⟨q1, q2, _, _⟩ := chk_exc chk hin
        exact ⟨a1, _, .ref (He.ga X.K t), _, _, rfl, .own _, R1.sim.sub _ _ k1, q1, q2 t hy, obl_ok h2 R1.sim rfl⟩
      · exact h2.elim
    · exact h2.elim⟩
theorem ve_isV {es ys : List Str} (chk : chkX es ys X.K = true) {x t : Str} {p p2 : Pos} (hg : Gl X x) (hm : X.mg x = none) (hv : bootBuiltins x = some (.builtin "isinstance")) (ht : Gl X t) (hmt : X.mg t = none) (hvt : bootBuiltins t = some (.type "ValueError")) (ha : VE X W a ma)
    (hn : x ≠ ("__name__" : Str) := by decide) (hd : (x == ("__debug__" : Str)) = false := by decide) (hn2 : t ≠ ("__name__" : Str) := by decide) (hd2 : (t == ("__debug__" : Str)) = false := by decide)
    (he : starEach [a, .Name t p2] X.env = (false, eval a X.env) :: starEach [.Name t p2] X.env := by rfl) (he2 : starEach [.Name t p2] X.env = (false, eval (.Name t p2) X.env) :: starEach [] X.env := by rfl)
    (hpl : (backTo pos (starEach [.Name t p2] X.env)).any (·.1) = false := by rfl) : VE X W (.Call (.Name x p) [a, .Name t p2] [] pos) (b1 (oIsV es) ma) :=
  pe_imp (pe_callB call_isX hg hm hv (pa_cons ha (pa_cons (pe_bltn (v := .ty "ValueError") ht hmt hvt rfl hn2 hd2) pa_nil he2) he) hn hd he hpl) fun sg H Q ⟨P, F, al, G, rh, R, h1⟩ => ⟨P, F, al, G, rh, R, (step R.env h1).imp fun v H1 ⟨F1, al1, G1, d, _, R1, r1, h2⟩ => by
    unfold oIsV at h2
    split at h2
    · rename_i e
      split at h2
      · rename_i hin
        unfold RepV at r1
        obtain ⟨a1, rfl, k1⟩ := r1
        obtain ⟨q1, _, q3, _⟩ := chk_exc chk hin
        exact ⟨a1, _, .ty "ValueError", _, _, rfl, .ty _, R1.sim.sub _ _ k1, q1, q3, obl_ok h2 R1.sim rfl⟩
      · exact h2.elim
    · exact h2.elim⟩
end
theorem bb_ValueError : bootBuiltins "ValueError" = some (.type "ValueError") := by decide +kernel

/-! ### try .. except SeekError as e: name = e -/
def sKeep (es : List Str) (i j : Nat) (g : S) : S := fun rh G => match g rh G with
  | .exn c rh' G' => if c ∈ es ∧ i < rh'.length ∧ j < rh'.length then .nx ((rh'.set j (some (.exc c))).set i none) G' else .stuck
  | o => o
section
variable {X : Cx} {W : WX} {n m : Str} {i j : Nat} {body : List Stmt} {np np2 mp ap pos pos' : Pos} {g : S}
end
/-! ### {} -/
theorem ve_dct0 {X : Cx} {W : WX} {pos : Pos} : VE X W (.Dict [] [] pos) (mC .dct0) :=
  pe_imp pe_dnewK fun sg H Q ⟨P, F, al, G, rh, R, h⟩ => fun p hp => by
    refine h (upd F p (.dK [])) al _ _ ⟨Le.upd (R.sim.freeF hp), List.prefix_refl _⟩ (R.sim.newF hp _) ?_
    unfold RepV
    exact ⟨p, rfl, upd_same⟩
end VL

/-! Q30: small plain data; what is no table. -/
namespace VL
open PySem L2
/-- plain data, small, less than n deep -/
def plD : Nat → D → Bool
  | 0, _ => false
  | n + 1, d => match d with
    | .non => true
    | .bl _ => true
    | .int i => decide (i.natAbs < 10 ^ 60)
    | .str x => decide ((reprText x).length ≤ 400)
    | .lst xs => decide (xs.length ≤ 12) && xs.all (plD n)
    | .tup xs => decide (xs.length ≤ 12) && xs.all (plD n)
    | .dct0 => true
    | _ => false
/-- how long the text of such data is at most -/
def lenB : Nat → Nat
  | 0 => 0
  | n + 1 => max 400 (12 * (lenB n) + 27)
structure Shown (n : Nat) (p : PyData) : Prop where
  able : p.showable = true
  deep : p.depth ≤ n
  short : p.shown.length ≤ lenB n
structure ShownL (n : Nat) (ps : List PyData) : Prop where
  able : PyData.showableAll ps = true
  deep : PyData.depthAll ps ≤ n
  short : ((PyData.shownAll ps).map (·.length)).sum ≤ ps.length * lenB n
theorem ShownL.cons {n : Nat} {p : PyData} {ps : List PyData} (h : Shown n p) (t : ShownL n ps) : ShownL n (p :: ps) := by
  refine ⟨?_, ?_, ?_⟩
  · simp only [PyData.showableAll, Bool.and_eq_true]; exact ⟨h.able, t.able⟩
  · have := h.deep; have := t.deep
    simp only [PyData.depthAll]; omega
  · have := h.short; have := t.short
    simp only [PyData.shownAll, List.map_cons, List.sum_cons, List.length_cons, Nat.add_mul, Nat.one_mul]; omega
/-- one deeper, alone in its list -/
def Pl6 (d : D) : Prop := plD 5 d = true ∨ ∃ x, d = .lst [x] ∧ plD 5 x = true
structure Shown6 (n k : Nat) (p : PyData) : Prop where
  able : p.showable = true
  deep : p.depth ≤ n
  short : p.shown.length ≤ k
/-! ### what is no table -/
def NT (d : D) : Prop := ∀ (w : Nat) (T : List (List Int)), Tab w T → d ≠ tabD T
/-- row i otherwise -/
def rowX (T : List (List Int)) (i : Nat) (x : D) : D := .lst ((T.map rowD).set i x)
end VL

/-! Q31: all lists within a list cell are frozen. -/
namespace VL
open PySem L2
/-- the list at place j of the list at slot i is frozen, where there is one -/
def sFrzQ (i j : Nat) (g : S) : S := fun rh G => match rh[i]? with
  | some (some (.loc c)) => match G[c]? with
    | some (.lst xs) => match xs[j]? with
      | some (.loc k) => match (G.set k .dead)[c]?, G[k]? with
        | some (.lst xs'), some (.lst ys) => g rh ((G.set k .dead).set c (.lst (xs'.set j (.lst ys))))
        | _, _ => .stuck
      | _ => g rh G
    | _ => g rh G
  | _ => g rh G
def sFrzA (i : Nat) : Nat → S → S
  | 0, g => g
  | n + 1, g => sFrzQ i n (sFrzA i n g)
end VL

/-! Q32: small rules shared by the later laws. -/
namespace VL
open PySem L2
/-- what stands in the middle; returns as before -/
theorem P_midR {o : SOut} {N : DEnv → GH → Prop} {R : D → GH → Prop} {X : Str → DEnv → GH → Prop} (N1 : DEnv → GH → Prop) (h : o.P N1 R X) (k : ∀ rh G, N1 rh G → N rh G) : o.P N R X := h.imp k (fun _ _ z => z) fun _ _ _ z => z
end VL

/-! Q33: instances of own classes: fields, methods, made. -/
namespace VL
open PySem PySem.Spec PyProof.Rows L2
def putFD (f : Str) (d : D) : List (Str × D) → List (Str × D)
  | [] => [(f, d)]
  | (g, x) :: r => if g = f then (g, d) :: r else (g, x) :: putFD f d r
section
variable {K : Frag} {F : Hp} {al : List Addr} {f : Str}
theorem repF_put {d : D} {v : V} (r : RepV K F al d v) : ∀ {ds : List (Str × D)} {vs : List (Str × V)}, RepF K F al ds vs → RepF K F al (putFD f d ds) (putF f v vs)
  | [], vs, h => by
    unfold RepF at h
    subst h
    unfold putFD putF RepF
    exact ⟨v, [], rfl, r, by unfold RepF; rfl⟩
  | (g, x) :: ds, vs, h => by
    unfold RepF at h
    obtain ⟨u, q, rfl, h1, h2⟩ := h
    unfold putFD putF
    by_cases e : g = f
    · rw [if_pos e, if_pos e]
      unfold RepF
      exact ⟨v, q, rfl, r, h2⟩
    · rw [if_neg e, if_neg e]
      unfold RepF
      exact ⟨u, _, rfl, h1, repF_put r h2⟩
theorem repF_get : ∀ {ds : List (Str × D)} {vs : List (Str × V)}, RepF K F al ds vs → (∀ d, ds.lookup f = some d → ∃ v, vs.lookup f = some v ∧ RepV K F al d v) ∧ (ds.lookup f = none → vs.lookup f = none)
  | [], vs, h => by
    unfold RepF at h
    subst h
    exact ⟨fun d e => (nomatch e), fun _ => rfl⟩
  | (g, x) :: ds, vs, h => by
    unfold RepF at h
    obtain ⟨u, q, rfl, h1, h2⟩ := h
    obtain ⟨k1, k2⟩ := repF_get h2
    rw [List.lookup_cons, List.lookup_cons]
    cases e : (f == g) with
    | true => exact ⟨fun d e => ⟨u, rfl, by cases e; exact h1⟩, fun e => nomatch e⟩
    | false => exact ⟨k1, k2⟩
theorem repF_len : ∀ {ds : List (Str × D)} {vs : List (Str × V)}, RepF K F al ds vs → ds.length = vs.length
  | [], vs, h => by unfold RepF at h; subst h; rfl
  | (g, x) :: ds, vs, h => by
    unfold RepF at h
    obtain ⟨u, q, rfl, h1, h2⟩ := h
    rw [List.length_cons, List.length_cons, repF_len h2]
end
/-- the fields of the instance of class c -/
def insOf (c : Str) (d : D) (G : GH) : Option (Nat × List (Str × D)) := match d with
  | .loc k => match G[k]? with
    | some (.ins c' fs) => if c' = c then some (k, fs) else none
    | _ => none
  | _ => none
theorem ins_at {K : Frag} {mg : MG} {P F : Hp} {al : List Addr} {H : Hp} {G : GH} {c : Str} {d : D} {v : V} {k : Nat} {fs : List (Str × D)} {C : Addr} (hc : mg c = some (.ref C)) (S : Sim K mg P F al H G) (r : RepV K F al d v) (e : insOf c d G = some (k, fs)) :
    ∃ a dx fv, v = .ref a ∧ d = .loc k ∧ al[k]? = some a ∧ F a = none ∧ H a = some (.ins C dx fv) ∧ RepF K F al fs fv := by
  unfold insOf at e
  split at e
  · rename_i k'
    split at e
    · rename_i c' fs' e1
      split at e
      · rename_i ec
        subst ec
        cases e
        unfold RepV at r
        obtain ⟨p, q1, rfl⟩ := r
        obtain ⟨p', q2, hcell⟩ := S.at e1
        rw [q1] at q2
        cases q2
        obtain ⟨m0, C', dx, fv, m1, m2, m3⟩ := hcell
        rw [hc] at m1
        cases m1
        exact ⟨p, dx, fv, rfl, rfl, q1, m0, m2, m3⟩
      · cases e
    · cases e
  · cases e
def oFld (c f : Str) (d : D) (G : GH) : Out D := match insOf c d G with
  | some (_, fs) => match fs.lookup f with
    | some x => .ok x G
    | none => .stuck
  | none => .stuck
/-- o.f = e -/
def sFldS (c f : Str) (me mo : M D) : S := fun rh G => fromO (me rh G) rh fun x G1 => fromO (mo rh G1) rh fun d G2 => match insOf c d G2 with
  | some (k, fs) => if fs.length < 1000 then .nx rh (G2.set k (.ins c (putFD f x fs))) else .stuck
  | none => .stuck
/-- o.m(..) -/
def mMeth (c m : Str) (n : Nat) (mf : MF) (mo : M D) (ml : M (List D)) : M D := fun rh G => (mo rh G).bind fun d G1 => match insOf c d G1 with
  | some (_, fs) => if fs.lookup m = none then (ml rh G1).bind fun ds G2 => if ds.length + 1 = n then mf (d :: ds) G2 else .stuck else .stuck
  | none => .stuck
/-- C(..): what __init__ leaves -/
def madeO (k : Nat) : Out D → Out D
  | .ok .non G => .ok (.loc k) G
  | .ok _ _ => .stuck
  | .exn c G => .exn c G
  | .stuck => .stuck
def mMake (c : Str) (n : Nat) (mf : MF) (ml : M (List D)) : M D := b1 (fun ds G => if ds.length + 1 = n then madeO G.length (mf (.loc G.length :: ds) (G ++ [.ins c []])) else .stuck) ml
/-- the method of that name is worth mf -/
def OkM (Pr : Program) (w : World) (K : Frag) (mg : MG) (base : Heap) (lv : Nat) (c m : Str) (n : Nat) (mf : MF) : Prop :=
  ∃ (f : Addr) (fd : FuncData) (ps : List Str), mg c = some (.ref (He.ga K c)) ∧ Cls K (He.ga K c) ∧ Meth K (He.ga K c) m f ∧ Binds K fd ps [] ∧ ps.length = n ∧ FnOk Pr w K mg base (L2.CX Pr w) lv f fd ps (spD K mg n mf)
/-- the class is made by an __init__ that is worth mf -/
def OkI (Pr : Program) (w : World) (K : Frag) (mg : MG) (base : Heap) (lv : Nat) (c : Str) (n : Nat) (mf : MF) : Prop :=
  ∃ (f : Addr) (fd : FuncData) (ps : List Str), mg c = some (.ref (He.ga K c)) ∧ Mk K (He.ga K c) f ∧ Binds K fd ps [] ∧ ps.length = n ∧ FnOk Pr w K mg base (L2.CX Pr w) lv f fd ps (spD K mg n mf)
section
variable {X : Cx} {W : WX} {a o e value : Expr} {es : List Expr} {ma mo mv : M D} {ml : M (List D)} {pos apos pos' p : Pos} {c f m x : Str} {C : Addr}
theorem ve_fld (hc : X.mg c = some (.ref C)) (cl : Cls X.K C) (na : NoAttr X.K C f) (ha : VE X W a ma) (hb : attributeBase a f X.env (eval a X.env) = eval a X.env := by rfl) : VE X W (.Attribute a f pos) (b1 (oFld c f) ma) :=
  pe_imp (pe_fld ha hb) fun sg H Q ⟨P, F, al, G, rh, R, h⟩ => ⟨P, F, al, G, rh, R, (step R.env h).imp fun v H1 ⟨F1, al1, G1, d, _, R1, r1, h1⟩ => by
    unfold oFld at h1
    split at h1
    · rename_i k fs e
      split at h1
      · rename_i x ex
        obtain ⟨p, dx, fv, rfl, _, _, _, m2, m3⟩ := ins_at hc R1.sim r1 e
        obtain ⟨u, l1, l2⟩ := (repF_get m3).1 x ex
        exact ⟨p, C, dx, fv, u, rfl, m2, cl, na, l1, obl_ok h1 R1.sim l2⟩
      · exact h1.elim
    · exact h1.elim⟩
theorem vs_fld (hc : X.mg c = some (.ref C)) (cl : Cls X.K C) (na : NoAttr X.K C f) (hv : VE X W value mv) (ho : VE X W o mo) (hs : swapsWith value (some (.Attribute o f pos')) pos.line X.env = pure false := by rfl) : VS X W (.Assign [.Attribute o f pos'] value pos) (sFldS c f mv mo) :=
  ps_imp (ps_fld ho hv hs) fun E sg H ⟨P, F, al, G, rh, R, h⟩ => ⟨P, F, al, G, rh, R, (stepS R.env h).imp fun v H1 ⟨F1, al1, G1, d, _, R1, r1, h1⟩ => ⟨P, F1, al1, G1, rh, R1, (stepS R1.env h1).imp fun ov H2 ⟨F2, al2, G2, od, x2, R2, r2, h2⟩ => by
    split at h2
    · rename_i k fs e
      split at h2
      · rename_i hl
        obtain ⟨q, dx, fv, rfl, rfl, ek, m0, m2, m3⟩ := ins_at hc R2.sim r2 e
        refine ⟨q, C, dx, fv, rfl, m2, cl, na, by rw [← repF_len m3]; exact hl, ?_⟩
        exact h2 F2 al2 _ _ (Ext.refl _ _) ⟨R2.sim.setC ek m0 ⟨m0, C, dx, _, hc, upd_same, repF_put (r1.ext x2) m3⟩, R2.env⟩
      · exact h2.elim
    · exact h2.elim⟩⟩
theorem ve_meth {lv n : Nat} {mf : MF} (tk : Takes X W) (h : OkM X.prog X.w X.K X.mg X.base lv c m n mf) (hr : Room lv X.A) (ho : VE X W o mo) (ha : VA X W (e :: es) ml) {pl : Sem Bool}
    (hst : starEach (e :: es) X.env = (false, eval e X.env) :: starEach es X.env := by rfl) (hpl : (backTo pos (starEach es X.env)).any (·.1) = false := by rfl)
    (ht : eval (.Call (.Attribute o m apos) (e :: es) [] pos) X.env = (do
      let ov ← eval o X.env
      standAt apos.atName
      let (f, first) ← holding [ov] (getMethod ov m pl)
      callWith pos f first (backTo pos (starEach (e :: es) X.env)) (backToKw pos (keywordEach [] X.env))) := by rfl) : VE X W (.Call (.Attribute o m apos) (e :: es) [] pos) (mMeth c m n mf mo ml) := by
  obtain ⟨f, fd, ps, h1, h2, h3, h4, h5, h6⟩ := h
  constructor
  rintro pins s sg H Q I ⟨P, F, al, G, rh, R, h⟩
  refine PySem.W.methodCall_KW (pl := pl) (thn (ho.run pins s sg H _ I ⟨P, F, al, G, rh, R, step R.env h⟩) fun u s1 ⟨v, H1, I1, rx, F1, al1, G1, d, x1, R1, r1, q⟩ => ?_) ht
  split at q
  · rename_i k fs e0
    split at q
    · rename_i hl
      obtain ⟨b, dx, fv, rfl, _, _, _, m2, m3⟩ := ins_at h1 R1.sim r1 e0
      obtain rfl : u = Value.ref b := rx
      refine getmeth_ok I1 m2 h2 h3 ((repF_get m3).2 hl) ?_
      refine PySem.W.callWith_K (first := [.ref b]) (h₀ := X.base) I.ok.mod.kin h3.kp (thn (ha.run pos pins s1 sg H1 _ I1 ⟨P, F1, al1, G1, rh, R1, step R1.env q⟩) fun us s2 ⟨vs, H2, I2, r, F2, al2, G2, ds, x2, R2, r2, q2⟩ => ⟨I2.kIn, ?_⟩) hst hpl
      split at q2
      · rename_i hn
        exact run_fnS (us := .ref b :: us) (vs := .ref b :: vs) (E := WE W) h6 hr h4 (passAt tk sg) I2 (.cons rfl r) ⟨P, F2, al2, G2, d :: ds, R2.sim, RepL.cons (r1.ext x2) r2, hn, obl_call q2⟩
      · exact q2.elim
    · exact q.elim
  · exact q.elim
theorem ve_meth0 {lv n : Nat} {mf : MF} (tk : Takes X W) (h : OkM X.prog X.w X.K X.mg X.base lv c m n mf) (hr : Room lv X.A) (ho : VE X W o mo) {pl : Sem Bool}
    (ht : eval (.Call (.Attribute o m apos) [] [] pos) X.env = (do
      let ov ← eval o X.env
      standAt apos.atName
      let (f, first) ← holding [ov] (getMethod ov m pl)
      callWith pos f first (backTo pos (starEach [] X.env)) (backToKw pos (keywordEach [] X.env))) := by rfl) : VE X W (.Call (.Attribute o m apos) [] [] pos) (mMeth c m n mf mo mNil) := by
  obtain ⟨f, fd, ps, h1, h2, h3, h4, h5, h6⟩ := h
  constructor
  rintro pins s sg H Q I ⟨P, F, al, G, rh, R, h⟩
  refine PySem.W.methodCall_KW (pl := pl) (thn (ho.run pins s sg H _ I ⟨P, F, al, G, rh, R, step R.env h⟩) fun u s1 ⟨v, H1, I1, rx, F1, al1, G1, d, x1, R1, r1, q⟩ => ?_) ht
  split at q
  · rename_i k fs e0
    split at q
    · rename_i hl
      obtain ⟨b, dx, fv, rfl, _, _, _, m2, m3⟩ := ins_at h1 R1.sim r1 e0
      obtain rfl : u = Value.ref b := rx
      refine getmeth_ok I1 m2 h2 h3 ((repF_get m3).2 hl) ?_
      have q2 : Obl X.K X.mg P (RepV X.K) W sg F1 al1 (if ([] : List D).length + 1 = n then mf (d :: []) G1 else .stuck) Q := q
      split at q2
      · rename_i hn
        exact PySem.W.callWith_K0 (first := [.ref b]) I1.kIn h3.kp (run_fnS (us := [.ref b]) (vs := [.ref b]) (E := WE W) h6 hr h4 (passAt tk sg) I1 (.cons rfl .nil) ⟨P, F1, al1, G1, [d], R1.sim, RepL.cons r1 RepL.nil, hn, obl_call q2⟩)
      · exact q2.elim
    · exact q.elim
  · exact q.elim
/-- the new instance, then its __init__ -/
theorem run_makeS {lv n : Nat} {mf : MF} {pins : List (Addr × Obj)} {sg : L2.St} {H : Hp} {s : Shared} {Q : VK} {us : List Value} {vs : List V} {ds : List D} {P F : Hp} {al : List Addr} {G : GH} (tk : Takes X W) (hm : X.mg c = some (.ref C)) {fa : Addr} {fd : FuncData} {ps : List Str} (M : Mk X.K C fa)
    (Fk : FnOk X.prog X.w X.K X.mg X.base (L2.CX X.prog X.w) lv fa fd ps (spD X.K X.mg n mf)) (hr : Room (lv + 1) X.A) (hb : Binds X.K fd ps []) (I : Inv X pins sg H s) (r : Vals vs us) (S : Sim X.K X.mg P F al H G) (rl : RepL X.K F al ds vs) (hn : ds.length + 1 = n)
    (h : Obl X.K X.mg P (RepV X.K) W sg F al (madeO G.length (mf (.loc G.length :: ds) (G ++ [.ins c []]))) Q) :
    wpAny (model X.prog X.w) X.A (call (.ref C) us) (EP X pins sg Q) X.xe s := by
  have ne : s.heap.objs.size ≠ s.heap.objs.size + 1 := Nat.ne_of_lt (Nat.lt_succ_self _)
  have n1 : H (s.heap.objs.size + 1) = none := I.hok.fresh (Nat.le_succ _)
  have n0 : H s.heap.objs.size = none := I.hok.fresh (Nat.le_refl _)
  have I2 := Inv.made (C := C) I
  have S1 := S.junk n0 (.own (s.heap.objs.size + 1))
  have n2 : (upd H s.heap.objs.size (HO.own (s.heap.objs.size + 1))) (s.heap.objs.size + 1) = none := by rw [upd_ne (Ne.symm ne)]; exact n1
  have fn : F (s.heap.objs.size + 1) = none := S.freeF n1
  have S2 := S1.newC n2 (o := .ins C s.heap.objs.size []) (c := .ins c []) ⟨fn, C, s.heap.objs.size, [], hm, upd_same, by unfold RepF; rfl⟩
  have lk : (al ++ [s.heap.objs.size + 1])[G.length]? = some (s.heap.objs.size + 1) := by rw [← S.len, List.getElem?_append_right (Nat.le_refl _), Nat.sub_self]; rfl
  have r0 : RepV X.K F (al ++ [s.heap.objs.size + 1]) (.loc G.length) (.ref (s.heap.objs.size + 1)) := by unfold RepV; exact ⟨_, lk, rfl⟩
  have x0 : Ext F al F (al ++ [s.heap.objs.size + 1]) := ⟨Le.refl _, List.prefix_append _ _⟩
  have want : spD X.K X.mg n mf (.ref (s.heap.objs.size + 1) :: vs) (upd (upd H s.heap.objs.size (.own (s.heap.objs.size + 1))) (s.heap.objs.size + 1) (.ins C s.heap.objs.size [])) (fun v H2 => v = .non ∧ Q (.ref (s.heap.objs.size + 1)) H2) (WE W sg) := by
    refine ⟨P, F, al ++ [s.heap.objs.size + 1], _, .loc G.length :: ds, S2, RepL.cons r0 (rl.ext x0), hn, ?_⟩
    cases q : mf (.loc G.length :: ds) (G ++ [.ins c []]) with
    | ok d G' =>
      rw [q] at h
      cases d with
      | non =>
        intro F' al' H' v x Sx rv
        unfold RepV at rv
        refine ⟨rv, h F' al' H' _ (x0.trans x) Sx (r0.ext x)⟩
      | _ => exact h.elim
    | exn c' G' => rw [q] at h; exact fun F' al' H' C' x Sx m => h F' al' H' C' (x0.trans x) Sx m
    | stuck => rw [q] at h; exact h.elim
  have r2 : Vals (V.ref (s.heap.objs.size + 1) :: vs) (Value.ref (s.heap.objs.size + 1) :: us) := .cons rfl r
  have hl : (Value.ref (s.heap.objs.size + 1) :: us).length = ps.length := by
    have e := r2.length
    rw [Fk.len _ _ _ _ want] at e
    exact e.symm
  have b2 := hb _ (Value.ref (s.heap.objs.size + 1) :: us) I2.kIn (by rw [List.append_nil]; exact hl)
  rw [List.append_nil] at b2
  refine wpAny_call (make_map (f := fa) I.kIn M.makes M.init (beq_iff_eq.mp M.fn) (codeAny_mono (Fk.run _ X.stack _ _ ⟨Value.ref (s.heap.objs.size + 1) :: us, []⟩ (Value.ref (s.heap.objs.size + 1) :: us) _ _ (WE W sg) (hr.make C us [])
    (I2.env0.make C us []) b2 r2 want) fun r s' hq' => ?_))
  cases r with
  | error e => exact passAt tk sg pins _ _ e s' I2 hq'
  | ok fl =>
    cases fl with
    | ret u =>
      obtain ⟨v, H', I3, rv, ev, q3⟩ := I2.after hq'
      subst ev
      exact ⟨rv, ⟨V.ref (s.heap.objs.size + 1), H', I3, rfl, q3⟩⟩
    | next => exact False.elim hq'
    | brk => exact False.elim hq'
    | cont => exact False.elim hq'
theorem ve_make {lv n : Nat} {mf : MF} (tk : Takes X W) (h : OkI X.prog X.w X.K X.mg X.base lv c n mf) (hr : Room (lv + 1) X.A) (hg : Gl X c) (ha : VA X W (e :: es) ml) (hdb : (c == ("__debug__" : Str)) = false := by decide)
    (he : starEach (e :: es) X.env = (false, eval e X.env) :: starEach es X.env := by rfl) (hpl : (backTo pos (starEach es X.env)).any (·.1) = false := by rfl) : VE X W (.Call (.Name c p) (e :: es) [] pos) (mMake c n mf ml) := by
  obtain ⟨f, fd, ps, h1, h2, h3, h4, h5⟩ := h
  constructor
  rintro pins s sg H Q I ⟨P, F, al, G, rh, R, h⟩
  refine wpAny_Call_Name_kw (ld_glob I hg h1 ?_ hdb)
  refine PySem.W.callWith_K (h₀ := X.base) I.ok.mod.kin h2.kp (thn (ha.run pos pins s sg H _ I ⟨P, F, al, G, rh, R, step R.env h⟩) fun us s1 ⟨vs, H1, I1, r, F1, al1, G1, ds, x1, R1, r1, q⟩ => ⟨I1.kIn, ?_⟩) he hpl
  split at q
  · rename_i hn
    exact run_makeS tk h1 h2 h5 hr h3 I1 r R1.sim r1 hn q
  · exact q.elim
theorem ve_make0 {lv n : Nat} {mf : MF} (tk : Takes X W) (h : OkI X.prog X.w X.K X.mg X.base lv c n mf) (hr : Room (lv + 1) X.A) (hg : Gl X c) (hdb : (c == ("__debug__" : Str)) = false := by decide) : VE X W (.Call (.Name c p) [] [] pos) (mMake c n mf mNil) := by
  obtain ⟨f, fd, ps, h1, h2, h3, h4, h5⟩ := h
  constructor
  rintro pins s sg H Q I ⟨P, F, al, G, rh, R, h⟩
  refine wpAny_Call_Name_kw (ld_glob I hg h1 ?_ hdb)
  have q : Obl X.K X.mg P (RepV X.K) W sg F al (if ([] : List D).length + 1 = n then madeO G.length (mf (.loc G.length :: []) (G ++ [.ins c []])) else .stuck) Q := h
  split at q
  · rename_i hn
    exact PySem.W.callWith_K0 I.kIn h2.kp (run_makeS (us := []) tk h1 h2 h5 hr h3 I .nil R.sim RepL.nil hn q)
  · exact q.elim
end
/-! ### facts -/
section
variable {fa : List He.Fa} {fn : List He.DefD} {K : Frag} {mg : MG}
theorem TxtP.cls (T : TxtP fa fn K mg) (i : Nat) {x : Str} (h : fa[i]? = some (.cls x) := by rfl) : Cls K (He.ga K x) := by
  obtain ⟨hp, X, G, c⟩ := T
  exact He.cls_ok (c.fact i h)
theorem TxtP.noat (T : TxtP fa fn K mg) (i : Nat) {x f : Str} (h : fa[i]? = some (.noat x f) := by rfl) : NoAttr K (He.ga K x) f := by
  obtain ⟨hp, X, G, c⟩ := T
  exact He.noat_ok (c.fact i h)
theorem TxtP.meth (T : TxtP fa fn K mg) (i : Nat) {x m : Str} (h : fa[i]? = some (.meth x m) := by rfl) : Meth K (He.ga K x) m (He.ma K (He.ga K x) m) := by
  obtain ⟨hp, X, G, c⟩ := T
  exact He.meth_ok (c.fact i h)
theorem TxtP.mkr (T : TxtP fa fn K mg) (i : Nat) {x : Str} (h : fa[i]? = some (.mkr x) := by rfl) : Mk K (He.ga K x) (He.ma K (He.ga K x) "__init__") := by
  obtain ⟨hp, X, G, c⟩ := T
  exact He.mkr_ok (c.fact i h)
end
/-! ### rules -/
section
variable {q : D → GH → Prop} {X : Str → GH → Prop} {G : GH} {rh : DEnv}
theorem e_fld {c f : Str} {k : Nat} {fs : List (Str × D)} {x : D} (e : G[k]? = some (.ins c fs)) (hl : fs.lookup f = some x) (h : q x G) : (oFld c f (.loc k) G).P q X := by
  unfold oFld insOf
  dsimp only
  rw [e]
  dsimp only
  rw [if_pos rfl]
  dsimp only
  rw [hl]
  exact h
theorem e_meth {c m : Str} {n : Nat} {mf : MF} {mo : M D} {ml : M (List D)} (h : (mo rh G).P (fun d G1 => ∃ k fs, d = .loc k ∧ G1[k]? = some (.ins c fs) ∧ fs.lookup m = none ∧ (ml rh G1).P (fun ds G2 => ds.length + 1 = n ∧ (mf (.loc k :: ds) G2).P q X) X) X) : (mMeth c m n mf mo ml rh G).P q X := by
  unfold mMeth
  refine e_bind (h.imp (fun d G1 z => ?_) fun _ _ z => z)
  obtain ⟨k, fs, rfl, e, hl, z⟩ := z
  unfold insOf
  dsimp only
  rw [e]
  dsimp only
  rw [if_pos rfl]
  dsimp only
  rw [if_pos hl]
  refine e_bind (z.imp (fun ds G2 y => ?_) fun _ _ z => z)
  rw [if_pos y.1]
  exact y.2
theorem e_make {c : Str} {n : Nat} {mf : MF} {ml : M (List D)} (h : (ml rh G).P (fun ds G1 => ds.length + 1 = n ∧ (mf (.loc G1.length :: ds) (G1 ++ [.ins c []])).P (fun d G2 => d = .non ∧ q (.loc G1.length) G2) X) X) : (mMake c n mf ml rh G).P q X := by
  unfold mMake
  refine e_b1 (h.imp (fun ds G1 z => ?_) fun _ _ z => z)
  rw [if_pos z.1]
  have z2 := z.2
  revert z2
  generalize mf (.loc G1.length :: ds) (G1 ++ [.ins c []]) = o
  intro z2
  cases o with
  | ok d G2 =>
    obtain ⟨rfl, z3⟩ := z2
    exact z3
  | exn c G2 => exact z2
  | stuck => exact z2
theorem e_fldS {c f : Str} {me mo : M D} {N : DEnv → GH → Prop} {R : D → GH → Prop} {X : Str → DEnv → GH → Prop} (h : (me rh G).P (fun x G1 => (mo rh G1).P (fun d G2 => ∃ k fs, d = .loc k ∧ G2[k]? = some (.ins c fs) ∧ fs.length < 1000 ∧ N rh (G2.set k (.ins c (putFD f x fs)))) (fun c G' => X c rh G')) (fun c G' => X c rh G')) : (sFldS c f me mo rh G).P N R X := by
  unfold sFldS
  rw [P_fromO]
  refine h.imp (fun x G1 z => ?_) fun _ _ z => z
  rw [P_fromO]
  refine z.imp (fun d G2 y => ?_) fun _ _ z => z
  obtain ⟨k, fs, rfl, e, hl, y⟩ := y
  unfold insOf
  dsimp only
  rw [e]
  dsimp only
  rw [if_pos rfl]
  dsimp only
  rw [if_pos hl]
  exact y
end
end VL

/-! Q34: tables changed at a cell; a Keeper's cells. -/
namespace VL
open PySem L2
def setC (T : List (List Int)) (c : Nat × Nat) (x : Int) : List (List Int) := T.modify c.1 fun r => r.set c.2 x
theorem setC_len {T : List (List Int)} {c : Nat × Nat} {x : Int} : (setC T c x).length = T.length := by unfold setC; simp
theorem setC_get {T : List (List Int)} {c : Nat × Nat} {x : Int} {j : Nat} : (setC T c x)[j]? = (T[j]?).map fun r => if c.1 = j then r.set c.2 x else r := by
  unfold setC
  rw [List.getElem?_modify]
  rfl
/-- within the table -/
def InC (w : Nat) (T : List (List Int)) (c : Nat × Nat) : Prop := c.1 < T.length ∧ c.2 < w
theorem InC.at_ {w : Nat} {T : List (List Int)} {c : Nat × Nat} (h : InC w T c) (hT : ∀ r ∈ T, r.length = w) : ∃ r, T[c.1]? = some r ∧ r[c.2]? = some (numT T c) := by
  have h1 := List.getElem?_eq_getElem h.1
  have h2 := hT _ (List.getElem_mem h.1)
  have h3 : c.2 < (T[c.1]'h.1).length := by have := h.2; omega
  refine ⟨_, h1, ?_⟩
  unfold numT
  simp [List.getD, h.1, h3]
/-- it fits there -/
structure Fits (T : List (List Int)) (c : Nat × Nat) (x : Int) : Prop where
  left : 0 < c.2 → ∀ r y, T[c.1]? = some r → r[c.2 - 1]? = some y → y ≤ x
  up : 0 < c.1 → ∀ q y, T[c.1 - 1]? = some q → q[c.2]? = some y → y ≤ x
  right : ∀ r y, T[c.1]? = some r → r[c.2 + 1]? = some y → x ≤ y
  down : ∀ q y, T[c.1 + 1]? = some q → q[c.2]? = some y → x ≤ y
/-- the numbers to the left and above; to the right and below -/
def lowL (T : List (List Int)) (c : Nat × Nat) : List Int := (if 0 < c.2 then [numT T (c.1, c.2 - 1)] else []) ++ (if 0 < c.1 then [numT T (c.1 - 1, c.2)] else [])
def highL (w : Nat) (T : List (List Int)) (c : Nat × Nat) : List Int := (if c.2 + 1 < w then [numT T (c.1, c.2 + 1)] else []) ++ (if c.1 + 1 < T.length then [numT T (c.1 + 1, c.2)] else [])
def optMax (l : List Int) : D := if l = [] then .non else .int (maxL l)
def optMin (l : List Int) : D := if l = [] then .non else .int (minL l)
/-- a tower of changes that are undone, the last one first -/
abbrev Ent := (Nat × Nat) × Int
def HOk (w : Nat) : List (List Int) → List Ent → Prop
  | T, [] => Tab w T
  | T, e :: r => Tab w T ∧ InC w T e.1 ∧ HOk w (setC T e.1 e.2) r
theorem HOk.tab {w : Nat} {T : List (List Int)} {h : List Ent} (k : HOk w T h) : Tab w T := by
  cases h with
  | nil => exact k
  | cons e r => exact k.1
def entD (e : Ent) : D := .tup [cD e.1, .int e.2]
def standD (h : List Ent) : List D := (h.map entD).reverse
/-! ### a Keeper's cells: it, its rows, its lines, its changes -/
structure KeepAt (n k : Nat) (G : GH) (T : List (List Int)) (h : List Ent) : Prop where
  tl : T.length = n
  ins : G[k]? = some (.ins "Keeper" [("lines", .loc (k + 1 + n)), ("stand", .loc (k + 2 + n))])
  row : ∀ (i : Nat) r, T[i]? = some r → G[k + 1 + i]? = some (.lst (r.map D.int))
  top : G[k + 1 + n]? = some (.lst ((List.range' (k + 1) n).map D.loc))
  std : G[k + 2 + n]? = some (.lst (standD h))
theorem locs_get {a n i : Nat} (h : i < n) : ((List.range' a n).map D.loc)[i]? = some (.loc (a + i)) := by
  rw [List.getElem?_map, List.getElem?_range' h]; simp
theorem KeepAt.tab {n k : Nat} {G : GH} {T : List (List Int)} {h : List Ent} (K : KeepAt n k G T h) : IsTab G (.loc (k + 1 + n)) T := ⟨(List.range' (k + 1) n).map D.loc, loc_lstO K.top, by rw [List.length_map, List.length_range', K.tl], fun i r hr => by
  have hi := (List.getElem?_eq_some_iff.mp hr).1
  exact ⟨.loc (k + 1 + i), locs_get (by rw [← K.tl]; exact hi), loc_lstO (K.row i r hr)⟩⟩
/-- the rest stands as before -/
structure Only (n k : Nat) (G G' : GH) : Prop where
  len : G'.length = G.length
  out : ∀ j : Nat, (j < k ∨ k + 2 + n < j) → G'[j]? = G[j]?
theorem Only.refl {n k : Nat} {G : GH} : Only n k G G := ⟨rfl, fun _ _ => rfl⟩
theorem Only.trans {n k : Nat} {G G' G'' : GH} (a : Only n k G G') (b : Only n k G' G'') : Only n k G G'' := ⟨b.len.trans a.len, fun j h => (b.out j h).trans (a.out j h)⟩
theorem Only.keeps {n k k2 : Nat} {G G' : GH} {T : List (List Int)} {h : List Ent} (o : Only n k G G') (K : KeepAt n k2 G T h) (d : k2 + 2 + n < k ∨ k + 2 + n < k2) : KeepAt n k2 G' T h := by
  refine ⟨K.tl, by rw [o.out _ (by omega)]; exact K.ins, fun i r hr => ?_, by rw [o.out _ (by omega)]; exact K.top, by rw [o.out _ (by omega)]; exact K.std⟩
  have hi := (List.getElem?_eq_some_iff.mp hr).1
  have := K.tl
  rw [o.out _ (by omega)]
  exact K.row i r hr
/-- names what stands below N alone -/
def Bel (N : Nat) (G : GH) : Prop := ∀ (j : Nat) c, G[j]? = some c → belC N c = true
theorem Bel.all {N : Nat} {G : GH} (h : Bel N G) : G.all (belC N) = true := List.all_eq_true.mpr fun c hc => by
  obtain ⟨j, hj⟩ := List.mem_iff_getElem?.mp hc
  exact h j c hj
theorem Bel.of {N : Nat} {G : GH} (h : G.all (belC N) = true) : Bel N G := fun j c hj => List.all_eq_true.mp h c (List.mem_of_getElem? hj)
theorem bel_stand {N : Nat} {h : List Ent} : belC N (.lst (standD h)) = true := by
  show (standD h).all (bel 8 N) = true
  unfold standD
  rw [List.all_reverse, List.all_map, List.all_eq_true]
  intro e _
  rfl
theorem KeepAt.bel {n k N : Nat} {G : GH} {T : List (List Int)} {h : List Ent} (K : KeepAt n k G T h) (hN : k + 2 + n < N) {j : Nat} {c : Cell} (h1 : k ≤ j) (h2 : j ≤ k + 2 + n) (hj : G[j]? = some c) : belC N c = true := by
  have tl := K.tl
  by_cases e0 : j = k
  · subst e0
    rw [K.ins] at hj
    cases hj
    have b1 : VL.bel 8 N (.loc (j + 1 + n)) = true := decide_eq_true (by omega)
    have b2 : VL.bel 8 N (.loc (j + 2 + n)) = true := decide_eq_true (by omega)
    show (VL.bel 8 N (.loc (j + 1 + n)) && (VL.bel 8 N (.loc (j + 2 + n)) && true)) = true
    rw [b1, b2]; rfl
  · by_cases e1 : j = k + 1 + n
    · subst e1
      rw [K.top] at hj
      cases hj
      show ((List.range' (k + 1) n).map D.loc).all (VL.bel 8 N) = true
      rw [List.all_map, List.all_eq_true]
      intro i hi
      obtain ⟨m, hm, rfl⟩ := List.mem_range'.mp hi
      exact decide_eq_true (by omega)
    · by_cases e2 : j = k + 2 + n
      · subst e2
        rw [K.std] at hj
        cases hj
        exact bel_stand
      · have hi : j - k - 1 < T.length := by omega
        have := K.row (j - k - 1) _ (List.getElem?_eq_getElem hi)
        rw [show k + 1 + (j - k - 1) = j by omega, hj] at this
        cases this
        show (List.map D.int _).all (VL.bel 8 N) = true
        rw [List.all_map, List.all_eq_true]
        intro x _
        rfl
theorem Only.bel {n k N : Nat} {G G' : GH} {T : List (List Int)} {h : List Ent} (o : Only n k G G') (b : Bel N G) (K : KeepAt n k G' T h) (hN : k + 2 + n < N) : Bel N G' := fun j c hj => by
  by_cases hd : j < k ∨ k + 2 + n < j
  · rw [o.out j hd] at hj
    exact b j c hj
  · exact K.bel hN (by omega) (by omega) hj
/-- as it is made -/
def keepC (k : Nat) (T : List (List Int)) (h : List Ent) : GH := .ins "Keeper" [("lines", .loc (k + 1 + T.length)), ("stand", .loc (k + 2 + T.length))] :: (T.map (fun r => Cell.lst (r.map D.int)) ++ [.lst ((List.range' (k + 1) T.length).map D.loc), .lst (standD h)])
/-- a cell's number is put there -/
theorem KeepAt.put {n k : Nat} {G : GH} {T : List (List Int)} {h : List Ent} (K : KeepAt n k G T h) {c : Nat × Nat} {x : Int} {r : List Int} (hr : T[c.1]? = some r) : KeepAt n k (G.set (k + 1 + c.1) (.lst ((r.set c.2 x).map D.int))) (setC T c x) h ∧ Only n k G (G.set (k + 1 + c.1) (.lst ((r.set c.2 x).map D.int))) := by
  have tl := K.tl
  have hc : c.1 < T.length := (List.getElem?_eq_some_iff.mp hr).1
  have hG : k + 1 + c.1 < G.length := (List.getElem?_eq_some_iff.mp (K.row c.1 r hr)).1
  refine ⟨⟨by rw [setC_len]; exact tl, by rw [List.getElem?_set_ne (by omega)]; exact K.ins, fun i q hq => ?_, by rw [List.getElem?_set_ne (by omega)]; exact K.top, by rw [List.getElem?_set_ne (by omega)]; exact K.std⟩, List.length_set, fun j hj => List.getElem?_set_ne (by omega)⟩
  rw [setC_get] at hq
  obtain ⟨q0, h0, rfl⟩ := Option.map_eq_some_iff.mp hq
  by_cases e : c.1 = i
  · subst e
    rw [if_pos rfl, List.getElem?_set_self hG]
    rw [hr] at h0
    cases h0
    rfl
  · rw [if_neg e, List.getElem?_set_ne (by omega)]
    exact K.row i q0 h0
theorem KeepAt.stand {n k : Nat} {G : GH} {T : List (List Int)} {h h' : List Ent} (K : KeepAt n k G T h) : KeepAt n k (G.set (k + 2 + n) (.lst (standD h'))) T h' ∧ Only n k G (G.set (k + 2 + n) (.lst (standD h'))) := by
  have tl := K.tl
  have hG : k + 2 + n < G.length := (List.getElem?_eq_some_iff.mp K.std).1
  refine ⟨⟨tl, by rw [List.getElem?_set_ne (by omega)]; exact K.ins, fun i q hq => ?_, by rw [List.getElem?_set_ne (by omega)]; exact K.top, List.getElem?_set_self hG⟩, List.length_set, fun j hj => List.getElem?_set_ne (by omega)⟩
  have hi := (List.getElem?_eq_some_iff.mp hq).1
  rw [List.getElem?_set_ne (by omega)]
  exact K.row i q hq
theorem KeepAt.append {n k : Nat} {G fs : GH} {T : List (List Int)} {h : List Ent} (K : KeepAt n k G T h) : KeepAt n k (G ++ fs) T h := by
  have g : ∀ {j : Nat} {c : Cell}, G[j]? = some c → (G ++ fs)[j]? = some c := fun {j c} e => by
    rw [List.getElem?_append_left (List.getElem?_eq_some_iff.mp e).1]; exact e
  exact ⟨K.tl, g K.ins, fun i r hr => g (K.row i r hr), g K.top, g K.std⟩
/-! ### slices by two -/
end VL

/-! Q35: range(a, b, -1). -/
namespace VL
open PySem L2
section
variable {X : Cx} {W : WX} {a b c : Expr}
def rngD (lo : Int) (n : Nat) : List D := (List.range n).map fun i => D.int (lo + (i : Nat) * (-1))
def oRng3 (ds : List D) (G : GH) : Out Src := match ds with
  | [.int i, .int j, .int (-1)] => if (-(2 ^ 62) ≤ i ∧ i < 2 ^ 62) ∧ -(2 ^ 62) ≤ j ∧ j < 2 ^ 62 then .ok (srcC (rngD i (i - j).toNat)) G else .stuck
  | _ => .stuck
end
/-! walked -/
section
variable {X : Str → GH → Prop} {G : GH}
end
end VL

/-! Q36: t[::-1] of a tuple. -/
namespace L2
open PySem PySem.Spec PyProof.Rows PySem.Builtin
section
variable {prog : Program} {w : World} {A : Around} {E : Value → Shared → Prop} {s : Shared}
end
section
variable {X : Cx}
def tRevT (K : PySem.W.Frag) (te : TE) : TE := fun σ H Q => te σ H fun x H1 => ∃ a xs, x = .ref a ∧ SqT K H1 a xs ∧ ∀ p, H1 p = none → Q (.ref p) (upd H1 p (.tup xs.reverse))
end
end L2
namespace VL
open PySem L2
section
variable {X : Cx} {W : WX} {a : Expr} {ma : M D} {pos : Pos}
def oRevT (d : D) (G : GH) : Out D := match d with
  | .tup xs => .ok (.tup xs.reverse) G
  | _ => .stuck
end
end VL

/-! Q37: dicts as cells: keys ints and texts (.dk), or tuples of tuples of ints (.dn). -/
namespace VL
open PySem PySem.Spec PyProof.Rows L2
/-! ### tables by keys -/
section
variable {κ : Type} [DecidableEq κ]
def dlk (kvs : List (κ × D)) (k : κ) : Option D := (kvs.find? fun p => decide (p.1 = k)).map (·.2)
def dpt (kvs : List (κ × D)) (k : κ) (d : D) : List (κ × D) := if (dlk kvs k).isSome = true then kvs.map (fun p => if p.1 = k then (p.1, d) else p) else kvs ++ [(k, d)]
theorem dlk_pos {p : κ × D} {r : List (κ × D)} {k : κ} (e : p.1 = k) : dlk (p :: r) k = some p.2 := by simp [dlk, List.find?_cons, e]
theorem dlk_neg {p : κ × D} {r : List (κ × D)} {k : κ} (e : ¬ p.1 = k) : dlk (p :: r) k = dlk r k := by simp [dlk, List.find?_cons, e]
theorem dlk_map (k j : κ) (d : D) : ∀ kvs : List (κ × D), dlk (kvs.map fun p => if p.1 = k then (p.1, d) else p) j = (dlk kvs j).map fun x => if j = k then d else x
  | [] => rfl
  | p :: r => by
    have ih := dlk_map k j d r
    rw [List.map_cons]
    by_cases e : p.1 = j
    · by_cases h : p.1 = k
      · rw [if_pos h, dlk_pos (p := (p.1, d)) e, dlk_pos e, Option.map_some, if_pos (e.symm.trans h)]
      · rw [if_neg h, dlk_pos e, dlk_pos e, Option.map_some, if_neg fun z => h (e.trans z)]
    · have e2 : ¬ (if p.1 = k then (p.1, d) else p).1 = j := by split <;> exact e
      rw [dlk_neg e2, dlk_neg e, ih]
theorem dlk_snoc (k j : κ) (d : D) : ∀ kvs : List (κ × D), dlk (kvs ++ [(k, d)]) j = match dlk kvs j with | some x => some x | none => if k = j then some d else none
  | [] => by
    by_cases e : k = j
    · rw [if_pos e]; exact dlk_pos (p := (k, d)) e
    · rw [if_neg e]; exact dlk_neg (p := (k, d)) e
  | p :: r => by
    rw [List.cons_append]
    by_cases e : p.1 = j
    · rw [dlk_pos e, dlk_pos e]
    · rw [dlk_neg e, dlk_neg e, dlk_snoc k j d r]
theorem dlk_pt (kvs : List (κ × D)) (k j : κ) (d : D) : dlk (dpt kvs k d) j = if j = k then some d else dlk kvs j := by
  unfold dpt
  cases h : dlk kvs k with
  | some x =>
    rw [if_pos (show (some x).isSome = true from rfl), dlk_map]
    by_cases e : j = k
    · subst e; rw [h, if_pos rfl]; simp
    · rw [if_neg e]; cases dlk kvs j <;> simp [e]
  | none =>
    rw [if_neg (by simp), dlk_snoc]
    by_cases e : j = k
    · subst e; rw [h, if_pos rfl]; try simp only [if_pos]
    · rw [if_neg e]
      have e' := Ne.symm e
      cases dlk kvs j with
      | some x => rfl
      | none => simp [Ne.symm e]
end
section
variable {K : Frag} {F : Hp} {al : List Addr}
/-! ### keys ints and texts -/
theorem repK_val : ∀ {ds : List (Key × D)} {vs : List (Key × V)} {k : Key}, RepK K F al ds vs → (∀ d, dlk ds k = some d → ∃ v, valV vs k = some v ∧ RepV K F al d v) ∧ (dlk ds k = none → valV vs k = none)
  | [], _, _, r => by unfold RepK at r; subst r; exact ⟨fun d e => (nomatch e), fun _ => rfl⟩
  | (n, d) :: ds, _, k, r => by
    unfold RepK at r
    obtain ⟨v, q, rfl, r1, r2⟩ := r
    obtain ⟨i1, i2⟩ := repK_val (k := k) r2
    by_cases e : n = k
    · rw [dlk_pos (p := (n, d)) e, valV_pos (p := (n, v)) e]
      exact ⟨fun d' z => ⟨v, rfl, by cases z; exact r1⟩, fun z => (nomatch z)⟩
    · rw [dlk_neg (p := (n, d)) e, valV_neg (p := (n, v)) e]
      exact ⟨i1, i2⟩
theorem repK_len : ∀ {ds : List (Key × D)} {vs : List (Key × V)}, RepK K F al ds vs → ds.length = vs.length
  | [], _, r => by unfold RepK at r; subst r; rfl
  | (n, d) :: ds, _, r => by
    unfold RepK at r
    obtain ⟨v, q, rfl, r1, r2⟩ := r
    rw [List.length_cons, List.length_cons, repK_len r2]
theorem repK_map {k : Key} {d : D} {v : V} (h : RepV K F al d v) : ∀ {ds : List (Key × D)} {vs : List (Key × V)}, RepK K F al ds vs → RepK K F al (ds.map fun p => if p.1 = k then (p.1, d) else p) (vs.map fun p => if p.1 = k then (p.1, v) else p)
  | [], _, r => by unfold RepK at r; subst r; unfold RepK; rfl
  | (n, x) :: ds, _, r => by
    unfold RepK at r
    obtain ⟨u, q, rfl, r1, r2⟩ := r
    rw [List.map_cons, List.map_cons]
    by_cases e : n = k
    · rw [if_pos e, if_pos e]; unfold RepK; exact ⟨v, _, rfl, h, repK_map h r2⟩
    · rw [if_neg e, if_neg e]; unfold RepK; exact ⟨u, _, rfl, r1, repK_map h r2⟩
theorem repK_snoc {k : Key} {d : D} {v : V} (h : RepV K F al d v) : ∀ {ds : List (Key × D)} {vs : List (Key × V)}, RepK K F al ds vs → RepK K F al (ds ++ [(k, d)]) (vs ++ [(k, v)])
  | [], _, r => by
    unfold RepK at r
    subst r
    rw [List.nil_append, List.nil_append]
    unfold RepK
    exact ⟨v, [], rfl, h, by unfold RepK; rfl⟩
  | (n, x) :: ds, _, r => by
    unfold RepK at r
    obtain ⟨u, q, rfl, r1, r2⟩ := r
    rw [List.cons_append, List.cons_append]
    unfold RepK
    exact ⟨u, _, rfl, r1, repK_snoc h r2⟩
theorem repK_put {ds : List (Key × D)} {vs : List (Key × V)} {k : Key} {d : D} {v : V} (r : RepK K F al ds vs) (h : RepV K F al d v) : RepK K F al (dpt ds k d) (putK vs k v) := by
  have e : (dlk ds k).isSome = (vs.any fun p => decide (p.1 = k)) := by
    rw [valV_any]
    obtain ⟨i1, i2⟩ := repK_val (k := k) r
    cases q : dlk ds k with
    | none => rw [i2 q]; rfl
    | some x => obtain ⟨u, e, _⟩ := i1 x q; rw [e]; rfl
  unfold dpt putK
  rw [e]
  split
  · exact repK_map h r
  · exact repK_snoc h r
/-! ### keys tuples of tuples of ints -/
theorem nkey_row {r q : List Int} (h : r.map NestedKey.num = q.map NestedKey.num) : r = q := by
  induction r generalizing q with
  | nil => cases q with
    | nil => rfl
    | cons _ _ => cases h
  | cons x r ih => cases q with
    | nil => cases h
    | cons y q => injection h with h1 h2; injection h1 with h1; rw [h1, ih h2]
theorem nkey_inj {a b : NK} (h : nkey a = nkey b) : a = b := by
  unfold nkey at h
  injection h with h
  induction a generalizing b with
  | nil => cases b with
    | nil => rfl
    | cons _ _ => cases h
  | cons x a ih => cases b with
    | nil => cases h
    | cons y b => injection h with h1 h2; injection h1 with h1; rw [nkey_row h1, ih h2]
theorem hashes_nums (w w' : World) : ∀ r : List Int, NestedKey.hashes w (r.map NestedKey.num) = NestedKey.hashes w' (r.map NestedKey.num)
  | [] => rfl
  | x :: r => by
    rw [List.map_cons]
    unfold NestedKey.hashes
    rw [hashes_nums w w' r]
    unfold NestedKey.hash
    rfl
theorem nkey_hash (w w' : World) (k : NK) : (nkey k).hash w = (nkey k).hash w' := by
  unfold nkey NestedKey.hash
  congr 2
  induction k with
  | nil => rfl
  | cons r k ih =>
    rw [List.map_cons]
    unfold NestedKey.hashes
    rw [ih]
    congr 1
    unfold NestedKey.hash
    rw [hashes_nums w w' r]
theorem depth_nums : ∀ r : List Int, NestedKey.depthAll (r.map NestedKey.num) = 0
  | [] => rfl
  | x :: r => by rw [List.map_cons]; unfold NestedKey.depthAll; rw [depth_nums r]; rfl
theorem nkey_depth (k : NK) : (nkey k).depth ≤ 8 := by
  have h : ∀ k : NK, NestedKey.depthAll (k.map fun r => NestedKey.tup (r.map .num)) ≤ 1 := fun k => by
    induction k with
    | nil => unfold NestedKey.depthAll; exact Nat.zero_le _
    | cons r k ih =>
      rw [List.map_cons]
      unfold NestedKey.depthAll
      have e : NestedKey.depth (.tup (r.map .num)) = 1 := by unfold NestedKey.depth; rw [depth_nums]
      rw [e]
      omega
  unfold nkey NestedKey.depth
  have := h k
  omega
section
variable {P : Program} {w : World} {H : Hp} {h : Heap}
theorem nums_all : ∀ {r : List Int} {us : List Value}, Vals (r.map V.int) us → NestedAll h (r.map .num) us
  | [], _, z => by cases z; exact .nil
  | x :: r, _, z => by
    rw [List.map_cons] at z
    cases z with
    | cons a t => obtain ⟨t0, e⟩ := a; subst e; exact .cons (.int _ _) (nums_all t)
theorem row_is (ok : L2.HOk P w H h) {c : Addr} {r : List Int} (e : H c = some (.tup (r.map V.int))) : NestedIs h (.tup (r.map .num)) (.ref c) := by
  obtain ⟨_, us, q, o, h1, h2, n, h3⟩ := ok c _ e
  exact .tup h1 h2 h3 (nums_all (by simpa using q))
theorem refs_all (ok : L2.HOk P w H h) : ∀ {k : NK} {bs : List Addr} {us : List Value}, bs.length = k.length → (∀ (j : Nat) (c : Addr) (r : List Int), bs[j]? = some c → k[j]? = some r → H c = some (.tup (r.map V.int))) → Vals (bs.map V.ref) us → NestedAll h (k.map fun r => .tup (r.map .num)) us
  | [], [], _, _, _, z => by cases z; exact .nil
  | [], _ :: _, _, l, _, _ => nomatch l
  | _ :: _, [], _, l, _, _ => nomatch l
  | r :: k, b :: bs, _, l, a, z => by
    rw [List.map_cons] at z
    cases z with
    | cons z t =>
      cases z
      exact .cons (row_is ok (a 0 b r rfl rfl)) (refs_all ok (Nat.succ.inj l) (fun j c q h1 h2 => a (j + 1) c q h1 h2) t)
theorem nest_is (ok : L2.HOk P w H h) {b : Addr} {k : NK} (e : NestAt H b k) : (nestedKind P w).is h (nkey k) b := by
  obtain ⟨bs, h1, h2, h3⟩ := e
  obtain ⟨_, us, q, o, e1, e2, n, e3⟩ := ok b _ h1
  exact ⟨.tup e1 e2 e3 (refs_all ok h2 h3 (by simpa using q)), nkey_depth k⟩
/-- the pairs by keys, in the model -/
abbrev NY := NestedKey × Addr × Value
def NPair : List (NK × Addr × V) → List NY → Prop := Paired fun x y => y.1 = nkey x.1 ∧ y.2.1 = x.2.1 ∧ RelV x.2.2 y.2.2
theorem npair_of (w : World) : ∀ {xs : List (NK × Addr × V)} {es : List DictEntry}, Paired (fun (x : NK × Addr × V) (e : DictEntry) => e.key = .ref x.2.1 ∧ RelV x.2.2 e.val ∧ ∀ w : World, e.hash = (nkey x.1).hash w) xs es →
    ∃ ys : List NY, NPair xs ys ∧ es = ys.map (entryOfKey (nestedKind P w))
  | _, _, .nil => ⟨[], .nil, rfl⟩
  | x :: xs, e :: es, .cons r t => by
    obtain ⟨ys, h1, h2⟩ := npair_of w t
    obtain ⟨r1, r2, r3⟩ := r
    refine ⟨(nkey x.1, x.2.1, e.val) :: ys, .cons ⟨rfl, rfl, r2⟩ h1, ?_⟩
    rw [List.map_cons, ← h2]
    congr 1
    obtain ⟨eh, ek, ev⟩ := e
    unfold entryOfKey
    have : eh = (nkey x.1).hash w := r3 w
    subst this
    have : ek = .ref x.2.1 := r1
    subst this
    rfl
theorem npair_back : ∀ {xs : List (NK × Addr × V)} {ys : List NY}, NPair xs ys → Paired (fun (x : NK × Addr × V) (e : DictEntry) => e.key = .ref x.2.1 ∧ RelV x.2.2 e.val ∧ ∀ w : World, e.hash = (nkey x.1).hash w) xs (ys.map (entryOfKey (nestedKind P w)))
  | _, _, .nil => .nil
  | _ :: _, y :: ys, .cons r t => by
    obtain ⟨r1, r2, r3⟩ := r
    refine .cons ⟨?_, r3, fun w' => ?_⟩ (npair_back t)
    · show Value.ref y.2.1 = _
      rw [r2]
    · show y.1.hash w = _
      rw [r1]; exact nkey_hash _ _ _
theorem npair_keys : ∀ {xs : List (NK × Addr × V)} {ys : List NY}, NPair xs ys → ys.map (·.1) = (xs.map (·.1)).map nkey
  | _, _, .nil => rfl
  | _ :: _, _ :: _, .cons r t => by rw [List.map_cons, List.map_cons, List.map_cons, npair_keys t, r.1]
theorem nodup_keys {ks : List NK} (h : ks.Nodup) : (ks.map nkey).Nodup := by
  induction ks with
  | nil => exact List.nodup_nil
  | cons k ks ih =>
    rw [List.nodup_cons] at h
    rw [List.map_cons, List.nodup_cons]
    refine ⟨fun m => ?_, ih h.2⟩
    obtain ⟨j, hj, e⟩ := List.mem_map.mp m
    rw [nkey_inj e] at hj
    exact h.1 hj
theorem dn_at (ok : L2.HOk P w H h) {a : Addr} {xs : List (NK × Addr × V)} (e : H a = some (DN a xs)) (hk : ∀ x ∈ xs, NestAt H x.2.1 x.1) : xs.length ≤ sizeLine ∧ (a == sysModules) = false ∧ (xs.map (·.1)).Nodup ∧ ∃ ys, NPair xs ys ∧ h.DictOfH (nestedKind P w) a ys := by
  obtain ⟨⟨h1, h2, h3, o, es, ep, e1, e2, e3, e4⟩, _⟩ := ok a _ e
  obtain ⟨ys, p, q⟩ := npair_of (P := P) w e4
  refine ⟨h1, h2, h3, ys, p, o, es, ep, e1, e2, e3, q, ?_, by rw [npair_keys p]; exact nodup_keys h3⟩
  have all : ∀ {l : List (NK × Addr × V)} {m : List NY}, NPair l m → (∀ x ∈ l, NestAt H x.2.1 x.1) → ∀ y ∈ m, (nestedKind P w).is h y.1 y.2.1 := by
    intro l m p
    induction p with
    | nil => intro _ y hy; exact nomatch hy
    | @cons x y l m r t ih =>
      intro a z hz
      rcases List.mem_cons.mp hz with rfl | hz
      · rw [r.1, r.2.1]; exact nest_is ok (a x List.mem_cons_self)
      · exact ih (fun u hu => a u (List.mem_cons_of_mem _ hu)) z hz
  exact all p hk
end
theorem repN_nest {ds : List (NK × D)} {xs : List (NK × Addr × V)} (r : RepN K F al ds xs) {H : Hp} (l : Le F H) : ∀ x ∈ xs, NestAt H x.2.1 x.1 := by
  induction r with
  | nil => intro x hx; exact nomatch hx
  | @cons d y ds xs z t ih =>
    intro x hx
    rcases List.mem_cons.mp hx with rfl | hx
    · exact z.2.1.mono l
    · exact ih x hx
theorem repN_val : ∀ {ds : List (NK × D)} {xs : List (NK × Addr × V)} {ys : List NY} {k : NK}, RepN K F al ds xs → NPair xs ys →
    (∀ d, dlk ds k = some d → ∃ p v, atKey ys (nkey k) = some p ∧ RelV v p.2 ∧ RepV K F al d v) ∧ (dlk ds k = none → atKey ys (nkey k) = none)
  | _, _, _, _, .nil, .nil => ⟨fun d e => (nomatch e), fun _ => rfl⟩
  | d :: ds, x :: xs, y :: ys, k, .cons r t, .cons r' t' => by
    obtain ⟨i1, i2⟩ := repN_val (k := k) t t'
    by_cases e : d.1 = k
    · have e2 : y.1 = nkey k := by rw [r'.1, ← r.1, e]
      have ha : atKey (y :: ys) (nkey k) = some y.2 := by simp [atKey, List.find?_cons, e2]
      rw [dlk_pos e, ha]
      exact ⟨fun d' z => ⟨y.2, x.2.2, rfl, r'.2.2, by cases z; exact r.2.2⟩, fun z => (nomatch z)⟩
    · have e2 : ¬ y.1 = nkey k := fun z => e (by rw [r'.1, ← r.1] at z; exact nkey_inj z)
      have ha : atKey (y :: ys) (nkey k) = atKey ys (nkey k) := by simp [atKey, List.find?_cons, e2]
      rw [dlk_neg e, ha]
      exact ⟨i1, i2⟩
/-- behind d[k] = v -/
theorem repN_map {k : NK} {d : D} {v : V} {u : Value} (h : RepV K F al d v) (hu : RelV v u) : ∀ {ds : List (NK × D)} {xs : List (NK × Addr × V)} {ys : List NY}, RepN K F al ds xs → NPair xs ys →
    ∃ xs', RepN K F al (ds.map fun p => if p.1 = k then (p.1, d) else p) xs' ∧ NPair xs' (ys.map (putAt (nkey k) u)) ∧ xs'.map (·.1) = xs.map (·.1)
  | _, _, _, .nil, .nil => ⟨[], .nil, .nil, rfl⟩
  | e :: ds, x :: xs, y :: ys, .cons r t, .cons r' t' => by
    obtain ⟨zs, h1, h2, h3⟩ := repN_map h hu t t'
    by_cases q : e.1 = k
    · refine ⟨(x.1, x.2.1, v) :: zs, ?_, ?_, by rw [List.map_cons, List.map_cons, h3]⟩
      · rw [List.map_cons, if_pos q]; exact .cons ⟨r.1, r.2.1, h⟩ h1
      · rw [List.map_cons]
        refine .cons ?_ h2
        have q2 : y.1 = nkey k := by rw [r'.1, ← r.1, q]
        unfold putAt
        rw [if_pos q2]
        exact ⟨r'.1, r'.2.1, hu⟩
    · refine ⟨x :: zs, ?_, ?_, by rw [List.map_cons, List.map_cons, h3]⟩
      · rw [List.map_cons, if_neg q]; exact .cons r h1
      · rw [List.map_cons]
        refine .cons ?_ h2
        have q2 : ¬ y.1 = nkey k := fun z => q (by rw [r'.1, ← r.1] at z; exact nkey_inj z)
        unfold putAt
        rw [if_neg q2]
        exact r'
theorem repN_put {k : NK} {b : Addr} {d : D} {v : V} {u : Value} {ds : List (NK × D)} {xs : List (NK × Addr × V)} {ys : List NY} (nd : (xs.map (·.1)).Nodup) (hb : NestAt F b k) (h : RepV K F al d v) (hu : RelV v u) (r : RepN K F al ds xs) (p : NPair xs ys) :
    ∃ xs', RepN K F al (dpt ds k d) xs' ∧ NPair xs' (storedH ys (nkey k) b u) ∧ (xs'.map (·.1)).Nodup ∧ xs'.length ≤ xs.length + 1 := by
  obtain ⟨i1, i2⟩ := repN_val (k := k) r p
  unfold dpt storedH
  cases q : dlk ds k with
  | some x =>
    obtain ⟨p0, _, e, _⟩ := i1 x q
    rw [e, if_pos (show (some x).isSome = true from rfl), if_pos (show (some p0).isSome = true from rfl)]
    obtain ⟨zs, h1, h2, h3⟩ := repN_map (k := k) h hu r p
    refine ⟨zs, h1, h2, by rw [h3]; exact nd, ?_⟩
    have := congrArg List.length h3
    rw [List.length_map, List.length_map] at this
    omega
  | none =>
    rw [i2 q, if_neg (by simp), if_neg (by simp)]
    refine ⟨xs ++ [(k, b, v)], Paired.snoc r ⟨rfl, hb, h⟩, Paired.snoc p ⟨rfl, rfl, hu⟩, ?_, by simp⟩
    rw [List.map_append, List.nodup_append]
    refine ⟨nd, by simp, fun x hx y hy e => ?_⟩
    have hy' : y = k := by simpa using hy
    subst hy'
    subst e
    have no : ∀ {ds : List (NK × D)} {xs : List (NK × Addr × V)}, RepN K F al ds xs → dlk ds x = none → x ∉ xs.map (·.1) := by
      intro ds xs r
      induction r with
      | nil => intro _ m; exact nomatch m
      | @cons c y ds xs z t ih =>
        intro hn m
        by_cases e : c.1 = x
        · rw [dlk_pos e] at hn; cases hn
        · rw [dlk_neg e] at hn
          rw [List.map_cons] at m
          rcases List.mem_cons.mp m with m | m
          · exact e (z.1.trans m.symm)
          · exact ih hn m
    exact no r q hx
end

/-! ### the steps -/
def intsD : D → Option (List Int)
  | .tup xs => mapO (fun x => match x with | .int i => some i | _ => none) xs
  | _ => none
def nkOf : D → Option NK
  | .tup xs => mapO intsD xs
  | _ => none
def keyOf : D → Option Key
  | .int i => some (.inl i)
  | .str x => some (.inr x)
  | _ => none
theorem keyOf_at {K : Frag} {F : Hp} {al : List Addr} {d : D} {v : V} {k : Key} (r : RepV K F al d v) (e : keyOf d = some k) : v = kV k := by
  unfold keyOf at e
  split at e
  · cases e; unfold RepV at r; exact r
  · cases e; unfold RepV at r; exact r
  · cases e
theorem intsD_at {K : Frag} {F : Hp} {al : List Addr} {d : D} {v : V} {ns : List Int} (r : RepV K F al d v) (e : intsD d = some ns) : ∃ c, v = .ref c ∧ F c = some (.tup (ns.map V.int)) := by
  unfold intsD at e
  split at e
  · unfold RepV at r
    obtain ⟨a, vs, h1, h2, h3⟩ := r
    rw [ints_map h3 e] at h2
    exact ⟨a, h1, h2⟩
  · cases e
theorem nkOf_at {K : Frag} {F : Hp} {al : List Addr} {d : D} {v : V} {k : NK} (r : RepV K F al d v) (e : nkOf d = some k) : ∃ b, v = .ref b ∧ NestAt F b k := by
  unfold nkOf at e
  split at e
  · unfold RepV at r
    obtain ⟨a, vs, h1, h2, h3⟩ := r
    have go : ∀ {xs : List D} {vs : List V} {k : NK}, RepL K F al xs vs → mapO intsD xs = some k → ∃ bs : List Addr, vs = bs.map V.ref ∧ bs.length = k.length ∧ ∀ (j : Nat) (c : Addr) (r : List Int), bs[j]? = some c → k[j]? = some r → F c = some (.tup (r.map V.int)) := by
      intro xs
      induction xs with
      | nil =>
        intro vs k r h
        unfold RepL at r
        subst r
        unfold mapO at h
        cases h
        exact ⟨[], rfl, rfl, fun j c r h1 _ => by simp at h1⟩
      | cons x xs ih =>
        intro vs k r h
        unfold RepL at r
        obtain ⟨u, q, rfl, r1, r2⟩ := r
        obtain ⟨y, ys, e1, e2, rfl⟩ := mapO_cons h
        obtain ⟨bs, i1, i2, i3⟩ := ih r2 e2
        obtain ⟨c, rfl, hc⟩ := intsD_at r1 e1
        refine ⟨c :: bs, by rw [i1]; rfl, by rw [List.length_cons, List.length_cons, i2], fun j c' r h1 h2 => ?_⟩
        cases j with
        | zero => cases h1; cases h2; exact hc
        | succ j => exact i3 j c' r h1 h2
    obtain ⟨bs, i1, i2, i3⟩ := go h3 e
    rw [i1] at h2
    exact ⟨a, h1, bs, h2, i2, i3⟩
  · cases e
/-- what the dict d holds at e -/
def dLook (d e : D) (G : GH) : Option (Option D) := match d with
  | .loc k => match G[k]? with
    | some (.dk kvs) => (keyOf e).map (dlk kvs)
    | some (.dn kvs) => (nkOf e).map (dlk kvs)
    | _ => none
  | _ => none
def oDGet (d e : D) (G : GH) : Out D := match dLook d e G with
  | some (some x) => .ok x G
  | _ => .stuck
def oDIn (neg : Bool) (e d : D) (G : GH) : Out D := match dLook d e G with
  | some o => .ok (.bl (if neg = true then !o.isSome else o.isSome)) G
  | none => .stuck
def oDSet (d e v : D) (G : GH) : Out Unit := match d with
  | .loc k => match G[k]? with
    | some (.dk kvs) => match keyOf e with
      | some y => if kvs.length < sizeLine then .ok () (G.set k (.dk (dpt kvs y v))) else .stuck
      | none => .stuck
    | some (.dn kvs) => match nkOf e with
      | some y => if kvs.length < sizeLine then .ok () (G.set k (.dn (dpt kvs y v))) else .stuck
      | none => .stuck
    | _ => .stuck
  | _ => .stuck
/-- the same of values: o: what is there -/
def NGet (H : Hp) (a : Addr) (y : V) (o : Option V) : Prop := ∃ (K : Frag) (F : Hp) (al : List Addr) (ds : List (NK × D)) (xs : List (NK × Addr × V)) (k : NK) (b : Addr), Le F H ∧ H a = some (DN a xs) ∧ RepN K F al ds xs ∧ y = .ref b ∧ NestAt H b k ∧
  ∀ ys, NPair xs ys → (o = none → atKey ys (nkey k) = none) ∧ (∀ v, o = some v → ∃ p, atKey ys (nkey k) = some p ∧ RelV v p.2)
def rDGet : R2 := fun x y H Q => ∃ a v, x = .ref a ∧ (DGet H a y (some v) ∨ NGet H a y (some v)) ∧ Q v H
def rDIn (neg : Bool) : R2 := fun y x H Q => ∃ a o, x = .ref a ∧ (DGet H a y o ∨ NGet H a y o) ∧ Q (.bl (if neg = true then !o.isSome else o.isSome)) H
theorem dLook_at {K : Frag} {mg : MG} {P F : Hp} {al : List Addr} {H : Hp} {G : GH} {d e : D} {x y : V} {o : Option D} (S : Sim K mg P F al H G) (r1 : RepV K F al d x) (r2 : RepV K F al e y) (h : dLook d e G = some o) :
    ∃ a o', x = .ref a ∧ (DGet H a y o' ∨ NGet H a y o') ∧ o'.isSome = o.isSome ∧ ∀ z, o = some z → ∃ v, o' = some v ∧ RepV K F al z v := by
  unfold dLook at h
  split at h
  · rename_i k
    unfold RepV at r1
    obtain ⟨a, h1, rfl⟩ := r1
    split at h
    · rename_i kvs q
      obtain ⟨b, e1, _, kv, e2, e3⟩ := S.at q
      rw [h1] at e1
      cases e1
      obtain ⟨y', e4, rfl⟩ := Option.map_eq_some_iff.mp h
      obtain ⟨i1, i2⟩ := repK_val (k := y') e3
      refine ⟨a, valV kv y', rfl, .inl (.inl ⟨kv, y', .inl e2, keyOf_at r2 e4, rfl⟩), ?_, fun z hz => ?_⟩
      · cases g : dlk kvs y' with
        | none => rw [i2 g]; rfl
        | some z => obtain ⟨v, e5, _⟩ := i1 z g; rw [e5]; rfl
      · obtain ⟨v, e5, e6⟩ := i1 z hz
        exact ⟨v, e5, e6⟩
    · rename_i kvs q
      obtain ⟨b, e1, _, xs, e2, e3⟩ := S.at q
      rw [h1] at e1
      cases e1
      obtain ⟨y', e4, rfl⟩ := Option.map_eq_some_iff.mp h
      obtain ⟨c, rfl, e5⟩ := nkOf_at r2 e4
      have key : ∀ o', (o' = none → dlk kvs y' = none) → (∀ v, o' = some v → ∃ z, dlk kvs y' = some z ∧ ∀ ys, NPair xs ys → ∃ p, atKey ys (nkey y') = some p ∧ RelV v p.2) → NGet H a (.ref c) o' := fun o' g1 g2 =>
        ⟨K, F, al, kvs, xs, y', c, S.sub, e2, e3, rfl, e5.mono S.sub, fun ys hp => ⟨fun z => (repN_val e3 hp).2 (g1 z), fun v z => by
          obtain ⟨_, _, g⟩ := g2 v z
          exact g ys hp⟩⟩
      cases g : dlk kvs y' with
      | none => exact ⟨a, none, rfl, .inr (key none (fun _ => g) (fun v z => nomatch z)), rfl, fun z hz => nomatch hz⟩
      | some z =>
        -- the value that stands there
        have fnd : ∀ {ds : List (NK × D)} {xs : List (NK × Addr × V)}, RepN K F al ds xs → dlk ds y' = some z → ∃ v, RepV K F al z v ∧ ∀ ys, NPair xs ys → ∃ p, atKey ys (nkey y') = some p ∧ RelV v p.2 := by
          intro ds xs r
          induction r with
          | nil => intro hh; exact nomatch hh
          | @cons d x ds xs r t ih =>
            intro hh
            by_cases e : d.1 = y'
            · rw [dlk_pos e] at hh
              refine ⟨x.2.2, by cases hh; exact r.2.2, fun ys hp => ?_⟩
              cases hp with
              | @cons _ y _ ys r' t' =>
                have e2 : y.1 = nkey y' := by rw [r'.1, ← r.1, e]
                exact ⟨y.2, by simp [atKey, List.find?_cons, e2], r'.2.2⟩
            · rw [dlk_neg e] at hh
              obtain ⟨v, g1, g2⟩ := ih hh
              refine ⟨v, g1, fun ys hp => ?_⟩
              cases hp with
              | @cons _ y _ ys r' t' =>
                have e2 : ¬ y.1 = nkey y' := fun z => e (by rw [r'.1, ← r.1] at z; exact nkey_inj z)
                obtain ⟨p, g3, g4⟩ := g2 ys t'
                exact ⟨p, by rw [← g3]; simp [atKey, List.find?_cons, e2], g4⟩
        obtain ⟨v, g1, g2⟩ := fnd e3 g
        refine ⟨a, some v, rfl, .inr (key (some v) (fun z => nomatch z) (fun u hu => ?_)), rfl, fun z' hz => ?_⟩
        · cases hu; exact ⟨z, g, g2⟩
        · cases hz; exact ⟨v, rfl, g1⟩
    · cases h
  · cases h
theorem o_dget {K : Frag} {mg : MG} : Op2 K mg rDGet oDGet := by
  refine op2_sc fun P F al G H d e x y S r1 r2 => ?_
  unfold oDGet
  cases q : dLook d e G with
  | none => exact .inr rfl
  | some o =>
    cases o with
    | none => exact .inr rfl
    | some z =>
      obtain ⟨a, o', h1, h2, _, h3⟩ := dLook_at S r1 r2 q
      obtain ⟨v, rfl, h4⟩ := h3 z rfl
      exact .inl ⟨z, v, rfl, h4, fun Q h => ⟨a, v, h1, h2, h⟩⟩
theorem o_din {K : Frag} {mg : MG} (neg : Bool) : Op2 K mg (rDIn neg) (oDIn neg) := by
  refine op2_sc fun P F al G H d e x y S r1 r2 => ?_
  unfold oDIn
  cases q : dLook e d G with
  | none => exact .inr rfl
  | some o =>
    obtain ⟨a, o', h1, h2, h3, _⟩ := dLook_at S r2 r1 q
    exact .inl ⟨_, _, rfl, rfl, fun Q h => ⟨a, o', h1, h2, by rw [h3]; exact h⟩⟩
section
variable {X : Cx} {pins : List (Addr × Obj)} {s : Shared} {sg : L2.St} {H : Hp} {a : Addr}
theorem n_at {y : V} {o : Option V} {u : Value} (I : Inv X pins sg H s) (g : NGet H a y o) (ry : RelV y u) : ∃ (b : Addr) (k : NK) (ys : List NY), u = .ref b ∧ (nestedKind X.prog X.w).is s.heap (nkey k) b ∧ (a == sysModules) = false ∧ s.heap.DictOfH (nestedKind X.prog X.w) a ys ∧
    (o = none → atKey ys (nkey k) = none) ∧ (∀ v, o = some v → ∃ p, atKey ys (nkey k) = some p ∧ RelV v p.2) := by
  obtain ⟨K, F, al, ds, xs, k, b, l, e, r, rfl, nb, h⟩ := g
  obtain ⟨_, hd, _, ys, p, dd⟩ := dn_at I.hok e (repN_nest r l)
  exact ⟨b, k, ys, ry, nest_is I.hok nb, hd, dd, (h ys p).1, (h ys p).2⟩
theorem ix_dict (hu : X.A.units + 64 < cLine) : IxR X rDGet := by
  intro value slice pins s sg H x y v u Q I rx ry h hs
  obtain ⟨a, r, rfl, g, q⟩ := h
  obtain rfl : v = Value.ref a := rx
  rcases g with g | g
  · exact tail_any (dict_typeIs I g) slot_dict_getitem.lookup (d_getItem (by omega) I g ry fun w' s' I' rw' => ⟨r, H, I', rw', q⟩) hs
  · obtain ⟨b, k, ys, rfl, hk, hd, dd, _, h2⟩ := n_at I g ry
    obtain ⟨p, e1, e2⟩ := h2 r rfl
    exact tail_any dd.typeIs slot_dict_getitem.lookup (wpAny_getItem_heap (show X.A.units + 1 + 8 < cLine by omega) hk dd e1 ⟨r, H, I.tok _, e2, q⟩) hs
theorem op_notInDict (hu : X.A.units + 64 < cLine) : OpR X (compareOp .NotIn) (rDIn true) := by
  intro pins s sg H y x u v Q I ry rx h
  obtain ⟨a, o, rfl, g, q⟩ := h
  obtain rfl : v = Value.ref a := rx
  rcases g with g | g
  · exact d_notIn (by omega) I g ry fun s' I' => ⟨.bl (!o.isSome), H, I', rfl, q⟩
  · obtain ⟨b, k, ys, rfl, hk, hd, dd, h1, h2⟩ := n_at I g ry
    refine wpAny_notIn_heap (show X.A.units + 1 + 8 < cLine by omega) hk hd dd ⟨.bl (!(atKey ys (nkey k)).isSome), H, I.tok _, rfl, ?_⟩
    cases o with
    | none => rw [h1 rfl]; exact q
    | some r => obtain ⟨p, e, _⟩ := h2 r rfl; rw [e]; exact q
end
/-- d[k] = v, by values -/
def rSetN : TSet := fun o i v H Q => ∃ (K : Frag) (F : Hp) (al : List Addr) (ds : List (NK × D)) (xs : List (NK × Addr × V)) (k : NK) (a b : Addr) (d : D), Le F H ∧ o = .ref a ∧ H a = some (DN a xs) ∧ RepN K F al ds xs ∧ i = .ref b ∧ NestAt F b k ∧ RepV K F al d v ∧ xs.length < sizeLine ∧
  ∀ xs', RepN K F al (dpt ds k d) xs' → Q (upd H a (DN a xs'))
theorem set_nest {X : Cx} (hu : X.A.units + 64 < cLine) : PSet X rSetN := by
  intro pins s sg H o i v ov iv u Q I ro ri rv h
  obtain ⟨K, F, al, ds, xs, k, a, b, d, l, rfl, e, r, rfl, nb, rd, hl, q⟩ := h
  obtain rfl : ov = Value.ref a := ro
  obtain rfl : iv = Value.ref b := ri
  obtain ⟨hz, hd, nd, ys, p, dd⟩ := dn_at I.hok e (repN_nest r l)
  refine wpAny_setItem_heap (hsz := by rw [← Paired.length p]; exact hz) (show X.A.units + 1 + 8 < cLine by omega) (nest_is I.hok (nb.mono l)) dd fun h' dd' hs => ?_
  obtain ⟨xs', g1, g2, g3, g4⟩ := repN_put nd nb rd rv r p
  obtain ⟨o, es, ep, ho, h2, h3, h4, _, _⟩ := dd'
  refine ⟨_, d_write (ob := DN a xs') I (by rw [e]; exact True.intro) hs ⟨o, ho⟩ ⟨⟨by omega, hd, g3, o, es, ep, ho, h2, h3, by rw [h4]; exact npair_back g2⟩, ⟨o, ho⟩, ?_⟩, q xs' g1⟩
  rintro m1 m2 ⟨z1, z2, z3, o', es', ep', z4, z5⟩ k'
  exact ⟨z1, z2, z3, o', es', ep', k' _ z4, z5⟩
theorem pset_or {X : Cx} {t t' : TSet} (h : PSet X t) (h' : PSet X t') : PSet X fun o i v H Q => t o i v H Q ∨ t' o i v H Q := fun pins s sg H o i v ov iv u Q I ro ri rv q => by
  rcases q with q | q
  · exact h pins s sg H o i v ov iv u Q I ro ri rv q
  · exact h' pins s sg H o i v ov iv u Q I ro ri rv q
section
variable {X : Cx} {W : WX} {e o i : Expr} {ma mo mi : M D} {pos op : Pos}
theorem vs_subD (hu : X.A.units + 64 < cLine) (he : VE X W e ma) (ho : VE X W o mo) (hi : VE X W i mi)
    (ha : ∀ v, assign (.Subscript o i op) X.env v = (do
      let ov ← holding [v] (eval o X.env)
      let iv ← holding [v, ov] (eval i X.env)
      standAt op
      holding [v, ov, iv] (setItem ov iv v)
      release [v, ov, iv] []) := by intro _; rfl)
    (hs : swapsWithSole [.Subscript o i op] e pos.line X.env = pure false := by rfl) (hw : swappedStores [.Subscript o i op] e X.env = pure none := by rfl)
    (h1 : (assignEach [.Subscript o i op] X.env).map (·.2) = [assign (.Subscript o i op) X.env] := by rfl) : VS X W (.Assign [.Subscript o i op] e pos) (sSub ma mo mi oDSet) := ps_imp (ps_asg he (pg_sub ho hi (pset_or (set_dict (by omega)) (set_nest hu)) ha) hs hw h1) fun E sg H ⟨P, F, al, G, rh, R, h⟩ =>
  ⟨P, F, al, G, rh, R, (stepS R.env h).imp fun v H1 ⟨F1, al1, G1, d, _, R1, r1, h1⟩ => ⟨P, F1, al1, G1, rh, R1, (stepS R1.env h1).imp fun ov H2 ⟨F2, al2, G2, od, x2, R2, r2, h2⟩ => ⟨P, F2, al2, G2, rh, R2, (stepS R2.env h2).imp fun iv H3 ⟨F3, al3, G3, id, x3, R3, r3, h3⟩ => by
    have r1' := (r1.ext x2).ext x3
    have r2' := r2.ext x3
    unfold oDSet at h3
    split at h3
    · rename_i k
      unfold RepV at r2'
      obtain ⟨a, g1, rfl⟩ := r2'
      split at h3
      · rename_i kvs q
        split at h3
        · rename_i y q2
          split at h3
          · rename_i hl
            obtain ⟨b, e1, hf, kv, e2, e3⟩ := R3.sim.at q
            rw [g1] at e1
            cases e1
            refine .inl ⟨a, upd H3 a (.dK (putK kv y v)), rfl, .inl ⟨kv, y, e2, keyOf_at r3 q2, by rw [← repK_len e3]; exact hl, rfl⟩, ?_⟩
            exact obs_nx h3 ⟨R3.sim.setC g1 hf ⟨hf, _, upd_same, repK_put e3 r1'⟩, R3.env⟩
          · exact h3.elim
        · exact h3.elim
      · rename_i kvs q
        split at h3
        · rename_i y q2
          split at h3
          · rename_i hl
            obtain ⟨b, e1, hf, xs, e2, e3⟩ := R3.sim.at q
            rw [g1] at e1
            cases e1
            obtain ⟨c, rfl, nb⟩ := nkOf_at r3 q2
            refine .inr ⟨X.K, F3, al3, kvs, xs, y, a, c, d, R3.sim.sub, rfl, e2, e3, rfl, nb, r1', by rw [← Paired.length e3]; exact hl, fun xs' hx => ?_⟩
            exact obs_nx h3 ⟨R3.sim.setC g1 hf ⟨hf, _, upd_same, hx⟩, R3.env⟩
          · exact h3.elim
        · exact h3.elim
      · exact h3.elim
    · exact h3.elim⟩⟩⟩
/-- {}, as a cell -/
def mDk : M D := fun _ G => .ok (.loc G.length) (G ++ [.dk []])
def mDn : M D := fun _ G => .ok (.loc G.length) (G ++ [.dn []])
theorem ve_dk0 : VE X W (.Dict [] [] pos) mDk := pe_imp pe_dnewK fun sg H Q ⟨P, F, al, G, rh, R, h⟩ p hp => by
  have fn : F p = none := R.sim.freeF hp
  refine h F (al ++ [p]) _ _ ⟨Le.refl _, List.prefix_append _ _⟩ (R.sim.newC hp (o := .dK []) (c := .dk []) ⟨fn, [], upd_same, by unfold RepK; rfl⟩) ?_
  unfold RepV
  exact ⟨p, by rw [← R.sim.len, List.getElem?_append_right (Nat.le_refl _), Nat.sub_self]; rfl, rfl⟩
def tDNewN : TE := fun _ H Q => ∀ p, H p = none → Q (.ref p) (upd H p (DN p []))
theorem pe_dnewN : PE X (.Dict [] [] pos) tDNewN := ⟨fun pins s sg H Q I h => wpAny_Dict_empty (by
  have at_ := Heap.get?_push_size s.heap (o := { cls := .type "dict", data := .dict #[] }) rfl
  have big := I.big
  have new : ObjOk X.prog X.w (upd H s.heap.objs.size (DN s.heap.objs.size [])) (s.heap.push { cls := .type "dict", data := .dict #[] }) s.heap.objs.size (DN s.heap.objs.size []) := by
    refine ⟨⟨Nat.zero_le _, beq_eq_false_iff_ne.mpr (Ne.symm (Nat.ne_of_lt big)), List.nodup_nil, _, #[], 0, at_, ⟨rfl, rfl, rfl⟩, rfl, .nil⟩, ⟨_, at_⟩, ?_⟩
    rintro m1 m2 ⟨z1, z2, z3, o', es', ep', z4, z5⟩ k'
    exact ⟨z1, z2, z3, o', es', ep', k' _ z4, z5⟩
  exact ⟨.ref s.heap.objs.size, _, I.laid (t' := s.toks) (fun b u q => Heap.get?_push_of_some _ q) (Nat.le_refl _) new, rfl, h _ (I.hok.fresh (Nat.le_refl _))⟩)⟩
theorem ve_dn0 : VE X W (.Dict [] [] pos) mDn := pe_imp pe_dnewN fun sg H Q ⟨P, F, al, G, rh, R, h⟩ p hp => by
  have fn : F p = none := R.sim.freeF hp
  refine h F (al ++ [p]) _ _ ⟨Le.refl _, List.prefix_append _ _⟩ (R.sim.newC hp (o := DN p []) (c := .dn []) ⟨fn, [], upd_same, .nil⟩) ?_
  unfold RepV
  exact ⟨p, by rw [← R.sim.len, List.getElem?_append_right (Nat.le_refl _), Nat.sub_self]; rfl, rfl⟩
end
end VL

/-! Q38: enumerate of a tuple; tuple * int. -/
namespace VL
open PySem PySem.Spec PyProof.Rows L2
/-- enumerate(v) begins where iter(v) does -/
theorem newEnum {v : Value} {ob : Obj} {Z : Heap → Prop} (B : Begins v ob Z) : Meets (Builtin.«enumerate.__new__» ⟨[.type "enumerate", v], []⟩) (fun _ R st => Z st.heap ∧
    R (.ok (.ret (.ref (st.heap.push ob).objs.size))) { st with heap := (st.heap.push ob).push { cls := .type "enumerate", data := .fields #[.none, .bool false, .ref st.heap.objs.size, rawInt 0, .none, .none] } }) :=
  .of_wp fun prog w A R st z => by
    obtain ⟨hp, gn, dr, tk, ot⟩ := st
    obtain ⟨z1, z2⟩ := z
    have sube := sub_enumerate
    have it1 : ∀ {A1 : Around} {E1 : Value → Shared → Prop} {Q1 : Value → Shared → Prop}, Q1 (.ref hp.objs.size) ⟨hp.push ob, gn, dr, tk, ot⟩ → wpAny (model prog w) A1 (pyIter v) Q1 E1 ⟨hp, gn, dr, tk, ot⟩ := fun y => B.iter prog w _ _ ⟨hp, gn, dr, tk, ot⟩ _ z1 y
    wp_walk using it1
    refine wpAny_stack_any fun _ => wpAny_pure ?_
    split
    · rename_i c _ _ _ _ _
      by_cases same : (c == Value.type "enumerate") = true
      · rw [same]; wp_walk using it1; exact ⟨_, rfl, z2⟩
      · rw [Bool.eq_false_iff.mpr same]; wp_walk using it1; exact ⟨_, rfl, z2⟩
    · wp_walk using it1
      exact ⟨_, rfl, z2⟩
theorem callEnumT {prog : Program} {w : World} {A : Around} {E : Value → Shared → Prop} {st : Shared} {a : Addr} {us : Array Value} {Q : Value → Shared → Prop} (T : st.heap.IsTuple a us)
    (k : ∀ h', IsEnum h' (st.heap.objs.size + 1) st.heap.objs.size 0 .none → h'.IsTupleIter st.heap.objs.size a 0 → (∀ b u, st.heap.get? b = some u → h'.get? b = some u) → Q (.ref (st.heap.objs.size + 1)) { st with heap := h' }) :
    wpAny (model prog w) A (call (.type "enumerate") [.ref a]) Q E st := by
  refine callType_new F.called_enumerate (by decide) (F.typeCall_enumerate_1 _) (F.newCall_enumerate_1 _) (fun o => F.args_object_init_2 o _) F.entry_enumerate_new (newEnum (begins_tuple a us)) ⟨T, ?_⟩
  generalize e1 : st.heap.push { cls := .type "tuple_iterator", data := .fields #[.ref a, .int 0 0] } = h1
  have z1 : h1.objs.size = st.heap.objs.size + 1 := by rw [← e1]; exact Heap.size_push ..
  generalize e2 : h1.push { cls := .type "enumerate", data := .fields #[.none, .bool false, .ref st.heap.objs.size, rawInt 0, .none, .none] } = h2
  have g : IsEnum h2 (st.heap.objs.size + 1) st.heap.objs.size 0 .none := by
    rw [← e2, ← z1]; exact Heap.get?_push_size h1 rfl
  have i1 : h1.get? st.heap.objs.size = some { cls := .type "tuple_iterator", data := .fields #[.ref a, .int 0 0] } := by rw [← e1]; exact Heap.get?_push_size _ rfl
  show _ ∧ _
  rw [z1]
  refine ⟨⟨_, g, rfl⟩, k h2 g ⟨_, by rw [← e2]; exact Heap.get?_push_of_some _ i1, rfl, rfl⟩ fun b u q => ?_⟩
  rw [← e2]
  refine Heap.get?_push_of_some _ ?_
  rw [← e1]
  exact Heap.get?_push_of_some _ q
/-- the tuple at a, each item in a new pair -/
def Itet (K : Frag) (a : Addr) : It :=
  ⟨fun i H => ∃ (xs : List V) (x : V), SqT K H a xs ∧ xs[i]? = some x, fun i H v H' => ∃ T x, v = .ref T ∧ H T = none ∧ H' = upd H T (.tup [.int (i : Nat), x]) ∧ ∀ xs, SqT K H a xs → xs[i]? = some x, fun i H => ∃ xs : List V, SqT K H a xs ∧ xs.length ≤ i⟩
theorem turnEnumT {P : Program} {w : World} {K : Frag} {elts : List Expr} {kk : Nat} {tpos : Pos} (a e it : Addr) (hne : e ≠ it) (hea : e ≠ a) (hia : a ≠ it) :
    Turn P w K (.Tuple elts kk tpos) (Itet K a) [e, it] e (fun i h => (∃ old, IsEnum h e it ((i : Nat) : Int) old) ∧ h.IsTupleIter it a i) where
  mem := List.mem_cons_self
  obj := fun i h st b hb => by
    obtain ⟨⟨old, g⟩, ⟨o, q1, q2, q3⟩⟩ := st
    rcases List.mem_cons.mp hb with rfl | hb
    · exact ⟨_, g, fun v q => nomatch q⟩
    · obtain rfl : b = it := List.mem_singleton.mp hb
      exact ⟨o, q1, fun v q => by rw [q3] at q; cases q⟩
  keep := fun i h h' st k => ⟨let ⟨old, g⟩ := st.1; ⟨old, k e (by simp) _ g⟩, st.2.at fun o q => k it (by simp) o q⟩
  item := by
    rintro X rfl rfl rfl cm i pins s sg H E I fp ⟨⟨old, g⟩, hit⟩ ⟨xs, x, sq, hx⟩
    obtain ⟨us, rv, T, hz⟩ := I.tuple sq
    obtain ⟨u, hu, ru⟩ := rv.get hx
    have T' : s.heap.IsTuple a us.toArray := T
    have le1 : e < s.heap.objs.size := Heap.lt_size g
    have le2 : it < s.heap.objs.size := by obtain ⟨_, q, _⟩ := hit; exact Heap.lt_size q
    have hd0 : X.A.in1.handled = none := I.ok.hd cm
    refine wpAny_pyNext_enum_itemD (Draws.tuple (prog := X.prog) (w := X.w) (A := X.A.in1) hd0 it a hia us.toArray) g ⟨hit, T'⟩ (by rw [List.size_toArray]; exact (List.getElem?_eq_some_iff.mp hu).1) hne (by simp [hne, hea]) fun x' h' tk px go st' tup sz k => ?_
    have ex : x' = u := by
      have : us.toArray[i]? = some x' := px
      rw [List.getElem?_toArray, hu] at this
      exact (Option.some.inj this).symm
    subst ex
    refine ⟨_, rfl, wpAny_letOwnedTupleGo_enum (s := { s with heap := h', toks := tk + 1 }) go fun h2 g2 sb => ?_⟩
    have tup2 : h2.get? s.heap.objs.size = some { cls := .type "tuple", data := .seq #[.int i tk, x'] } := (sb.2 _ (Nat.ne_of_gt le1)).trans tup
    have new : ObjOk X.prog X.w (upd H s.heap.objs.size (.tup [.int (i : Nat), x])) h2 s.heap.objs.size (.tup [.int (i : Nat), x]) :=
      ⟨show 2 ≤ sizeLine by decide, [.int i tk, x'], .cons ⟨_, rfl⟩ (.cons ru .nil), _, tup2, rfl, _, rfl⟩
    have I1 : Inv X pins sg (upd H s.heap.objs.size (.tup [.int (i : Nat), x])) { s with heap := h2, toks := tk + 1 } :=
      I.turnedNew (ch := [e, it]) (fun b o hb q => (sb.2 b fun z => hb (by rw [z]; simp)).trans (k b o (fun z => hb (by rw [z]; simp)) (fun z => hb (by rw [z]; simp)) q)) fp (Nat.le_refl _) new
    refine ⟨.ref s.heap.objs.size, _, I1, rfl, ⟨_, x, rfl, I.hok.fresh (Nat.le_refl _), rfl, fun ys hy => by rw [I.tuple_inj hy sq]; exact hx⟩, ⟨⟨x', by rw [show ((i + 1 : Nat) : Int) = (i : Int) + 1 by omega]; exact g2⟩, st'.1.at fun o q => (sb.2 it (Ne.symm hne)).trans q⟩, fun b hb => ?_⟩
    have hb2 : b < s.heap.objs.size := by
      rcases List.mem_cons.mp hb with rfl | hb
      · exact le1
      · rw [List.mem_singleton.mp hb]; exact le2
    rw [upd_ne (Nat.ne_of_lt hb2)]
    exact (fp b hb).1
  done := by
    rintro X rfl rfl rfl cm i pins s sg H E I fp ⟨⟨old, g⟩, hit⟩ ⟨xs, sq, hx⟩
    obtain ⟨us, rv, T, hz⟩ := I.tuple sq
    obtain ⟨f0, f1, f2, f3, f4, f5⟩ := fp it (by simp)
    have hl := rv.length
    have hd0 : X.A.handled = none := I.ok.hd cm
    have T' : s.heap.IsTuple a us.toArray := T
    unfold pyNext
    have ty : s.TypeIs (.ref e) "enumerate" := ⟨_, g, rfl⟩
    refine wpAny_bind (wpAny_attempt (wpAny_callSpecial?_slot (name := Str.ofString "__next__") ty F.slot_enumerate_next (wpAny_call_entry F.slot_enumerate_next ty F.entry_enumerate_next ?_ (F.args_enumerate_next_1 _))))
    show wpAny _ _ (field (.ref e) 2 >>= _) _ _ s
    refine wpAny_bind (wpAny_field g rfl (x := .ref it) rfl (wpAny_bind (wpAny_nextOf_tuple_end (A := X.A.in1) hd0 hit T' (by simp; omega) fun h' y ext hy => ?_)))
    obtain ⟨o, y1, y2⟩ := hy
    exact wpAny_bind (wpAny_isInstance (T := "StopIteration") (b := true) ⟨o, y1, y2⟩ isSubtype_stop (wpAny_pure ⟨rfl, I.turned (t' := s.toks) (fun b o hb q => ext b o hb q) f0 f1 f3 f4 f5⟩))
  self := fun A i s Q E st h => let ⟨⟨_, g⟩, _⟩ := st; wpAny_pyIter_enum g h
def iEnumT (K : Frag) (ta : TA) : TI := fun sg H R => ta sg H fun vs H1 => ∃ a xs, vs = [.ref a] ∧ SqT K H1 a xs ∧ R (Itet K a) H1
theorem pi_enumT {X : Cx} {e : Expr} {ta : TA} {p pos tpos : Pos} {elts : List Expr} {kk : Nat} (hg : Gl X "enumerate") (hm : X.mg "enumerate" = none) (ha : PA X [e] ta) (hs : starEach [e] X.env = [(false, eval e X.env)] := by rfl) :
    PI X (.Tuple elts kk tpos) (.Call (.Name "enumerate" p) [e] [] pos) (iEnumT X.K ta) := ⟨fun pins s sg H R I h => by
  refine Call_ (ld_blt I hg hm boot_enumerate (PyProof.Rows.callWith_type1 (thn (ha.run pos pins s sg H _ I h) fun us s1 z => ?_) hs rfl))
  obtain ⟨vs, H1, I1, r1, a, xs, rfl, sq, q⟩ := z
  cases r1 with
  | cons r rr =>
    cases rr
    cases r
    obtain ⟨its, rv, T, hz⟩ := I1.tuple sq
    have T' : s1.heap.IsTuple a its.toArray := T
    refine callEnumT T' fun h' g hit k => wpAny_pyIter_enum g ?_
    have I2 : Inv X pins sg H1 { s1 with heap := h' } := I1.kept (t' := s1.toks) k
    have la : a < s1.heap.objs.size := by obtain ⟨o, q, _⟩ := T'; exact Heap.lt_size q
    refine ⟨s1.heap.objs.size + 1, [s1.heap.objs.size + 1, s1.heap.objs.size], _, _, H1, rfl, I2, turnEnumT a (s1.heap.objs.size + 1) s1.heap.objs.size (Nat.succ_ne_self _) (Nat.ne_of_gt (Nat.lt_succ_of_lt la)) (Nat.ne_of_lt la), ⟨⟨.none, g⟩, hit⟩, fun b hb => ?_, q⟩
    have ge : s1.heap.objs.size ≤ b := by
      rcases List.mem_cons.mp hb with rfl | hb
      · exact Nat.le_succ _
      · rw [List.mem_singleton.mp hb]; exact Nat.le_refl _
    exact I1.fpOk ge (I1.hok.fresh ge)⟩
/-! ### as a walk of data -/
def enumS (xs : List D) : Src := ⟨fun _ i => some ((xs[i]?).map fun y => D.tup [.int (i : Nat), y]), xs.length⟩
def oSrcET (ds : List D) (G : GH) : Out Src := match ds with
  | [.tup xs] => .ok (enumS xs) G
  | _ => .stuck
theorem src_enumT {K : Frag} {mg : MG} {P F : Hp} {al : List Addr} {xs : List D} {a : Addr} (r : RepV K F al (.tup xs) (.ref a)) : SrcOk K mg P F al (enumS xs) (Itet K a) := by
  intro i F' al' H G P' x S
  obtain ⟨b, vs, eb, h2, h3⟩ := tup_at S (r.ext x) (xs := xs) rfl
  cases eb
  refine ⟨fun h => ⟨vs, SqT.of h2, ?_⟩, fun e h => ?_⟩
  · rw [← h3.len]
    have := Option.some.inj (show some ((xs[i]?).map fun y => D.tup [.int (i : Nat), y]) = some none from h)
    rw [Option.map_eq_none_iff] at this
    exact List.getElem?_eq_none_iff.mp this
  · obtain ⟨y, ey, rfl⟩ := Option.map_eq_some_iff.mp (Option.some.inj (show some ((xs[i]?).map fun y => D.tup [.int (i : Nat), y]) = some (some e) from h))
    obtain ⟨v, h4, h5⟩ := RepL.get h3 ey
    refine ⟨⟨vs, v, SqT.of h2, h4⟩, fun z H' hz => ?_⟩
    obtain ⟨T, u, rfl, hT, rfl, hw⟩ := hz
    have := hw vs (SqT.of h2)
    rw [h4] at this
    cases this
    have lu : Le F' (upd F' T (.tup [.int (i : Nat), v])) := Le.upd (S.freeF hT)
    refine ⟨upd F' T (.tup [.int (i : Nat), v]), lu, S.newF hT _, ?_⟩
    unfold RepV
    exact ⟨T, _, rfl, upd_same, RepL.cons rfl (RepL.cons (h5.mono lu (List.prefix_refl _)) RepL.nil)⟩
/-! ### tuple * int -/
theorem tupTimes1 (l : Addr) (us : Array Value) (n : Nat) (dd : Option Addr) (sl : Array (Option Value)) (u : Tok) : Meets (Builtin.«tuple.__mul__» ⟨[.ref l, .int 1 u], []⟩) (fun _ R st => st.heap.get? l = some { cls := .type "tuple", dict := dd, data := .seq us n, slots := sl } ∧ R (.ok (.ret (Value.ref l))) st) :=
  .of_wp fun prog w A R st z => by
    obtain ⟨hp, gn, dr, tk, ot⟩ := st
    obtain ⟨z1, z2⟩ := z
    have ix := AutoSeq1.idx_int
    wp_walk using wpAny_loadPart' z1
    repeat (first
      | (refine wpAny_ite_false (by decide) ?_; wp_walk using wpAny_loadPart' z1)
      | (refine wpAny_ite_true (decide_eq_true (by simp)) ?_; wp_walk using wpAny_loadPart' z1))
    all_goals exact ⟨_, rfl, z2⟩
def oMulT (d e : D) (G : GH) : Out D := match d, e with
  | .tup xs, .int k => if k = 1 then .ok (.tup xs) G else if xs ≠ [] ∧ 2 ≤ k ∧ k ≤ 1000 ∧ xs.length ≤ 1000 then .ok (.tup (List.replicate k.toNat xs).flatten) G else .stuck
  | _, _ => .stuck
def rRepT1 (K : Frag) : R2 := fun x y H Q => ∃ l xs, x = .ref l ∧ y = .int 1 ∧ H l = some (.tup xs) ∧ Q (.ref l) H
theorem op_repT1 {X : Cx} : OpR X (binaryOp .Mult) (rRepT1 X.K) := by
  intro pins s sg H x y v u Q I rx ry h
  obtain ⟨l, xs, rfl, rfl, hT, q⟩ := h
  cases rx
  obtain ⟨t, rfl⟩ := ry
  obtain ⟨its, r, ⟨⟨cls, dd, data, sl⟩, ho, hc, n, hd⟩, hs⟩ := I.tuple (SqT.of hT)
  simp only at hc hd
  subst hc hd
  have ty : s.TypeIs (.ref l) "tuple" := ⟨_, ho, rfl⟩
  have m1 := call_meets (prog := X.prog) (w := X.w) (A := X.A) (E := X.xe) F.slot_tuple_mul ty F.entry_tuple_mul (F.args_tuple_mul_2 (.ref l) (.int 1 t)) (tupTimes1 l its.toArray n dd sl t) (s := s)
    (Q := EP X pins sg Q) ⟨ho, V.ref l, H, I, rfl, q⟩
  exact wpAny_binaryOp_repeat_ref (T := "tuple") (U := "int") (by decide) ⟨_, ho, rfl⟩ (fun s' => typeIs_int s' 1 t) noFill_tuple_mul F.fills_int_mul F.slot_int_rmul repeat_tuple F.slot_int_index.lookup
    (call_meets F.slot_int_rmul (typeIs_int s 1 t) F.entry_int_rmul (F.args_int_rmul_2 _ _) (int_rmul_tuple 1 t l its.toArray n dd sl) ⟨ho, rfl, ⟨_, ho, rfl⟩, m1⟩)
theorem o_mulT {K : Frag} {mg : MG} : Op2 K mg (fun x y H Q => rRepT1 K x y H Q ∨ rRepT K x y H Q) oMulT := by
  intro W sg P F al G H d e x y Q S r1 r2 q
  unfold oMulT at q
  split at q
  · rename_i xs k
    obtain ⟨a, vs, rfl, h2, h3⟩ := tup_at S r1 (xs := xs) rfl
    unfold RepV at r2
    split at q
    · rename_i hk
      subst hk
      exact .inl ⟨a, vs, rfl, r2, h2, obl_ok q S r1⟩
    · split at q
      · rename_i hk
        refine .inr ⟨a, k, vs, rfl, r2, SqT.of h2, fun z => hk.1 ?_, hk.2.1, hk.2.2.1, by rw [← h3.len]; exact hk.2.2.2, fun p hp => tup_ok S (RepL.rep h3 _) q hp⟩
        have := h3.len
        rw [z] at this
        exact List.eq_nil_of_length_eq_zero this
      · exact q.elim
  · exact q.elim
theorem s_mulT {X : Cx} : OpR X (binaryOp .Mult) (fun x y H Q => rRepT1 X.K x y H Q ∨ rRepT X.K x y H Q) := op_repT1.or op_repT
section
variable {X : Cx} {W : WX} {a : Expr} {ma mb : M D} {pos : Pos}
theorem vi_enumT {es : List Expr} {kk : Nat} {tpos p : Pos} {ml : M (List D)} (hg : Gl X "enumerate") (hm : X.mg "enumerate" = none) (ha : VA X W [a] ml) (hs : starEach [a] X.env = [(false, eval a X.env)] := by rfl) :
    VI X W (.Tuple es kk tpos) (.Call (.Name "enumerate" p) [a] [] pos) (b1 oSrcET ml) := pi_imp (pi_enumT hg hm ha hs) fun sg H R ⟨P, F, al, G, rh, R0, h⟩ => ⟨P, F, al, G, rh, R0, (step (R' := SrcOk X.K X.mg P) R0.env h).imp fun v H1 ⟨F1, al1, G1, d, _, R1, r1, h1⟩ => by
  unfold oSrcET at h1
  split at h1
  · obtain ⟨u, rfl, q⟩ := repl1 r1
    obtain ⟨b, vs, rfl, h2, h3⟩ := tup_at R1.sim q rfl
    exact ⟨b, vs, rfl, SqT.of h2, obl_ok h1 R1.sim (src_enumT q)⟩
  · exact h1.elim⟩
end
/-! ### a def that is not looked into (no turns left) -/
theorem vss_stuck {X : Cx} {W : WX} {sts : List Stmt} : VSs X W sts (fun _ _ => .stuck) := ⟨fun pins s sg H E I h => by
  obtain ⟨_, _, _, _, _, _, h⟩ := h
  exact h.elim⟩
end VL

/-! Q39: open cells between two stairs; the fewest looks of a list of cells (plain). -/
namespace VL
open PySem L2
structure StairI (r p : Nat) (l : List Int) : Prop where
  len : l.length = r
  lo : ∀ i, i < r → 0 ≤ lk l i
  hi : ∀ i, i < r → lk l i ≤ (p : Int)
  down : ∀ i, i + 1 < r → lk l (i + 1) ≤ lk l i
def sized (r : Nat) : Prop := 1 ≤ r ∧ r ≤ 4
def openL (lo hi : List Int) (n : Nat) : List (Nat × Nat) := (List.range n).flatMap fun i => (List.range (lk hi i - lk lo i).toNat).map fun j => (i, (lk lo i).toNat + j)
theorem openL_succ {lo hi : List Int} {n : Nat} : openL lo hi (n + 1) = openL lo hi n ++ (List.range (lk hi n - lk lo n).toNat).map fun j => (n, (lk lo n).toNat + j) := by
  unfold openL; rw [List.range_succ, List.flatMap_append]; simp
theorem openL_len {lo hi : List Int} {n : Nat} (h : ∀ i, i < n → (lk hi i - lk lo i).toNat ≤ 4) : (openL lo hi n).length ≤ n * 4 := by
  induction n with
  | zero => exact Nat.le_refl _
  | succ n ih =>
    rw [openL_succ, List.length_append, List.length_map, List.length_range]
    have := ih fun i hi => h i (by omega)
    have := h n (by omega)
    omega
theorem openL_of {lo hi : List Int} {n a b : Nat} (h0 : ∀ i, i < n → 0 ≤ lk lo i) (h : (a, b) ∈ openL lo hi n) : a < n ∧ lk lo a ≤ b ∧ (b : Int) < lk hi a := by
  obtain ⟨i, hi', h⟩ := List.mem_flatMap.mp h
  obtain ⟨j, hj, e⟩ := List.mem_map.mp h
  rw [List.mem_range] at hi' hj
  cases e
  have := h0 _ hi'
  refine ⟨hi', ?_, ?_⟩ <;> omega
def dLess (l : List Int) (a b : Nat) : List Int := (List.range l.length).map fun i : Nat => if (a : Int) ≤ i then (if (b : Int) < lk l i then (b : Int) else lk l i) else lk l i
def dGreater (l : List Int) (a b : Nat) : List Int := (List.range l.length).map fun i : Nat => if (i : Int) ≤ a then (if (b : Int) + 1 > lk l i then (b : Int) + 1 else lk l i) else lk l i
theorem dless_len {l : List Int} {a b : Nat} : (dLess l a b).length = l.length := by unfold dLess; simp
theorem dgreater_len {l : List Int} {a b : Nat} : (dGreater l a b).length = l.length := by unfold dGreater; simp
theorem dless_at {l : List Int} {a b i : Nat} (hi : i < l.length) : lk (dLess l a b) i = if (a : Int) ≤ i then (if (b : Int) < lk l i then (b : Int) else lk l i) else lk l i := by unfold dLess; rw [lk_mk hi]
theorem dgreater_at {l : List Int} {a b i : Nat} (hi : i < l.length) : lk (dGreater l a b) i = if (i : Int) ≤ a then (if (b : Int) + 1 > lk l i then (b : Int) + 1 else lk l i) else lk l i := by unfold dGreater; rw [lk_mk hi]
/-- two stairs, the first below the other one -/
structure TwoS (r p : Nat) (lo hi : List Int) : Prop where
  l : StairI r p lo
  h : StairI r p hi
  le : ∀ i, i < r → lk lo i ≤ lk hi i
/-- as many numbers from 0 to 4 -/
structure Bd (r : Nat) (l : List Int) : Prop where
  len : l.length = r
  lo : ∀ i, i < r → 0 ≤ lk l i
  hi : ∀ i, i < r → lk l i ≤ 4
theorem StairI.bd {r p : Nat} {l : List Int} (h : StairI r p l) (hp : p ≤ 4) : Bd r l := ⟨h.len, h.lo, fun i hi => by have := h.hi i hi; omega⟩
theorem Bd.less {r a b : Nat} {l : List Int} (h : Bd r l) : Bd r (dLess l a b) := ⟨by rw [dless_len]; exact h.len, fun i hi => by
  have := h.lo i hi
  rw [dless_at (by rw [h.len]; exact hi)]; split
  · split <;> omega
  · omega, fun i hi => by
  have := h.hi i hi
  rw [dless_at (by rw [h.len]; exact hi)]; split
  · split <;> omega
  · omega⟩
theorem Bd.greater {r a b : Nat} {l : List Int} (h : Bd r l) (hb : b < 4) : Bd r (dGreater l a b) := ⟨by rw [dgreater_len]; exact h.len, fun i hi => by
  have := h.lo i hi
  rw [dgreater_at (by rw [h.len]; exact hi)]; split
  · split <;> omega
  · omega, fun i hi => by
  have := h.hi i hi
  rw [dgreater_at (by rw [h.len]; exact hi)]; split
  · split <;> omega
  · omega⟩

/-! ### lists of cells -/
abbrev Ce := Nat × Nat
def lessC (c : Ce) (cs : List Ce) : List Ce := cs.filter fun s => decide (s.1 < c.1) || decide (s.2 < c.2)
def moreC (c : Ce) (cs : List Ce) : List Ce := cs.filter fun s => decide (c.1 < s.1) || decide (c.2 < s.2)
theorem filter_lt {α : Type} {p : α → Bool} {c : α} : ∀ {cs : List α}, c ∈ cs → p c = false → (cs.filter p).length < cs.length
  | d :: cs, h, e => by
    rw [List.filter_cons]
    rcases List.mem_cons.mp h with rfl | h
    · rw [if_neg (by rw [e]; decide), List.length_cons]
      exact Nat.lt_succ_of_le (List.length_filter_le _ _)
    · have := filter_lt h e
      split
      · rw [List.length_cons, List.length_cons]; omega
      · rw [List.length_cons]; omega
theorem lessC_lt {c : Ce} {cs : List Ce} (h : c ∈ cs) : (lessC c cs).length < cs.length := filter_lt h (by simp)
theorem moreC_lt {c : Ce} {cs : List Ce} (h : c ∈ cs) : (moreC c cs).length < cs.length := filter_lt h (by simp)
def minN : List Nat → Nat
  | [] => 0
  | [x] => x
  | x :: y :: r => min x (minN (y :: r))
def needF : Nat → List Ce → Nat
  | 0, _ => 0
  | f + 1, cs => minN (cs.map fun c => 1 + max (needF f (lessC c cs)) (needF f (moreC c cs)))
theorem needF_nil : ∀ f : Nat, needF f [] = 0
  | 0 => rfl
  | _ + 1 => rfl
theorem needF_two : ∀ (f g : Nat) (cs : List Ce), cs.length ≤ f → cs.length ≤ g → needF f cs = needF g cs
  | 0, g, cs, h, _ => by
    have : cs = [] := List.eq_nil_of_length_eq_zero (by omega)
    subst this
    rw [needF_nil, needF_nil]
  | f + 1, 0, cs, _, h => by
    have : cs = [] := List.eq_nil_of_length_eq_zero (by omega)
    subst this
    rw [needF_nil, needF_nil]
  | f + 1, g + 1, cs, h1, h2 => by
    unfold needF
    congr 1
    refine List.map_congr_left fun c hc => ?_
    have a := lessC_lt hc
    have b := moreC_lt hc
    rw [needF_two f g (lessC c cs) (by omega) (by omega), needF_two f g (moreC c cs) (by omega) (by omega)]
/-- the fewest looks -/
def need (cs : List Ce) : Nat := needF cs.length cs
/-- .. that begin with one cell -/
def withC (c : Ce) (cs : List Ce) : Nat := 1 + max (need (lessC c cs)) (need (moreC c cs))
theorem need_eq (cs : List Ce) : need cs = minN (cs.map fun c => withC c cs) := by
  unfold need
  cases h : cs.length with
  | zero =>
    have : cs = [] := List.eq_nil_of_length_eq_zero h
    subst this
    rfl
  | succ n =>
    show minN _ = _
    congr 1
    refine List.map_congr_left fun c hc => ?_
    have a := lessC_lt hc
    have b := moreC_lt hc
    unfold withC need
    rw [needF_two n _ (lessC c cs) (by omega) (Nat.le_refl _), needF_two n _ (moreC c cs) (by omega) (Nat.le_refl _)]
/-! ### between stairs -/
theorem range_lt (m k : Nat) : (List.range m).filter (fun j => decide (j < k)) = List.range (min m k) := by
  induction m with
  | zero => simp
  | succ m ih =>
    rw [List.range_succ, List.filter_append, ih]
    by_cases h : m < k
    · rw [Nat.min_eq_left (by omega), Nat.min_eq_left (by omega), List.range_succ]; simp [h]
    · rw [Nat.min_eq_right (by omega), Nat.min_eq_right (by omega)]; simp [h]
theorem range_ge (m k : Nat) : (List.range m).filter (fun j => decide (k ≤ j)) = (List.range (m - k)).map fun j => k + j := by
  induction m with
  | zero => simp
  | succ m ih =>
    rw [List.range_succ, List.filter_append, ih]
    by_cases h : k ≤ m
    · rw [show m + 1 - k = (m - k) + 1 by omega, List.range_succ, List.map_append]
      simp [h, show k + (m - k) = m by omega]
    · rw [show m + 1 - k = 0 by omega, show m - k = 0 by omega]; simp [h]
theorem openL_less {lo hi : List Int} {a b : Nat} : ∀ {n : Nat}, (∀ i, i < n → 0 ≤ lk lo i) → n ≤ hi.length → openL lo (dLess hi a b) n = lessC (a, b) (openL lo hi n)
  | 0, _, _ => rfl
  | n + 1, h0, hl => by
    rw [openL_succ, openL_succ, openL_less (fun i hi => h0 i (by omega)) (by omega)]
    unfold lessC
    rw [List.filter_append]
    congr 1
    rw [List.filter_map, dless_at (by omega)]
    have h1 := h0 n (by omega)
    by_cases ha : n < a
    · rw [if_neg (by omega)]
      have : (List.range (lk hi n - lk lo n).toNat).filter ((fun s : Ce => decide (s.1 < a) || decide (s.2 < b)) ∘ fun j => (n, (lk lo n).toNat + j)) = List.range (lk hi n - lk lo n).toNat := List.filter_eq_self.mpr fun j _ => by simp [ha]
      rw [this]
    · rw [if_pos (by omega)]
      have : (List.range (lk hi n - lk lo n).toNat).filter ((fun s : Ce => decide (s.1 < a) || decide (s.2 < b)) ∘ fun j => (n, (lk lo n).toNat + j)) = (List.range (lk hi n - lk lo n).toNat).filter (fun j => decide (j < b - (lk lo n).toNat)) := List.filter_congr fun j _ => by
        simp only [Function.comp, decide_eq_false ha, Bool.false_or, decide_eq_decide]
        omega
      rw [this, range_lt]
      congr 2
      split <;> omega
theorem openL_more {lo hi : List Int} {a b : Nat} : ∀ {n : Nat}, (∀ i, i < n → 0 ≤ lk lo i) → n ≤ lo.length → openL (dGreater lo a b) hi n = moreC (a, b) (openL lo hi n)
  | 0, _, _ => rfl
  | n + 1, h0, hl => by
    rw [openL_succ, openL_succ, openL_more (fun i hi => h0 i (by omega)) (by omega)]
    unfold moreC
    rw [List.filter_append]
    congr 1
    rw [List.filter_map, dgreater_at (by omega)]
    have h1 := h0 n (by omega)
    by_cases ha : a < n
    · rw [if_neg (by omega)]
      have : (List.range (lk hi n - lk lo n).toNat).filter ((fun s : Ce => decide (a < s.1) || decide (b < s.2)) ∘ fun j => (n, (lk lo n).toNat + j)) = List.range (lk hi n - lk lo n).toNat := List.filter_eq_self.mpr fun j _ => by simp [ha]
      rw [this]
    · rw [if_pos (by omega)]
      have : (List.range (lk hi n - lk lo n).toNat).filter ((fun s : Ce => decide (a < s.1) || decide (b < s.2)) ∘ fun j => (n, (lk lo n).toNat + j)) = (List.range (lk hi n - lk lo n).toNat).filter (fun j => decide ((b + 1) - (lk lo n).toNat ≤ j)) := List.filter_congr fun j _ => by
        simp only [Function.comp, decide_eq_false ha, Bool.false_or, decide_eq_decide]
        omega
      rw [this, range_ge, List.map_map]
      split
      · rw [show (lk hi n - ((b : Int) + 1)).toNat = (lk hi n - lk lo n).toNat - (b + 1 - (lk lo n).toNat) by omega]
        refine List.map_congr_left fun j _ => ?_
        simp only [Function.comp, Prod.mk.injEq, true_and]
        omega
      · rw [show b + 1 - (lk lo n).toNat = 0 by omega, Nat.sub_zero]
        refine List.map_congr_left fun j _ => ?_
        simp only [Function.comp, Prod.mk.injEq, true_and]
        omega
/-! ### how many keys there may be -/
theorem nodup_lt : ∀ (n : Nat) (l : List Nat), l.Nodup → (∀ x ∈ l, x < n) → l.length ≤ n
  | 0, [], _, _ => Nat.le_refl _
  | 0, x :: l, _, h => absurd (h x List.mem_cons_self) (Nat.not_lt_zero _)
  | n + 1, l, nd, h => by
    have h2 := nodup_lt n (l.filter fun x => decide (x ≠ n)) (nd.filter _) fun x hx => by
      obtain ⟨h3, h4⟩ := List.mem_filter.mp hx
      have := h x h3
      have : x ≠ n := of_decide_eq_true h4
      omega
    have h3 : l.length ≤ (l.filter fun x => decide (x ≠ n)).length + 1 := by
      clear h h2
      induction l with
      | nil => simp
      | cons y l ih =>
        rw [List.nodup_cons] at nd
        rw [List.filter_cons]
        by_cases e : y = n
        · subst e
          rw [if_neg (by simp)]
          have : l.filter (fun x => decide (x ≠ y)) = l := List.filter_eq_self.mpr fun x hx => decide_eq_true fun z => nd.1 (z ▸ hx)
          rw [this, List.length_cons]
          exact Nat.le_refl _
        · rw [if_pos (by simpa using e), List.length_cons, List.length_cons]
          have := ih nd.2
          omega
    omega
/-- a number for a list of numbers from 0 to 4 -/
def code5 : List Int → Nat
  | [] => 0
  | x :: l => x.toNat + 5 * code5 l
theorem code5_inj : ∀ {l m : List Int}, l.length = m.length → (∀ x ∈ l, 0 ≤ x ∧ x ≤ 4) → (∀ x ∈ m, 0 ≤ x ∧ x ≤ 4) → code5 l = code5 m → l = m
  | [], [], _, _, _, _ => rfl
  | [], _ :: _, h, _, _, _ => nomatch h
  | _ :: _, [], h, _, _, _ => nomatch h
  | x :: l, y :: m, h, hl, hm, e => by
    have h1 := hl x List.mem_cons_self
    have h2 := hm y List.mem_cons_self
    unfold code5 at e
    have e1 : x = y := by omega
    have e2 : code5 l = code5 m := by omega
    rw [e1, code5_inj (Nat.succ.inj h) (fun z hz => hl z (List.mem_cons_of_mem _ hz)) (fun z hz => hm z (List.mem_cons_of_mem _ hz)) e2]
theorem code5_lt : ∀ {l : List Int}, (∀ x ∈ l, 0 ≤ x ∧ x ≤ 4) → code5 l < 5 ^ l.length
  | [], _ => by decide
  | x :: l, h => by
    have := code5_lt (l := l) fun z hz => h z (List.mem_cons_of_mem _ hz)
    have := h x List.mem_cons_self
    unfold code5
    rw [List.length_cons, Nat.pow_succ]
    omega
theorem Bd.mem {r : Nat} {l : List Int} (h : Bd r l) : ∀ x ∈ l, 0 ≤ x ∧ x ≤ 4 := fun x hx => by
  obtain ⟨i, hi, rfl⟩ := lk_mem hx
  rw [h.len] at hi
  exact ⟨h.lo i hi, h.hi i hi⟩
/-- pairs of such lists as keys: not too many -/
theorem keys_few {r : Nat} (hr : r ≤ 4) {ks : List NK} (nd : ks.Nodup) (h : ∀ k ∈ ks, ∃ lo hi, Bd r lo ∧ Bd r hi ∧ k = [lo, hi]) : ks.length ≤ 390625 := by
  let cd : NK → Nat := fun k => code5 (k.getD 0 []) + 625 * code5 (k.getD 1 [])
  have p4 : 5 ^ r ≤ 625 := Nat.pow_le_pow_right (n := 5) (by decide) hr
  have lt : ∀ k ∈ ks, cd k < 390625 := fun k hk => by
    obtain ⟨lo, hi, h1, h2, rfl⟩ := h k hk
    have a := code5_lt h1.mem
    have b := code5_lt h2.mem
    rw [h1.len] at a
    rw [h2.len] at b
    show code5 lo + 625 * code5 hi < 390625
    omega
  have inj : ∀ k ∈ ks, ∀ j ∈ ks, cd k = cd j → k = j := fun k hk j hj e => by
    obtain ⟨lo, hi, h1, h2, rfl⟩ := h k hk
    obtain ⟨lo', hi', h1', h2', rfl⟩ := h j hj
    have a := code5_lt h1.mem
    have a' := code5_lt h1'.mem
    rw [h1.len] at a
    rw [h1'.len] at a'
    have e' : code5 lo + 625 * code5 hi = code5 lo' + 625 * code5 hi' := e
    rw [code5_inj (h1.len.trans h1'.len.symm) h1.mem h1'.mem (by omega), code5_inj (h2.len.trans h2'.len.symm) h2.mem h2'.mem (by omega)]
  have nd2 : (ks.map cd).Nodup := by
    rw [List.nodup_iff_pairwise_ne, List.pairwise_map]
    refine List.Pairwise.imp_of_mem (fun hx hy hne e => hne (inj _ hx _ hy e)) (List.nodup_iff_pairwise_ne.mp nd)
  have := nodup_lt 390625 _ nd2 fun x hx => by
    obtain ⟨k, hk, rfl⟩ := List.mem_map.mp hx
    exact lt k hk
  rwa [List.length_map] at this
/-! ### lists and tuples alike -/
theorem len_seq {G : GH} {d : D} {xs : List D} (h : seqOf G d = some xs) : oLen [d] G = .ok (D.int (xs.length : Nat)) G := by
  unfold seqOf at h
  split at h
  · cases h; rfl
  · exact len_of h
theorem ix_sq {G : GH} {d x : D} {xs : List D} {j : Nat} (h : seqOf G d = some xs) (e : xs[j]? = some x) : oIx d (.int (j : Int)) G = .ok x G := by
  unfold seqOf at h
  split at h
  · cases h; exact ix_tup (by omega) (by simpa using e)
  · exact ix_nat h e
/-- for i, x in enumerate(t), t a tuple of ints -/
theorem lc_enumT {t : T1} {tt : M Bool} {te : M D} {G : GH} {rh : DEnv} {q : D → GH → Prop} {X : Str → GH → Prop} {cm : Bool} {vs : List Nat} {m : M D} (r : List Int) (g : Nat → D) (hm : m rh G = .ok (.tup (r.map D.int)) G) (hs : r.length ≤ 2 ^ 24)
    (h : ∀ i, i < r.length → ∃ rh2, t (.tup [.int (i : Nat), .int (lk r i)]) (wipeD rh vs) G = some rh2 ∧ tt rh2 G = .ok true G ∧ te rh2 G = .ok (g i) G) (k : (mk cm ((List.range r.length).map g) G).P q X) : (mLc cm vs (b1 oSrcET (mCons m mNil)) t tt te rh G).P q X := by
  have hb : b1 oSrcET (mCons m mNil) rh G = .ok (enumS (r.map D.int)) G := by
    unfold b1 mCons mNil
    rw [hm]
    rfl
  refine lc_as (s := enumS (r.map D.int)) (List.range r.length) (fun i => .tup [.int (i : Nat), .int (lk r i)]) (fun _ => true) g hb (fun i => ?_) (by show _ ≤ (r.map D.int).length; rw [List.length_map, List.length_range]; exact Nat.le_refl _) (by rw [List.length_range]; exact hs) (fun i hi => ?_) ?_
  · show some _ = some _
    congr 1
    rw [List.getElem?_map]
    by_cases hi : i < r.length
    · rw [lk_get hi, List.getElem?_map, List.getElem?_range hi]; rfl
    · rw [List.getElem?_eq_none (by omega), List.getElem?_eq_none (by simp; omega)]; rfl
  · obtain ⟨rh2, e1, e2, e3⟩ := h i (List.mem_range.mp hi)
    exact ⟨rh2, e1, e2, fun _ => e3⟩
  · rw [filtT]; exact k
/-! ### dict cells by what they hold -/
theorem nkOf_two {lo hi : List Int} : nkOf (.tup [.tup (lo.map D.int), .tup (hi.map D.int)]) = some [lo, hi] := by
  have h1 : ∀ l : List Int, intsD (.tup (l.map D.int)) = some l := fun l => mapO_ints l
  show mapO intsD [_, _] = _
  unfold mapO
  rw [h1 lo]
  unfold mapO
  rw [h1 hi]
  rfl
theorem dLook_n {G : GH} {k : Nat} {kvs : List (NK × D)} {e : D} {y : NK} (h : G[k]? = some (.dn kvs)) (he : nkOf e = some y) : dLook (.loc k) e G = some (dlk kvs y) := by
  unfold dLook; dsimp only; rw [h]; dsimp only; rw [he]; rfl
theorem nin_yes {G : GH} {d e x : D} (h : dLook d e G = some (some x)) : oDIn true e d G = .ok (.bl false) G := by unfold oDIn; rw [h]; rfl
theorem nin_no {G : GH} {d e : D} (h : dLook d e G = some none) : oDIn true e d G = .ok (.bl true) G := by unfold oDIn; rw [h]; rfl
theorem oDGet_of {G : GH} {d e x : D} (h : dLook d e G = some (some x)) : oDGet d e G = .ok x G := by unfold oDGet; rw [h]
theorem oDSet_n {G : GH} {k : Nat} {kvs : List (NK × D)} {e v : D} {y : NK} (h : G[k]? = some (.dn kvs)) (he : nkOf e = some y) (hl : kvs.length < sizeLine) : oDSet (.loc k) e v G = .ok () (G.set k (.dn (dpt kvs y v))) := by
  unfold oDSet; dsimp only; rw [h]; dsimp only; rw [he]; dsimp only; rw [if_pos hl]
section
variable {κ : Type} [DecidableEq κ]
theorem dlk_mem {kvs : List (κ × D)} {k : κ} {d : D} (h : dlk kvs k = some d) : (k, d) ∈ kvs := by
  unfold dlk at h
  obtain ⟨p, h1, rfl⟩ := Option.map_eq_some_iff.mp h
  have h2 := List.find?_some (p := fun p : κ × D => decide (p.1 = k)) h1
  have h3 : p.1 = k := of_decide_eq_true h2
  rw [← h3]
  exact List.mem_of_find?_eq_some h1
theorem dlk_none {kvs : List (κ × D)} {k : κ} (h : dlk kvs k = none) : k ∉ kvs.map (·.1) := fun m => by
  obtain ⟨p, h1, rfl⟩ := List.mem_map.mp m
  unfold dlk at h
  rw [Option.map_eq_none_iff, List.find?_eq_none] at h
  exact h p h1 (decide_eq_true rfl)
theorem dpt_nodup {kvs : List (κ × D)} {k : κ} {d : D} (h : (kvs.map (·.1)).Nodup) : ((dpt kvs k d).map (·.1)).Nodup := by
  unfold dpt
  cases q : dlk kvs k with
  | some x =>
    rw [if_pos (show (some x).isSome = true from rfl), List.map_map]
    have : ((fun p : κ × D => p.1) ∘ fun p => if p.1 = k then (p.1, d) else p) = fun p => p.1 := funext fun p => by
      simp only [Function.comp]; split <;> rfl
    rw [this]; exact h
  | none =>
    rw [if_neg (by simp), List.map_append, List.nodup_append]
    refine ⟨h, by simp, fun x hx y hy e => ?_⟩
    have : y = k := by simpa using hy
    subst this; subst e
    exact dlk_none q hx
theorem dpt_mem {kvs : List (κ × D)} {k : κ} {d : D} {x : κ × D} (h : x ∈ dpt kvs k d) : x = (k, d) ∨ x ∈ kvs := by
  unfold dpt at h
  split at h
  · obtain ⟨p, h1, rfl⟩ := List.mem_map.mp h
    by_cases e : p.1 = k
    · rw [if_pos e, ← e]; exact .inl rfl
    · rw [if_neg e]; exact .inr h1
  · rcases List.mem_append.mp h with h | h
    · exact .inr h
    · exact .inl (List.mem_singleton.mp h)
end
theorem all_set {p : Cell → Bool} {G : GH} {k : Nat} {c : Cell} (h : G.all p = true) (hc : p c = true) : (G.set k c).all p = true := by
  rw [List.all_eq_true] at h ⊢
  intro x hx
  rcases List.mem_or_eq_of_mem_set hx with hx | rfl
  · exact h x hx
  · exact hc
theorem minL_cast : ∀ ns : List Nat, minL (ns.map fun n => ((n : Nat) : Int)) = (minN ns : Nat)
  | [] => rfl
  | [x] => rfl
  | x :: y :: r => by
    have ih := minL_cast (y :: r)
    show min (x : Int) (minL (((y :: r).map fun n => ((n : Nat) : Int)))) = ((min x (minN (y :: r)) : Nat) : Int)
    rw [ih]
    omega
theorem bel_up {n m : Nat} (h : n ≤ m) : ∀ (f : Nat) (d : D), bel f n d = true → bel f m d = true
  | 0, _, e => nomatch e
  | f + 1, d, e => by
    cases d with
    | loc k => exact decide_eq_true (Nat.lt_of_lt_of_le (of_decide_eq_true (show decide (k < n) = true from e)) h)
    | lst xs => exact List.all_eq_true.mpr fun x hx => bel_up h f x (List.all_eq_true.mp e x hx)
    | tup xs => exact List.all_eq_true.mpr fun x hx => bel_up h f x (List.all_eq_true.mp e x hx)
    | ro xs => exact List.all_eq_true.mpr fun x hx => bel_up h f x (List.all_eq_true.mp e x hx)
    | _ => rfl
theorem belC_up {n m : Nat} (h : n ≤ m) {c : Cell} (e : belC n c = true) : belC m c = true := by
  cases c with
  | lst xs => exact List.all_eq_true.mpr fun x hx => bel_up h 8 x (List.all_eq_true.mp e x hx)
  | ins c fs => exact List.all_eq_true.mpr fun x hx => bel_up h 8 x.2 (List.all_eq_true.mp e x hx)
  | dk kvs => exact List.all_eq_true.mpr fun x hx => bel_up h 8 x.2 (List.all_eq_true.mp e x hx)
  | dn kvs => exact List.all_eq_true.mpr fun x hx => bel_up h 8 x.2 (List.all_eq_true.mp e x hx)
  | dead => rfl
theorem min_ints {G : GH} {ns : List Int} (h : ns ≠ []) : oMin [.lst (ns.map D.int)] G = .ok (.int (minL ns)) G := by
  have e : intsOf G (.lst (ns.map D.int)) = some ns := intsOf_at rfl
  unfold oMin
  dsimp only
  rw [e]
  dsimp only
  rw [if_pos (List.length_pos_iff.mpr h)]
end VL

/-! Q40: open cells as bits, four to a row (plain). -/
namespace VL
open PySem L2
def cellOf (s : Nat) : Ce := (s / 4, s % 4)
def bcells (b : Nat) : List Ce := ((List.range 16).filter fun s => b.testBit s).map cellOf
def lessM : List Int := [0, 4369, 13107, 30583, 15, 4383, 13119, 30591, 255, 4607, 13311, 30719, 4095, 8191, 16383, 32767]
def moreM : List Int := [65534, 65532, 65528, 65520, 65518, 65484, 65416, 65280, 65262, 64716, 63624, 61440, 61166, 52428, 34952, 0]
/-- the least of some and 99 -/
def min99 (l : List Nat) : Nat := l.foldl min 99
/-- bits before a spot, with what each costs -/
def costs (b i : Nat) : List Nat := (((List.range i).filter fun s => b.testBit s).map cellOf).map fun c => withC c (bcells b)
/-- the bits of cells -/
def bitsOf (cs : List Ce) : Nat := cs.foldl (fun b c => b ||| 1 * 2 ^ (4 * c.1 + c.2)) 0
/-- .. step by step -/
def bitsRow (lo hi : List Int) (n j : Nat) : Nat := bitsOf (openL lo hi n ++ (List.range j).map fun k => (n, (lk lo n).toNat + k))
end VL

open PySem L2
namespace VL
/-- list(range(n)) -/
def oListR (cm : Bool) (d : D) (G : GH) : Out D := match d with
  | .int n => if 0 ≤ n ∧ n ≤ 1000000 then mk cm (rngL 0 n.toNat) G else .stuck
  | _ => .stuck
end VL

open PySem L2
namespace VL
/-- the first place of an int in a list of ints -/
def firstAt (k : Int) : List Int → Nat
  | [] => 0
  | n :: ns => if n = k then 0 else firstAt k ns + 1
def oIndex (d : D) (ds : List D) (G : GH) : Out D := match intsOf G d, ds with
  | some ns, [.int k] => if ns.contains k = true then .ok (.int (firstAt k ns : Nat)) G else .stuck
  | _, _ => .stuck
end VL

open PySem L2
namespace VL
/-- a list of texts -/
def strsL : List D → Option (List Str)
  | [] => some []
  | .str y :: r => match strsL r with
    | some ys => some (y :: ys)
    | none => none
  | _ => none
theorem strsL_map : ∀ ys : List Str, strsL (ys.map D.str) = some ys
  | [] => rfl
  | y :: ys => by
    show (match strsL (ys.map D.str) with | some ys => some (y :: ys) | none => none) = _
    rw [strsL_map ys]
theorem strs_rep {K : Frag} {F : Hp} {al : List Addr} : ∀ {xs : List D} {ys : List Str} {ws : List V}, strsL xs = some ys → RepL K F al xs ws → ws = ys.map V.str
  | [], ys, ws, h, r => by
    cases h
    unfold RepL at r
    exact r
  | .str y :: xs, ys, ws, h, r => by
    unfold strsL at h
    split at h
    · rename_i zs e
      cases h
      unfold RepL at r
      obtain ⟨v, q, rfl, r1, r2⟩ := r
      unfold RepV at r1
      rw [r1, strs_rep e r2]
      rfl
    · cases h
/-- sep.join(a list of texts) -/
def oJoin (d : D) (ds : List D) (G : GH) : Out D := match d, ds with
  | .str a, [e] => match lstO G e with
    | some xs => match strsL xs with
      | some ys => if (ys.map (·.length)).sum + ys.length * a.length ≤ 16777216 then .ok (.str (Txt.join a ys)) G else .stuck
      | none => .stuck
    | none => .stuck
  | _, _ => .stuck
theorem o_join {K : Frag} {mg : MG} : MtS K mg (fun x xs H Q => ∃ a p, ∃ ys : List Str, x = .str a ∧ xs = [.ref p] ∧ (SqL K H p (ys.map V.str) ∨ SqT K H p (ys.map V.str)) ∧
    (ys.map (·.length)).sum + ys.length * a.length ≤ 16777216 ∧ Q (.str (Txt.join a ys)) H) oJoin := by
  intro W sg P F al G H d ds x vs Q S r1 r2 q
  unfold oJoin at q
  split at q
  · rename_i a e
    split at q
    · rename_i xs e1
      split at q
      · rename_i ys e2
        split at q
        · rename_i hz
          obtain ⟨u, rfl, r3⟩ := repl1 r2
          unfold RepV at r1
          subst r1
          obtain ⟨p, ws, rfl, h2, h3⟩ := lst_at S r3 (lstOf_of e1)
          rw [strs_rep e2 h3] at h2
          exact ⟨a, p, ys, rfl, rfl, .inl h2, hz, obl_ok q S rfl⟩
        · exact q.elim
      · exact q.elim
    · exact q.elim
  · exact q.elim
/-- a.split(b) -/
def oSplit (cm : Bool) (d : D) (ds : List D) (G : GH) : Out D := match d, ds with
  | .str a, [.str b] => if (b.length == 0) = false ∧ a.length + 2 ≤ sizeLine then mk cm ((Txt.split a b).map D.str) G else .stuck
  | _, _ => .stuck
theorem strs_repl {K : Frag} {F : Hp} {al : List Addr} : ∀ ys : List Str, RepL K F al (ys.map D.str) (ys.map V.str)
  | [] => by rw [List.map_nil, List.map_nil]; unfold RepL; rfl
  | y :: ys => by
    rw [List.map_cons, List.map_cons]
    unfold RepL
    exact ⟨_, _, rfl, rfl, strs_repl ys⟩
theorem o_split (cm : Bool) {K : Frag} {mg : MG} : MtS K mg (fun x xs H Q => ∃ a b, x = .str a ∧ xs = [.str b] ∧ (b.length == 0) = false ∧ a.length + 2 ≤ sizeLine ∧ rNewStrs (Txt.split a b) H Q) (oSplit cm) := by
  intro W sg P F al G H d ds x vs Q S r1 r2 q
  unfold oSplit at q
  split at q
  · rename_i a b
    split at q
    · rename_i hz
      obtain ⟨u, rfl, r3⟩ := repl1 r2
      unfold RepV at r1 r3
      subst r1 r3
      exact ⟨a, b, rfl, rfl, hz.1, hz.2, fun p hp => mk_ok S (strs_repl _) q hp⟩
    · exact q.elim
  · exact q.elim
end VL

namespace VL
open PySem L2 PySem.Spec PyProof.Rows
/-- d.get(y), d.get(y, z): keys are ints and texts -/
def oDGetM (d : D) (ds : List D) (G : GH) : Out D := match d with
  | .loc k => match G[k]? with
    | some (.dk kvs) => match ds with
      | [e] => match keyOf e with
        | some y => .ok ((dlk kvs y).getD .non) G
        | none => .stuck
      | [e, z] => match keyOf e with
        | some y => .ok ((dlk kvs y).getD z) G
        | none => .stuck
      | _ => .stuck
    | _ => .stuck
  | _ => .stuck
def rDGetM : V → List V → Hp → VK → Prop := fun x xs H Q => ∃ a y o, x = .ref a ∧ DGet H a y o ∧ ((xs = [y] ∧ Q (o.getD .non) H) ∨ ∃ z, xs = [y, z] ∧ Q (o.getD z) H)
end VL

open PySem L2
namespace VL
/-- a sign in a text -/
def sgOf (x : Str) : Option Nat := match x.cps.toList with
  | [c] => some c
  | _ => none
theorem sgOf_of {x : Str} {c : Nat} (h : sgOf x = some c) : x = ⟨#[c]⟩ := by
  unfold sgOf at h
  split at h
  · rename_i d hd
    cases h
    obtain ⟨cps⟩ := x
    congr 1
    exact Array.toList_inj.mp hd
  · cases h
def oInSgN (neg : Bool) (d e : D) (G : GH) : Out D := match d, e with
  | .str x, .str z => match sgOf x with
    | some c => .ok (.bl (if neg = true then !decide (c ∈ z.cps.toList) else decide (c ∈ z.cps.toList))) G
    | none => .stuck
  | _, _ => .stuck
abbrev oInSg := oInSgN false
abbrev oNotInSg := oInSgN true
theorem o_inSg {K : Frag} {mg : MG} : Op2 K mg (fun x y H Q => ∃ (c : Nat) (z : Str), x = .str ⟨#[c]⟩ ∧ y = .str z ∧ Q (.bl (decide (c ∈ z.cps.toList))) H) oInSg := by
  refine op2_sc fun P F al G H d e x y S r1 r2 => ?_
  unfold oInSg oInSgN
  split
  · rename_i x' z
    split
    · rename_i c hc
      unfold RepV at r1 r2
      refine .inl ⟨_, _, rfl, rfl, fun Q h => ⟨c, z, by rw [r1, sgOf_of hc], r2, h⟩⟩
    · exact .inr rfl
  · exact .inr rfl
theorem o_notInSg {K : Frag} {mg : MG} : Op2 K mg (fun x y H Q => ∃ (c : Nat) (z : Str), x = .str ⟨#[c]⟩ ∧ y = .str z ∧ Q (.bl (!decide (c ∈ z.cps.toList))) H) oNotInSg := by
  refine op2_sc fun P F al G H d e x y S r1 r2 => ?_
  unfold oNotInSg oInSgN
  split
  · rename_i x' z
    split
    · rename_i c hc
      unfold RepV at r1 r2
      refine .inl ⟨_, _, rfl, rfl, fun Q h => ⟨c, z, by rw [r1, sgOf_of hc], r2, h⟩⟩
    · exact .inr rfl
  · exact .inr rfl
/-- int(a text) -/
def oIntS (ds : List D) (G : GH) : Out D := match ds with
  | [.str a] => match PySem.intText? a with
    | some n => if a.length ≤ 640 then .ok (.int n) G else .stuck
    | none => .stuck
  | _ => .stuck
theorem o_intS {K : Frag} {mg : MG} : CallS K mg (fun xs H Q => ∃ a n, xs = [.str a] ∧ PySem.intText? a = some n ∧ a.length ≤ 640 ∧ Q (.int n) H) oIntS := by
  intro W sg P F al G H ds vs Q S r q
  unfold oIntS at q
  split at q
  · rename_i a
    split at q
    · rename_i n hn
      split at q
      · rename_i hl
        obtain ⟨v, rfl, r1⟩ := repl1 r
        unfold RepV at r1
        subst r1
        exact ⟨a, n, rfl, hn, hl, obl_ok q S rfl⟩
      · exact q.elim
    · exact q.elim
  · exact q.elim
end VL

/-! Q46: tables written (plain). -/
open PySem L2
namespace VL
/-- a number written, and its signs -/
def shS (i : Int) : Str := Str.ofString (toString i)
def sgL (i : Int) : List Nat := if i < 0 then 45 :: TL.numL i.natAbs else TL.numL i.natAbs
theorem tl_sh (i : Int) : TL.tl (shS i) = sgL i := by
  unfold sgL shS
  split
  · rename_i h
    rw [PyProof.Rows.toString_neg h]
    have e : (0 : Int) - i = ((i.natAbs : Nat) : Int) := by omega
    rw [e]
    have h2 := TL.tl_num i.natAbs
    show (Str.ofString ("-" ++ toString ((i.natAbs : Nat) : Int))).cps.toList = 45 :: TL.numL i.natAbs
    rw [← h2]
    show _ = 45 :: (Str.ofString (toString ((i.natAbs : Nat) : Int))).cps.toList
    rw [PyProof.Rows.signs_ofString, PyProof.Rows.signs_ofString, String.toList_append, List.map_append]
    rfl
  · rename_i h
    have e : i = ((i.natAbs : Nat) : Int) := by omega
    rw [show toString i = toString ((i.natAbs : Nat) : Int) by rw [← e]]
    exact TL.tl_num _
theorem sgL_len {i : Int} {k : Nat} (hk : 0 < k) (h : i.natAbs < 10 ^ k) : (sgL i).length ≤ k + 1 := by
  have := TL.numL_len hk h
  unfold sgL
  split
  · rw [List.length_cons]; omega
  · omega
theorem sh_len {i : Int} {k : Nat} (hk : 0 < k) (h : i.natAbs < 10 ^ k) : (shS i).length ≤ k + 1 := by
  rw [TL.len_tl, tl_sh]
  exact sgL_len hk h
/-- a row, a table written -/
def rowS (r : List Int) : Str := Txt.join " " (r.map shS)
def tabS (T : List (List Int)) : Str := Txt.join "\n" (T.map rowS)
theorem join_small {a : Str} {ys : List Str} {k : Nat} (h : ∀ y ∈ ys, y.length ≤ k) : (ys.map (·.length)).sum + ys.length * a.length ≤ ys.length * (k + a.length) := by
  induction ys with
  | nil => simp
  | cons y ys ih =>
    have h1 := h y List.mem_cons_self
    have h2 := ih fun z hz => h z (List.mem_cons_of_mem _ hz)
    rw [List.map_cons, List.sum_cons, List.length_cons]
    rw [Nat.mul_add] at *
    rw [Nat.add_mul, Nat.add_mul]
    omega
theorem joinL_len (S : List Nat) : ∀ ps : List (List Nat), (TL.joinL S ps).length ≤ (ps.map fun p => p.length + S.length).sum
  | [] => Nat.le_refl _
  | [p] => by show p.length ≤ p.length + S.length + 0; omega
  | p :: q :: r => by
    show (p ++ (S ++ TL.joinL S (q :: r))).length ≤ (p.length + S.length) + ((q :: r).map fun p => p.length + S.length).sum
    have := joinL_len S (q :: r)
    rw [List.length_append, List.length_append]
    omega
theorem sum_le {l : List Nat} {k : Nat} (h : ∀ x ∈ l, x ≤ k) : l.sum ≤ l.length * k := by
  induction l with
  | nil => simp
  | cons x l ih =>
    have h1 := h x List.mem_cons_self
    have h2 := ih fun z hz => h z (List.mem_cons_of_mem _ hz)
    rw [List.sum_cons, List.length_cons, Nat.add_mul]
    omega
/-- numbers of at most a hundred figures -/
def Few (T : List (List Int)) : Prop := ∀ r ∈ T, r ≠ [] ∧ r.length ≤ 6 ∧ ∀ i ∈ r, i.natAbs < 10 ^ 100
theorem log_small {n : Nat} (h : n < 10 ^ 100) : n.log2 < 1920 := by
  by_cases e : n = 0
  · subst e; decide
  · rw [Nat.log2_lt e]
    exact Nat.lt_trans h (by decide +kernel)
theorem oStr_few {i : Int} {G : GH} (h : i.natAbs < 10 ^ 100) : oStr [.int i] G = .ok (.str (shS i)) G := by
  show (if i.natAbs.log2 < 1920 then Out.ok (D.str (Str.ofString (toString i))) G else .stuck) = _
  rw [if_pos (log_small h)]
  rfl
theorem oJoin_of {a : Str} {e : D} {ys : List Str} {G : GH} (h : lstO G e = some (ys.map D.str)) (hs : (ys.map (·.length)).sum + ys.length * a.length ≤ 16777216) : oJoin (.str a) [e] G = .ok (.str (Txt.join a ys)) G := by
  unfold oJoin
  dsimp only
  rw [h]
  dsimp only
  rw [strsL_map]
  dsimp only
  rw [if_pos hs]
end VL

/-! Q47: a word read (plain). -/
open PySem L2
namespace VL
def mkW (a : List Nat) : Str := ⟨a.toArray⟩
theorem tl_mkW (a : List Nat) : TL.tl (mkW a) = a := rfl
theorem mkW_inj {a b : List Nat} (h : mkW a = mkW b) : a = b := by rw [← tl_mkW a, ← tl_mkW b, h]
theorem len_mkW (a : List Nat) : (mkW a).length = a.length := by rw [TL.len_tl, tl_mkW]
end VL

/-! Q48: sorted(list of lists of ints). -/
namespace VL
open PySem L2 PySem.Spec PyProof.Rows
section
variable {prog : Program} {w : World} {A : Around} {E : Value → Shared → Prop} {s : Shared}
/-- the value is a list of these ints, not at a -/
def LstInts (h : Heap) (a : Addr) (v : Value) (ns : List Int) : Prop := ∃ b us, v = .ref b ∧ b ≠ a ∧ h.IsList b us ∧ IntsAre us.toList ns
theorem LstInts.ints {h : Heap} {a : Addr} {v : Value} {ns : List Int} (x : LstInts h a v ns) : TS.intsOf h v = ns := by
  obtain ⟨b, us, rfl, _, ⟨o, ho, hc, n, hd⟩, i⟩ := x
  simp only [TS.intsOf, ho, hd]
  exact i.nums
def LstsIn (h : Heap) (a : Addr) (d : Nat) (B : Int) (vs : List Value) : Prop := ∀ v ∈ vs, ∃ ns, LstInts h a v ns ∧ ns.length = d ∧ Rim B ns
theorem LstInts.keep {h h' : Heap} {a : Addr} {v : Value} {ns : List Int} (x : LstInts h a v ns) (k : ∀ b o, b ≠ a → h.get? b = some o → h'.get? b = some o) : LstInts h' a v ns := by
  obtain ⟨b, us, e, hb, ⟨o, ho, hc, n, hd⟩, i⟩ := x
  exact ⟨b, us, e, hb, ⟨o, k b o hb ho, hc, n, hd⟩, i⟩
theorem LstsIn.keep {h h' : Heap} {a : Addr} {d : Nat} {B : Int} {vs : List Value} (x : LstsIn h a d B vs) (k : ∀ b o, b ≠ a → h.get? b = some o → h'.get? b = some o) : LstsIn h' a d B vs := fun v m => by
  obtain ⟨ns, t, r⟩ := x v m
  exact ⟨ns, t.keep k, r⟩
end
/-! ### as a step of the layer -/
def LstV (K : PySem.W.Frag) (H : Hp) (x : V) (ns : List Int) : Prop := ∃ t, x = .ref t ∧ SqL K H t (ns.map V.int)
def rSortR (K : PySem.W.Frag) : List V → Hp → VK → Prop := fun vs H Q => ∃ (a : Addr) (xs : List V) (d : Nat) (B : Int), vs = [V.ref a] ∧ SqL K H a xs ∧ xs.length < 64 ∧ (∀ x ∈ xs, ∃ ns, LstV K H x ns ∧ ns.length = d ∧ Rim B ns) ∧
  ∀ (ys : List V) (p : Addr), ys.Perm xs → ys.Pairwise (fun x y => ∀ n m, LstV K H x n → LstV K H y m → rankT B n ≤ rankT B m) → H p = none → Q (.ref p) (upd H p (.lst ys))
/-! ### sorted, of data: rows -/
def intsR : D → Option (List Int)
  | .lst xs => mapO (fun x => match x with | .int i => some i | _ => none) xs
  | _ => none
def leR (x y : D) : Bool := !lexB ((intsR y).getD []) ((intsR x).getD [])
def sortR (xs : List D) : List D := xs.mergeSort leR
def rimR : List D → Int
  | [] => 0
  | x :: xs => max (absM ((intsR x).getD [])) (rimR xs)
def lenR (xs : List D) : Nat := ((xs.head?.bind intsR).getD []).length
def oSortR (cm : Bool) (ds : List D) (G : GH) : Out D := match ds with
  | [x] => match lstOf G x with
    | some xs => if xs.length < 64 ∧ xs.all (fun y => match intsR y with | some ns => ns.length == lenR xs | none => false) = true then mk cm (sortR xs) G else .stuck
    | none => .stuck
  | _ => .stuck
section
variable {K : Frag} {mg : MG}
end
end VL

/-! Q49: try .. except X: name = True. -/
namespace VL
open PySem L2 PySem.Spec PyProof.Rows
/-- an exception of the class t sets the name at slot j -/
def sFlag (es : List Str) (t : Str) (b : Bool) (j : Nat) (g : S) : S := fun rh G => match g rh G with
  | .exn c rh' G' => if c ∈ es ∧ c = t ∧ j < rh'.length then .nx (rh'.set j (some (.bl b))) G' else .stuck
  | o => o
section
variable {X : Cx} {W : WX} {t m : Str} {b : Bool} {j : Nat} {body : List Stmt} {np mp cp ap pos pos' : Pos} {g : S}
end
end VL

/-! Q50: try .. except SeekError as e: a suite of its own. -/
namespace VL
open PySem PySem.Spec PyProof.Rows L2
section
variable {X : Cx} {pins : List (Addr × Obj)} {st : L2.St} {H : Hp} {s : Shared}
theorem unpin1 {a : Addr} {q : Addr × Obj} {pn : List (Addr × Obj)} (I : Inv (X.suite a (q :: pn)) [] st H s) (ok : X.Ok) : Inv (X.suite a pn) [q] st H s :=
  ⟨ok.suite _ _, I.os, I.bare, I.base, I.loc, I.cell, I.free, I.freeC, fun p hp => I.pin p (by
    show p ∈ (q :: pn) ++ []
    rw [List.append_nil]
    rcases List.mem_append.mp hp with h | h
    · exact List.mem_cons_of_mem _ h
    · rw [List.mem_singleton.mp h]; exact List.mem_cons_self), I.hok, I.len⟩
theorem unsuite0 {a : Addr} (I : Inv (X.suite a (X.pn ++ pins)) [] st H s) (ok : X.Ok) : Inv X pins st H s :=
  ⟨ok, I.os, I.bare, I.base, I.loc, I.cell, I.free, I.freeC, fun p hp => I.pin p (by
    show p ∈ (X.pn ++ pins) ++ []
    rw [List.append_nil]
    exact hp), I.hok, I.len⟩
end
/-- what is wanted of what the body raises: it is held while the suite runs -/
def wCatch (K : Frag) (cls : Value) (i : Nat) (ts : Addr → TS) (D : Ends) : WX := fun c d st H => ∃ C, c = .ref C ∧ d = none ∧ PySem.W.exmOne K c cls = some true ∧
  ∀ a, H a = none → ts a (onlyNx fun st' H' => D.nx (st'.set i none) H') (st.set i (some (.ref a))) (upd H a (ExV C a))
section
variable {X : Cx} {x n : Str} {cls : Value} {i : Nat} {body suite : List Stmt} {b0 : Stmt} {np pos pos' : Pos} {tb : WX → TS} {ts : Addr → TS}
theorem ps_catch (hs : X.stack = X.env :: X.outer) (hf : X.env.frame = some X.env.locals) (hx : X.ex = []) (hN : X.N.Nodup) (hi : X.N[i]? = some n) (hln : X.env.kindOf n = some .local) (hc : Names X x cls)
    (hb : ∀ (W : WX) (pn : List (Addr × Obj)) (xe : Value → Shared → Prop), Takes (X.tr pn xe) W → PassesOwn (model X.prog X.w) X.A X.env xe → PSs (X.tr pn xe) body (tb W))
    (hsu : ∀ (a : Addr) (pn : List (Addr × Obj)), PSs (X.suite a pn) (b0 :: suite) (ts a)) :
    PS X (.Try body [.ExceptHandler (some (.Name x np)) (some n) (b0 :: suite) pos'] [] [] pos) (fun D st H => tb (wCatch X.K cls i ts D) D st H) := by
  constructor
  intro pins s st H D I want
  have ok := I.ok
  have frames : X.A.frames = some (X.env :: X.outer) := by rw [ok.frames, hs]
  let after : Value → Shared → Prop := fun e s1 => wpAny (model X.prog X.w) X.A (noteFrame e X.env) (fun _ s2 => wpAny (model X.prog X.w) X.A (setFlight e none) (fun _ s3 =>
    wpAny (model X.prog X.w) X.A (handleBy e X.env [.ExceptHandler (some (.Name x np)) (some n) (b0 :: suite) pos']) (SP X pins D) X.xe s3) X.xe s2) X.xe s1
  have catches : Takes (X.tr (X.pn ++ pins) after) (wCatch X.K cls i ts D) := by
    rintro u s1 ⟨a, B, sI, pins', st1, H1, c, d, rfl, J0, nb, up, sky, na, os, ag, C, rfl, rfl, yes, go⟩
    have J := J0.ofTry ok
    have sky1 : Sky B (X.env :: X.outer) a (Zc (.ref C) none) X.env.locals s1.heap := by rw [← hs]; exact sky
    show wpAny (model X.prog X.w) X.A (noteFrame (.ref a) X.env) _ _ _
    refine Sky.land Zc.steady frames hf sky1 ?_
    intro h2 fl2 up2
    have J2 : Inv X pins st1 H1 { s1 with heap := h2 } := J.landed nb fl2.1 (up.trans up2) os ag
    obtain ⟨o2, v2, g2, z2, d2⟩ := fl2.there
    have outside : ∀ {h : Heap} {o : Obj} {v : Array Value}, h.FunFrames B (X.env :: X.outer) → h.get? a = some o → o.data = .fields v → a ∉ frs (X.env :: X.outer) := by
      intro h o v ff e dd hm
      obtain ⟨_, o', e', hnf⟩ := ff.mem hm
      rw [e] at e'
      cases e'
      exact hnf _ dd
    have off := outside fl2.2.2.1 g2 d2
    have offL : a ≠ X.env.locals := fun z => off (List.mem_filterMap.mpr ⟨X.env, List.mem_cons_self, by rw [hf, z]⟩)
    have offF : a ∉ X.fs := fun hm => by
      obtain ⟨e, he, q⟩ := List.mem_filterMap.mp hm
      exact off (List.mem_filterMap.mpr ⟨e, List.mem_cons_of_mem _ he, q⟩)
    have gone : B.get? a = none := fl2.2.1
    have noI : sI.heap.get? a = none := by
      cases e : sI.heap.get? a with
      | none => rfl
      | some o =>
        have := nb a o e (by show a ∉ frs X.stack; rw [hs]; exact off)
        rw [gone] at this
        cases this
    have new0 : X.s_0.heap.get? a = none := by
      cases e : X.s_0.heap.get? a with
      | none => rfl
      | some o =>
        obtain ⟨o', q⟩ := J.base.there a o e (by rw [hx]; exact fun z => nomatch z)
        rw [noI] at q
        cases q
    have apart : ∀ p ∈ X.pn ++ pins, p.1 ≠ a := fun p hp z => by
      have q := (J.pin p hp).1
      rw [z, noI] at q
      cases q
    have S2 := J2.suite g2 d2 na offL offF
    refine wpAny_handleBy_cons (codeAny_handlers_test ?_) (by intro q; cases q)
    have type_ : PySem.W.Looks (model X.prog X.w) h2 (typeOf (.ref a)) (.ref C) := fun A Q E s k q => wpAny_typeOf_ref (k _ _ g2) (by rw [z2.1]; exact q)
    have match_ := PySem.W.exm_one (M := model X.prog X.w) J2.kIn type_ yes
    have named : ∀ {Q : Value → Shared → Prop} {E : Value → Shared → Prop}, Q cls { s1 with heap := h2 } → wpAny (model X.prog X.w) (X.A.mark (some (.ref a))) (eval (.Name x np) X.env) Q E { s1 with heap := h2 } := by
      intro Q E q
      obtain ⟨hg, hdb, hm | ⟨hm, hv, hn⟩⟩ := hc
      · exact ld_glob (X := X.suite a ((a, o2) :: (X.pn ++ pins))) S2 hg hm q hdb
      · exact ld_blt (X := X.suite a ((a, o2) :: (X.pn ++ pins))) S2 hg hm hv q hn hdb
    refine named (match_.here ?_)
    refine codeAny_handlers_suite_as ?_
    refine HandSPX.lands_againZ fl2 ?_
    intro h3 fl3 up3
    have J3 : Inv X pins st1 H1 { s1 with heap := h3 } := J.landed nb fl3.1 ((up.trans up2).trans up3) os ag
    obtain ⟨o3, v3, g3, z3, d3⟩ := fl3.there
    have S3 := J3.suite g3 d3 na offL offF
    refine store_ok (X := X.suite a ((a, o3) :: (X.pn ++ pins))) (v := .ref a) S3 hN hi (.inl hln) rfl ?_ (.inr hln)
    intro s4 S4
    have g4 : s4.heap.get? a = some o3 := (S4.pin (a, o3) (List.mem_append_left _ List.mem_cons_self)).1
    have T4 : Inv (X.suite a (X.pn ++ pins)) [] (st1.set i (some (.ref a))) (upd H1 a (ExV C a)) s4 := track (X := X.suite a (X.pn ++ pins)) (unpin1 S4 ok) new0 (fun p hp => apart p (by
      rcases List.mem_append.mp hp with h | h
      · exact h
      · cases h)) ⟨⟨o3, v3, g4, z3, d3⟩, ⟨o3, g4⟩, fun _ _ ⟨o, v, q, r⟩ k => ⟨o, v, k o q, r⟩⟩
    refine wpAny_mono ((hsu a (X.pn ++ pins)).run [] s4 _ _ _ T4 (go a na)) ?_ fun _ _ z => False.elim z
    intro f s5 left
    cases f with
    | ret u => obtain ⟨_, _, _, _, _, q⟩ := left; exact False.elim q
    | brk => obtain ⟨_, _, _, q⟩ := left; exact False.elim q
    | cont => obtain ⟨_, _, _, q⟩ := left; exact False.elim q
    | next =>
      obtain ⟨st5, H5, S5, q5⟩ := left
      refine gone_ok (unsuite0 S5 ok) hN hi hln ?_
      intro s6 J6
      exact ⟨_, _, J6, q5⟩
  refine wpAny_Try_except ?_
  refine wpAny_mono ((hb (wCatch X.K cls i ts D) (X.pn ++ pins) after catches PassesOwn.looking).run [] s st H D (I.toTry _) want) ?_ fun e s1 he => he
  intro f s1 left
  cases f with
  | next =>
    obtain ⟨st', H', J, q⟩ := left
    exact wpAny_execs_nil ⟨st', H', J.ofTry ok, q⟩
  | brk =>
    obtain ⟨st', H', J, q⟩ := left
    exact ⟨st', H', J.ofTry ok, q⟩
  | cont =>
    obtain ⟨st', H', J, q⟩ := left
    exact ⟨st', H', J.ofTry ok, q⟩
  | ret u =>
    obtain ⟨v, st', H', J, r, q⟩ := left
    exact ⟨v, st', H', J.ofTry ok, r, q⟩
end
def noWish : WX := fun _ _ _ _ => False
def sCatch (es : List Str) (i : Nat) (h g : S) : S := fun rh G => match g rh G with
  | .exn c rh' G' => if c ∈ es ∧ i < rh'.length then match h (rh'.set i (some (.exc c))) G' with
    | .nx rh2 G2 => .nx (rh2.set i none) G2
    | _ => .stuck else .stuck
  | o => o
section
variable {X : Cx} {W : WX} {n : Str} {i : Nat} {body suite : List Stmt} {b0 : Stmt} {np pos pos' : Pos} {g h : S}
theorem vs_catch {es ys : List Str} (chk : chkX es ys X.K = true) (hs : X.stack = X.env :: X.outer) (hf : X.env.frame = some X.env.locals) (hx : X.ex = []) (hN : X.N.Nodup) (hi : X.N[i]? = some n) (hln : X.env.kindOf n = some .local)
    (hg : Gl X "SeekError") (hm : X.mg "SeekError" = some (.ref (He.ga X.K "SeekError"))) (glo : ∀ e ∈ es, X.mg e = some (.ref (He.ga X.K e)))
    (hb : ∀ (W' : WX) (pn : List (Addr × Obj)) (xe : Value → Shared → Prop), Takes (X.tr pn xe) W' → PassesOwn (model X.prog X.w) X.A X.env xe → VSs (X.tr pn xe) W' body g)
    (hsu : ∀ (a : Addr) (pn : List (Addr × Obj)), VSs (X.suite a pn) noWish (b0 :: suite) h) :
    VS X W (.Try body [.ExceptHandler (some (.Name "SeekError" np)) (some n) (b0 :: suite) pos'] [] [] pos) (sCatch es i h g) := by
  refine ps_imp (ps_catch (X := X) (tb := fun W' => tS X.K X.mg W' g) (ts := fun a => tS X.K X.mg noWish h) hs hf hx hN hi hln ⟨hg, by decide, .inl hm⟩ hb fun a pn => hsu a pn) ?_
  rintro E sg H ⟨P, F, al, G, rh, R, hh⟩
  refine ⟨P, F, al, G, rh, R, ?_⟩
  unfold sCatch at hh
  cases q : g rh G with
  | nx rh' G' => rw [q] at hh; exact hh
  | rt d G' => rw [q] at hh; exact hh
  | bk rh' G' => rw [q] at hh; exact hh
  | ct rh' G' => rw [q] at hh; exact hh
  | stuck => rw [q] at hh; exact hh
  | exn c rh' G' =>
    rw [q] at hh
    dsimp only at hh
    split at hh
    · rename_i hin3
      obtain ⟨hin, hil⟩ := hin3
      intro F' al' H' sg' C x R' mC
      obtain ⟨_, _, _, q4⟩ := chk_exc chk hin
      have eC : C = He.ga X.K c := by
        have := mC.symm.trans (glo c hin)
        cases this
        rfl
      subst eC
      have il : i < sg'.length := by rw [← R'.env.len]; exact hil
      refine ⟨_, rfl, rfl, q4, fun a na => ?_⟩
      have lu : Le F' (upd F' a (ExV (He.ga X.K c) a)) := Le.upd (R'.sim.freeF na)
      have R2 : Rel X.K X.mg P (upd F' a (ExV (He.ga X.K c) a)) al' G' (rh'.set i (some (.exc c))) (sg'.set i (some (.ref a))) (upd H' a (ExV (He.ga X.K c) a)) := by
        refine ⟨R'.sim.newF na _, ?_, fun k d e => ?_⟩
        · simp only [List.length_set]; exact R'.env.len
        · by_cases hk : i = k
          · subst hk
            rw [List.getElem?_set_self hil] at e
            cases e
            refine ⟨.ref a, List.getElem?_set_self il, ?_⟩
            unfold RepV
            exact ⟨a, rfl, upd_same⟩
          · rw [List.getElem?_set_ne hk] at e
            obtain ⟨v, e1, r1⟩ := R'.env.at_ k d e
            refine ⟨v, ?_, r1.mono lu (List.prefix_refl _)⟩
            rw [List.getElem?_set_ne hk]
            exact e1
      refine ⟨P, _, al', G', _, R2, ?_⟩
      cases q2 : h (rh'.set i (some (.exc c))) G' with
      | nx rh2 G2 =>
        rw [q2] at hh
        intro F2 al2 H2 sg2 x2 R3
        refine hh F2 al2 H2 (sg2.set i none) (x.trans (Ext.trans ⟨lu, List.prefix_refl _⟩ x2)) ⟨R3.sim, ?_, fun k d e => ?_⟩
        · simp only [List.length_set]; exact R3.env.len
        · by_cases hk : i = k
          · subst hk
            have il2 : i < rh2.length := by
              have := (List.getElem?_eq_some_iff.mp e).1
              rwa [List.length_set] at this
            rw [List.getElem?_set_self il2] at e
            cases e
          · rw [List.getElem?_set_ne hk] at e ⊢
            exact R3.env.at_ k d e
      | rt d G2 => rw [q2] at hh; exact hh.elim
      | bk rh2 G2 => rw [q2] at hh; exact hh.elim
      | ct rh2 G2 => rw [q2] at hh; exact hh.elim
      | exn c2 rh2 G2 => rw [q2] at hh; exact hh.elim
      | stuck => rw [q2] at hh; exact hh.elim
    · exact hh.elim
end
end VL

/-! Q51: isinstance(e, (C, ..)); text * int; strip of signs; replace in a return, one token out. -/
namespace VL
open PySem PySem.Spec PyProof.Rows L2
/-! ### isinstance(e, (C, ..)), e a kept exception -/
def rIsXT (K : Frag) : List V → Hp → VK → Prop := fun xs H Q => ∃ (a D tp : Addr) (cs : List V) (us : List Value) (b : Bool), xs = [.ref a, .ref tp] ∧ H tp = some (.tup cs) ∧ Paired ClsV cs us ∧ H a = some (ExV D a) ∧ ExcC K D ∧ PySem.W.kitAny K (.ref D) us = some b ∧ Q (.bl b) H
theorem call_isXT {X : Cx} : CallR X (.builtin "isinstance") (rIsXT X.K) := by
  intro pins s st H xs us Q I r h
  obtain ⟨a, D, tp, cs, ws, b, rfl, hT, k, at_, ex, kit, q⟩ := h
  obtain ⟨u1, u2, rfl, r1, r2⟩ := vals2 r
  cases (show u2 = Value.ref tp from r2)
  cases (show u1 = Value.ref a from r1)
  obtain ⟨⟨oe, vs, look, zc, data⟩, _, _⟩ := I.hok a _ at_
  have inst : PySem.W.InstAt s.heap a oe D none := by
    obtain ⟨oc, od, odat, osl⟩ := oe
    obtain ⟨z1, z2⟩ := zc
    dsimp only at z1 z2 data
    subst z1 z2 data
    exact ⟨look, rfl, rfl, trivial⟩
  obtain ⟨_, its, rv, o, h1, h2, n, h3⟩ := (show ObjOk X.prog X.w H s.heap tp (.tup cs) from I.hok tp _ hT)
  have e3 := ClsV.all k rv
  subst e3
  obtain ⟨oc, od, dt, sl⟩ := o
  simp only at h2 h3
  subst h2 h3
  exact PySem.W.kia_tup (PySem.W.handS_kitx_exc ex.hg ex.hk ex.hs ex.hd ex.ha ex.hn ex.ht ex.hm) I.kIn inst h1 kit (fun z => nomatch z) fun tk => ⟨.bl b, H, I.tok tk, rfl, q⟩
/-- names of own classes, as a list of values -/
def tCls (cs : List V) : TA := fun _ H Q => Q cs H
section
variable {X : Cx} {W : WX}
theorem pac_nil : PA X [] (tCls []) := pa_nil
theorem pac_cons {t : Str} {ts : List Str} {es : List Expr} {p : Pos} (ht : Gl X t) (hmt : X.mg t = some (.ref (He.ga X.K t))) (h : PA X es (tCls (ts.map fun t => V.ref (He.ga X.K t)))) (hd2 : (t == ("__debug__" : Str)) = false := by decide)
    (hs : starEach (.Name t p :: es) X.env = (false, eval (.Name t p) X.env) :: starEach es X.env := by rfl) : PA X (.Name t p :: es) (tCls ((t :: ts).map fun t => V.ref (He.ga X.K t))) :=
  pa_imp (pa_cons (pe_glob (v := .ref (He.ga X.K t)) ht hmt rfl hd2) h hs) fun sg H Q q => q
def oIsET (es ts : List Str) (d : D) (G : GH) : Out D := match d with
  | .exc e => if e ∈ es then .ok (.bl (decide (e ∈ ts))) G else .stuck
  | _ => .stuck
theorem kit_any {es ys : List Str} {K : Frag} (chk : chkX es ys K = true) {e : Str} (he : e ∈ es) : ∀ {ts : List Str}, (∀ t ∈ ts, t ∈ ys) → PySem.W.kitAny K (.ref (He.ga K e)) (ts.map fun t => Value.ref (He.ga K t)) = some (decide (e ∈ ts))
  | [], _ => rfl
  | t :: ts, h => by
    have h1 := (chk_exc chk he).2.1 t (h t List.mem_cons_self)
    have ih := kit_any chk he (ts := ts) fun u hu => h u (List.mem_cons_of_mem _ hu)
    refine kitAny_cons h1 (fun hf => ?_) (fun hf => ?_)
    · have : e ≠ t := of_decide_eq_false hf
      rw [ih]
      congr 1
      simp [this]
    · have : e = t := of_decide_eq_true hf
      simp [this]
theorem paired_cls {K : Frag} : ∀ ts : List Str, Paired ClsV (ts.map fun t => V.ref (He.ga K t)) (ts.map fun t => Value.ref (He.ga K t))
  | [] => .nil
  | t :: ts => .cons (.own _) (paired_cls ts)
theorem ve_isET {es ys ts : List Str} {a : Expr} {ma : M D} {pos tpos p : Pos} {k : _} {nes : List Expr} {x : Str} (chk : chkX es ys X.K = true) (hy : ∀ t ∈ ts, t ∈ ys) (hl : ts.length ≤ sizeLine) (hg : Gl X x) (hm : X.mg x = none) (hv : bootBuiltins x = some (.builtin "isinstance"))
    (hn' : PA X nes (tCls (ts.map fun t => V.ref (He.ga X.K t)))) (ha : VE X W a ma)
    (hn : x ≠ ("__name__" : Str) := by decide) (hd : (x == ("__debug__" : Str)) = false := by decide)
    (he : starEach [a, .Tuple nes k tpos] X.env = (false, eval a X.env) :: starEach [.Tuple nes k tpos] X.env := by rfl) (he2 : starEach [.Tuple nes k tpos] X.env = (false, eval (.Tuple nes k tpos) X.env) :: starEach [] X.env := by rfl)
    (hpl : (backTo pos (starEach [.Tuple nes k tpos] X.env)).any (·.1) = false := by rfl) : VE X W (.Call (.Name x p) [a, .Tuple nes k tpos] [] pos) (b1 (oIsET es ts) ma) :=
  pe_imp (pe_callB call_isXT hg hm hv (pa_cons ha (pa_cons (pe_tup hn') pa_nil he2) he) hn hd he hpl) fun sg H Q ⟨P, F, al, G, rh, R, h1⟩ => ⟨P, F, al, G, rh, R, (step R.env h1).imp fun v H1 ⟨F1, al1, G1, d, _, R1, r1, h2⟩ => by
    unfold oIsET at h2
    split at h2
    · rename_i e
      split at h2
      · rename_i hin
        unfold RepV at r1
        obtain ⟨a1, rfl, k1⟩ := r1
        have q1 := (chk_exc chk hin).1
        have hH := R1.sim.sub _ _ k1
        refine ⟨by rw [List.length_map]; exact hl, fun p hp => ?_⟩
        have hne : a1 ≠ p := fun z => by rw [z, hp] at hH; cases hH
        refine ⟨a1, _, p, _, _, _, rfl, upd_same, paired_cls ts, ?_, q1, kit_any chk hin hy, ?_⟩
        · rw [upd_ne hne]; exact hH
        · exact h2 _ _ _ _ ⟨Le.upd (R1.sim.freeF hp), List.prefix_refl _⟩ (R1.sim.newF hp _) rfl
      · exact h2.elim
    · exact h2.elim⟩
end
/-! ### text * int -/
def oMulS (d e : D) (G : GH) : Out D := match d, e with
  | .str x, .int n => if x.length = 1 ∧ 1 ≤ n ∧ n ≤ 1000 then .ok (.str (Txt.mul x n)) G else .stuck
  | _, _ => .stuck
/-! ### strip of signs -/
def oStripC (d : D) (ds : List D) (G : GH) : Out D := match d, ds with
  | .str a, [.str b] => if a.length ≤ sizeLine then .ok (.str (Txt.stripChars a b)) G else .stuck
  | _, _ => .stuck
/-! ### one token out -/
abbrev VST (X : Cx) (W : WX) (st : Stmt) (g : S) : Prop := PST X st (tS X.K X.mg W g)
abbrev VSsT (X : Cx) (W : WX) (st : List Stmt) (g : S) : Prop := PSsT X st (tS X.K X.mg W g)
section
variable {X : Cx} {W : WX} {st : Stmt} {rest : List Stmt} {g k : S}
theorem psst_imp {t t' : TS} (h : PSsT X rest t) (i : ∀ E sg H, t' E sg H → t E sg H) : PSsT X rest t' := fun pins s sg H E h0 I q => h pins s sg H E h0 I (i _ _ _ q)
theorem pst_imp {t t' : TS} (h : PST X st t) (i : ∀ E sg H, t' E sg H → t E sg H) : PST X st t' := fun pins s sg H E h0 I q => h pins s sg H E h0 I (i _ _ _ q)
theorem seq_imp : ∀ E sg H, tS X.K X.mg W (sSeq g k) E sg H → tSeq (tS X.K X.mg W g) (tS X.K X.mg W k) E sg H := fun E sg H ⟨P, F, al, G, rh, R, h⟩ => ⟨P, F, al, G, rh, R, by
  unfold sSeq at h
  cases q : g rh G with
  | nx rh' G' => rw [q] at h; exact fun F' al' H' sg' x R' => ⟨P, F', al', G', rh', R', OblS.ext (show OblS X.K X.mg P W F al (k rh' G') E from h) x⟩
  | rt d G' => rw [q] at h; exact h
  | bk rh' G' => rw [q] at h; exact h
  | ct rh' G' => rw [q] at h; exact h
  | exn c rh' G' => rw [q] at h; exact h
  | stuck => rw [q] at h; exact h⟩
theorem vsst_one (h : VST X W st g) : VSsT X W [st] g := CwR.psst_one h
/-- a.replace(y, z) -/
def oRepl (y z : Str) (d : D) (G : GH) : Out D := match d with
  | .str x => if x.length + (x.length + 1) * z.length ≤ 16777216 then .ok (.str (Txt.replace x y z)) G else .stuck
  | _ => .stuck
theorem vst_retR {o : Expr} {mo : M D} {y z : Str} {j k : _} {c0 c1 apos p pos : Pos} (ho : VE X W o mo) (hyz : (y == z) = false)
    (hst : starEach [.Constant (.str y) j c0, .Constant (.str z) k c1] X.env = [(false, eval (.Constant (.str y) j c0) X.env), (false, eval (.Constant (.str z) k c1) X.env)] := by rfl)
    (hbase : attributeBase o "replace" X.env (eval o X.env) = eval o X.env := by rfl) (hline : (apos.endLine == pos.line) = true := by rfl) :
    VST X W (.Return (some (.Call (.Attribute o "replace" apos) [.Constant (.str y) j c0, .Constant (.str z) k c1] [] pos)) p) (sRet (b1 (oRepl y z) mo)) := by
  refine pst_imp (CwR.pst_ret (CwR.pet_replC ho hyz hst hbase hline)) ?_
  rintro E sg H ⟨P, F, al, G, rh, R, h⟩
  refine ⟨P, F, al, G, rh, R, ?_⟩
  unfold sRet b1 at h
  show Obl X.K X.mg P (RepV X.K) W sg F al (mo rh G) _
  cases e : mo rh G with
  | ok d G1 =>
    rw [e] at h
    intro F' al' H' v x S r
    have h4 := OblS.ext h x
    change OblS X.K X.mg P W F' al' (fromO (oRepl y z d G1) rh fun d G' => .rt d G') E at h4
    unfold oRepl at h4
    split at h4
    · rename_i a
      split at h4
      · rename_i hl
        unfold RepV at r
        subst r
        exact ⟨a, rfl, hl, h4 F' al' H' _ (Ext.refl _ _) S rfl⟩
      · exact h4.elim
    · exact h4.elim
  | exn c G1 =>
    rw [e] at h
    exact fun F' al' H' C x S mm => h F' al' H' sg C x ⟨S, R.env.ext x⟩ mm
  | stuck =>
    rw [e] at h
    exact h.elim
end
end VL

/-! Q52: a list comprehension whose element is a call that may raise. -/
namespace VL
open PySem PySem.Spec PyProof.Rows L2
/-! ### the model's comprehension, the frame kept in mind -/
def endLc (M : Model) (A : Around) (E : Value → Shared → Prop) (Q : Value → Shared → Prop) (acc : Value) (C : Addr) (fr : Option Addr) (r : Result) (s' : Shared) : Prop := match r with
  | .ok _ => ∃ m, s'.heap.Ns C m ∧ ∀ g, Heap.SameBut C s'.heap g → Q acc { s' with heap := g }
  | .error x => ∃ m, s'.heap.Ns C m ∧ ∀ g, Heap.SameBut C s'.heap g → ∀ ce : Env, ce.locals = C → ce.frame = fr → wpAny M A (passOn "comprehension.variables-let-go" x ce : Sem Value) (fun _ _ => False) E { s' with heap := g }
theorem lc_runs {M : Model} {A : Around} {E : Value → Shared → Prop} {s : Shared} {env : Env} {e : Expr} {scope : Scope} {pos : Pos} {newAcc first : Sem Value} {g : Comprehension} {gs : List Comprehension} {cl : List (Str × Addr)} {Q : Value → Shared → Prop}
    (hcl : clausesOf e = g :: gs) (hs : ∀ x, foldedSetIterable g.iter env x = pure x) (hclos : closureFor scope env = pure cl) (hkind : scope.kind = .function) (hnames : ∀ x ∈ scope.names, x.2 = .local → scope.names.lookup x.1 = some .local)
    (h : wpAny M A first (fun x s1 => wpAny M A (pyIter x) (fun it s2 => wpAny M A newAcc (fun acc s3 => wpAny M A (newFunctionEnv scope env.globals cl [] env.qual none .none (some env)) (fun ce s4 =>
      codeAny M A (.compStart e 0 it acc { ce with scope := relabel scope env }) (endLc M A E Q acc ce.locals ce.frame) s4) E s3) E s2) E s1) E s) : wpAny M A (comprehension e scope env pos newAcc false first none) Q E s := by
  have up : ∀ {α : Type} {t : Sem α} {Q1 Q2 : α → Shared → Prop} {s : Shared}, wpAny M A t Q1 E s → (∀ a s, Q1 a s → Q2 a s) → wpAny M A t Q2 E s := fun h k => wpAny_mono h k fun _ _ z => z
  unfold comprehension
  rw [hclos, hcl]
  refine wpAny_bind (up h fun x s1 h1 => ?_)
  refine wpAny_bind (wpAny_standAt (wpAny_bind (wpAny_of_eq (hs x) (wpAny_bind (wpAny_holding (up h1 fun it s2 h2 => ?_))))))
  refine wpAny_standIf (wpAny_bind (up h2 fun acc s3 h3 => ?_))
  refine wpAny_bind (wpAny_pure (wpAny_bind (up h3 fun ce s4 h4 => ?_)))
  dsimp only
  have named : ∀ x ∈ (scope.names.filter fun x => (x.2 == .local || x.2 == .cell) && x.1 != (".0" : Str)).reverse, x.2 = .local → Env.kindOf { ce with scope := relabel scope env } x.1 = some .local := by
    intro x hx hl
    have hm := (List.mem_filter.mp (List.mem_reverse.mp hx)).1
    exact lookup_relabel_local (hnames x hm hl)
  refine wpAny_holding (wpAny_bind (wpAny_attempt (wpAny_holding (wpAny_run (codeAny_mono h4 fun r s5 hr => ?_)))))
  cases r with
  | ok f =>
    obtain ⟨m, hn, hq⟩ := hr
    refine wpAny_bind (wpAny_holding (wpAny_comp_letGo (cenv := { ce with scope := relabel scope env }) hkind _ s5 m named hn ?_))
    intro g5 _ _ hb
    exact wpAny_pure (hq g5 hb)
  | error x =>
    obtain ⟨m, hn, hq⟩ := hr
    refine wpAny_bind (wpAny_holding (wpAny_comp_letGo (cenv := { ce with scope := relabel scope env }) hkind _ s5 m named hn ?_))
    intro g5 _ _ hb
    exact wpAny_mono (hq g5 hb _ rfl rfl) (fun _ _ z => z.elim) fun _ _ z => z
/-! ### out of the block -/
theorem note_same {x : Value} {e1 e2 : Env} (h : e1.frame = e2.frame) : noteFrame x e1 = noteFrame x e2 := by
  unfold noteFrame PySem.frameOf
  rw [h]
/-- one address less -/
theorem but_one (h : Heap) (C : Addr) : ∃ G : Heap, (∀ b, b ≠ C → G.get? b = h.get? b) ∧ G.get? C = none := by
  obtain ⟨G, g1, g2⟩ := L2.restrict h fun b => decide (b ≠ C)
  exact ⟨G, fun b hb => g1 b (decide_eq_true hb), g2 C (decide_eq_false fun z => z rfl)⟩
section
variable {M : Model} {A : Around} {env : Env} {outer : List Env} {L a : Addr} {Z : Obj → Prop} {B : Heap} {s : Shared}
theorem sky_held {E : Value → Shared → Prop} {Q : Unit → Shared → Prop} (hZ : HandSPX.Steady Z) (hfr : A.frames = some (env :: outer)) (hf : env.frame = some L) (x : Sky B (env :: outer) a Z L s.heap)
    (k : ∀ g, HandSPX.HeldZ B (env :: outer) a Z L g → s.heap.UpToSlots g → Q () { s with heap := g }) : wpAny M A (noteFrame (.ref a) env) Q E s := by
  rcases x with ⟨b1, b2, b3, oe, vs, b4, b5, b6, b7⟩ | fl | hh
  · exact HandSPX.look_newZ hZ hfr b3 hf b4 b1 b2 b6 b7 b5 k
  · exact HandSPX.looks_onZ hZ hfr hf fl k
  · exact HandSPX.againZ hf hh.2.2.2 (k s.heap hh (Heap.UpToSlots.refl _))
end
theorem frames_but {h h2 B B2 : Heap} {C : Addr} (sub : ∀ b, B.get? b = none → B2.get? b = none) (sb : ∀ b, b ≠ C → h2.get? b = h.get? b) : ∀ {l : List Env}, h.FunFrames B l → (∀ e ∈ l, e.frame ≠ some C) → h2.FunFrames B2 l
  | [], _, _ => trivial
  | env :: r, ⟨k1, ⟨L, o, k2, k3, k4, k5⟩, k6⟩, n => ⟨k1, ⟨L, o, k2, sub L k3, (sb L fun z => n env List.mem_cons_self (by rw [k2, z])).trans k4, k5⟩, frames_but sub sb k6 fun e he => n e (List.mem_cons_of_mem _ he)⟩
section
variable {X : Cx} {W : WX} {pins : List (Addr × Obj)} {st : L2.St} {H : Hp} {s : Shared}
/-- an own name's dict stands pinned -/
abbrev withPin (X : Cx) (C : Addr) (oC : Obj) : Cx := { X with pn := (C, oC) :: X.pn }
theorem ok_pin {C : Addr} {oC : Obj} (k : X.Ok) : (withPin X C oC).Ok := ⟨k.mod, k.kind, k.glob, k.blt, k.above, k.inj, k.has, k.cab, k.hd, k.frames, k.stk, k.exf, k.bs, k.bsz, k.noex, k.exfs, k.funs, k.frf⟩
/-- a call within the block lets an exception out: it leaves the comprehension -/
theorem leaves_block (tk : Takes X W) (hs : X.stack = X.env :: X.outer) (hf : X.env.frame = some X.env.locals) {C : Addr} {m : Str → Option Value} (I : Inv X pins st H s) (fp : FpOk X pins H C) (ns : s.heap.Ns C m) {E : XK} (hE : ∀ cls d H', E cls d H' → W cls d st H')
    {ce : Env} (hce : ce.frame = X.env.frame) {Q : Value → Shared → Prop} {acc u : Value} {s' : Shared} {E1 : Value → Shared → Prop} (c : CX X.prog X.w X.stack H s E u s') :
    wpAny (model X.prog X.w) X.A (noteFrame u ce) (fun _ s2 => endLc (model X.prog X.w) X.A X.xe Q acc C X.env.frame (.error u) s2) E1 s' := by
  obtain ⟨oC, es, ep, gC, dC, kC, nC⟩ := ns
  obtain ⟨f1, f2, f3, f4, f5, f6⟩ := fp
  have ok := I.ok
  have notCell : ∀ v, oC.data ≠ .cell v := fun v z => by rw [dC] at z; cases z
  have notFields : ∀ vs, oC.data ≠ .fields vs := fun v z => by rw [dC] at z; cases z
  have I1 : Inv (withPin X C oC) pins st H s := ⟨ok_pin ok, I.os, I.bare, I.base, I.loc, I.cell, I.free, I.freeC, fun p hp => by
    rcases List.mem_cons.mp (show p ∈ (C, oC) :: (X.pn ++ pins) from hp) with rfl | h
    · exact ⟨gC, f1, f2, f3, notCell⟩
    · exact I.pin p h, I.hok, I.len⟩
  obtain ⟨a, B, sI, pins1, st1, H1, cls, d, rfl, J1, nb, up, sky, na, os, ag, w⟩ := XE.of_call (X := withPin X C oC) (W := W) I1 hE c
  have pinC := J1.pin (C, oC) (List.mem_append_left _ List.mem_cons_self)
  have J0 : Inv X [] st1 H1 sI := ⟨ok, J1.os, J1.bare, J1.base, J1.loc, J1.cell, J1.free, J1.freeC, fun p hp => J1.pin p (by
    rw [List.append_nil] at hp
    exact List.mem_append_left _ (List.mem_cons_of_mem _ hp)), J1.hok, J1.len⟩
  obtain ⟨G2, g1, g2⟩ := but_one sI.heap C
  have J2 : Inv X [] st1 H1 { sI with heap := G2, toks := sI.toks } := J0.turned (t' := sI.toks) (it := C) (fun b o hb e => (g1 b hb).trans e) pinC.2.1 f2 f4 f5 fun p hp => f6 p (by
    rw [List.append_nil] at hp
    exact List.mem_append_left _ hp)
  have sky1 : Sky B (X.env :: X.outer) a (Zc cls d) X.env.locals s'.heap := by rw [← hs]; exact sky
  have frames : X.A.frames = some (X.env :: X.outer) := by rw [ok.frames, hs]
  rw [note_same hce]
  refine sky_held Zc.steady frames hf sky1 fun h1 hh up1 => ?_
  obtain ⟨sl1, e1⟩ := up C oC pinC.1 notFields
  obtain ⟨sl2, e2⟩ := up1 C _ e1 notFields
  refine ⟨m, ⟨_, es, ep, e2, dC, kC, nC⟩, fun h2 sb ce2 hL hF => ?_⟩
  obtain ⟨stays, ba, ff, oe, vs, T, oT, ts, he, hz, hd, hT1, hnT, hTe, hT, hdT, h3⟩ := hh
  have apart : ∀ {b : Addr} {o : Obj} {v : Array Value}, h1.get? b = some o → o.data = .fields v → b ≠ C := fun {b o v} e dd z => by
    rw [z, e2] at e
    cases e
    exact notFields _ dd
  have aC := apart he hd
  have TC := apart hT hdT
  obtain ⟨B2, b1, b2⟩ := but_one B C
  have sub : ∀ b, B.get? b = none → B2.get? b = none := fun b e => by
    by_cases z : b = C
    · rw [z]; exact b2
    · rw [b1 b z]; exact e
  have stays2 : B2.StaysIn h2 := fun b o e => by
    by_cases z : b = C
    · rw [z, b2] at e; cases e
    · rw [b1 b z] at e
      rw [sb.2 b z]
      exact stays b o e
  have ff2 : h2.FunFrames B2 (X.env :: X.outer) := frames_but sub sb.2 ff fun e he z => by
    rcases List.mem_cons.mp he with rfl | h
    · rw [hf] at z
      cases z
      exact f2 rfl
    · exact f3 (List.mem_filterMap.mpr ⟨e, h, z⟩)
  have tr : HandSPX.TracedZ h2 B2 a (Zc cls d) (rawInt X.env.locals) := ⟨oe, vs, T, oT, ts, by rw [sb.2 a aC]; exact he, hz, hd, hT1, sub _ hnT, hTe, by rw [sb.2 T TC]; exact hT, hdT, h3⟩
  unfold PySem.passOn
  refine wpAny_bind (wpAny_field (by show h2.get? a = _; rw [sb.2 a aC]; exact he) hd hT1 ?_)
  rw [if_neg (show ¬ ((Value.ref T == Value.none) = true) from by simp)]
  have fin : wpAny (model X.prog X.w) X.A (setFlight (.ref a) ce2.frame) (fun _ s4 => wpAny (model X.prog X.w) X.A (throw (.ref a) : Sem Value) (fun _ _ => False) X.xe s4) X.xe { s' with heap := h2 } := by
    rw [hF, hf]
    refine HandSPX.setFlight_anyZ stays2 ff2 tr fun h4 x1 x2 x3 x4 => wpAny_throw (tk _ _ ?_)
    refine ⟨a, B2, _, [], st1, H1, cls, d, rfl, J2, fun b o e hb => ?_, fun b o e hnf => ?_, .inr (.inr (by rw [hs]; exact ⟨x1, sub _ ba, x2, x3⟩)), na, os, ag, w⟩
    · have z : b ≠ C := fun z => by
        have e' : G2.get? b = some o := e
        rw [z, g2] at e'
        cases e'
      have e' : G2.get? b = some o := e
      rw [g1 b z] at e'
      rw [b1 b z]
      exact nb b o e' hb
    · have z : b ≠ C := fun z => by
        have e' : G2.get? b = some o := e
        rw [z, g2] at e'
        cases e'
      have e' : G2.get? b = some o := e
      rw [g1 b z] at e'
      obtain ⟨y1, q1⟩ := up b o e' hnf
      obtain ⟨y2, q2⟩ := up1 b _ q1 hnf
      have q3 : h2.get? b = some { o with slots := y2 } := by rw [sb.2 b z]; exact q2
      obtain ⟨y4, q4⟩ := x4 b _ q3 hnf
      exact ⟨y4, q4⟩
  first
    | exact wpAny_bind (wpAny_pure (wpAny_bind fin))
    | exact wpAny_bind fin
end
/-! ### the rule -/
def tLcX (wi : TI) (g : TG) (tt : TT) (te : WX → TE) (vs : List Nat) (W : WX) : TE := fun st H Q => tLc wi g tt (te fun c d _ H1 => W c d st H1) vs st H Q
section
variable {X : Cx} {W : WX}
theorem pe_lcX {elt tg iter : Expr} {ifs : List Expr} {scope : Scope} {own : List (Str × Nat)} {pos : Pos} {wi : TI} {g : TG} {tt : TT} {te : WX → TE} (tk : Takes X W) (hstk : X.stack = X.env :: X.outer) (hfrm : X.env.frame = some X.env.locals) (hc : X.calm = true) (hN : X.N.Nodup) (hi : PI X tg iter wi) (ok : BlkOk X.N X.env.scope scope own)
    (hg : ∀ (s : Shared) (H : Hp) (C : Addr) (cl : List (Str × Addr)) (fp : List Addr), PG (XB X s H scope C cl fp) tg g) (ht : ∀ (s : Shared) (H : Hp) (C : Addr) (cl : List (Str × Addr)) (fp : List Addr), PTs (XB X s H scope C cl fp) ifs tt)
    (he : ∀ (s : Shared) (H : Hp) (C : Addr) (cl : List (Str × Addr)) (fp : List Addr) (xe : Value → Shared → Prop) (W2 : WX), (∀ sg, PassesAt (L2.CX X.prog X.w) ((XB X s H scope C cl fp).wish xe) sg (WE W2 sg)) → PE ((XB X s H scope C cl fp).wish xe) elt (te W2))
    (hs : ∀ x, foldedSetIterable iter X.env x = pure x := by intro _; rfl) : PE X (.ListComp elt [⟨tg, iter, ifs, 0⟩] scope pos) (tLcX wi g tt te (own.map (·.2)) W) := by
  constructor
  intro pins s st H Q I want
  have clos : ∀ y ∈ scope.names, y.2 = .free → ∃ c, X.env.cells.lookup y.1 = some c := by
    intro y hy e
    rcases ok.free y hy e with k | k
    · exact I.ok.has _ (.inl k)
    · exact I.ok.has _ (.inr k)
  rw [eval_ListComp]
  refine lc_runs rfl hs (closure_ok clos) ok.kind (fun y hy e => by rw [ok.uniq y hy, e]) (thn (hi.run pins s st H _ I want) fun xv s1 hx => thn hx fun itv s2 h2 => ?_)
  obtain ⟨it, fp, tn, J, H2, rfl, I2, T, run2, free2, q⟩ := h2
  refine wpAny_newObj_type (newEnv_comp ?_) (by show 0 ≤ sizeLine; decide)
  generalize eD : s2.heap.objs.size = D
  have freshD : H2 D = none := I2.hok.fresh (Nat.le_of_eq eD)
  obtain ⟨V, ⟨n0, v0⟩, turn⟩ := q D freshD
  generalize e3 : ({ s2 with heap := s2.heap.push { cls := .type "list", data := .seq ([] : List Value).toArray } } : Shared) = t3
  have heap3 : t3.heap = s2.heap.push { cls := .type "list", data := .seq ([] : List Value).toArray } := by rw [← e3]
  have I3 : Inv X pins st (upd H2 D (.lst [])) t3 := by
    rw [← e3]
    refine I2.laid (t' := s2.toks) (fun b o e => Heap.get?_push_of_some _ e) (Nat.le_of_eq eD) ⟨Nat.zero_le _, [], 0, .nil, ?_⟩
    rw [← eD]
    exact Heap.get?_push_size _ rfl
  have below : ∀ b ∈ fp, b < s2.heap.objs.size := by
    intro b hb
    obtain ⟨o, e, _⟩ := T.obj _ _ run2 b hb
    exact Heap.lt_size e
  have free3 : ∀ b ∈ fp, FpOk X pins (upd H2 D (.lst [])) b ∧ b < t3.heap.objs.size := by
    intro b hb
    have lt := below b hb
    have ne : b ≠ D := by rw [← eD]; exact Nat.ne_of_lt lt
    refine ⟨⟨?_, (free2 b hb).2⟩, ?_⟩
    · rw [upd_ne ne]; exact (free2 b hb).1
    · rw [heap3, Heap.size_push]; exact Nat.lt_succ_of_lt lt
  have run3 : tn 0 t3.heap := T.keep _ _ _ run2 fun b _ o e => by rw [heap3]; exact Heap.get?_push_of_some _ e
  have I4 := block_start I3 ok hN free3
  generalize ecl : cellsFrom (t3.heap.objs.size + 1) scope.names (cloFrom X.env.cells scope.names []) = cl at I4
  have pg := hg t3 (upd H2 D (.lst [])) t3.heap.objs.size cl fp
  have pt := ht t3 (upd H2 D (.lst [])) t3.heap.objs.size cl fp
  have pe := he t3 (upd H2 D (.lst [])) t3.heap.objs.size cl fp
  unfold XB at pg pt pe
  show codeAny _ _ (.compStart (.ListComp elt [⟨tg, iter, ifs, 0⟩] scope pos) 0 (.ref it) (.ref D) (compEnvC scope cl t3.heap.objs.size X.env)) (endLc (model X.prog X.w) X.A X.xe (EP X pins st Q) (.ref D) t3.heap.objs.size X.env.frame) { t3 with heap := pushCells (t3.heap.push { cls := .type "dict", data := .dict #[] }) scope.names }
  have nfp : ∀ b ∈ fp, (upd H2 D (.lst [])) b = none := fun b hb => (free3 b hb).1.1
  generalize ece : compEnvC scope cl t3.heap.objs.size X.env = ce at I4 pg pt pe ⊢
  have ceL : ce.locals = t3.heap.objs.size := by rw [← ece]; rfl
  have ceF : ce.frame = X.env.frame := by rw [← ece]; rfl
  generalize eH : upd H2 D (.lst []) = H3 at I3 I4 pg pt pe v0 nfp free3
  generalize e4 : ({ t3 with heap := pushCells (t3.heap.push { cls := .type "dict", data := .dict #[] }) scope.names } : Shared) = t4 at I4 ⊢
  have run4 : tn 0 t4.heap := T.keep _ _ _ run3 fun b _ o e => by rw [← e4]; exact pushCells_keeps _ _ _ _ (Heap.get?_push_of_some _ e)
  -- the def's own view of a state of the block
  have back : ∀ {E : Value → Shared → Prop} {pn : List (Addr × Obj)} {sg : L2.St} {K : Hp} {u : Shared}, Inv ((X.blk t3 H3 scope ce fp).wish E) pn sg K u → Inv X pins st K u ∧ FpOk X pins K t3.heap.objs.size ∧ ∃ m, u.heap.Ns t3.heap.objs.size m := by
    intro E pn sg K u Ib
    have nC : K t3.heap.objs.size = none := by
      have z : K ce.locals = none := Ib.free
      rwa [ceL] at z
    obtain ⟨m, hn, _⟩ := Ib.loc
    have hn2 : u.heap.Ns ce.locals m := hn
    rw [ceL] at hn2
    exact ⟨I3.call' (ch := fp) Ib.os Ib.base Ib.hok Ib.bare fun b hb => ⟨(free3 b hb).1.2.2.2.1, (free3 b hb).1.2.1, (free3 b hb).1.2.2.2.2.1, (free3 b hb).1.2.2.2.2.2⟩, I3.fpOk (Nat.le_refl _) nC, m, hn2⟩
  have still : ∀ {sg : L2.St} {K : Hp} {u : Shared}, Inv (X.blk t3 H3 scope ce fp) [] sg K u → (∀ b ∈ fp, K b = none) → ∀ b ∈ fp, FpOk (X.blk t3 H3 scope ce fp) [] K b := by
    intro sg K u Ib hn b hb
    obtain ⟨z1, z2⟩ := Ib.ok.exf b hb
    exact ⟨hn b hb, z1, Ib.ok.exfs b hb, .inl hb, fun x c e => z2 x c e, fun p hp => absurd (show p ∈ ([] : List (Addr × Obj)) ++ [] from hp) (by simp)⟩
  have loop : codeAny (model X.prog X.w) X.A (.compLoop (.ListComp elt [⟨tg, iter, ifs, 0⟩] scope pos) 0 (.ref it) (.ref D) ce) (endLc (model X.prog X.w) X.A X.xe (EP X pins st Q) (.ref D) t3.heap.objs.size X.env.frame) t4 := by
    refine compLoop_any (fun n u => ∃ i K, Inv (X.blk t3 H3 scope ce fp) [] (wipe st (own.map (·.2))) K u ∧ tn i u.heap ∧ (∀ b ∈ fp, K b = none) ∧ V i n K) ?_ n0 ⟨0, H3, I4, run4, nfp, v0⟩
    rintro n t5 ⟨i, H5, I5, run5, nf5, v5⟩
    rcases turn i n H5 v5 with ⟨stop, qq⟩ | ⟨go, Nx, less, step⟩
    · have td := T.done (X.blk t3 H3 scope ce fp) rfl rfl rfl hc i [] t5 _ H5 (fun _ _ => False) I5 (still I5 nf5) run5 stop
      refine thnF td fun r t6 ⟨hr, I6⟩ => ?_
      subst hr
      obtain ⟨I7, ⟨f0, f1, f2, f3, f4, f5⟩, m, hn⟩ := back (I6.wish fun _ _ => False)
      refine ⟨m, hn, fun g7 sb => ?_⟩
      exact ⟨.ref D, H5, I7.turned (t' := t6.toks) (fun b o hb e => (sb.2 b hb).trans e) f0 f1 f3 f4 f5, rfl, qq⟩
    · have ti := T.item (X.blk t3 H3 scope ce fp) rfl rfl rfl hc i [] t5 _ H5 (fun _ _ => False) I5 (still I5 nf5) run5 go
      refine thnF ti fun r t6 ⟨u, hr, h6⟩ => ?_
      subst hr
      refine thnF h6 fun _ t7 ⟨x, H7, I7, r7, y7, run7, nf7⟩ => ?_
      have P7 := I7.pinned (still I7 nf7) (T.obj _ _ run7)
      refine thnF (pg.run _ t7 _ H7 x u _ P7 r7 (step x H7 y7)) fun _ t8 ⟨sg8, H8, I8, same8, q8⟩ => ?_
      refine thnF (pt.run _ t8 sg8 H8 _ I8 q8) fun b t9 ⟨H9, I9, q9⟩ => ?_
      have next : ∀ {u : Shared} {K : Hp}, Inv (X.blk t3 H3 scope ce fp) ([] ++ pinsAt fp t7.heap) sg8 K u → Nx K → ∃ m, m < n ∧ ∃ i K, Inv (X.blk t3 H3 scope ce fp) [] (wipe st (own.map (·.2))) K u ∧ tn i u.heap ∧ (∀ b ∈ fp, K b = none) ∧ V i m K := by
        intro u K Iu nx
        obtain ⟨m, hm, v⟩ := less K nx
        have pinned : ∀ b ∈ fp, ∀ o, t7.heap.get? b = some o → u.heap.get? b = some o ∧ K b = none := by
          intro b hb o e
          have z := Iu.pin (b, o) (List.mem_append_right _ (List.mem_append_right _ (mem_pinsAt hb e)))
          exact ⟨z.1, z.2.1⟩
        have len : (wipe st (own.map (·.2))).length = sg8.length := by rw [← same8, wipe_length]
        refine ⟨m, hm, i + 1, K, (Iu.unpinned (pins := [])).weak len (fun j v e => ?_), T.keep _ _ _ run7 fun b hb o e => (pinned b hb o e).1, fun b hb => ?_, v⟩
        · rw [← same8] at e
          exact (wipe_some e).1
        · obtain ⟨o, e, _⟩ := T.obj _ _ run7 b hb
          exact (pinned b hb o e).2
      cases b with
      | false =>
        simp only [Bool.false_eq_true, if_false] at q9 ⊢
        exact next I9 q9
      | true =>
        simp only [if_true] at q9 ⊢
        have pe9 := pe (notedBy (model X.prog X.w) X.A ce fun e s' => endLc (model X.prog X.w) X.A X.xe (EP X pins st Q) (.ref D) t3.heap.objs.size X.env.frame (.error e) s') (fun c d _ K => W c d st K) (by
          intro sg pn K u e u' Iu c
          obtain ⟨IX, fpC, m, nsC⟩ := back Iu
          exact leaves_block tk hstk hfrm IX fpC nsC (fun _ _ _ h => h) ceF c)
        refine thn (pe9.run _ t9 sg8 H9 _ (I9.wish _) q9) fun z t10 ⟨yv, H10, I10, r10, acc, hD10, hz10, nx⟩ => ?_
        exact app_ok (X := X.blk t3 H3 scope ce fp) I10.unwish hD10 hz10 r10 fun t11 I11 => next I11 nx
  exact codeAny_compStart_list loop (T.self X.A 0 _ _ _ run4 loop)
end
/-! ### the same, by what it is worth -/
def lcSX (at_ : GH → Nat → Option (Option D)) (t : T1) (tt : M Bool) (te : M D) (rw_ : DEnv) : Nat → Nat → List D → GH → Out (List D)
  | 0, i, acc, G => match at_ G i with
    | some none => .ok acc G
    | _ => .stuck
  | f + 1, i, acc, G => match at_ G i with
    | none => .stuck
    | some none => .ok acc G
    | some (some d) => match t d rw_ G with
      | none => .stuck
      | some rh2 => match tt rh2 G with
        | .ok true G2 => match te rh2 G2 with
          | .ok y G3 => if acc.length < sizeLine then lcSX at_ t tt te rw_ f (i + 1) (acc ++ [y]) G3 else .stuck
          | .exn c G3 => .exn c G3
          | .stuck => .stuck
        | .ok false G2 => lcSX at_ t tt te rw_ f (i + 1) acc G2
        | _ => .stuck
def mLcX (cm : Bool) (vs : List Nat) (m : M Src) (t : T1) (tt : M Bool) (te : M D) : M D := fun rh G => (m rh G).bind fun s G1 => (lcSX s.at_ t tt te (wipeD rh vs) s.fuel 0 [] G1).bind fun ds G2 => mk cm ds G2
theorem Sim.less {K : Frag} {mg : MG} {P P2 F : Hp} {al : List Addr} {H : Hp} {G : GH} (S : Sim K mg P2 F al H G) (h : ∀ a o, P a = some o → P2 a = some o) : Sim K mg P F al H G :=
  ⟨S.sub, fun a o e => S.fr a o (h a o e), fun a o e => S.dj a o (h a o e), S.nd, S.len, S.thr, S.cell⟩
section
variable {X : Cx} {W : WX}
theorem lcX_imp (cm : Bool) {m : M Src} {t : T1} {tt : M Bool} {te : M D} {vs ks : List Nat} (hk : ∀ j ∈ ks, j ∈ vs) : ∀ sg H Q, tV X.K X.mg W (mLcX cm vs m t tt te) sg H Q → tLcX (tI X.K X.mg W m) (tG X.K X.mg t ks) (tT X.K X.mg WF tt) (fun W2 => tV X.K X.mg W2 te) vs W sg H Q := fun sg H Q ⟨P, F, al, G, rh, R, h⟩ =>
  ⟨P, F, al, G, rh, R, (step (R := SrcOk X.K X.mg P) R.env h).imp fun J H1 ⟨F1, al1, G1, s, _, R1, ok, h1⟩ => by
    intro Dl hD
    have PD : P Dl = none := by
      cases q : P Dl with
      | none => rfl
      | some u => rw [R1.sim.fr Dl u q] at hD; cases hD
    have E1 := R1.env.wipe vs
    refine ⟨fun i n H => ∃ F2 al2 G2 acc vacc, Ext F1 al1 F2 al2 ∧ Sim X.K X.mg (upd P Dl (.lst vacc)) F2 al2 H G2 ∧ RepL X.K F2 al2 acc vacc ∧ Obl X.K X.mg P (RepV X.K) W sg F2 al2 ((lcSX s.at_ t tt te (wipeD rh vs) n i acc G2).bind fun ds G3 => mk cm ds G3) Q,
      ⟨s.fuel, F1, al1, G1, [], [], Ext.refl _ _, R1.sim.pin hD _, RepL.nil, h1⟩, ?_⟩
    rintro i n H2 ⟨F2, al2, G2, acc, vacc, x2, S2, ra, h2⟩
    obtain ⟨o1, o2⟩ := ok i F2 al2 H2 G2 _ x2 S2
    cases q : s.at_ G2 i with
    | none =>
      cases n with
      | zero => unfold lcSX at h2; rw [q] at h2; exact h2.elim
      | succ n => unfold lcSX at h2; rw [q] at h2; exact h2.elim
    | some q' =>
      cases q' with
      | none =>
        refine .inl ⟨o1 q, ?_⟩
        cases n with
        | zero => unfold lcSX at h2; rw [q] at h2; exact mk_at S2 PD ra h2
        | succ n => unfold lcSX at h2; rw [q] at h2; exact mk_at S2 PD ra h2
      | some d =>
        obtain ⟨hgo, hy⟩ := o2 d q
        cases n with
        | zero => unfold lcSX at h2; rw [q] at h2; exact h2.elim
        | succ n =>
          unfold lcSX at h2
          rw [q] at h2
          dsimp only at h2
          refine .inr ⟨hgo, fun H' => ∃ F3 al3 G3 acc3 vacc3, Ext F1 al1 F3 al3 ∧ Sim X.K X.mg (upd P Dl (.lst vacc3)) F3 al3 H' G3 ∧ RepL X.K F3 al3 acc3 vacc3 ∧ Obl X.K X.mg P (RepV X.K) W sg F3 al3 ((lcSX s.at_ t tt te (wipeD rh vs) n (i + 1) acc3 G3).bind fun ds G3 => mk cm ds G3) Q,
            fun H' hN => ⟨n, Nat.lt_succ_self _, hN⟩, fun x H3 yl => ?_⟩
          obtain ⟨F3, l3, S3, r3⟩ := hy x H3 yl
          have x3 : Ext F2 al2 F3 al2 := ⟨l3, List.prefix_refl _⟩
          cases q3 : t d (wipeD rh vs) G2 with
          | none => rw [q3] at h2; exact h2.elim
          | some rh3 =>
            rw [q3] at h2
            dsimp only at h2
            refine ⟨_, F3, al2, G2, wipeD rh vs, d, rh3, ⟨S3, E1.ext (x2.trans x3)⟩, r3, q3, fun sg3 R3 off => ⟨wipe_eq off hk, ?_⟩⟩
            refine ⟨_, F3, al2, G2, rh3, R3, ?_⟩
            cases q4 : tt rh3 G2 with
            | exn c G4 => rw [q4] at h2; exact h2.elim
            | stuck => rw [q4] at h2; exact h2.elim
            | ok bb G4 =>
              intro F4 al4 H4 vb x4 S4 rb
              cases rb
              have h4 := h2.ext (x3.trans x4)
              rw [q4] at h4
              cases bb with
              | false =>
                rw [if_neg Bool.false_ne_true]
                exact ⟨F4, al4, G4, acc, vacc, (x2.trans x3).trans x4, S4, (ra.ext x3).ext x4, h4⟩
              | true =>
                rw [if_pos rfl]
                dsimp only at h4
                refine ⟨_, F4, al4, G4, rh3, ⟨S4, R3.env.ext x4⟩, ?_⟩
                cases q5 : te rh3 G4 with
                | exn c G5 =>
                  rw [q5] at h4
                  intro F5 al5 H5 C x5 S5 mC
                  refine h4 F5 al5 H5 C x5 (S5.less fun a o e => ?_) mC
                  have ne : a ≠ Dl := fun z => by rw [z, PD] at e; cases e
                  rw [upd_ne ne]
                  exact e
                | stuck => rw [q5] at h4; exact h4.elim
                | ok y G5 =>
                  intro F5 al5 H5 vy x5 S5 ry
                  have h5 := h4.ext x5
                  rw [q5] at h5
                  dsimp only at h5
                  split at h5
                  · rename_i hl
                    refine ⟨vacc, S5.fr Dl _ upd_same, by rw [← ra.len]; exact hl, F5, al5, G5, acc ++ [y], vacc ++ [vy], ((x2.trans x3).trans x4).trans x5, S5.repin _, RepL.append (((ra.ext x3).ext x4).ext x5) (RepL.cons ry RepL.nil), h5⟩
                  · exact h5.elim⟩
theorem ve_lcX (cm : Bool) {elt tg iter : Expr} {ifs : List Expr} {scope : Scope} {own : List (Str × Nat)} {pos : Pos} {m : M Src} {t : T1} {ks : List Nat} {tt : M Bool} {te : M D} (tk : Takes X W) (hstk : X.stack = X.env :: X.outer) (hfrm : X.env.frame = some X.env.locals) (hc : X.calm = true) (hN : X.N.Nodup) (hi : VI X W tg iter m) (ok : BlkOk X.N X.env.scope scope own) (hk : ∀ j ∈ ks, j ∈ own.map (·.2))
    (hg : ∀ (s : Shared) (H : Hp) (C : Addr) (cl : List (Str × Addr)) (fp : List Addr), VG (XB X s H scope C cl fp) tg t ks) (ht : ∀ (s : Shared) (H : Hp) (C : Addr) (cl : List (Str × Addr)) (fp : List Addr), PTs (XB X s H scope C cl fp) ifs (tT X.K X.mg WF tt))
    (he : ∀ (s : Shared) (H : Hp) (C : Addr) (cl : List (Str × Addr)) (fp : List Addr) (xe : Value → Shared → Prop) (W2 : WX), (∀ sg, PassesAt (L2.CX X.prog X.w) ((XB X s H scope C cl fp).wish xe) sg (WE W2 sg)) → VE ((XB X s H scope C cl fp).wish xe) W2 elt te)
    (hs : ∀ x, foldedSetIterable iter X.env x = pure x := by intro _; rfl) : VE X W (.ListComp elt [⟨tg, iter, ifs, 0⟩] scope pos) (mLcX cm (own.map (·.2)) m t tt te) :=
  pe_imp (pe_lcX (te := fun W2 => tV X.K X.mg W2 te) tk hstk hfrm hc hN hi ok hg ht he hs) (lcX_imp cm hk)
/-- a call of a def whose exceptions are passed on -/
theorem ve_callKP {lv n : Nat} {mf : MF} {x : Str} {p pos : Pos} {e : Expr} {es : List Expr} {ml : M (List D)} (hp : ∀ sg, PassesAt (L2.CX X.prog X.w) X sg (WE W sg)) (h : Ok X.prog X.w X.K X.mg X.base lv x n mf) (hr : Room lv X.A) (hg : Gl X x)
    (ha : VA X W (e :: es) ml) (hl : (e :: es).length = n := by rfl) (hdb : (x == ("__debug__" : Str)) = false := by decide) (he : starEach (e :: es) X.env = (false, eval e X.env) :: starEach es X.env := by rfl) (hpl : (backTo pos (starEach es X.env)).any (·.1) = false := by rfl) :
    VE X W (.Call (.Name x p) (e :: es) [] pos) (mCall n mf ml) := by
  obtain ⟨f, fd, ps, h1, h2, h3, h4, h5⟩ := h
  exact pe_imp (pe_callS (E := WE W) h5 hr hg h1 h2 h3 hp ha hdb he hpl) fun sg H Q ⟨P, F, al, G, rh, R, h⟩ => ⟨P, F, al, G, rh, R, (step R.env h).imp fun vs H1 ⟨F1, al1, G1, ds, _, R1, r1, h1⟩ => by
    split at h1
    · rename_i hl'
      exact ⟨P, F1, al1, G1, ds, R1.sim, r1, hl', obl_call h1⟩
    · exact h1.elim⟩
end
end VL

/-! Q53: zip over a text and a list. -/
namespace VL
open PySem PySem.Spec PyProof.Rows L2
/-- the signs of a text and the items of a list as it stands at each turn, in new pairs -/
def Itzs (K : Frag) (x : Str) (b : Addr) : It :=
  ⟨fun i H => i < x.cps.size ∧ ∃ (ys : List V) (y : V), SqL K H b ys ∧ ys[i]? = some y,
    fun i H v H' => ∃ T c y, v = .ref T ∧ H T = none ∧ H' = upd H T (.tup [.str ⟨#[c]⟩, y]) ∧ x.cps[i]? = some c ∧ ∀ ys, SqL K H b ys → ys[i]? = some y,
    fun i H => ∃ ys : List V, SqL K H b ys ∧ (x.cps.size ≤ i ∨ ys.length ≤ i)⟩
/-- an iterator that is at its end -/
theorem ended_list {prog : Program} {w : World} {A : Around} (hh : A.handled = none) (it l : Addr) (hne : l ≠ it) (items : Array Value) (i0 : Nat) (h0 : items.size ≤ i0) :
    PySem.Draws prog w A it [it, l] i0 (fun _ _ => True) (fun j h => j = i0 ∧ h.IsListIter it l i0 ∧ h.IsList l items) where
  live := fun _ _ st => let ⟨o, ho, _⟩ := st.2.1; ⟨o, ho⟩
  frame := fun _ _ _ st hk => ⟨st.1, st.2.1.at fun o e => hk it (by simp) o e, st.2.2.at fun o e => hk l (by simp) o e⟩
  item := fun i s Q E hi st hQ => absurd st.1 (by omega)
  done := fun s Q E st hE => wpAny_nextOf_list_end hh st.2.1 st.2.2 (by simp; omega) hE
theorem ended_text {prog : Program} {w : World} {A : Around} (hh : A.handled = none) (it : Addr) (x : Str) (t : Tok) (i0 : Nat) (h0 : x.cps.size ≤ i0) :
    PySem.Draws prog w A it [it] i0 (fun _ _ => True) (fun j h => j = i0 ∧ h.IsStrIter it (strIterType x) x t i0) where
  live := fun _ _ st => let ⟨o, ho, _⟩ := st.2; ⟨o, ho⟩
  frame := fun _ _ _ st hk => let ⟨o, ho, r⟩ := st.2; ⟨st.1, o, hk it (by simp) o ho, r⟩
  item := fun i s Q E hi st hQ => absurd st.1 (by omega)
  done := fun s Q E st hE => by
    have hx : x.cps[i0]? = none := Array.getElem?_eq_none h0
    have st2 := st.2
    cases ha : x.cps.all (· < 128)
    · simp only [strIterType, ha, Bool.false_eq_true, if_false] at st2
      exact wpAny_nextOf_wide_end hh st2 hx hE
    · simp only [strIterType, ha, if_true] at st2
      exact wpAny_nextOf_ascii_end hh st2 hx hE
theorem turn_zipS {P : Program} {w : World} {K : Frag} {elts : List Expr} {kk : Nat} {tpos : Pos} {x : Str} {t : Tok} {b z TI TO i1 i2 : Addr} (D : ZipSep2 z TI TO i1 i2 [i1] [i2, b]) (hb : b ≠ i2) :
    Turn P w K (.Tuple elts kk tpos) (Itzs K x b) [z, TI, TO, i1, i2] z (fun i h => IsZip h z TI TO .none ∧ IsTupOf2 h TI (.ref i1) (.ref i2) ∧ (∃ x y, IsTupOf2 h TO x y) ∧ h.IsStrIter i1 (strIterType x) x t i ∧ h.IsListIter i2 b i) where
  mem := by simp
  obj := fun i h st c hc => by
    obtain ⟨hz, hTI, ⟨x0, y0, hTO⟩, ⟨o1, e1, _, d1⟩, ⟨o2, e2, _, d2⟩⟩ := st
    have e' : c = z ∨ c = TI ∨ c = TO ∨ c = i1 ∨ c = i2 := by simpa using hc
    rcases e' with q | q | q | q | q
    · rw [q]; exact ⟨_, hz, fun v q => nomatch q⟩
    · rw [q]; exact ⟨_, hTI, fun v q => nomatch q⟩
    · rw [q]; exact ⟨_, hTO, fun v q => nomatch q⟩
    · rw [q]; exact ⟨o1, e1, fun v q => by rw [d1] at q; cases q⟩
    · rw [q]; exact ⟨o2, e2, fun v q => by rw [d2] at q; cases q⟩
  keep := fun i h h' st k => by
    obtain ⟨hz, hTI, ⟨x0, y0, hTO⟩, ⟨o1, e1, r1⟩, h2⟩ := st
    exact ⟨k z (by simp) _ hz, k TI (by simp) _ hTI, ⟨x0, y0, k TO (by simp) _ hTO⟩, ⟨o1, k i1 (by simp) o1 e1, r1⟩, h2.at fun o q => k i2 (by simp) o q⟩
  item := by
    intro X hP hw hK hc i pins s σ H E I hf st hg
    subst hP hw hK
    obtain ⟨hz, hTI, ⟨x0, y0, hTO⟩, h1, h2⟩ := st
    obtain ⟨hi, ys, y, hqy, hy⟩ := hg
    obtain ⟨its, rv, p, _⟩ := I.list hqy
    obtain ⟨u, hu, ru⟩ := rv.get hy
    have hzl : z < s.heap.objs.size := Heap.lt_size hz
    have hil : i < its.toArray.size := by
      have := (List.getElem?_eq_some_iff.mp hu).1
      simpa using this
    have D1 := PySem.Draws.text (prog := X.prog) (w := X.w) (A := X.A.in1) (I.ok.hd hc) i1 x t
    have D2 := PySem.Draws.list (prog := X.prog) (w := X.w) (A := X.A.in1) (I.ok.hd hc) i2 b hb its.toArray
    refine wpAny_pyNext_zipD2_item D D1 D2 hz hTI hTO h1 ⟨h2, p.isList⟩ hi hil fun v1 v2 h' tk p1 p2 z' TO' h1' h2' hT hsz hk => ?_
    obtain ⟨c, tc, hcx, rfl⟩ := p1
    have hu2 : its.toArray[i]? = some u := by simpa using hu
    rw [hu2] at p2
    cases p2
    refine ⟨_, rfl, wpAny_letOwnedTupleGo_zip (s := { s with heap := h', toks := tk }) z' fun h'' z'' sb => ?_⟩
    have hT2 : h''.get? s.heap.objs.size = some { cls := .type "tuple", data := .seq #[.str ⟨#[c]⟩ tc, u] } := (sb.2 _ (Nat.ne_of_gt hzl)).trans hT
    have new : ObjOk X.prog X.w (upd H s.heap.objs.size (.tup [.str ⟨#[c]⟩, y])) h'' s.heap.objs.size (.tup [.str ⟨#[c]⟩, y]) :=
      ⟨by show 2 ≤ sizeLine; decide, [.str ⟨#[c]⟩ tc, u], .cons ⟨tc, rfl⟩ (.cons ru .nil), ⟨_, hT2, rfl, _, rfl⟩⟩
    have I1 : Inv X pins σ (upd H s.heap.objs.size (.tup [.str ⟨#[c]⟩, y])) { s with heap := h'', toks := tk } :=
      I.turnedNew (t' := tk) (ch := [z, TI, TO, i1, i2]) (fun c o hb q => (sb.2 c (fun q' => hb (by simp [q']))).trans (hk c o (fun q' => hb (by simp [q'])) (fun q' => hb (by simp [q'])) (fun q' => hb (by simp [q'])) (fun q' => hb (by simp [q'])) q)) hf (Nat.le_refl _) new
    obtain ⟨o1, f1, r1⟩ := h1'
    refine ⟨.ref s.heap.objs.size, _, I1, rfl, ⟨_, c, y, rfl, I.hok.fresh (Nat.le_refl _), rfl, hcx, fun l hl => by rw [I.list_inj hl hqy]; exact hy⟩, ⟨z'', ?_, ⟨.str ⟨#[c]⟩ tc, u, ?_⟩, ⟨o1, ?_, r1⟩, ?_⟩, fun c hcm => ?_⟩
    · exact (sb.2 _ D.TIz).trans (hk _ _ D.TIz D.TITO D.TIi1 D.TIi2 hTI)
    · exact (sb.2 _ D.TOz).trans TO'
    · exact (sb.2 _ (Ne.symm D.zi1)).trans f1
    · exact h2'.1.at fun o q => (sb.2 _ (Ne.symm D.zi2)).trans q
    · have hlt : c < s.heap.objs.size := by
        have e' : c = z ∨ c = TI ∨ c = TO ∨ c = i1 ∨ c = i2 := by simpa using hcm
        rcases e' with q | q | q | q | q
        · rw [q]; exact hzl
        · rw [q]; exact Heap.lt_size hTI
        · rw [q]; exact Heap.lt_size hTO
        · rw [q]; obtain ⟨_, e1, _⟩ := h1; exact Heap.lt_size e1
        · rw [q]; obtain ⟨_, e2, _⟩ := h2; exact Heap.lt_size e2
      rw [upd_ne (Nat.ne_of_lt hlt)]
      exact (hf c hcm).1
  done := by
    intro X hP hw hK hc i pins s σ H E I hf st hg
    subst hP hw hK
    obtain ⟨hz, hTI, ⟨x0, y0, hTO⟩, h1, h2⟩ := st
    obtain ⟨ys, hqy, hend⟩ := hg
    obtain ⟨its, rv, p, _⟩ := I.list hqy
    have l2 := rv.length
    have hs : its.toArray.size = ys.length := by simp; omega
    have fin : ∀ h' tk, (∀ c o, c ≠ z → c ≠ TO → c ≠ i1 → c ≠ i2 → s.heap.get? c = some o → h'.get? c = some o) → (none : Option Value) = none ∧ Inv X pins σ H { s with heap := h', toks := tk } := fun h' tk hk => ⟨rfl, I.turnedL (t' := tk) (ch := [z, TI, TO, i1, i2]) (fun c o hb q =>
      hk c o (fun q' => hb (by simp [q'])) (fun q' => hb (by simp [q'])) (fun q' => hb (by simp [q'])) (fun q' => hb (by simp [q'])) q) hf⟩
    by_cases hx : x.cps.size ≤ i
    · have D1 := ended_text (prog := X.prog) (w := X.w) (A := X.A.in1) (I.ok.hd hc) i1 x t i hx
      by_cases hl : its.toArray.size ≤ i
      · exact wpAny_pyNext_zipD2_end D D1 (ended_list (prog := X.prog) (w := X.w) (A := X.A.in1) (I.ok.hd hc) i2 b hb its.toArray i hl) hz hTI hTO ⟨rfl, h1⟩ ⟨rfl, h2, p.isList⟩ (Nat.le_refl _) (Nat.le_refl _) (.inl rfl) fin
      · exact wpAny_pyNext_zipD2_end D D1 (PySem.Draws.list (prog := X.prog) (w := X.w) (A := X.A.in1) (I.ok.hd hc) i2 b hb its.toArray) hz hTI hTO ⟨rfl, h1⟩ ⟨h2, p.isList⟩ (Nat.le_refl _) (by omega) (.inl rfl) fin
    · exact wpAny_pyNext_zipD2_end D (PySem.Draws.text (prog := X.prog) (w := X.w) (A := X.A.in1) (I.ok.hd hc) i1 x t) (ended_list (prog := X.prog) (w := X.w) (A := X.A.in1) (I.ok.hd hc) i2 b hb its.toArray i (by omega)) hz hTI hTO h1 ⟨rfl, h2, p.isList⟩ (by omega) (Nat.le_refl _) (.inr rfl) fin
  self := fun A i s Q E st h => wpAny_pyIter_zip st.1 h
def iZipS (K : Frag) (ta : TA) : TI := fun σ H R => ta σ H fun vs H1 => ∃ x b ys, vs = [.str x, .ref b] ∧ SqL K H1 b ys ∧ R (Itzs K x b) H1
theorem pi_zipS {X : Cx} {e e2 : Expr} {ta : TA} {p pos tpos : Pos} {elts : List Expr} {kk : Nat} (hg : Gl X "zip") (hm : X.mg "zip" = none) (ha : PA X [e, e2] ta)
    (hs : starEach [e, e2] X.env = (false, eval e X.env) :: starEach [e2] X.env := by rfl) (hpl : (backTo pos (starEach [e2] X.env)).any (·.1) = false := by rfl) :
    PI X (.Tuple elts kk tpos) (.Call (.Name "zip" p) [e, e2] [] pos) (iZipS X.K ta) := by
  refine ⟨fun pins s σ H R I h => ?_⟩
  refine Call_ (ld_blt I hg hm PyProof.Rows.boot_zip (PyProof.Rows.callWith_type1 (thn (ha.run pos pins s σ H _ I h) fun us s1 ⟨vs, H1, I1, r1, q1⟩ => ?_) hs hpl))
  obtain ⟨x, b, ys, ex, hqy, q⟩ := q1
  subst ex
  cases r1 with
  | cons r rr =>
    cases rr with
    | cons r' rr =>
      cases rr
      obtain ⟨t, rfl⟩ := r
      cases r'
      obtain ⟨its, rv, p1, _⟩ := I1.list hqy
      have lb : b < s1.heap.objs.size := p1.lt
      refine zip_begins2 (begins_text x t) (begins_list b its.toArray) trivial p1.isList fun h' hz hTI hTO h1 h2 hsz hk => wpAny_pyIter_zip hz ?_
      have I2 : Inv X pins σ H1 { s1 with heap := h' } := I1.kept (t' := s1.toks) hk
      have hD : ZipSep2 (s1.heap.objs.size + 4) (s1.heap.objs.size + 2) (s1.heap.objs.size + 3) s1.heap.objs.size (s1.heap.objs.size + 1) [s1.heap.objs.size] [s1.heap.objs.size + 1, b] := by
        have bk : ∀ k : Nat, ¬ s1.heap.objs.size + k = b := fun k e => absurd (show s1.heap.objs.size + k < s1.heap.objs.size by rw [e]; exact lb) (Nat.not_lt.mpr (Nat.le_add_right _ _))
        have b4 := bk 4
        have b3 := bk 3
        have b0 : ¬ s1.heap.objs.size = b := bk 0
        constructor <;> first | (simp [b4, b3, b0]; done) | omega | simp | (simp; omega)
      refine ⟨s1.heap.objs.size + 4, [s1.heap.objs.size + 4, s1.heap.objs.size + 2, s1.heap.objs.size + 3, s1.heap.objs.size, s1.heap.objs.size + 1], _, _, H1, rfl, I2, turn_zipS (x := x) (t := t) hD (fun e => absurd (show s1.heap.objs.size + 1 < s1.heap.objs.size by rw [← e]; exact lb) (Nat.not_lt.mpr (Nat.le_add_right _ _))), ⟨hz, hTI, ⟨_, _, hTO⟩, ⟨_, h1, rfl, rfl⟩, ⟨_, h2, rfl, rfl⟩⟩, fun c hcm => ?_, q⟩
      have e' : c = s1.heap.objs.size + 4 ∨ c = s1.heap.objs.size + 2 ∨ c = s1.heap.objs.size + 3 ∨ c = s1.heap.objs.size ∨ c = s1.heap.objs.size + 1 := by simpa using hcm
      have hle : s1.heap.objs.size ≤ c := by
        rcases e' with z | z | z | z | z
        · rw [z]; exact Nat.le_add_right _ _
        · rw [z]; exact Nat.le_add_right _ _
        · rw [z]; exact Nat.le_add_right _ _
        · rw [z]; exact Nat.le_refl _
        · rw [z]; exact Nat.le_add_right _ _
      exact I1.fpOk hle (I1.hok.fresh hle)
/-- zip(text, list) -/
def oSrcZS (ds : List D) (G : GH) : Out Src := match ds with
  | [.str x, d'] => match lstOf G d' with
    | some _ => .ok ⟨fun G' i => match lstOf G' d' with
      | some zs => match x.cps[i]?, zs[i]? with
        | some c, some z => some (some (D.tup [.str ⟨#[c]⟩, z]))
        | _, _ => some none
      | _ => none, x.cps.size⟩ G
    | none => .stuck
  | _ => .stuck
theorem src_zipS {K : Frag} {mg : MG} {P F : Hp} {al : List Addr} {x : Str} {d' : D} {a' : Addr} {n : Nat} (r0 : RepV K F al d' (.ref a')) : SrcOk K mg P F al ⟨fun G' i => match lstOf G' d' with
      | some zs => match x.cps[i]?, zs[i]? with
        | some c, some z => some (some (D.tup [.str ⟨#[c]⟩, z]))
        | _, _ => some none
      | _ => none, n⟩ (Itzs K x a') := by
  intro i F' al' H G P' e0 S
  have r0' := r0.ext e0
  refine ⟨fun h => ?_, fun e h => ?_⟩
  · dsimp only at h
    split at h
    · rename_i zs q2
      obtain ⟨b', us, eb, k2, k3⟩ := lst_at S r0' q2
      cases eb
      split at h
      · cases h
      · rename_i hno
        refine ⟨us, k2, ?_⟩
        cases e1 : x.cps[i]? with
        | none => exact .inl (Array.getElem?_eq_none_iff.mp e1)
        | some y =>
          cases e2 : zs[i]? with
          | none => exact .inr (by rw [← k3.len]; exact List.getElem?_eq_none_iff.mp e2)
          | some z => exact (hno y z e1 e2).elim
    · cases h
  · dsimp only at h
    split at h
    · rename_i zs q2
      obtain ⟨b', us, eb, k2, k3⟩ := lst_at S r0' q2
      cases eb
      split at h
      · rename_i c z e1 e2
        cases h
        obtain ⟨u, k4, k5⟩ := RepL.get k3 e2
        refine ⟨⟨(Array.getElem?_eq_some_iff.mp e1).1, us, u, k2, k4⟩, fun w H' hz => ?_⟩
        obtain ⟨T, c1, w2, rfl, hT, rfl, hw1, hw2⟩ := hz
        rw [e1] at hw1
        cases hw1
        have t2 := hw2 us k2
        rw [k4] at t2
        cases t2
        have lu : Le F' (upd F' T (.tup [.str ⟨#[c]⟩, u])) := Le.upd (S.freeF hT)
        refine ⟨upd F' T (.tup [.str ⟨#[c]⟩, u]), lu, S.newF hT _, ?_⟩
        unfold RepV
        exact ⟨T, _, rfl, upd_same, RepL.cons rfl (RepL.cons (k5.mono lu (List.prefix_refl _)) RepL.nil)⟩
      · cases h
    · cases h
section
variable {X : Cx} {W : WX} {a b : Expr} {pos : Pos}
theorem vi_zipS {es : List Expr} {kk : Nat} {tpos p : Pos} {ml : M (List D)} (hg : Gl X "zip") (hm : X.mg "zip" = none) (ha : VA X W [a, b] ml)
    (hs : starEach [a, b] X.env = (false, eval a X.env) :: starEach [b] X.env := by rfl) (hpl : (backTo pos (starEach [b] X.env)).any (·.1) = false := by rfl) :
    VI X W (.Tuple es kk tpos) (.Call (.Name "zip" p) [a, b] [] pos) (b1 oSrcZS ml) := pi_imp (pi_zipS hg hm ha hs hpl) fun sg H R ⟨P, F, al, G, rh, R0, h⟩ => ⟨P, F, al, G, rh, R0, (step (R' := SrcOk X.K X.mg P) R0.env h).imp fun v H1 ⟨F1, al1, G1, d, _, R1, r1, h1⟩ => by
  unfold oSrcZS at h1
  split at h1
  · split at h1
    · rename_i x d' _ ys e2
      obtain ⟨u, u', rfl, q, q'⟩ := repl2 r1
      unfold RepV at q
      subst q
      obtain ⟨b', vs', rfl, k2, k3⟩ := lst_at R1.sim q' e2
      exact ⟨x, b', vs', rfl, k2, obl_ok h1 R1.sim (src_zipS q')⟩
    · exact h1.elim
  · exact h1.elim⟩
end
end VL

/-! Q54: more where one token is out: replace as an argument of an own call, a store in a dict, an if that compares with a written text. -/
namespace VL
open PySem PySem.Spec PyProof.Rows L2
abbrev VET (X : Cx) (W : WX) (e : Expr) (m : M D) : Prop := PET X e (tV X.K X.mg W m)
abbrev VAT (X : Cx) (W : WX) (es : List Expr) (m : M (List D)) : Prop := PAT X es (tA X.K X.mg W m)
section
variable {X : Cx} {W : WX} {e a b o i : Expr} {st : Stmt} {rest body orelse : List Stmt} {ma mb mo mi : M D} {g k : S} {pos op : Pos} {td ty tv te : TE} {t u v : TS}
theorem pet_imp {t t' : TE} (h : PET X e t) (i : ∀ sg H Q, t' sg H Q → t sg H Q) : PET X e t' := fun pins s sg H Q h0 I q => h pins s sg H Q h0 I (i _ _ _ q)
theorem pat_imp {es : List Expr} {t t' : TA} (h : PAT X es t) (i : ∀ sg H Q, t' sg H Q → t sg H Q) : PAT X es t' := fun pos pins s sg H Q h0 I q => h pos pins s sg H Q h0 I (i _ _ _ q)
/-- e.replace(y, z) of written texts -/
theorem vet_repl {mo : M D} {y z : Str} {j k : _} {c0 c1 apos pos : Pos} (ho : VE X W o mo) (hyz : (y == z) = false)
    (hst : starEach [.Constant (.str y) j c0, .Constant (.str z) k c1] X.env = [(false, eval (.Constant (.str y) j c0) X.env), (false, eval (.Constant (.str z) k c1) X.env)] := by rfl)
    (hbase : attributeBase o "replace" X.env (eval o X.env) = eval o X.env := by rfl) (hline : (apos.endLine == pos.line) = true := by rfl) :
    VET X W (.Call (.Attribute o "replace" apos) [.Constant (.str y) j c0, .Constant (.str z) k c1] [] pos) (b1 (oRepl y z) mo) :=
  pet_imp (CwR.pet_replC ho hyz hst hbase hline) fun sg H Q ⟨P, F, al, G, rh, R, h⟩ => ⟨P, F, al, G, rh, R, (step R.env h).imp fun v H1 ⟨F1, al1, G1, d, _, R1, r1, h1⟩ => by
    unfold oRepl at h1
    split at h1
    · split at h1
      · rename_i hl
        unfold RepV at r1
        subst r1
        exact ⟨_, rfl, hl, obl_ok h1 R1.sim rfl⟩
      · exact h1.elim
    · exact h1.elim⟩
theorem vat_one {m : M D} (h : VET X W e m) (hs : starEach [e] X.env = (false, eval e X.env) :: starEach [] X.env := by rfl) : VAT X W [e] (mCons m mNil) :=
  pat_imp (pat_cons h pat_nil hs) fun sg H Q ⟨P, F, al, G, rh, R, h⟩ => ⟨P, F, al, G, rh, R, (step R.env h).imp fun v H1 ⟨F1, al1, G1, d, _, R1, r1, h1⟩ => obl_ok h1 R1.sim (RepL.cons r1 RepL.nil)⟩
/-- an own call -/
theorem vet_callK {lv n : Nat} {mf : MF} {x : Str} {p : Pos} {es : List Expr} {ml : M (List D)} (tk : Takes X W) (h : Ok X.prog X.w X.K X.mg X.base lv x n mf) (hr : Room lv X.A) (hg : Gl X x)
    (ha : VAT X W (e :: es) ml) (hl : (e :: es).length = n := by rfl) (hdb : (x == ("__debug__" : Str)) = false := by decide) (he : starEach (e :: es) X.env = (false, eval e X.env) :: starEach es X.env := by rfl) (hpl : (backTo pos (starEach es X.env)).any (·.1) = false := by rfl) :
    VET X W (.Call (.Name x p) (e :: es) [] pos) (mCall n mf ml) := by
  obtain ⟨f, fd, ps, hm, hk, hb, hps, Fk⟩ := h
  have key : PET X (.Call (.Name x p) (e :: es) [] pos) (tCallS (spD X.K X.mg n mf) (WE W) (tA X.K X.mg W ml)) := by
    intro pins s σ H Q h0 I h
    refine wpAny_Call_Name_kw (ld_glob I hg hm ?_ hdb)
    refine PySem.W.callWith_K (h₀ := X.base) I.ok.mod.kin hk (thn (ha pos pins s σ H _ h0 I h) fun us s1 ⟨vs, H1, I1, r, q⟩ => ⟨I1.kIn, ?_⟩) he hpl
    exact run_fnS Fk hr hb (passAt tk σ) I1 r q
  refine pet_imp key fun sg H Q ⟨P, F, al, G, rh, R, h⟩ => ⟨P, F, al, G, rh, R, (step R.env h).imp fun vs H1 ⟨F1, al1, G1, ds, _, R1, r1, h1⟩ => ?_⟩
  split at h1
  · rename_i hl'
    exact ⟨P, F1, al1, G1, ds, R1.sim, r1, hl', obl_call h1⟩
  · exact h1.elim
/-- the store of such a value -/
theorem pst_asg {tg : Expr} {gg : TG} (he : PET X e te) (hg : PG X tg gg) (hs : swapsWithSole [tg] e pos.line X.env = pure false := by rfl) (hw : swappedStores [tg] e X.env = pure none := by rfl)
    (h1 : (assignEach [tg] X.env).map (·.2) = [assign tg X.env] := by rfl) : PST X (.Assign [tg] e pos) (tAsg te gg) := by
  intro pins s σ H D h0 I h
  refine wpAny_Assign_stores (thn (he pins s σ H _ h0 I h) fun v s1 ⟨x, H1, I1, r1, q1⟩ => ?_) hs hw
  rw [h1]
  exact thn (hg.run pins s1 σ H1 x v _ I1 r1 q1) fun _ s2 q => q
theorem vst_subD (hu : X.A.units + 64 < cLine) (he : VET X W e ma) (ho : VE X W o mo) (hi : VE X W i mi)
    (ha : ∀ v, assign (.Subscript o i op) X.env v = (do
      let ov ← holding [v] (eval o X.env)
      let iv ← holding [v, ov] (eval i X.env)
      standAt op
      holding [v, ov, iv] (setItem ov iv v)
      release [v, ov, iv] []) := by intro _; rfl)
    (hs : swapsWithSole [.Subscript o i op] e pos.line X.env = pure false := by rfl) (hw : swappedStores [.Subscript o i op] e X.env = pure none := by rfl)
    (h1 : (assignEach [.Subscript o i op] X.env).map (·.2) = [assign (.Subscript o i op) X.env] := by rfl) : VST X W (.Assign [.Subscript o i op] e pos) (sSub ma mo mi oDSet) := pst_imp (pst_asg he (pg_sub ho hi (pset_or (set_dict (by omega)) (set_nest hu)) ha) hs hw h1) fun E sg H ⟨P, F, al, G, rh, R, h⟩ =>
  ⟨P, F, al, G, rh, R, (stepS R.env h).imp fun v H1 ⟨F1, al1, G1, d, _, R1, r1, h1⟩ => ⟨P, F1, al1, G1, rh, R1, (stepS R1.env h1).imp fun ov H2 ⟨F2, al2, G2, od, x2, R2, r2, h2⟩ => ⟨P, F2, al2, G2, rh, R2, (stepS R2.env h2).imp fun iv H3 ⟨F3, al3, G3, id, x3, R3, r3, h3⟩ => by
    have r1' := (r1.ext x2).ext x3
    have r2' := r2.ext x3
    unfold oDSet at h3
    split at h3
    · rename_i k
      unfold RepV at r2'
      obtain ⟨a, g1, rfl⟩ := r2'
      split at h3
      · rename_i kvs q
        split at h3
        · rename_i y q2
          split at h3
          · rename_i hl
            obtain ⟨b, e1, hf, kv, e2, e3⟩ := R3.sim.at q
            rw [g1] at e1
            cases e1
            refine .inl ⟨a, upd H3 a (.dK (putK kv y v)), rfl, .inl ⟨kv, y, e2, keyOf_at r3 q2, by rw [← repK_len e3]; exact hl, rfl⟩, ?_⟩
            exact obs_nx h3 ⟨R3.sim.setC g1 hf ⟨hf, _, upd_same, repK_put e3 r1'⟩, R3.env⟩
          · exact h3.elim
        · exact h3.elim
      · rename_i kvs q
        split at h3
        · rename_i y q2
          split at h3
          · rename_i hl
            obtain ⟨b, e1, hf, xs, e2, e3⟩ := R3.sim.at q
            rw [g1] at e1
            cases e1
            obtain ⟨c, rfl, nb⟩ := nkOf_at r3 q2
            refine .inr ⟨X.K, F3, al3, kvs, xs, y, a, c, d, R3.sim.sub, rfl, e2, e3, rfl, nb, r1', by rw [← Paired.length e3]; exact hl, fun xs' hx => ?_⟩
            exact obs_nx h3 ⟨R3.sim.setC g1 hf ⟨hf, _, upd_same, hx⟩, R3.env⟩
          · exact h3.elim
        · exact h3.elim
      · exact h3.elim
    · exact h3.elim⟩⟩⟩
/-! ### an if whose test evaluates a written text: behind it a token is out -/
end
end VL

/-! Q55: a dict of texts by texts at the module's top: what the head says of it; x.get(text). -/
namespace VL
open PySem PySem.Spec PyProof.Rows L2
/-- a table: its name, its keys and texts -/
abbrev TabF : Type := Str × List (Str × Str)
def ktabB (K : Frag) (t : TabF) : Bool := t.2.all fun q => match PySem.W.nsIn K (He.ga K t.1) q.1 with
  | some (some (.str z _)) => decide (z = q.2)
  | _ => false
abbrev AlF : Type := AlX × List (Option (List (Option (Str × Int))) × Bool)
def obsFK (fa : List He.Fa) (fn : List He.DefD) (es ys : List Str) (ts : List TabF) (K : Frag) : AlF := ((He.obsD fa fn K, chkX es ys K), ts.map fun t => (He.dicW K (He.ga K t.1), ktabB K t))
def valF (fn : List He.DefD) (ts : List TabF) (w : World) : AlF := ((He.valD fn, true), ts.map fun t => (some (He.keysIn w.params (t.2.map (·.1))), true))
def obsFG (n : Nat) (fa : List He.Fa) (fn : List He.DefD) (es ys : List Str) (ts : List TabF) (g : Addr → Option Obj) : AlF := obsFK fa fn es ys ts (fragX n g)
def SaysF (fa : List He.Fa) (fn : List He.DefD) (es ys : List Str) (ts : List TabF) (w : World) (K : Frag) : Prop := obsFK fa fn es ys ts K = valF fn ts w
def hookF (n : Nat) (fa : List He.Fa) (fn : List He.DefD) (es ys : List Str) (ts : List TabF) : PySem.W.Hook where
  α := AlF
  obs := fun s => obsFG n fa fn es ys ts s.heap.get?
  val := fun w => valF fn ts w
  says := fun w h => ∃ K : Frag, K.In h ∧ SaysF fa fn es ys ts w K
  of := fun _ _ e => ⟨_, He.frG_in, e⟩
  keeps := fun _ _ _ ⟨K, hK, c⟩ k => ⟨K, PySem.W.Frag.In.keeps hK k, c⟩
theorem obsFG_eq {n : Nat} {fa : List He.Fa} {fn : List He.DefD} {es ys : List Str} {ts : List TabF} {g : Addr → Option Obj} {s : Shared} (h : ∀ a, g a = s.heap.get? a) : obsFG n fa fn es ys ts g = (hookF n fa fn es ys ts).obs s := by
  have e : g = s.heap.get? := funext h
  rw [e] <;> rfl
/-- a table of texts stands at d -/
structure KTab (K : Frag) (w : World) (d : Addr) (kvs : List (Str × Str)) : Prop where
  kd : ∃ es n, KDict K w d es n
  hit : ∀ z f, kvs.lookup z = some f → ∃ t, PySem.W.nsIn K d z = some (some (.str f t))
  miss : ∀ z, kvs.lookup z = none → PySem.W.nsIn K d z = some none
theorem look_mem {z f : Str} : ∀ {kvs : List (Str × Str)}, kvs.lookup z = some f → (z, f) ∈ kvs
  | (k, v) :: r, h => by
    rw [List.lookup_cons] at h
    cases e : z == k with
    | true =>
      rw [e] at h
      cases h
      rw [eq_of_beq e]
      exact List.mem_cons_self
    | false => rw [e] at h; exact List.mem_cons_of_mem _ (look_mem h)
theorem look_none {z : Str} : ∀ {kvs : List (Str × Str)}, kvs.lookup z = none → z ∉ kvs.map (·.1)
  | [], _, h => by cases h
  | (k, v) :: r, h, hm => by
    rw [List.lookup_cons] at h
    cases e : z == k with
    | true => rw [e] at h; cases h
    | false =>
      rw [e] at h
      rcases List.mem_cons.mp hm with q | q
      · rw [q] at e
        simp at e
      · exact look_none h q
theorem ktab_of {K : Frag} {w : World} {t : TabF} (h1 : He.dicW K (He.ga K t.1) = some (He.keysIn w.params (t.2.map (·.1)))) (h2 : ktabB K t = true) : KTab K w (He.ga K t.1) t.2 := by
  obtain ⟨es, n, D⟩ := He.dicW_ok h1
  refine ⟨⟨es, n, D⟩, fun z f hz => ?_, fun z hz => ?_⟩
  · have q := List.all_eq_true.mp h2 _ (look_mem hz)
    dsimp only at q
    split at q
    · rename_i y tk e
      exact ⟨tk, by rw [e, of_decide_eq_true q]⟩
    · cases q
  · have e1 : es.toList.map He.keyOf = He.keysIn w.params (t.2.map (·.1)) := by
      unfold He.dicW at h1
      rw [D.at_] at h1
      dsimp only at h1
      rw [D.low] at h1
      exact Option.some.inj h1
    have hk : ∀ e ∈ es.toList, ∃ k tk, e.key = .str k tk ∧ k ∈ t.2.map (·.1) := fun e he => by
      have hm : He.keyOf e ∈ He.keysIn w.params (t.2.map (·.1)) := by rw [← e1]; exact List.mem_map_of_mem he
      obtain ⟨k, hk1, hk2⟩ := List.mem_map.mp hm
      unfold He.keyOf at hk2
      split at hk2
      · rename_i x tk q
        have := Option.some.inj hk2
        exact ⟨x, tk, q, by rw [← (Prod.mk.inj this).1]; exact hk1⟩
      · cases hk2
    have hn := look_none hz
    have f1 : es.toList.find? (·.key.isStr z) = none := List.find?_eq_none.mpr fun e he q => by
      obtain ⟨k, tk, e2, e3⟩ := hk e he
      rw [e2] at q
      have : k = z := by
        have q2 : (k == z) = true := q
        exact eq_of_beq q2
      rw [this] at e3
      exact hn e3
    have f2 : es.toList.any (·.refKey) = false := by
      rw [List.any_eq_false]
      intro e he q
      obtain ⟨k, tk, e2, _⟩ := hk e he
      unfold DictEntry.refKey at q
      rw [e2] at q
      cases q
    unfold PySem.W.nsIn
    rw [D.at_]
    dsimp only
    rw [f1]
    dsimp only
    rw [f2]
    rfl
/-- the facts of the head, with those of exception classes and of tables -/
structure TxtF (fa : List He.Fa) (fn : List He.DefD) (es ys : List Str) (ts : List TabF) (w : World) (K : Frag) (mg : MG) : Prop where
  t : TxtP fa fn K mg
  x : chkX es ys K = true
  f : ts.map (fun t => (He.dicW K (He.ga K t.1), ktabB K t)) = ts.map fun t => (some (He.keysIn w.params (t.2.map (·.1))), true)
theorem TxtF.of {fa : List He.Fa} {fn : List He.DefD} {es ys : List Str} {ts : List TabF} {w : World} {K : Frag} {mg : MG} {h : Heap} (X : K.In h) (G : h.Ns mainGlobals mg) (c : SaysF fa fn es ys ts w K) (mk : He.SaysD fa fn K → TxtP fa fn K mg) : TxtF fa fn es ys ts w K mg := by
  have e1 := (Prod.mk.inj (show (He.obsD fa fn K, chkX es ys K) = (He.valD fn, true) from congrArg (fun z : AlF => z.1) c))
  exact ⟨mk e1.1, e1.2, congrArg (fun z : AlF => z.2) c⟩
theorem TxtF.tab {fa : List He.Fa} {fn : List He.DefD} {es ys : List Str} {ts : List TabF} {w : World} {K : Frag} {mg : MG} (T : TxtF fa fn es ys ts w K mg) (i : Nat) {t : TabF} (h : ts[i]? = some t := by rfl) : KTab K w (He.ga K t.1) t.2 := by
  have e2 : (ts.map fun t => (He.dicW K (He.ga K t.1), ktabB K t))[i]? = (ts.map fun t => (some (He.keysIn w.params (t.2.map (·.1))), true))[i]? := by rw [T.f]
  rw [List.getElem?_map, List.getElem?_map, h] at e2
  have e3 := Prod.mk.inj (Option.some.inj e2)
  exact ktab_of e3.1 e3.2
/-- x.get(text) -/
def oKGet (kvs : List (Str × Str)) (d : D) (G : GH) : Out D := match d with
  | .str z => .ok (match kvs.lookup z with | some f => .str f | none => .non) G
  | _ => .stuck
def tKGet (kvs : List (Str × Str)) (te : TE) : TE := fun σ H Q => te σ H fun y H1 => ∃ z, y = .str z ∧ Q (match kvs.lookup z with | some f => V.str f | none => .non) H1
section
variable {X : Cx} {W : WX} {a : Expr} {te : TE} {ma : M D} {p ap pos : Pos} {x : Str}
theorem pe_kget {d : Addr} {kvs : List (Str × Str)} (T : KTab X.K X.w d kvs) (hg : Gl X x) (hm : X.mg x = some (.ref d)) (ha : PE X a te) (hdb : (x == ("__debug__" : Str)) = false := by decide)
    (hbase : attributeBase (.Name x p) "get" X.env (eval (.Name x p) X.env) = eval (.Name x p) X.env := by rfl)
    (hfew : ((((backTo pos (starEach [a] X.env)).all fun x => !x.fst) && (backToKw pos (keywordEach [] X.env)).all fun x => x.fst.isSome) && decide (([a].length + ([] : List Keyword).length + if ([] : List Keyword).isEmpty = true then 0 else 1) < 30)) = true := by rfl)
    (hline : (ap.endLine == pos.line) = true := by rfl) (hs : starEach [a] X.env = [(false, eval a X.env)] := by rfl) :
    PE X (.Call (.Attribute (.Name x p) "get" ap) [a] [] pos) (tKGet kvs te) := by
  refine ⟨fun pins s σ H Q I h => ?_⟩
  obtain ⟨es, n, D⟩ := T.kd
  refine wpAny_Call_method_late hbase hfew hline rfl (ld_glob I hg hm ?_ hdb)
  refine ⟨"dict", "dict.get", PySem.F.plainAttrs_dict, PySem.F.slot_dict_get, PySem.F.type_dict_get, kd_type D I, fun b e => ?_, ?_⟩
  · cases e; exact ⟨_, I.kIn _ _ D.at_, rfl⟩
  rw [hs]
  refine Calls.callWith_builtin rfl (Calls.evalArgs_plain ?_)
  refine Calls.spliced_cons (thn (ha.run pins s σ H _ I h) fun u s1 ⟨y, H1, I1, r1, z, e, q⟩ => Calls.spliced_nil ?_)
  subst e
  obtain ⟨t, rfl⟩ := r1
  refine call_meetsIn PySem.F.slot_dict_get (kd_type D I1) PySem.F.entry_dict_get (PySem.F.args_dict_get_2 _ _) (meets_dict_get (strKind X.prog X.w) d (PySem.strKind_is X.prog X.w z t) D.low) ⟨_, PySem.W.mapOf_K (prog := X.prog) I1.kIn D.at_ D.lit, ?_⟩
  cases e : kvs.lookup z with
  | none =>
    rw [PySem.W.find_K D.at_ (T.miss z e)]
    rw [e] at q
    exact ⟨.non, H1, I1.tok _, rfl, q⟩
  | some f =>
    obtain ⟨tk, e2⟩ := T.hit z f e
    rw [PySem.W.find_K D.at_ e2]
    rw [e] at q
    exact ⟨.str f, H1, I1.tok _, ⟨tk, rfl⟩, q⟩
theorem ve_kget {d : Addr} {kvs : List (Str × Str)} (T : KTab X.K X.w d kvs) (hg : Gl X x) (hm : X.mg x = some (.ref d)) (ha : VE X W a ma) (hdb : (x == ("__debug__" : Str)) = false := by decide)
    (hbase : attributeBase (.Name x p) "get" X.env (eval (.Name x p) X.env) = eval (.Name x p) X.env := by rfl)
    (hfew : ((((backTo pos (starEach [a] X.env)).all fun x => !x.fst) && (backToKw pos (keywordEach [] X.env)).all fun x => x.fst.isSome) && decide (([a].length + ([] : List Keyword).length + if ([] : List Keyword).isEmpty = true then 0 else 1) < 30)) = true := by rfl)
    (hline : (ap.endLine == pos.line) = true := by rfl) (hs : starEach [a] X.env = [(false, eval a X.env)] := by rfl) :
    VE X W (.Call (.Attribute (.Name x p) "get" ap) [a] [] pos) (b1 (oKGet kvs) ma) :=
  pe_imp (pe_kget T hg hm ha hdb hbase hfew hline hs) fun sg H Q ⟨P, F, al, G, rh, R, h⟩ => ⟨P, F, al, G, rh, R, (step R.env h).imp fun v H1 ⟨F1, al1, G1, d, _, R1, r1, h1⟩ => by
    unfold oKGet at h1
    split at h1
    · rename_i z
      unfold RepV at r1
      subst r1
      refine ⟨z, rfl, ?_⟩
      cases e : kvs.lookup z with
      | none => rw [e] at h1; exact obl_ok h1 R1.sim rfl
      | some f => rw [e] at h1; exact obl_ok h1 R1.sim rfl
    · exact h1.elim⟩
end
end VL

/-! Q56: partition; a dict of texts that is written once and never changed: its display, d[key], for key in d; sorted(dict), a dict's pop. -/
namespace VL
open PySem PySem.Spec PyProof.Rows L2
/-! ### partition -/
def oPart (d : D) (ds : List D) (G : GH) : Out D := match d, ds with
  | .str a, [.str b] => if (b.length == 0) = false ∧ a.length ≤ sizeLine then .ok (.tup [.str (Txt.partition a b).1, .str (Txt.partition a b).2.1, .str (Txt.partition a b).2.2]) G else .stuck
  | _, _ => .stuck
theorem o_part {K : Frag} {mg : MG} : MtS K mg (fun x xs H Q => ∃ a b, x = .str a ∧ xs = [.str b] ∧ (b.length == 0) = false ∧ a.length ≤ sizeLine ∧
    ∀ p, H p = none → Q (.ref p) (upd H p (.tup [.str (Txt.partition a b).1, .str (Txt.partition a b).2.1, .str (Txt.partition a b).2.2]))) oPart := by
  intro W sg P F al G H d ds x vs Q S r1 r2 q
  unfold oPart at q
  split at q
  · rename_i a b
    split at q
    · rename_i hz
      obtain ⟨u, rfl, r3⟩ := repl1 r2
      unfold RepV at r1 r3
      subst r1 r3
      exact ⟨a, b, rfl, rfl, hz.1, hz.2, fun p hp => tup_ok S (RepL.cons (by unfold RepV; rfl) (RepL.cons (by unfold RepV; rfl) (RepL.cons (by unfold RepV; rfl) RepL.nil))) q hp⟩
    · exact q.elim
  · exact q.elim
/-! ### a dict of texts, written once -/
abbrev kvF (kvs : List (Str × Str)) : List (Key × V) := kvs.map fun p => (Sum.inr p.1, V.str p.2)
theorem valF_look {z : Str} : ∀ {kvs : List (Str × Str)}, valV (kvF kvs) (Sum.inr z) = (kvs.lookup z).map V.str
  | [] => rfl
  | (k, v) :: r => by
    have e : kvF ((k, v) :: r) = (Sum.inr k, V.str v) :: kvF r := rfl
    rw [e, List.lookup_cons]
    by_cases h : k = z
    · subst h
      rw [valV_pos rfl, beq_self_eq_true]
      rfl
    · rw [valV_neg (fun q => h (Sum.inr.inj q)), valF_look, beq_false_of_ne (Ne.symm h)]
theorem upd_upd {H : Hp} {p : Addr} {a b : HO} : upd (upd H p a) p b = upd H p b := by
  funext x
  by_cases h : x = p
  · subst h; rw [upd_same, upd_same]
  · rw [upd_ne h, upd_ne h, upd_ne h]
theorem tPairs_C {σ : L2.St} {R : List (V × V) → Hp → Prop} : ∀ {kvs : List (Str × Str)} {H : Hp} {pre : List (V × V)}, R (pre ++ kvs.map fun q => (V.str q.1, V.str q.2)) H → tPairs (kvs.map fun q => (tC (.str q.1), tC (.str q.2))) σ H (fun ps H2 => R (pre ++ ps) H2)
  | [], H, pre, h => h
  | q :: r, H, pre, h => by
    show tPairs (r.map fun q => (tC (.str q.1), tC (.str q.2))) σ H (fun ps H2 => R (pre ++ (V.str q.1, V.str q.2) :: ps) H2)
    have h2 := tPairs_C (R := R) (kvs := r) (H := H) (pre := pre ++ [(V.str q.1, V.str q.2)]) (σ := σ) (by rw [List.append_assoc]; exact h)
    have e : (fun (ps : List (V × V)) H2 => R (pre ++ [(V.str q.1, V.str q.2)] ++ ps) H2) = fun ps H2 => R (pre ++ (V.str q.1, V.str q.2) :: ps) H2 := by
      funext ps H2
      rw [List.append_assoc]; rfl
    rw [e] at h2
    exact h2
def tDspF (kvs : List (Str × Str)) : TE := fun σ H Q => ∀ p o, H p = none → Q (.ref p) (upd H p (.frz o (.dK (kvF kvs))))
section
variable {X : Cx} {W : WX} {e a b tg : Expr} {te : TE} {ma mb : M D} {pos : Pos}
theorem pe_dispF {keys : List (Option Expr)} {values : List Expr} {kvs : List (Str × Str)} (h : PPs X pos keys values (kvs.map fun q => (tC (.str q.1), tC (.str q.2)))) (hall : keys.all (·.isSome) = true) (hl : keys.length = values.length) (h0 : keys ≠ [])
    (h15 : keys.length ≤ 15) (hk : kvs.length ≤ 15) (hm : mergeK [] (kvF kvs) = kvF kvs) : PE X (.Dict keys values pos) (tDspF kvs) := by
  obtain ⟨kvs0, ekv⟩ : ∃ k, k = kvs := ⟨kvs, rfl⟩
  refine ⟨fun pins s σ H Q I hq => ?_⟩
  refine wpAny_mono ((pe_disp h hall hl h0 h15).run pins s σ H (fun x H1 => ∃ p, x = .ref p ∧ H p = none ∧ H1 = upd H p (.dK (kvF kvs0))) I ?_) (fun v s1 q => ?_) fun _ _ z => z
  · intro p hp
    refine tPairs_C (R := fun ps H2 => H2 p = some (.dK []) ∧ ∃ kvs : List (Key × V), ps = kvs.map (fun kv => (kV kv.1, kv.2)) ∧ kvs.length ≤ 15 ∧ (∃ p', V.ref p = V.ref p' ∧ H p' = none ∧ upd H2 p (.dK (mergeK [] kvs)) = upd H p' (.dK (kvF kvs0)))) (pre := []) ⟨upd_same, kvF kvs, ?_, by rw [List.length_map]; exact hk, p, rfl, hp, by rw [hm, upd_upd, ekv]⟩
    rw [List.nil_append, List.map_map]
    rfl
  · rw [ekv] at q
    obtain ⟨x, H1, I1, r, p, rfl, hp, rfl⟩ := q
    obtain ⟨od, I2⟩ := I1.lock (d := p) (u := .dK (kvF kvs)) upd_same True.intro
    rw [upd_upd] at I2
    exact ⟨.ref p, _, I2, r, hq p od hp⟩
theorem ve_dispF {keys : List (Option Expr)} {values : List Expr} {kvs : List (Str × Str)} (h : PPs X pos keys values (kvs.map fun q => (tC (.str q.1), tC (.str q.2)))) (hall : keys.all (·.isSome) = true) (hl : keys.length = values.length) (h0 : keys ≠ [])
    (h15 : keys.length ≤ 15) (hk : kvs.length ≤ 15) (hm : mergeK [] (kvF kvs) = kvF kvs) : VE X W (.Dict keys values pos) (mC (.dkf kvs)) :=
  pe_imp (pe_dispF h hall hl h0 h15 hk hm) fun sg H Q ⟨P, F, al, G, rh, R, h⟩ => fun p o hp => by
    have lu : Le F (upd F p (.frz o (.dK (kvF kvs)))) := Le.upd (R.sim.freeF hp)
    refine h (upd F p (.frz o (.dK (kvF kvs)))) al _ _ ⟨lu, List.prefix_refl _⟩ (R.sim.newF hp _) ?_
    unfold RepV
    exact ⟨p, o, rfl, upd_same⟩
/-- d[key] -/
def oDGetF (d e : D) (G : GH) : Out D := match d, e with
  | .dkf kvs, .str z => match kvs.lookup z with
    | some f => .ok (.str f) G
    | none => .stuck
  | _, _ => .stuck
theorem o_dgetF {K : Frag} {mg : MG} : Op2 K mg rDGet oDGetF := by
  refine op2_sc fun P F al G H d e x y S r1 r2 => ?_
  unfold oDGetF
  split
  · rename_i kvs z
    cases q : kvs.lookup z with
    | none => exact .inr rfl
    | some f =>
      unfold RepV at r1 r2
      obtain ⟨p, o, rfl, h2⟩ := r1
      subst r2
      refine .inl ⟨.str f, .str f, rfl, rfl, fun Q h => ⟨p, .str f, rfl, .inl (.inl ⟨kvF kvs, Sum.inr z, .inr ⟨o, S.sub _ _ h2⟩, rfl, ?_⟩), h⟩⟩
      rw [valF_look, q]; rfl
  · exact .inr rfl
/-- for key in d -/
def oSrcKF (d : D) (G : GH) : Out Src := match d with
  | .dkf kvs => .ok (srcC (kvs.map fun p => D.str p.1)) G
  | _ => .stuck
theorem src_keysF {K : Frag} {mg : MG} {P F : Hp} {al : List Addr} {kvs : List (Str × Str)} {p : Addr} {o : Obj} (h2 : F p = some (.frz o (.dK (kvF kvs)))) : SrcOk K mg P F al (srcC (kvs.map fun p => D.str p.1)) (Itk p o (kvF kvs)) := by
  intro i F' al' H G P' x S
  have hH : H p = some (.frz o (.dK (kvF kvs))) := S.sub _ _ (x.1 _ _ h2)
  have hl : (kvF kvs).length = kvs.length := List.length_map _
  refine ⟨fun h => ⟨hH, ?_⟩, fun e h => ?_⟩
  · have h0 : (kvs.map fun p => D.str p.1)[i]? = none := Option.some.inj h
    have := List.getElem?_eq_none_iff.mp h0
    rw [List.length_map] at this
    rw [hl]; exact this
  · have h0 : (kvs.map fun p => D.str p.1)[i]? = some e := Option.some.inj h
    rw [List.getElem?_map] at h0
    obtain ⟨q, e1, rfl⟩ := Option.map_eq_some_iff.mp h0
    refine ⟨⟨hH, by rw [hl]; exact (List.getElem?_eq_some_iff.mp e1).1⟩, fun w H' hw => ?_⟩
    obtain ⟨rfl, k, v, e2, rfl⟩ := hw
    have e3 : (kvF kvs)[i]? = some (Sum.inr q.1, V.str q.2) := by rw [List.getElem?_map, e1]; rfl
    rw [e3] at e2
    cases e2
    exact ⟨F', Le.refl _, S, rfl⟩
theorem vi_keysF (ha : VE X W a ma) : VI X W tg a (b1 oSrcKF ma) := pi_imp (pi_keys ha) fun sg H R ⟨P, F, al, G, rh, R0, h⟩ => ⟨P, F, al, G, rh, R0, (step (R' := SrcOk X.K X.mg P) R0.env h).imp fun v H1 ⟨F1, al1, G1, d, _, R1, r1, h1⟩ => by
  unfold oSrcKF at h1
  split at h1
  · rename_i kvs
    unfold RepV at r1
    obtain ⟨p, o, rfl, h2⟩ := r1
    exact ⟨p, o, rfl, .inl ⟨kvF kvs, R1.sim.sub _ _ h2, obl_ok h1 R1.sim (src_keysF h2)⟩⟩
  · exact h1.elim⟩
end
end VL

/-! Q57: sorted(dict) of text keys; a dict's pop. -/
namespace VL
open PySem PySem.Spec PyProof.Rows L2
/-! ### texts in the order of letters -/
theorem cps_anti : ∀ {a b : List Nat}, ltCps a b = false → ltCps b a = false → a = b
  | [], [], _, _ => rfl
  | [], _ :: _, h, _ => by cases h
  | _ :: _, [], _, h => by cases h
  | x :: r, y :: t, h1, h2 => by
    unfold ltCps at h1 h2
    rw [Bool.or_eq_false_iff, Bool.and_eq_false_iff] at h1 h2
    have e1 : ¬ x < y := of_decide_eq_false h1.1
    have e2 : ¬ y < x := of_decide_eq_false h2.1
    have e : x = y := by omega
    subst e
    rcases h1.2 with q | q
    · simp at q
    · rcases h2.2 with q2 | q2
      · simp at q2
      · rw [cps_anti q q2]
theorem cps_total : ∀ (a b : List Nat), ltCps a b = false ∨ ltCps b a = false
  | [], [] => .inl rfl
  | [], _ :: _ => .inr rfl
  | _ :: _, [] => .inl rfl
  | x :: r, y :: t => by
    unfold ltCps
    rw [Bool.or_eq_false_iff, Bool.and_eq_false_iff, Bool.or_eq_false_iff, Bool.and_eq_false_iff]
    by_cases h : x < y
    · exact .inr ⟨decide_eq_false (by omega), .inl (by simp; omega)⟩
    · by_cases h2 : y < x
      · exact .inl ⟨decide_eq_false (by omega), .inl (by simp; omega)⟩
      · rcases cps_total r t with q | q
        · exact .inl ⟨decide_eq_false h, .inr q⟩
        · exact .inr ⟨decide_eq_false h2, .inr q⟩
/-- a is not above b, b not above c -/
theorem cps_trans : ∀ {a b c : List Nat}, ltCps b a = false → ltCps c b = false → ltCps c a = false
  | [], _, [], _, _ => rfl
  | [], [], _ :: _, _, _ => rfl
  | [], _ :: _, _ :: _, _, _ => rfl
  | _ :: _, [], _, h, _ => by cases h
  | _ :: _, _ :: _, [], _, h => by cases h
  | x :: r, y :: t, z :: u, h1, h2 => by
    unfold ltCps at h1 h2 ⊢
    rw [Bool.or_eq_false_iff, Bool.and_eq_false_iff] at h1 h2 ⊢
    have e1 : ¬ y < x := of_decide_eq_false h1.1
    have e2 : ¬ z < y := of_decide_eq_false h2.1
    refine ⟨decide_eq_false (by omega), ?_⟩
    by_cases e : z = x
    · have ey : y = x := by omega
      subst ey e
      rcases h1.2 with q | q
      · simp at q
      · rcases h2.2 with q2 | q2
        · simp at q2
        · exact .inr (cps_trans q q2)
    · exact .inl (by simp; omega)
def leS (a b : Str) : Bool := !ltCps b.cps.toList a.cps.toList
def sortS (ks : List Str) : List Str := ks.mergeSort leS
theorem leS_iff {a b : Str} : leS a b = true ↔ ltCps b.cps.toList a.cps.toList = false := by
  unfold leS
  cases ltCps b.cps.toList a.cps.toList <;> simp
theorem sortS_perm (ks : List Str) : (sortS ks).Perm ks := List.mergeSort_perm _ _
theorem sortS_sorted (ks : List Str) : (sortS ks).Pairwise fun a b => leS a b = true :=
  List.pairwise_mergeSort (le := leS) (fun a b c h1 h2 => leS_iff.mpr (cps_trans (leS_iff.mp h1) (leS_iff.mp h2))) (fun a b => by
    rcases cps_total b.cps.toList a.cps.toList with h | h
    · rw [leS_iff.mpr h]; rfl
    · rw [leS_iff.mpr h, Bool.or_true]) ks
theorem rising_pair : ∀ {l : List Str} {p : Str}, risingS p l = true → (p :: l).Pairwise fun a b => leS a b = true
  | [], p, _ => List.pairwise_singleton _ _
  | x :: r, p, h => by
    unfold risingS at h
    rw [Bool.and_eq_true] at h
    have h1 : leS p x = true := h.1
    have h2 := rising_pair h.2
    refine List.pairwise_cons.mpr ⟨fun y hy => ?_, h2⟩
    rcases List.mem_cons.mp hy with rfl | hy
    · exact h1
    · have := (List.pairwise_cons.mp h2).1 y hy
      exact leS_iff.mpr (cps_trans (leS_iff.mp h1) (leS_iff.mp this))
theorem sorted_eq {ys ks : List Str} (hp : ys.Perm ks) (hs : sortedS ys = true) : ys = sortS ks := by
  have h1 : ys.Pairwise fun a b => leS a b = true := by
    cases ys with
    | nil => exact List.Pairwise.nil
    | cons x r => exact rising_pair hs
  refine List.Perm.eq_of_pairwise (fun a b _ _ p q => ?_) h1 (sortS_sorted ks) (hp.trans (sortS_perm ks).symm)
  have := cps_anti (leS_iff.mp p) (leS_iff.mp q)
  exact (Str.ext' (Array.toList_inj.mp this)).symm
/-! ### sorted(dict) -/
def nameOf (p : Key × D) : Option Str := match p.1 with
  | .inr z => some z
  | .inl _ => none
def oSortD (cm : Bool) (ds : List D) (G : GH) : Out D := match ds with
  | [.loc k] => match G[k]? with
    | some (.dk kvs) => match mapO nameOf kvs with
      | some ks => if ks.length < 64 then mk cm ((sortS ks).map D.str) G else .stuck
      | none => .stuck
    | _ => .stuck
  | _ => .stuck
abbrev rSortD : List V → Hp → VK → Prop := fun xs H Q => ∃ (a : Addr) (kvs : List (Key × V)) (ks : List Str), xs = [.ref a] ∧ Rd H a (.dK kvs) ∧ kvs.map (·.1) = ks.map Sum.inr ∧ ks.length < 64 ∧
    ∀ ys p, ys.Perm ks → sortedS ys = true → H p = none → Q (.ref p) (upd H p (.lst (ys.map V.str)))
theorem repK_keys {K : Frag} {F : Hp} {al : List Addr} : ∀ {ds : List (Key × D)} {vs : List (Key × V)}, RepK K F al ds vs → vs.map (·.1) = ds.map (·.1)
  | [], _, r => by unfold RepK at r; subst r; rfl
  | (n, d) :: ds, _, r => by
    unfold RepK at r
    obtain ⟨v, q, rfl, r1, r2⟩ := r
    rw [List.map_cons, List.map_cons, repK_keys r2]
theorem names_keys : ∀ {kvs : List (Key × D)} {ks : List Str}, mapO nameOf kvs = some ks → kvs.map (·.1) = ks.map Sum.inr
  | [], ks, h => by unfold mapO at h; cases h; rfl
  | p :: r, ks, h => by
    obtain ⟨y, ys, e1, e2, rfl⟩ := mapO_cons h
    rw [List.map_cons, List.map_cons, names_keys e2]
    congr 1
    unfold nameOf at e1
    split at e1
    · rename_i z q
      cases e1
      exact q
    · cases e1
theorem repStrs {K : Frag} {F : Hp} {al : List Addr} : ∀ ks : List Str, RepL K F al (ks.map D.str) (ks.map V.str)
  | [] => RepL.nil
  | k :: ks => RepL.cons (by unfold RepV; rfl) (repStrs ks)
theorem o_sortD {K : Frag} {mg : MG} (cm : Bool) : CallS K mg rSortD (oSortD cm) := by
  intro W sg P F al G H ds vs Q S r q
  unfold oSortD at q
  split at q
  · rename_i k
    obtain ⟨v, rfl, r1⟩ := repl1 r
    split at q
    · rename_i kvs hk
      split at q
      · rename_i ks hks
        split at q
        · rename_i hl
          unfold RepV at r1
          obtain ⟨a, h1, rfl⟩ := r1
          obtain ⟨b, e1, _, kv, e2, e3⟩ := S.at hk
          rw [h1] at e1
          cases e1
          refine ⟨a, kv, ks, rfl, .inl e2, by rw [repK_keys e3, names_keys hks], hl, fun ys p hp hs hf => ?_⟩
          rw [sorted_eq hp hs]
          exact mk_ok S (repStrs _) q hf
        · exact q.elim
      · exact q.elim
    · exact q.elim
  · exact q.elim
/-! ### d.pop(key) -/
def dro (kvs : List (Key × D)) (k : Key) : List (Key × D) := kvs.filter fun p => !decide (p.1 = k)
theorem repK_dro {K : Frag} {F : Hp} {al : List Addr} {k : Key} : ∀ {ds : List (Key × D)} {vs : List (Key × V)}, RepK K F al ds vs → RepK K F al (dro ds k) (dropK vs k)
  | [], _, r => by unfold RepK at r; subst r; unfold RepK; rfl
  | (n, d) :: ds, _, r => by
    unfold RepK at r
    obtain ⟨v, q, rfl, r1, r2⟩ := r
    have ih := repK_dro (k := k) r2
    unfold dro dropK at ih ⊢
    rw [List.filter_cons, List.filter_cons]
    by_cases e : n = k
    · rw [if_neg (by simp [e]), if_neg (by simp [e])]
      exact ih
    · rw [if_pos (by simp [e]), if_pos (by simp [e])]
      unfold RepK
      exact ⟨v, _, rfl, r1, ih⟩
def oDPop (d : D) (ds : List D) (G : GH) : Out D := match d with
  | .loc k => match G[k]? with
    | some (.dk kvs) => match ds with
      | [e] => match keyOf e with
        | some y => match dlk kvs y with
          | some v => .ok v (G.set k (.dk (dro kvs y)))
          | none => .stuck
        | none => .stuck
      | _ => .stuck
    | _ => .stuck
  | _ => .stuck
def rDPop : V → List V → Hp → VK → Prop := fun x xs H Q => ∃ a kvs k v, x = .ref a ∧ H a = some (.dK kvs) ∧ xs = [kV k] ∧ valV kvs k = some v ∧ Q v (upd H a (.dK (dropK kvs k)))
theorem mt_dpop {X : Cx} : MtR X "dict.pop" rDPop := by
  intro pins s σ H x xs v us Q I rx rxs h
  obtain ⟨a, kvs, k, w, rfl, e, rfl, l, q⟩ := h
  obtain rfl : v = Value.ref a := rx
  cases rxs with
  | cons r1 rs =>
    cases rs
    exact d_pop I e r1 l (.inl rfl) fun w' s' I' rw' => ⟨w, _, I', rw', q⟩
theorem o_dpop {K : Frag} {mg : MG} : MtS K mg rDPop oDPop := by
  intro W sg P F al G H d ds x vs Q S r1 r2 q
  unfold oDPop at q
  split at q
  · rename_i k
    split at q
    · rename_i kvs hk
      split at q
      · rename_i e
        split at q
        · rename_i y hy
          split at q
          · rename_i dv hdv
            obtain ⟨u, rfl, r3⟩ := repl1 r2
            unfold RepV at r1
            obtain ⟨a, g1, rfl⟩ := r1
            obtain ⟨b, e1, hf, kv, e2, e3⟩ := S.at hk
            rw [g1] at e1
            cases e1
            obtain ⟨v, e5, e6⟩ := (repK_val (k := y) e3).1 dv hdv
            refine ⟨a, kv, y, v, rfl, e2, by rw [keyOf_at r3 hy], e5, ?_⟩
            exact obl_ok q (S.setC g1 hf ⟨hf, _, upd_same, repK_dro e3⟩) e6
          · exact q.elim
        · exact q.elim
      · exact q.elim
    · exact q.elim
  · exact q.elim
end VL

/-! Q58: an if whose test ends in a written text, behind which a token is out, as a mirror's step. -/
namespace VL
open PySem PySem.Spec PyProof.Rows L2
/-- b's evaluation gives a token out -/
def PE1 (X : Cx) (b : Expr) (tb : TE) : Prop :=
  ∀ (pins : List (Addr × Obj)) (s : Shared) (σ : L2.St) (H : Hp) (Q : VK), Inv X pins σ H s → tb σ H Q → wpAny (model X.prog X.w) X.A (eval b X.env) (fun v s1 => EP X pins σ Q v s1 ∧ 1 ≤ s1.toks) X.xe s
section
variable {X : Cx} {W : WX} {e a b : Expr} {rest body orelse : List Stmt} {ma mb : M D} {g k g2 : S} {pos pos2 : Pos} {te tb : TE} {t u v : TS} {r : R2}
theorem pe1_str {c : Str} {j : _} {p : Pos} : PE1 X (.Constant (.str c) j p) (tV X.K X.mg W (mC (.str c))) := by
  intro pins s σ H Q I ⟨P, F, al, G, rh, R, h⟩
  refine Calls.Constant_str ⟨⟨.str c, H, I.tok _, ⟨_, rfl⟩, ?_⟩, by show 1 ≤ s.toks + 1; omega⟩
  exact h F al H (.str c) (Ext.refl _ _) R.sim (by unfold RepV; rfl)
theorem ps_if1 {op : CmpOp} (ho : OpR X (compareOp op) r) (ha : PE X a te) (hb : PE1 X b tb) (h1 : PSsT X body t) (h2 : PSsT X orelse u) (hm : behindInMarks op b = false) :
    PS X (.If (.Compare a [op] [b] pos2) body orelse pos) (tIfS (tTest (tOp r te tb)) t u) := by
  refine ⟨fun pins s σ H D I h => ?_⟩
  refine wpAny_If (wpAny_isTrue_Compare1 (thn (ha.run pins s σ H _ I h) fun v s1 ⟨x, H1, I1, r1, q1⟩ => ?_) hm)
  refine thn (hb pins s1 σ H1 _ I1 q1) fun w' s2 ⟨⟨y, H2, I2, r2, q2⟩, hk0⟩ => ?_
  refine wpAny_mono (PySem.wpAny_toks (ho pins s2 σ H2 x y v w' _ I2 r1 r2 q2)) (fun cv s3 q => ?_) fun _ _ z => z.2
  obtain ⟨hk, z, H3, I3, r3, kk, e, q3⟩ := q
  have hk1 : 1 ≤ s3.toks := Nat.le_trans hk0 hk
  subst e
  cases r3
  refine wpAny_truthy_bool ?_
  cases kk with
  | true => exact h1 pins s3 σ H3 D hk1 I3 q3
  | false => exact h2 pins s3 σ H3 D hk1 I3 q3
theorem pss_if1 {op : CmpOp} (ho : OpR X (compareOp op) r) (ha : PE X a te) (hb : PE1 X b tb) (h1 : PSsT X body t) (h2 : PSsT X orelse u) (hr : PSsT X rest v) (hm : behindInMarks op b = false) :
    PSs X (.If (.Compare a [op] [b] pos2) body orelse pos :: rest) (tSeq (tIfS (tTest (tOp r te tb)) t u) v) := by
  refine ⟨fun pins s σ H D I h => ?_⟩
  have go : ∀ (st : List Stmt) (t0 : TS) (s3 : Shared) (H3 : Hp), 1 ≤ s3.toks → PSsT X st t0 → Inv X pins σ H3 s3 → t0 { D with nx := v D } σ H3 → wpAny (model X.prog X.w) X.A (execs st X.env) (fun f s4 => match f with
      | .next => wpAny (model X.prog X.w) X.A (execs rest X.env) (SP X pins D) X.xe s4
      | f => SP X pins D f s4) X.xe s3 := fun st t0 s3 H3 h1 hp I3 q3 => by
    refine wpAny_mono (PySem.wpAny_toks (hp pins s3 σ H3 { D with nx := v D } h1 I3 q3)) (fun f s4 q => ?_) fun _ _ z => z.2
    obtain ⟨hk, q⟩ := q
    cases f with
    | next =>
      obtain ⟨σ', H', I', q⟩ := q
      exact hr pins s4 σ' H' D (Nat.le_trans h1 hk) I' q
    | ret v => exact q
    | brk => exact q
    | cont => exact q
  refine wpAny_execs_cons ?_
  refine wpAny_If (wpAny_isTrue_Compare1 (thn (ha.run pins s σ H _ I h) fun v s1 ⟨x, H1, I1, r1, q1⟩ => ?_) hm)
  refine thn (hb pins s1 σ H1 _ I1 q1) fun w' s2 ⟨⟨y, H2, I2, r2, q2⟩, hk0⟩ => ?_
  refine wpAny_mono (PySem.wpAny_toks (ho pins s2 σ H2 x y v w' _ I2 r1 r2 q2)) (fun cv s3 q => ?_) fun _ _ z => z.2
  obtain ⟨hk, z, H3, I3, r3, kk, e, q3⟩ := q
  have hk1 : 1 ≤ s3.toks := Nat.le_trans hk0 hk
  subst e
  cases r3
  refine wpAny_truthy_bool ?_
  cases kk with
  | true => exact go body t s3 H3 hk1 h1 I3 q3
  | false => exact go orelse u s3 H3 hk1 h2 I3 q3
theorem ifS_imp {m : M Bool} : ∀ E sg H, tS X.K X.mg W (sIf m g k) E sg H → tIfS (tT X.K X.mg W m) (tS X.K X.mg W g) (tS X.K X.mg W k) E sg H := fun E sg H ⟨P, F, al, G, rh, R, h⟩ =>
  ⟨P, F, al, G, rh, R, (stepS R.env h).imp fun v H1 ⟨F1, al1, G1, d, _, R1, r1, h1⟩ => by
    cases r1
    by_cases q : v = true
    · rw [if_pos q] at h1 ⊢
      exact ⟨P, F1, al1, G1, rh, R1, h1⟩
    · rw [if_neg q] at h1 ⊢
      exact ⟨P, F1, al1, G1, rh, R1, h1⟩⟩
/-- if a == text: ..; else: ..: tokens within -/
theorem vs_if1 {op : CmpOp} {o : D → D → GH → Out D} {c : Str} {j : _} {p : Pos} (ho : OpR X (compareOp op) r) (so : Op2 X.K X.mg r o) (ha : VE X W a ma) (h1 : VSsT X W body g) (h2 : VSsT X W orelse k) (hm : behindInMarks op (.Constant (.str c) j p) = false := by rfl) :
    VS X W (.If (.Compare a [op] [.Constant (.str c) j p] pos2) body orelse pos) (sIf (toB (b2 o ma (mC (.str c)))) g k) :=
  ps_imp (ps_if1 ho ha (pe1_str (W := W)) h1 h2 hm) fun E sg H h => (toB_imp (b2_imp so)) _ _ _ (ifS_imp E sg H h)
theorem vss_if1 {op : CmpOp} {o : D → D → GH → Out D} {c : Str} {j : _} {p : Pos} (ho : OpR X (compareOp op) r) (so : Op2 X.K X.mg r o) (ha : VE X W a ma) (h1 : VSsT X W body g) (h2 : VSsT X W orelse k) (hr : VSsT X W rest g2) (hm : behindInMarks op (.Constant (.str c) j p) = false := by rfl) :
    VSs X W (.If (.Compare a [op] [.Constant (.str c) j p] pos2) body orelse pos :: rest) (sSeq (sIf (toB (b2 o ma (mC (.str c)))) g k) g2) :=
  pss_imp (pss_if1 ho ha (pe1_str (W := W)) h1 h2 hr hm) fun E sg H h => (toB_imp (b2_imp so)) _ _ _ (ifS_imp _ sg H (seq_imp E sg H h))
theorem vsst_of {sts : List Stmt} (h : VSs X W sts g) : VSsT X W sts g := PSsT.of h
theorem vsst_consT {st : Stmt} (h1 : VST X W st g) (h2 : VSsT X W rest k) : VSsT X W (st :: rest) (sSeq g k) := psst_imp (psst_cons h1 h2) seq_imp
theorem vst_of {st : Stmt} (h : VS X W st g) : VST X W st g := PST.of h
end
end VL

/-! Q59: count and index of a truth in a list of truths. -/
namespace VL
open PySem PySem.Spec PyProof.Rows L2
def blOf : D → Option Bool
  | .bl b => some b
  | _ => none
def boolsOf (G : GH) (d : D) : Option (List Bool) := (lstOf G d).bind (mapO blOf)
theorem bools_rep {K : Frag} {F : Hp} {al : List Addr} : ∀ {ds : List D} {vs : List V} {bs : List Bool}, mapO blOf ds = some bs → RepL K F al ds vs → vs = bs.map V.bl
  | [], _, _, h, r => by
    unfold mapO at h
    cases h
    unfold RepL at r
    exact r
  | d :: ds, _, _, h, r => by
    obtain ⟨y, ys, e1, e2, rfl⟩ := mapO_cons h
    unfold RepL at r
    obtain ⟨v, q, rfl, r1, r2⟩ := r
    rw [List.map_cons, bools_rep e2 r2]
    congr 1
    unfold blOf at e1
    split at e1
    · cases e1
      unfold RepV at r1
      exact r1
    · cases e1
theorem bools_at {K : Frag} {mg : MG} {P F : Hp} {al : List Addr} {H : Hp} {G : GH} {d : D} {v : V} {bs : List Bool} (S : Sim K mg P F al H G) (r : RepV K F al d v) (h : boolsOf G d = some bs) : ∃ a, v = .ref a ∧ SqL K H a (bs.map V.bl) := by
  obtain ⟨xs, e1, e2⟩ := Option.bind_eq_some_iff.mp h
  obtain ⟨a, vs, rfl, h2, h3⟩ := lst_at S r e1
  rw [bools_rep e2 h3] at h2
  exact ⟨a, rfl, h2⟩
def rCntB (K : Frag) : V → List V → Hp → VK → Prop := fun x xs H Q => ∃ (p : Addr) (bs : List Bool) (k : Bool), x = .ref p ∧ xs = [.bl k] ∧ SqL K H p (bs.map V.bl) ∧ Q (.int (bs.count k : Nat)) H
theorem bools_vals : ∀ {bs : List Bool} {us : List Value}, Vals (bs.map V.bl) us → us = bs.map Value.bool
  | [], us, r => by cases r; rfl
  | b :: bs, us, r => by
    cases r with
    | cons r1 r2 =>
      rw [bools_vals r2, show _ = Value.bool b from r1]
      rfl
theorem count_bools (k : Bool) : ∀ bs : List Bool, (bs.map Value.bool).countP (isBoolOf k) = bs.count k
  | [] => rfl
  | b :: bs => by
    rw [List.map_cons, List.countP_cons, List.count_cons, count_bools k bs]
    rfl
theorem mt_cntB {X : Cx} : MtR X "list.count" (rCntB X.K) := by
  intro pins s σ H x xs v us Q I rx rxs h
  obtain ⟨p, bs, k, rfl, rfl, hs, q⟩ := h
  cases rx
  obtain ⟨u, rfl, ru⟩ := rxs.one
  cases (show u = Value.bool k from ru)
  obtain ⟨its, rv, ⟨⟨cls, dd, data, sl⟩, n, ho, hc, hdn, hd⟩, hlen⟩ := I.list hs
  simp only at hc hd
  subst hc hd
  have hi := bools_vals rv
  refine call_meets PySem.F.slot_list_count ⟨_, ho, rfl⟩ PySem.F.entry_list_count (PySem.F.args_list_count_2 _ _)
    (SeqAt.list_countAt p its.toArray n dd sl (.bool k) (isBoolOf k)) ⟨ho, fun y hy => ?_, ?_⟩
  · have hy2 : y ∈ its := by simpa using hy
    rw [hi] at hy2
    obtain ⟨b, _, rfl⟩ := List.mem_map.mp hy2
    exact PySem.SeqAt.EqAt.bool_bool b k
  · refine ⟨.int (bs.count k : Nat), H, I.tok _, ⟨s.toks, ?_⟩, q⟩
    show Value.int ((its.toArray.toList.countP (isBoolOf k) : Nat) : Int) s.toks = Value.int ((bs.count k : Nat) : Int) s.toks
    rw [show its.toArray.toList = its from rfl, hi, count_bools]
def oCountB (d : D) (ds : List D) (G : GH) : Out D := match boolsOf G d, ds with
  | some bs, [.bl k] => .ok (.int (bs.count k : Nat)) G
  | _, _ => .stuck
theorem o_countB {K : Frag} {mg : MG} : MtS K mg (rCntB K) oCountB := by
  intro W sg P F al G H d ds x vs Q S r1 r2 q
  unfold oCountB at q
  split at q
  · rename_i bs k e1
    obtain ⟨u, rfl, r3⟩ := repl1 r2
    unfold RepV at r3
    subst r3
    obtain ⟨a, rfl, h2⟩ := bools_at S r1 e1
    exact ⟨a, bs, k, rfl, rfl, h2, obl_ok q S rfl⟩
  · exact q.elim
def oIndexB (d : D) (ds : List D) (G : GH) : Out D := match boolsOf G d, ds with
  | some bs, [.bl k] => if k ∈ bs then .ok (.int (bs.idxOf k : Nat)) G else .stuck
  | _, _ => .stuck
theorem o_indexB {K : Frag} {mg : MG} : MtS K mg (rIndex K) oIndexB := by
  intro W sg P F al G H d ds x vs Q S r1 r2 q
  unfold oIndexB at q
  split at q
  · rename_i bs k e1
    split at q
    · rename_i hm
      obtain ⟨u, rfl, r3⟩ := repl1 r2
      unfold RepV at r3
      subst r3
      obtain ⟨a, rfl, h2⟩ := bools_at S r1 e1
      have hlt := List.idxOf_lt_length_of_mem hm
      refine ⟨a, bs.map V.bl, V.bl k, bs.idxOf k, V.bl k, rfl, rfl, h2, rfl, List.all_eq_true.mpr fun y hy => ?_, by rw [List.getElem?_map, List.getElem?_eq_getElem hlt, List.getElem_idxOf hlt]; rfl, ?_, fun m z hm' hz => ?_, obl_ok q S rfl⟩
      · obtain ⟨i, _, rfl⟩ := List.mem_map.mp hy; rfl
      · simp [eqV]
      · rw [List.getElem?_map] at hz
        obtain ⟨i, hi, rfl⟩ := Option.map_eq_some_iff.mp hz
        have hne : i ≠ k := fun e => by
          have h1 := List.not_of_lt_findIdx (p := fun x => x == k) (xs := bs) (i := m) hm'
          have h2 := (List.getElem?_eq_some_iff.mp hi).2
          rw [h2, e] at h1
          simp at h1
        cases i <;> cases k <;> simp_all [eqV]
    · exact q.elim
  · exact q.elim
end VL

/-! Q60: a world whose one word of the text is written down: the head's run over a dict display asks it. -/
namespace VL
open PySem PySem.Spec
def setW (w : World) (b : Bool) : World := { w with params := { w.params with followText := fun s => if s = "special-get-raises" then b else w.params.followText s } }
theorem setW_eq (w : World) : setW w (w.params.followText "special-get-raises") = w := by
  have e : (fun s => if s = "special-get-raises" then w.params.followText "special-get-raises" else w.params.followText s) = w.params.followText := by
    funext s
    split
    · rename_i h; rw [h]
    · rfl
  unfold setW
  rw [e]
theorem setW_all {p : World → Prop} (ht : ∀ w, p (setW w true)) (hf : ∀ w, p (setW w false)) (w : World) : p w := by
  rw [← setW_eq w]
  cases w.params.followText "special-get-raises" with
  | true => exact ht w
  | false => exact hf w
end VL

namespace Lk37
open PySem L2 VL

def top (i : Nat) : Stmt := PySem.Challenge.pw_stairseek_k37_rows_that_are_none.main.body.getD i (.Pass ⟨0, 0, 0, 0⟩)
abbrev s_Desk___init__ : Stmt := inClass (top 62) 0
def d_Desk___init__ : He.DefD := ⟨("Desk", some "__init__"), "__init__", "Desk.__init__", defArgs s_Desk___init__, defBody s_Desk___init__, defScope s_Desk___init__, [], []⟩
abbrev s_is_name : Stmt := top 56
def d_is_name : He.DefD := ⟨("is_name", none), "is_name", "is_name", defArgs s_is_name, defBody s_is_name, defScope s_is_name, [], []⟩
abbrev s_is_figures : Stmt := top 57
def d_is_figures : He.DefD := ⟨("is_figures", none), "is_figures", "is_figures", defArgs s_is_figures, defBody s_is_figures, defScope s_is_figures, [], []⟩
abbrev s_is_word : Stmt := top 58
def d_is_word : He.DefD := ⟨("is_word", none), "is_word", "is_word", defArgs s_is_word, defBody s_is_word, defScope s_is_word, [], []⟩
abbrev s_words_in : Stmt := top 59
def d_words_in : He.DefD := ⟨("words_in", none), "words_in", "words_in", defArgs s_words_in, defBody s_words_in, defScope s_words_in, [], []⟩
abbrev s_is_whole : Stmt := top 18
def d_is_whole : He.DefD := ⟨("is_whole", none), "is_whole", "is_whole", defArgs s_is_whole, defBody s_is_whole, defScope s_is_whole, [], []⟩
abbrev s_need_size : Stmt := top 38
def d_need_size : He.DefD := ⟨("need_size", none), "need_size", "need_size", defArgs s_need_size, defBody s_need_size, defScope s_need_size, [], []⟩
abbrev s_open_cells : Stmt := top 39
def d_open_cells : He.DefD := ⟨("open_cells", none), "open_cells", "open_cells", defArgs s_open_cells, defBody s_open_cells, defScope s_open_cells, [], []⟩
abbrev s_after_greater : Stmt := top 41
def d_after_greater : He.DefD := ⟨("after_greater", none), "after_greater", "after_greater", defArgs s_after_greater, defBody s_after_greater, defScope s_after_greater, [], []⟩
abbrev s_after_less : Stmt := top 40
def d_after_less : He.DefD := ⟨("after_less", none), "after_less", "after_less", defArgs s_after_less, defBody s_after_less, defScope s_after_less, [], []⟩
abbrev s_Looks_left : Stmt := inClass (top 42) 1
def d_Looks_left : He.DefD := ⟨("Looks", some "left"), "left", "Looks.left", defArgs s_Looks_left, defBody s_Looks_left, defScope s_Looks_left, [], []⟩
abbrev s_Looks_behind : Stmt := inClass (top 42) 2
def d_Looks_behind : He.DefD := ⟨("Looks", some "behind"), "behind", "Looks.behind", defArgs s_Looks_behind, defBody s_Looks_behind, defScope s_Looks_behind, [], []⟩
abbrev s_Looks___init__ : Stmt := inClass (top 42) 0
def d_Looks___init__ : He.DefD := ⟨("Looks", some "__init__"), "__init__", "Looks.__init__", defArgs s_Looks___init__, defBody s_Looks___init__, defScope s_Looks___init__, [], []⟩
abbrev s_fewest_looks : Stmt := top 43
def d_fewest_looks : He.DefD := ⟨("fewest_looks", none), "fewest_looks", "fewest_looks", defArgs s_fewest_looks, defBody s_fewest_looks, defScope s_fewest_looks, [], []⟩
abbrev s_read_word : Stmt := top 47
def d_read_word : He.DefD := ⟨("read_word", none), "read_word", "read_word", defArgs s_read_word, defBody s_read_word, defScope s_read_word, [], []⟩
abbrev s_are_rows : Stmt := top 19
def d_are_rows : He.DefD := ⟨("are_rows", none), "are_rows", "are_rows", defArgs s_are_rows, defBody s_are_rows, defScope s_are_rows, [], []⟩
abbrev s_rises : Stmt := top 20
def d_rises : He.DefD := ⟨("rises", none), "rises", "rises", defArgs s_rises, defBody s_rises, defScope s_rises, [], []⟩
abbrev s_is_table : Stmt := top 21
def d_is_table : He.DefD := ⟨("is_table", none), "is_table", "is_table", defArgs s_is_table, defBody s_is_table, defScope s_is_table, [], []⟩
abbrev s_read_table : Stmt := top 48
def d_read_table : He.DefD := ⟨("read_table", none), "read_table", "read_table", defArgs s_read_table, defBody s_read_table, defScope s_read_table, [], []⟩
abbrev s_cells_text : Stmt := top 60
def d_cells_text : He.DefD := ⟨("cells_text", none), "cells_text", "cells_text", defArgs s_cells_text, defBody s_cells_text, defScope s_cells_text, [], []⟩
abbrev s_need_table : Stmt := top 22
def d_need_table : He.DefD := ⟨("need_table", none), "need_table", "need_table", defArgs s_need_table, defBody s_need_table, defScope s_need_table, [], []⟩
abbrev s_need_number : Stmt := top 23
def d_need_number : He.DefD := ⟨("need_number", none), "need_number", "need_number", defArgs s_need_number, defBody s_need_number, defScope s_need_number, [], []⟩
abbrev s_all_cells : Stmt := top 26
def d_all_cells : He.DefD := ⟨("all_cells", none), "all_cells", "all_cells", defArgs s_all_cells, defBody s_all_cells, defScope s_all_cells, [], []⟩
abbrev s_cells_of : Stmt := top 27
def d_cells_of : He.DefD := ⟨("cells_of", none), "cells_of", "cells_of", defArgs s_cells_of, defBody s_cells_of, defScope s_cells_of, [], []⟩
abbrev s_stair_of : Stmt := top 29
def d_stair_of : He.DefD := ⟨("stair_of", none), "stair_of", "stair_of", defArgs s_stair_of, defBody s_stair_of, defScope s_stair_of, [], []⟩
abbrev s_steps_of : Stmt := top 50
def d_steps_of : He.DefD := ⟨("steps_of", none), "steps_of", "steps_of", defArgs s_steps_of, defBody s_steps_of, defScope s_steps_of, [], []⟩
abbrev s_walk_for : Stmt := top 51
def d_walk_for : He.DefD := ⟨("walk_for", none), "walk_for", "walk_for", defArgs s_walk_for, defBody s_walk_for, defScope s_walk_for, [], []⟩
abbrev s_count_less : Stmt := top 33
def d_count_less : He.DefD := ⟨("count_less", none), "count_less", "count_less", defArgs s_count_less, defBody s_count_less, defScope s_count_less, [], []⟩
abbrev s_merged : Stmt := top 31
def d_merged : He.DefD := ⟨("merged", none), "merged", "merged", defArgs s_merged, defBody s_merged, defScope s_merged, [], []⟩
abbrev s_number_by : Stmt := top 32
def d_number_by : He.DefD := ⟨("number_by", none), "number_by", "number_by", defArgs s_number_by, defBody s_number_by, defScope s_number_by, [], []⟩
abbrev s_show_table : Stmt := top 46
def d_show_table : He.DefD := ⟨("show_table", none), "show_table", "show_table", defArgs s_show_table, defBody s_show_table, defScope s_show_table, [], []⟩
abbrev s_told_of : Stmt := top 61
def d_told_of : He.DefD := ⟨("told_of", none), "told_of", "told_of", defArgs s_told_of, defBody s_told_of, defScope s_told_of, [], []⟩
abbrev s_Keeper___init__ : Stmt := inClass (top 35) 0
def d_Keeper___init__ : He.DefD := ⟨("Keeper", some "__init__"), "__init__", "Keeper.__init__", defArgs s_Keeper___init__, defBody s_Keeper___init__, defScope s_Keeper___init__, [], []⟩
abbrev s_is_cell : Stmt := top 24
def d_is_cell : He.DefD := ⟨("is_cell", none), "is_cell", "is_cell", defArgs s_is_cell, defBody s_is_cell, defScope s_is_cell, [], []⟩
abbrev s_need_cell : Stmt := top 25
def d_need_cell : He.DefD := ⟨("need_cell", none), "need_cell", "need_cell", defArgs s_need_cell, defBody s_need_cell, defScope s_need_cell, [], []⟩
abbrev s_Keeper_ends_of : Stmt := inClass (top 35) 2
def d_Keeper_ends_of : He.DefD := ⟨("Keeper", some "ends_of"), "ends_of", "Keeper.ends_of", defArgs s_Keeper_ends_of, defBody s_Keeper_ends_of, defScope s_Keeper_ends_of, [], []⟩
abbrev s_Keeper_put : Stmt := inClass (top 35) 3
def d_Keeper_put : He.DefD := ⟨("Keeper", some "put"), "put", "Keeper.put", defArgs s_Keeper_put, defBody s_Keeper_put, defScope s_Keeper_put, [], []⟩
abbrev s_Keeper_change : Stmt := inClass (top 35) 4
def d_Keeper_change : He.DefD := ⟨("Keeper", some "change"), "change", "Keeper.change", defArgs s_Keeper_change, defBody s_Keeper_change, defScope s_Keeper_change, [], []⟩
abbrev s_Keeper_table : Stmt := inClass (top 35) 1
def d_Keeper_table : He.DefD := ⟨("Keeper", some "table"), "table", "Keeper.table", defArgs s_Keeper_table, defBody s_Keeper_table, defScope s_Keeper_table, [], []⟩
abbrev s_Desk_say : Stmt := inClass (top 62) 2
def d_Desk_say : He.DefD := ⟨("Desk", some "say"), "say", "Desk.say", defArgs s_Desk_say, defBody s_Desk_say, defScope s_Desk_say, [], []⟩
abbrev s_law_none : Stmt := top 66
def d_law_none : He.DefD := ⟨("_law_none", none), "_law_none", "_law_none", defArgs s_law_none, defBody s_law_none, defScope s_law_none, [], []⟩
abbrev s_law_others : Stmt := top 67
def d_law_others : He.DefD := ⟨("_law_others", none), "_law_others", "_law_others", defArgs s_law_others, defBody s_law_others, defScope s_law_others, [], []⟩
abbrev s_law_cell : Stmt := top 64
def d_law_cell : He.DefD := ⟨("_law_cell", none), "_law_cell", "_law_cell", defArgs s_law_cell, defBody s_law_cell, defScope s_law_cell, [], []⟩
abbrev s_law_spoilt : Stmt := top 68
def d_law_spoilt : He.DefD := ⟨("_law_spoilt", none), "_law_spoilt", "_law_spoilt", defArgs s_law_spoilt, defBody s_law_spoilt, defScope s_law_spoilt, [], []⟩
abbrev s_law_said : Stmt := top 65
def d_law_said : He.DefD := ⟨("_law_said", none), "_law_said", "_law_said", defArgs s_law_said, defBody s_law_said, defScope s_law_said, [], []⟩
abbrev s_Desk_names : Stmt := inClass (top 62) 1
def d_Desk_names : He.DefD := ⟨("Desk", some "names"), "names", "Desk.names", defArgs s_Desk_names, defBody s_Desk_names, defScope s_Desk_names, [], []⟩
abbrev s_law : Stmt := top 69
def d_law : He.DefD := ⟨("law", none), "law", "law", defArgs s_law, defBody s_law, defScope s_law, [], []⟩
def fn : List He.DefD := [d_Desk___init__, d_is_name, d_is_figures, d_is_word, d_words_in, d_is_whole, d_need_size, d_open_cells, d_after_greater, d_after_less, d_Looks_left, d_Looks_behind, d_Looks___init__, d_fewest_looks, d_read_word, d_are_rows, d_rises, d_is_table, d_read_table, d_cells_text, d_need_table, d_need_number, d_all_cells, d_cells_of, d_stair_of, d_steps_of, d_walk_for, d_count_less, d_merged, d_number_by, d_show_table, d_told_of, d_Keeper___init__, d_is_cell, d_need_cell, d_Keeper_ends_of, d_Keeper_put, d_Keeper_change, d_Keeper_table, d_Desk_say, d_law_none, d_law_others, d_law_cell, d_law_spoilt, d_law_said, d_Desk_names, d_law]
def fa0 : List He.Fa := [.glo "Desk", .cls "Desk", .noat "Desk" "tables", .mkr "Desk", .free "isinstance", .free "str", .exc "NoRow", .glo "NoRow", .free "len", .str "LETTERS" "abcdefghijklmnopqrstuvwxyz", .glo "is_name", .str "FIGURES_desk" "0123456789", .glo "is_figures", .glo "FORMS", .free "zip", .glo "is_word", .glo "words_in", .free "int", .free "bool", .glo "is_whole", .int "MOST_SIZE" 4, .exc "NoSize", .glo "NoSize", .glo "need_size", .glo "Looks", .cls "Looks", .noat "Looks" "known", .free "range", .glo "open_cells", .free "min"]
def fa1 : List He.Fa := [.free "max", .free "tuple", .free "enumerate", .glo "after_greater", .glo "after_less", .meth "Looks" "left", .meth "Looks" "behind", .mkr "Looks", .glo "fewest_looks", .exc "NoText", .glo "NoText", .str "FIGURES_texts" "0123456789", .glo "read_word", .free "list", .int "MOST_ROWS" 6, .int "LONGEST" 6, .glo "are_rows", .glo "rises", .glo "is_table", .glo "read_table", .exc "NoName", .glo "NoName", .glo "cells_text", .exc "NoTable", .glo "NoTable", .glo "need_table", .exc "NoNumber", .glo "NoNumber", .glo "need_number", .glo "all_cells"]
def fa2 : List He.Fa := [.glo "cells_of", .glo "stair_of", .glo "steps_of", .glo "walk_for", .free "sum", .glo "count_less", .free "sorted", .glo "merged", .exc "NoPlace", .glo "NoPlace", .glo "number_by", .glo "show_table", .glo "told_of", .glo "Keeper", .cls "Keeper", .noat "Keeper" "lines", .noat "Keeper" "stand", .mkr "Keeper", .glo "is_cell", .exc "NoCell", .glo "NoCell", .glo "need_cell", .meth "Keeper" "ends_of", .exc "NoFit", .glo "NoFit", .meth "Keeper" "put", .meth "Keeper" "change", .meth "Keeper" "table", .meth "Desk" "say", .glo "_law_none"]
def fa3 : List He.Fa := [.glo "_law_others", .glo "_law_cell", .glo "_law_spoilt", .free "abs", .glo "NoStair", .glo "NoLook", .glo "NoChange", .free "ValueError", .glo "SeekError", .glo "_law_said", .meth "Desk" "names", .glo "law"]
def fa : List He.Fa := fa0 ++ fa1 ++ fa2 ++ fa3
def es : List Str := ["NoRow", "NoSize", "NoText", "NoName", "NoTable", "NoNumber", "NoPlace", "NoCell", "NoFit"]
def ys : List Str := ["NoName", "NoFit", "NoCell", "NoRow", "NoPlace", "NoText", "NoSize", "NoTable", "NoStair", "NoNumber", "NoLook", "NoChange"]
theorem glo_es {K : Frag} {mg : MG} (T : TxtP fa fn K mg) : ∀ e ∈ es, mg e = some (.ref (He.ga K e)) := List.forall_mem_cons.mpr ⟨T.glo 7, List.forall_mem_cons.mpr ⟨T.glo 22, List.forall_mem_cons.mpr ⟨T.glo 40, List.forall_mem_cons.mpr ⟨T.glo 51, List.forall_mem_cons.mpr ⟨T.glo 54, List.forall_mem_cons.mpr ⟨T.glo 57, List.forall_mem_cons.mpr ⟨T.glo 69, List.forall_mem_cons.mpr ⟨T.glo 80, List.forall_mem_cons.mpr ⟨T.glo 84, fun _ h => nomatch h⟩⟩⟩⟩⟩⟩⟩⟩⟩
def tab_FORMS : List (Str × Str) := [("cell", "ddx"), ("drop", ""), ("find", "x"), ("stair", "x"), ("walk", "x"), ("below", "x"), ("nth", "d"), ("show", "")]
def ts : List TabF := [("FORMS", tab_FORMS)]
abbrev R : PySem.W.OpenRow := PySem.W.OpenLaw.row PySem.Challenge.rw_stairseek_k37_rows_that_are_none
abbrev hk : PySem.W.Hook := VL.hookF 5 fa fn es ys ts
def ob (s : PySem.W.SharedT) : VL.AlF := VL.obsFG 5 fa fn es ys ts (HandSHeadRun.getT s)
theorem ob_eq (s : PySem.W.SharedT) : ob s = hk.obs s.abs := VL.obsFG_eq (HandSHeadRun.getT_eq s)
def loose0 : List Str := ["_wall", "__name__", "SeekError", "NoTable", "NoCell", "NoNumber", "NoSize", "NoStair", "NoLook", "NoPlace", "NoFit", "NoChange", "NoText", "NoName", "NoRow", "MOST_ROWS", "LONGEST", "is_whole", "are_rows", "rises", "is_table", "need_table", "need_number", "is_cell", "need_cell", "all_cells", "cells_of", "stair_of", "merged", "number_by"]
def loose1 : List Str := ["count_less", "Keeper", "MOST_SIZE", "need_size", "open_cells", "after_less", "after_greater", "Looks", "fewest_looks", "FIGURES_texts", "show_table", "read_word", "read_table", "steps_of", "walk_for", "LETTERS", "FIGURES_desk", "FORMS", "is_name", "is_figures", "is_word", "words_in", "cells_text", "told_of", "Desk", "_law_cell", "_law_said", "_law_none", "_law_others", "_law_spoilt"]
def loose : List Str := loose0 ++ loose1
theorem run_true (w : World) : HandSHeadRun.RunEq R (PySem.W.view R.prog [69]) hk ob 30000 loose (VL.setW w true) := by
  intro os
  kernel_rfl
theorem run_false (w : World) : HandSHeadRun.RunEq R (PySem.W.view R.prog [69]) hk ob 30000 loose (VL.setW w false) := by
  intro os
  kernel_rfl
theorem run (w : World) : HandSHeadRun.RunEq R (PySem.W.view R.prog [69]) hk ob 30000 loose w := VL.setW_all (p := fun w => HandSHeadRun.RunEq R (PySem.W.view R.prog [69]) hk ob 30000 loose w) run_true run_false w
abbrev Txt (w : World) (K : Frag) (mg : MG) : Prop := TxtF fa fn es ys ts w K mg
section
variable {P : Program} {w : World} {K : Frag} {mg : MG} {base : Heap}
abbrev N_Desk___init__ : List Str := ["self"]
theorem sc_Desk___init__ : FnScope ["self"] ["self"] (defScope s_Desk___init__) := ⟨rfl, rfl, rfl, by decide +kernel, rfl, by decide +kernel, by decide +kernel⟩
def g_Desk___init__ : S := sFldS "Desk" "tables" (mDk) (mVar 0)
def m_Desk___init__ : MF := runF 1 g_Desk___init__
theorem ok_Desk___init__ (T0 : Txt w K mg) : OkI P w K mg base 1 "Desk" 1 m_Desk___init__ := by
  have T := T0.t
  obtain ⟨fd, Fn⟩ := T.def_ 0 (d := d_Desk___init__) rfl
  have nd := sc_Desk___init__.nd
  exact ⟨_, fd, ["self"], T.glo 0, T.mkr 3, Fn.bindsN (fun _ _ _ _ _ _ us hl => match us, hl with | [_], _ => rfl), rfl, vfnD Fn sc_Desk___init__ rfl fun cdv A outer s H E hr => by
    have tk := tk_of (Pr := P) (w := w) (K := K) (mg := mg) (base := base) (N := ["self"]) (qual := "Desk.__init__") (sc := defScope s_Desk___init__) (f := He.fAd K d_Desk___init__.at_) (cd := cdv) (A := A) (outer := outer) (s := s) (H := H) (E := E)
    have pw := pw_of (Pr := P) (w := w) (K := K) (mg := mg) (base := base) (N := ["self"]) (qual := "Desk.__init__") (sc := defScope s_Desk___init__) (f := He.fAd K d_Desk___init__.at_) (cd := cdv) (A := A) (outer := outer) (s := s) (H := H) (E := E)
    exact vss_one (vs_fld (T.glo 0) (T.cls 1) (T.noat 2) (ve_dk0) (ve_var 0 rfl (Or.inl rfl)))⟩
abbrev N_is_name : List Str := ["word", "sign"]
theorem sc_is_name : FnScope ["word", "sign"] ["word"] (defScope s_is_name) := ⟨rfl, rfl, rfl, by decide +kernel, rfl, by decide +kernel, by decide +kernel⟩
def g_is_name : S := sRet (mAndV (mChain oLe oLe (mC (.int 1)) (b1 oLen (mCons (mVar 0) (mNil))) (mC (.int 8))) (b2 oEq (mLc false [1] (b1 oSrcS (mVar 0)) (tgName 1) (toB (b2 oNotInSg (mVar 1) (mC (.str "abcdefghijklmnopqrstuvwxyz")))) (mVar 1)) (b1 (oMk false) (mNil))))
def m_is_name : MF := runF 2 g_is_name
theorem ok_is_name (T0 : Txt w K mg) : Ok P w K mg base 1 "is_name" 1 m_is_name := by
  have T := T0.t
  obtain ⟨fd, Fn⟩ := T.def_ 1 (d := d_is_name) rfl
  have nd := sc_is_name.nd
  exact ⟨_, fd, ["word"], T.glo 10, Fn.kp, Fn.bindsN (fun _ _ _ _ _ _ us hl => match us, hl with | [_], _ => rfl), rfl, vfnD Fn sc_is_name rfl fun cdv A outer s H E hr => by
    have tk := tk_of (Pr := P) (w := w) (K := K) (mg := mg) (base := base) (N := ["word", "sign"]) (qual := "is_name") (sc := defScope s_is_name) (f := He.fAd K d_is_name.at_) (cd := cdv) (A := A) (outer := outer) (s := s) (H := H) (E := E)
    have pw := pw_of (Pr := P) (w := w) (K := K) (mg := mg) (base := base) (N := ["word", "sign"]) (qual := "is_name") (sc := defScope s_is_name) (f := He.fAd K d_is_name.at_) (cd := cdv) (A := A) (outer := outer) (s := s) (H := H) (E := E)
    exact vss_one (vs_ret (ve_and (ve_chain op_le op_le o_le o_le (ve_int) (ve_callB call_len o_len rfl (T.fr 8) bb_len (va_cons (ve_var 0 rfl (Or.inl rfl)) (va_nil))) (ve_int)) (ve_one (ve_cmp (s_eq hr.units) o_eq (ve_lc false (own := [("sign", 1)]) rfl nd (vi_str (ve_var 0 rfl (Or.inl rfl))) (blkOk_by (N := N_is_name) (sc := defScope s_is_name) (own := [("sign", 1)]) (by decide +kernel)) (by decide) (fun _ _ _ _ _ => vg_name (i := 1) nd rfl (Or.inl rfl) (Or.inr rfl)) (fun _ _ _ _ _ => vts_one (vt_cmp op_notIn_sign o_notInSg (ve_var 1 rfl (Or.inl rfl)) (ve_globS rfl (T.str_ 9)) (by rfl))) (fun _ _ _ _ _ => ve_var 1 rfl (Or.inl rfl))) (ve_lst false (va_nil)) (nomark _)))))⟩
abbrev N_is_figures : List Str := ["word", "most", "sign"]
theorem sc_is_figures : FnScope ["word", "most", "sign"] ["word", "most"] (defScope s_is_figures) := ⟨rfl, rfl, rfl, by decide +kernel, rfl, by decide +kernel, by decide +kernel⟩
def g_is_figures : S := sSeq (sIf (mOr (mNot (toB (mChain oLe oLe (mC (.int 1)) (b1 oLen (mCons (mVar 0) (mNil))) (mVar 1)))) (toB (b2 oNe (mLc false [2] (b1 oSrcS (mVar 0)) (tgName 2) (toB (b2 oNotInSg (mVar 2) (mC (.str "0123456789")))) (mVar 2)) (b1 (oMk false) (mNil))))) (sRet (mC (.bl false))) (sNil)) (sRet (mOrV (b2 oEq (b1 oLen (mCons (mVar 0) (mNil))) (mC (.int 1))) (b2 oNe (b2 oIx (mVar 0) (mC (.int 0))) (mC (.str "0")))))
def m_is_figures : MF := runF 3 g_is_figures
theorem ok_is_figures (T0 : Txt w K mg) : Ok P w K mg base 1 "is_figures" 2 m_is_figures := by
  have T := T0.t
  obtain ⟨fd, Fn⟩ := T.def_ 2 (d := d_is_figures) rfl
  have nd := sc_is_figures.nd
  exact ⟨_, fd, ["word", "most"], T.glo 12, Fn.kp, Fn.bindsN (fun _ _ _ _ _ _ us hl => match us, hl with | [_, _], _ => rfl), rfl, vfnD Fn sc_is_figures rfl fun cdv A outer s H E hr => by
    have tk := tk_of (Pr := P) (w := w) (K := K) (mg := mg) (base := base) (N := ["word", "most", "sign"]) (qual := "is_figures") (sc := defScope s_is_figures) (f := He.fAd K d_is_figures.at_) (cd := cdv) (A := A) (outer := outer) (s := s) (H := H) (E := E)
    have pw := pw_of (Pr := P) (w := w) (K := K) (mg := mg) (base := base) (N := ["word", "most", "sign"]) (qual := "is_figures") (sc := defScope s_is_figures) (f := He.fAd K d_is_figures.at_) (cd := cdv) (A := A) (outer := outer) (s := s) (H := H) (E := E)
    exact vss_cons (vs_if (vt_w (vw_or (vt_not (vt_chain op_le op_le o_le o_le (ve_int) (ve_callB call_len o_len rfl (T.fr 8) bb_len (va_cons (ve_var 0 rfl (Or.inl rfl)) (va_nil))) (ve_var 1 rfl (Or.inl rfl)))) (vw_or1 (vt_cmp (s_ne hr.units) o_ne (ve_lc false (own := [("sign", 2)]) rfl nd (vi_str (ve_var 0 rfl (Or.inl rfl))) (blkOk_by (N := N_is_figures) (sc := defScope s_is_figures) (own := [("sign", 2)]) (by decide +kernel)) (by decide) (fun _ _ _ _ _ => vg_name (i := 2) nd rfl (Or.inl rfl) (Or.inr rfl)) (fun _ _ _ _ _ => vts_one (vt_cmp op_notIn_sign o_notInSg (ve_var 2 rfl (Or.inl rfl)) (ve_globS rfl (T.str_ 11)) (by rfl))) (fun _ _ _ _ _ => ve_var 2 rfl (Or.inl rfl))) (ve_lst false (va_nil)) (nomark _))))) (vss_one (vs_ret (ve_bl))) (vss_nil)) (vss_one (vs_ret (ve_or (ve_cmp (s_eq hr.units) o_eq (ve_callB call_len o_len rfl (T.fr 8) bb_len (va_cons (ve_var 0 rfl (Or.inl rfl)) (va_nil))) (ve_int) (nomark _)) (ve_one (ve_cmp (s_ne hr.units) o_ne (ve_ix ix_seq o_ix (ve_var 0 rfl (Or.inl rfl)) (ve_int) (fun _ _ => rfl)) (ve_str) (nomark _))))))⟩
abbrev N_is_word : List Str := ["form", "word"]
theorem sc_is_word : FnScope ["form", "word"] ["form", "word"] (defScope s_is_word) := ⟨rfl, rfl, rfl, by decide +kernel, rfl, by decide +kernel, by decide +kernel⟩
def g_is_word : S := sSeq (sIf (toB (b2 oEq (mVar 0) (mC (.str "d")))) (sRet (mCall 2 m_is_figures (mCons (mVar 1) (mCons (mC (.int 2)) (mNil))))) (sNil)) (sSeq (sIf (toB (b2 oEq (mSl (oSl false) (mVar 1) (mNoPt) (b1 oPt (mC (.int 1)))) (mC (.str "-")))) (sRet (mAndV (b2 oNe (mVar 1) (mC (.str "-0"))) (mCall 2 m_is_figures (mCons (mSl (oSl false) (mVar 1) (b1 oPt (mC (.int 1))) (mNoPt)) (mCons (mC (.int 9)) (mNil)))))) (sNil)) (sRet (mCall 2 m_is_figures (mCons (mVar 1) (mCons (mC (.int 9)) (mNil))))))
def m_is_word : MF := runF 2 g_is_word
theorem ok_is_word (T0 : Txt w K mg) : Ok P w K mg base 2 "is_word" 2 m_is_word := by
  have T := T0.t
  obtain ⟨fd, Fn⟩ := T.def_ 3 (d := d_is_word) rfl
  have nd := sc_is_word.nd
  exact ⟨_, fd, ["form", "word"], T.glo 15, Fn.kp, Fn.bindsN (fun _ _ _ _ _ _ us hl => match us, hl with | [_, _], _ => rfl), rfl, vfnD Fn sc_is_word rfl fun cdv A outer s H E hr => by
    have tk := tk_of (Pr := P) (w := w) (K := K) (mg := mg) (base := base) (N := ["form", "word"]) (qual := "is_word") (sc := defScope s_is_word) (f := He.fAd K d_is_word.at_) (cd := cdv) (A := A) (outer := outer) (s := s) (H := H) (E := E)
    have pw := pw_of (Pr := P) (w := w) (K := K) (mg := mg) (base := base) (N := ["form", "word"]) (qual := "is_word") (sc := defScope s_is_word) (f := He.fAd K d_is_word.at_) (cd := cdv) (A := A) (outer := outer) (s := s) (H := H) (E := E)
    exact vss_cons (vs_if (vt_cmp (s_eq hr.units) o_eq (ve_var 0 rfl (Or.inl rfl)) (ve_str) (nomark _)) (vss_one (vs_ret (ve_callK tk (ok_is_figures T0) (hr.mono (by omega)) rfl (va_cons (ve_var 1 rfl (Or.inl rfl)) (va_cons (ve_int) (va_nil)))))) (vss_nil)) (vss_cons (vs_if (vt_cmp (s_eq hr.units) o_eq (ve_slice s_sl (o_sl false) (ve_var 1 rfl (Or.inl rfl)) (vp_none) (vp_some (ve_int))) (ve_str) (nomark _)) (vss_one (vs_ret (ve_and (ve_cmp (s_ne hr.units) o_ne (ve_var 1 rfl (Or.inl rfl)) (ve_str) (nomark _)) (ve_one (ve_callK tk (ok_is_figures T0) (hr.mono (by omega)) rfl (va_cons (ve_slice s_sl (o_sl false) (ve_var 1 rfl (Or.inl rfl)) (vp_some (ve_int)) (vp_none)) (va_cons (ve_int) (va_nil)))))))) (vss_nil)) (vss_one (vs_ret (ve_callK tk (ok_is_figures T0) (hr.mono (by omega)) rfl (va_cons (ve_var 1 rfl (Or.inl rfl)) (va_cons (ve_int) (va_nil)))))))⟩
abbrev N_words_in : List Str := ["row", "words", "name", "blank", "rest", "forms", "form", "word"]
theorem sc_words_in : FnScope ["row", "words", "name", "blank", "rest", "forms", "form", "word"] ["row"] (defScope s_words_in) := ⟨rfl, rfl, rfl, by decide +kernel, rfl, by decide +kernel, by decide +kernel⟩
def g_words_in : S := sSeq (sIf (mNot (toB (b1 (oIsi .str) (mVar 0)))) (sRaise "NoRow") (sNil)) (sSeq (sSet 1 (mMt "str" (oSplit false) (mVar 0) (mCons (mC (.str " ")) (mNil)))) (sSeq (sIf (toB (b2 oEq (b2 oIx (mVar 1) (mC (.int 0))) (mC (.str "table")))) (sSeq (sAsg (mMt "str" oPart (mSl (oSl false) (mVar 0) (b1 oPt (mC (.int 6))) (mNoPt)) (mCons (mC (.str " ")) (mNil))) (tgTup (tgCons (tgName 2) (tgCons (tgName 3) (tgCons (tgName 4) tgNil))) 3)) (sSeq (sIf (mOr (toB (b2 oEq (mVar 3) (mC (.str "")))) (mNot (toB (mCall 1 m_is_name (mCons (mVar 2) (mNil)))))) (sRaise "NoRow") (sNil)) (sRet (b1 (oMk false) (mCons (mC (.str "table")) (mCons (mVar 2) (mCons (mVar 4) (mNil)))))))) (sNil)) (sSeq (sIf (toB (b2 oEq (b2 oIx (mVar 1) (mC (.int 0))) (mC (.str "looks")))) (sSeq (sIf (mOr (toB (b2 oNe (b1 oLen (mCons (mVar 1) (mNil))) (mC (.int 3)))) (mOr (mNot (toB (mCall 2 m_is_figures (mCons (b2 oIx (mVar 1) (mC (.int 1))) (mCons (mC (.int 2)) (mNil)))))) (mNot (toB (mCall 2 m_is_figures (mCons (b2 oIx (mVar 1) (mC (.int 2))) (mCons (mC (.int 2)) (mNil)))))))) (sRaise "NoRow") (sNil)) (sRet (mVar 1))) (sNil)) (sSeq (sSet 5 (b1 (oKGet tab_FORMS) (b2 oIx (mVar 1) (mC (.int 0))))) (sSeq (sIf (mOr (toB (b2 oIsN (mVar 5) (mC .non))) (mOr (toB (b2 oNe (b1 oLen (mCons (mVar 1) (mNil))) (b2 (oAdd false) (b1 oLen (mCons (mVar 5) (mNil))) (mC (.int 2))))) (mNot (toB (mCall 1 m_is_name (mCons (b2 oIx (mVar 1) (mC (.int 1))) (mNil))))))) (sRaise "NoRow") (sNil)) (sSeq (sIf (toB (b2 oNe (mLc false [6, 7] (b1 oSrcZS (mCons (mVar 5) (mCons (mSl (oSl false) (mVar 1) (b1 oPt (mC (.int 2))) (mNoPt)) (mNil)))) (tgTup (tgCons (tgName 6) (tgCons (tgName 7) tgNil)) 2) (mNot (toB (mCall 2 m_is_word (mCons (mVar 6) (mCons (mVar 7) (mNil)))))) (mVar 6)) (b1 (oMk false) (mNil)))) (sRaise "NoRow") (sNil)) (sRet (mVar 1))))))))
def m_words_in : MF := runF 8 g_words_in
theorem ok_words_in (T0 : Txt w K mg) : Ok P w K mg base 3 "words_in" 1 m_words_in := by
  have T := T0.t
  obtain ⟨fd, Fn⟩ := T.def_ 4 (d := d_words_in) rfl
  have nd := sc_words_in.nd
  exact ⟨_, fd, ["row"], T.glo 16, Fn.kp, Fn.bindsN (fun _ _ _ _ _ _ us hl => match us, hl with | [_], _ => rfl), rfl, vfnD Fn sc_words_in rfl fun cdv A outer s H E hr => by
    have tk := tk_of (Pr := P) (w := w) (K := K) (mg := mg) (base := base) (N := ["row", "words", "name", "blank", "rest", "forms", "form", "word"]) (qual := "words_in") (sc := defScope s_words_in) (f := He.fAd K d_words_in.at_) (cd := cdv) (A := A) (outer := outer) (s := s) (H := H) (E := E)
    have pw := pw_of (Pr := P) (w := w) (K := K) (mg := mg) (base := base) (N := ["row", "words", "name", "blank", "rest", "forms", "form", "word"]) (qual := "words_in") (sc := defScope s_words_in) (f := He.fAd K d_words_in.at_) (cd := cdv) (A := A) (outer := outer) (s := s) (H := H) (E := E)
    exact vss_cons (vs_if (vt_not (vt_val (ve_isi .str rfl (T.fr 4) bb_isinstance rfl (T.fr 5) bb_str (ve_var 0 rfl (Or.inl rfl))))) (vss_one (vs_raise rfl tk (T.exc1 6) (T.exc2 7) (T.exc3 6) (T.exc4 6) rfl)) (vss_nil)) (vss_cons (vs_set (i := 1) nd rfl (Or.inl rfl) (ve_bm PySem.F.plainAttrs_str PySem.F.slot_str_split PySem.F.type_str_split mt_split (o_split false) (ve_var 0 rfl (Or.inl rfl)) (va_cons (ve_str) (va_nil))) rfl (Or.inl rfl)) (vss_cons (vs_if (vt_cmp (s_eq hr.units) o_eq (ve_ix ix_seq o_ix (ve_var 1 rfl (Or.inl rfl)) (ve_int) (fun _ _ => rfl)) (ve_str) (nomark _)) (vss_cons (vs_asg (ve_bm PySem.F.plainAttrs_str PySem.F.slot_str_partition PySem.F.type_str_partition mt_partition o_part (ve_slice s_sl (o_sl false) (ve_var 0 rfl (Or.inl rfl)) (vp_some (ve_int)) (vp_none)) (va_cons (ve_str) (va_nil))) (vg_tup rfl (vgs_cons (vg_name (i := 2) nd rfl (Or.inl rfl) (Or.inl rfl)) (vgs_cons (vg_name (i := 3) nd rfl (Or.inl rfl) (Or.inl rfl)) (vgs_cons (vg_name (i := 4) nd rfl (Or.inl rfl) (Or.inl rfl)) (vgs_nil)))))) (vss_cons (vs_if (vt_w (vw_or (vt_cmp (s_eq hr.units) o_eq (ve_var 3 rfl (Or.inl rfl)) (ve_str) (nomark _)) (vw_or1 (vt_not (vt_val (ve_callK tk (ok_is_name T0) (hr.mono (by omega)) rfl (va_cons (ve_var 2 rfl (Or.inl rfl)) (va_nil)))))))) (vss_one (vs_raise rfl tk (T.exc1 6) (T.exc2 7) (T.exc3 6) (T.exc4 6) rfl)) (vss_nil)) (vss_one (vs_ret (ve_lst false (va_cons (ve_str) (va_cons (ve_var 2 rfl (Or.inl rfl)) (va_cons (ve_var 4 rfl (Or.inl rfl)) (va_nil))))))))) (vss_nil)) (vss_cons (vs_if (vt_cmp (s_eq hr.units) o_eq (ve_ix ix_seq o_ix (ve_var 1 rfl (Or.inl rfl)) (ve_int) (fun _ _ => rfl)) (ve_str) (nomark _)) (vss_cons (vs_if (vt_w (vw_or (vt_cmp (s_ne hr.units) o_ne (ve_callB call_len o_len rfl (T.fr 8) bb_len (va_cons (ve_var 1 rfl (Or.inl rfl)) (va_nil))) (ve_int) (nomark _)) (vw_or (vt_not (vt_val (ve_callK tk (ok_is_figures T0) (hr.mono (by omega)) rfl (va_cons (ve_ix ix_seq o_ix (ve_var 1 rfl (Or.inl rfl)) (ve_int) (fun _ _ => rfl)) (va_cons (ve_int) (va_nil)))))) (vw_or1 (vt_not (vt_val (ve_callK tk (ok_is_figures T0) (hr.mono (by omega)) rfl (va_cons (ve_ix ix_seq o_ix (ve_var 1 rfl (Or.inl rfl)) (ve_int) (fun _ _ => rfl)) (va_cons (ve_int) (va_nil)))))))))) (vss_one (vs_raise rfl tk (T.exc1 6) (T.exc2 7) (T.exc3 6) (T.exc4 6) rfl)) (vss_nil)) (vss_one (vs_ret (ve_var 1 rfl (Or.inl rfl))))) (vss_nil)) (vss_cons (vs_set (i := 5) nd rfl (Or.inl rfl) (ve_kget (T0.tab 0 (t := ("FORMS", tab_FORMS))) rfl (T.glo 13) (ve_ix ix_seq o_ix (ve_var 1 rfl (Or.inl rfl)) (ve_int) (fun _ _ => rfl))) rfl (Or.inl rfl)) (vss_cons (vs_if (vt_w (vw_or (vt_cmp op_isN o_isN (ve_var 5 rfl (Or.inl rfl)) (ve_non) (nomark _)) (vw_or (vt_cmp (s_ne hr.units) o_ne (ve_callB call_len o_len rfl (T.fr 8) bb_len (va_cons (ve_var 1 rfl (Or.inl rfl)) (va_nil))) (ve_op s_add (o_add false) (ve_callB call_len o_len rfl (T.fr 8) bb_len (va_cons (ve_var 5 rfl (Or.inl rfl)) (va_nil))) (ve_int)) (nomark _)) (vw_or1 (vt_not (vt_val (ve_callK tk (ok_is_name T0) (hr.mono (by omega)) rfl (va_cons (ve_ix ix_seq o_ix (ve_var 1 rfl (Or.inl rfl)) (ve_int) (fun _ _ => rfl)) (va_nil))))))))) (vss_one (vs_raise rfl tk (T.exc1 6) (T.exc2 7) (T.exc3 6) (T.exc4 6) rfl)) (vss_nil)) (vss_cons (vs_if (vt_cmp (s_ne hr.units) o_ne (ve_lc false (own := [("form", 6), ("word", 7)]) rfl nd (vi_zipS rfl (T.fr 14) (va_cons (ve_var 5 rfl (Or.inl rfl)) (va_cons (ve_slice s_sl (o_sl false) (ve_var 1 rfl (Or.inl rfl)) (vp_some (ve_int)) (vp_none)) (va_nil)))) (blkOk_by (N := N_words_in) (sc := defScope s_words_in) (own := [("form", 6), ("word", 7)]) (by decide +kernel)) (by decide) (fun _ _ _ _ _ => vg_tup rfl (vgs_cons (vg_name (i := 6) nd rfl (Or.inl rfl) (Or.inr rfl)) (vgs_cons (vg_name (i := 7) nd rfl (Or.inl rfl) (Or.inr rfl)) (vgs_nil)))) (fun _ _ _ _ _ => vts_one (vt_not (vt_val (ve_callK takes0 (ok_is_word T0) (hr.mono (by omega)) rfl (va_cons (ve_var 6 rfl (Or.inl rfl)) (va_cons (ve_var 7 rfl (Or.inl rfl)) (va_nil))))))) (fun _ _ _ _ _ => ve_var 6 rfl (Or.inl rfl))) (ve_lst false (va_nil)) (nomark _)) (vss_one (vs_raise rfl tk (T.exc1 6) (T.exc2 7) (T.exc3 6) (T.exc4 6) rfl)) (vss_nil)) (vss_one (vs_ret (ve_var 1 rfl (Or.inl rfl))))))))))⟩
abbrev N_is_whole : List Str := ["thing"]
theorem sc_is_whole : FnScope ["thing"] ["thing"] (defScope s_is_whole) := ⟨rfl, rfl, rfl, by decide +kernel, rfl, by decide +kernel, by decide +kernel⟩
def g_is_whole : S := sRet (mAndV (b1 (oIsi .int) (mVar 0)) (b1 oNot (b1 (oIsi .bool) (mVar 0))))
def m_is_whole : MF := runF 1 g_is_whole
theorem ok_is_whole (T0 : Txt w K mg) : Ok P w K mg base 1 "is_whole" 1 m_is_whole := by
  have T := T0.t
  obtain ⟨fd, Fn⟩ := T.def_ 5 (d := d_is_whole) rfl
  have nd := sc_is_whole.nd
  exact ⟨_, fd, ["thing"], T.glo 19, Fn.kp, Fn.bindsN (fun _ _ _ _ _ _ us hl => match us, hl with | [_], _ => rfl), rfl, vfnD Fn sc_is_whole rfl fun cdv A outer s H E hr => by
    have tk := tk_of (Pr := P) (w := w) (K := K) (mg := mg) (base := base) (N := ["thing"]) (qual := "is_whole") (sc := defScope s_is_whole) (f := He.fAd K d_is_whole.at_) (cd := cdv) (A := A) (outer := outer) (s := s) (H := H) (E := E)
    have pw := pw_of (Pr := P) (w := w) (K := K) (mg := mg) (base := base) (N := ["thing"]) (qual := "is_whole") (sc := defScope s_is_whole) (f := He.fAd K d_is_whole.at_) (cd := cdv) (A := A) (outer := outer) (s := s) (H := H) (E := E)
    exact vss_one (vs_ret (ve_and (ve_isi .int rfl (T.fr 4) bb_isinstance rfl (T.fr 17) bb_int (ve_var 0 rfl (Or.inl rfl))) (ve_one (ve_not (ve_isi .bool rfl (T.fr 4) bb_isinstance rfl (T.fr 18) bb_bool (ve_var 0 rfl (Or.inl rfl)))))))⟩
abbrev N_need_size : List Str := ["r", "p", "one"]
theorem sc_need_size : FnScope ["r", "p", "one"] ["r", "p"] (defScope s_need_size) := ⟨rfl, rfl, rfl, by decide +kernel, rfl, by decide +kernel, by decide +kernel⟩
def g_need_size : S := sFor (b1 oSrcT (b1 oTup (mCons (mVar 0) (mCons (mVar 1) (mNil))))) (tgName 2) (sIf (mOr (mNot (toB (mCall 1 m_is_whole (mCons (mVar 2) (mNil))))) (mNot (toB (mChain oLe oLe (mC (.int 1)) (mVar 2) (mC (.int 4)))))) (sRaise "NoSize") (sNil))
def m_need_size : MF := runF 3 g_need_size
theorem ok_need_size (T0 : Txt w K mg) : Ok P w K mg base 2 "need_size" 2 m_need_size := by
  have T := T0.t
  obtain ⟨fd, Fn⟩ := T.def_ 6 (d := d_need_size) rfl
  have nd := sc_need_size.nd
  exact ⟨_, fd, ["r", "p"], T.glo 23, Fn.kp, Fn.bindsN (fun _ _ _ _ _ _ us hl => match us, hl with | [_, _], _ => rfl), rfl, vfnD Fn sc_need_size rfl fun cdv A outer s H E hr => by
    have tk := tk_of (Pr := P) (w := w) (K := K) (mg := mg) (base := base) (N := ["r", "p", "one"]) (qual := "need_size") (sc := defScope s_need_size) (f := He.fAd K d_need_size.at_) (cd := cdv) (A := A) (outer := outer) (s := s) (H := H) (E := E)
    have pw := pw_of (Pr := P) (w := w) (K := K) (mg := mg) (base := base) (N := ["r", "p", "one"]) (qual := "need_size") (sc := defScope s_need_size) (f := He.fAd K d_need_size.at_) (cd := cdv) (A := A) (outer := outer) (s := s) (H := H) (E := E)
    exact vss_one (vs_for pw rfl (vi_tup (ve_tup (va_cons (ve_var 0 rfl (Or.inl rfl)) (va_cons (ve_var 1 rfl (Or.inl rfl)) (va_nil))))) (vg_name (i := 2) nd rfl (Or.inl rfl) (Or.inl rfl)) (vss_one (vs_if (vt_w (vw_or (vt_not (vt_val (ve_callK tk (ok_is_whole T0) (hr.mono (by omega)) rfl (va_cons (ve_var 2 rfl (Or.inl rfl)) (va_nil))))) (vw_or1 (vt_not (vt_chain op_le op_le o_le o_le (ve_int) (ve_var 2 rfl (Or.inl rfl)) (ve_globI rfl (T.int_ 20))))))) (vss_one (vs_raise rfl tk (T.exc1 21) (T.exc2 22) (T.exc3 21) (T.exc4 21) rfl)) (vss_nil))))⟩
abbrev N_open_cells : List Str := ["low", "high", "found", "row", "place"]
theorem sc_open_cells : FnScope ["low", "high", "found", "row", "place"] ["low", "high"] (defScope s_open_cells) := ⟨rfl, rfl, rfl, by decide +kernel, rfl, by decide +kernel, by decide +kernel⟩
def g_open_cells : S := sTrunc (sSeq (sSet 2 (b1 (oMk true) (mNil))) (sSeq (sFor (b1 oRng1 (mCons (b1 oLen (mCons (mVar 0) (mNil))) (mNil))) (tgName 3) (sExpr (mMt "list" oExtend (mVar 2) (mCons (mLc false [4] (b1 oRng2 (mCons (b2 oIx (mVar 0) (mVar 3)) (mCons (b2 oIx (mVar 1) (mVar 3)) (mNil)))) (tgName 4) (mYes) (b1 oTup (mCons (mVar 3) (mCons (mVar 4) (mNil))))) (mNil))))) (sFrz 2 (sRet (mVar 2)))))
def m_open_cells : MF := runF 5 g_open_cells
theorem ok_open_cells (T0 : Txt w K mg) : Ok P w K mg base 1 "open_cells" 2 m_open_cells := by
  have T := T0.t
  obtain ⟨fd, Fn⟩ := T.def_ 7 (d := d_open_cells) rfl
  have nd := sc_open_cells.nd
  exact ⟨_, fd, ["low", "high"], T.glo 28, Fn.kp, Fn.bindsN (fun _ _ _ _ _ _ us hl => match us, hl with | [_, _], _ => rfl), rfl, vfnD Fn sc_open_cells rfl fun cdv A outer s H E hr => by
    have tk := tk_of (Pr := P) (w := w) (K := K) (mg := mg) (base := base) (N := ["low", "high", "found", "row", "place"]) (qual := "open_cells") (sc := defScope s_open_cells) (f := He.fAd K d_open_cells.at_) (cd := cdv) (A := A) (outer := outer) (s := s) (H := H) (E := E)
    have pw := pw_of (Pr := P) (w := w) (K := K) (mg := mg) (base := base) (N := ["low", "high", "found", "row", "place"]) (qual := "open_cells") (sc := defScope s_open_cells) (f := He.fAd K d_open_cells.at_) (cd := cdv) (A := A) (outer := outer) (s := s) (H := H) (E := E)
    exact vss_trunc (vss_cons (vs_set (i := 2) nd rfl (Or.inl rfl) (ve_lst true (va_nil)) rfl (Or.inl rfl)) (vss_cons (vs_for pw rfl (vi_rng1 rfl (T.fr 27) (va_cons (ve_callB call_len o_len rfl (T.fr 8) bb_len (va_cons (ve_var 0 rfl (Or.inl rfl)) (va_nil))) (va_nil))) (vg_name (i := 3) nd rfl (Or.inr rfl) (Or.inl rfl)) (vss_one (vs_expr (ve_bm PySem.F.plainAttrs_list PySem.F.slot_list_extend PySem.F.type_list_extend mt_extend o_extend (ve_var 2 rfl (Or.inl rfl)) (va_cons (ve_lc false (own := [("place", 4)]) rfl nd (vi_rng2 rfl (T.fr 27) (va_cons (ve_ix ix_seq o_ix (ve_var 0 rfl (Or.inl rfl)) (ve_var 3 rfl (Or.inr (Or.inl rfl))) (fun _ _ => rfl)) (va_cons (ve_ix ix_seq o_ix (ve_var 1 rfl (Or.inl rfl)) (ve_var 3 rfl (Or.inr (Or.inl rfl))) (fun _ _ => rfl)) (va_nil)))) (blkOk_by (N := N_open_cells) (sc := defScope s_open_cells) (own := [("place", 4)]) (by decide +kernel)) (by decide) (fun _ _ _ _ _ => vg_name (i := 4) nd rfl (Or.inl rfl) (Or.inr rfl)) (fun _ _ _ _ _ => vts_nil) (fun _ _ _ _ _ => ve_tup (va_cons (ve_var 3 rfl (Or.inr (Or.inl rfl))) (va_cons (ve_var 4 rfl (Or.inl rfl)) (va_nil))))) (va_nil)))))) (vss_frz 2 (vss_one (vs_ret (ve_var 2 rfl (Or.inl rfl)))))))⟩
abbrev N_after_greater : List Str := ["low", "cell", "row", "one"]
theorem sc_after_greater : FnScope ["low", "cell", "row", "one"] ["low", "cell"] (defScope s_after_greater) := ⟨rfl, rfl, rfl, by decide +kernel, rfl, by decide +kernel, by decide +kernel⟩
def g_after_greater : S := sRet (b1 oTuple (mCons (mLc false [2, 3] (b1 oSrcE (mCons (mVar 0) (mNil))) (tgTup (tgCons (tgName 2) (tgCons (tgName 3) tgNil)) 2) (mYes) (mIf (toB (b2 oLe (mVar 2) (b2 oIx (mVar 1) (mC (.int 0))))) (b1 oMax (mCons (mVar 3) (mCons (b2 (oAdd false) (b2 oIx (mVar 1) (mC (.int 1))) (mC (.int 1))) (mNil)))) (mVar 3))) (mNil)))
def m_after_greater : MF := runF 4 g_after_greater
def g_after_greaterT : S := sRet (b1 oTuple (mCons (mLc false [2, 3] (b1 oSrcET (mCons (mVar 0) (mNil))) (tgTup (tgCons (tgName 2) (tgCons (tgName 3) tgNil)) 2) (mYes) (mIf (toB (b2 oLe (mVar 2) (b2 oIx (mVar 1) (mC (.int 0))))) (b1 oMax (mCons (mVar 3) (mCons (b2 (oAdd false) (b2 oIx (mVar 1) (mC (.int 1))) (mC (.int 1))) (mNil)))) (mVar 3))) (mNil)))
def m_after_greaterT : MF := runF 4 g_after_greaterT
theorem ok_after_greaterT (T0 : Txt w K mg) : Ok P w K mg base 1 "after_greater" 2 m_after_greaterT := by
  have T := T0.t
  obtain ⟨fd, Fn⟩ := T.def_ 8 (d := d_after_greater) rfl
  have nd := sc_after_greater.nd
  exact ⟨_, fd, ["low", "cell"], T.glo 33, Fn.kp, Fn.bindsN (fun _ _ _ _ _ _ us hl => match us, hl with | [_, _], _ => rfl), rfl, vfnD Fn sc_after_greater rfl fun cdv A outer s H E hr => by
    have tk := tk_of (Pr := P) (w := w) (K := K) (mg := mg) (base := base) (N := ["low", "cell", "row", "one"]) (qual := "after_greater") (sc := defScope s_after_greater) (f := He.fAd K d_after_greater.at_) (cd := cdv) (A := A) (outer := outer) (s := s) (H := H) (E := E)
    have pw := pw_of (Pr := P) (w := w) (K := K) (mg := mg) (base := base) (N := ["low", "cell", "row", "one"]) (qual := "after_greater") (sc := defScope s_after_greater) (f := He.fAd K d_after_greater.at_) (cd := cdv) (A := A) (outer := outer) (s := s) (H := H) (E := E)
    exact vss_one (vs_ret (ve_callTy call_tuple_of o_tuple rfl (T.fr 31) bb_tuple (va_cons (ve_lc false (own := [("row", 2), ("one", 3)]) rfl nd (vi_enumT rfl (T.fr 32) (va_cons (ve_var 0 rfl (Or.inl rfl)) (va_nil))) (blkOk_by (N := N_after_greater) (sc := defScope s_after_greater) (own := [("row", 2), ("one", 3)]) (by decide +kernel)) (by decide) (fun _ _ _ _ _ => vg_tup rfl (vgs_cons (vg_name (i := 2) nd rfl (Or.inl rfl) (Or.inr rfl)) (vgs_cons (vg_name (i := 3) nd rfl (Or.inl rfl) (Or.inr rfl)) (vgs_nil)))) (fun _ _ _ _ _ => vts_nil) (fun _ _ _ _ _ => ve_ifExp (vt_cmp op_le o_le (ve_var 2 rfl (Or.inl rfl)) (ve_ix ix_seq o_ix (ve_var 1 rfl (Or.inr (Or.inl rfl))) (ve_int) (fun _ _ => rfl)) (nomark _)) (ve_callB (s_max rfl) o_max rfl (T.fr 30) bb_max (va_cons (ve_var 3 rfl (Or.inl rfl)) (va_cons (ve_op s_add (o_add false) (ve_ix ix_seq o_ix (ve_var 1 rfl (Or.inr (Or.inl rfl))) (ve_int) (fun _ _ => rfl)) (ve_int)) (va_nil)))) (ve_var 3 rfl (Or.inl rfl)))) (va_nil))))⟩
abbrev N_after_less : List Str := ["high", "cell", "row", "one"]
theorem sc_after_less : FnScope ["high", "cell", "row", "one"] ["high", "cell"] (defScope s_after_less) := ⟨rfl, rfl, rfl, by decide +kernel, rfl, by decide +kernel, by decide +kernel⟩
def g_after_less : S := sRet (b1 oTuple (mCons (mLc false [2, 3] (b1 oSrcE (mCons (mVar 0) (mNil))) (tgTup (tgCons (tgName 2) (tgCons (tgName 3) tgNil)) 2) (mYes) (mIf (toB (b2 oGe (mVar 2) (b2 oIx (mVar 1) (mC (.int 0))))) (b1 oMin (mCons (mVar 3) (mCons (b2 oIx (mVar 1) (mC (.int 1))) (mNil)))) (mVar 3))) (mNil)))
def m_after_less : MF := runF 4 g_after_less
def g_after_lessT : S := sRet (b1 oTuple (mCons (mLc false [2, 3] (b1 oSrcET (mCons (mVar 0) (mNil))) (tgTup (tgCons (tgName 2) (tgCons (tgName 3) tgNil)) 2) (mYes) (mIf (toB (b2 oGe (mVar 2) (b2 oIx (mVar 1) (mC (.int 0))))) (b1 oMin (mCons (mVar 3) (mCons (b2 oIx (mVar 1) (mC (.int 1))) (mNil)))) (mVar 3))) (mNil)))
def m_after_lessT : MF := runF 4 g_after_lessT
theorem ok_after_lessT (T0 : Txt w K mg) : Ok P w K mg base 1 "after_less" 2 m_after_lessT := by
  have T := T0.t
  obtain ⟨fd, Fn⟩ := T.def_ 9 (d := d_after_less) rfl
  have nd := sc_after_less.nd
  exact ⟨_, fd, ["high", "cell"], T.glo 34, Fn.kp, Fn.bindsN (fun _ _ _ _ _ _ us hl => match us, hl with | [_, _], _ => rfl), rfl, vfnD Fn sc_after_less rfl fun cdv A outer s H E hr => by
    have tk := tk_of (Pr := P) (w := w) (K := K) (mg := mg) (base := base) (N := ["high", "cell", "row", "one"]) (qual := "after_less") (sc := defScope s_after_less) (f := He.fAd K d_after_less.at_) (cd := cdv) (A := A) (outer := outer) (s := s) (H := H) (E := E)
    have pw := pw_of (Pr := P) (w := w) (K := K) (mg := mg) (base := base) (N := ["high", "cell", "row", "one"]) (qual := "after_less") (sc := defScope s_after_less) (f := He.fAd K d_after_less.at_) (cd := cdv) (A := A) (outer := outer) (s := s) (H := H) (E := E)
    exact vss_one (vs_ret (ve_callTy call_tuple_of o_tuple rfl (T.fr 31) bb_tuple (va_cons (ve_lc false (own := [("row", 2), ("one", 3)]) rfl nd (vi_enumT rfl (T.fr 32) (va_cons (ve_var 0 rfl (Or.inl rfl)) (va_nil))) (blkOk_by (N := N_after_less) (sc := defScope s_after_less) (own := [("row", 2), ("one", 3)]) (by decide +kernel)) (by decide) (fun _ _ _ _ _ => vg_tup rfl (vgs_cons (vg_name (i := 2) nd rfl (Or.inl rfl) (Or.inr rfl)) (vgs_cons (vg_name (i := 3) nd rfl (Or.inl rfl) (Or.inr rfl)) (vgs_nil)))) (fun _ _ _ _ _ => vts_nil) (fun _ _ _ _ _ => ve_ifExp (vt_cmp op_ge o_ge (ve_var 2 rfl (Or.inl rfl)) (ve_ix ix_seq o_ix (ve_var 1 rfl (Or.inr (Or.inl rfl))) (ve_int) (fun _ _ => rfl)) (nomark _)) (ve_callB (s_min rfl) o_min rfl (T.fr 29) bb_min (va_cons (ve_var 3 rfl (Or.inl rfl)) (va_cons (ve_ix ix_seq o_ix (ve_var 1 rfl (Or.inr (Or.inl rfl))) (ve_int) (fun _ _ => rfl)) (va_nil)))) (ve_var 3 rfl (Or.inl rfl)))) (va_nil))))⟩
abbrev N_Looks_left : List Str := ["self", "low", "high", "some", "cell"]
theorem sc_Looks_left : FnScope ["self", "low", "high", "some", "cell"] ["self", "low", "high"] (defScope s_Looks_left) := ⟨rfl, rfl, rfl, by decide +kernel, rfl, by decide +kernel, by decide +kernel⟩
def g_Looks_left (mf_Looks_left mf_Looks_behind : MF) : S := sSeq (sIf (toB (b2 (oDIn true) (b1 oTup (mCons (mVar 1) (mCons (mVar 2) (mNil)))) (b1 (oFld "Looks" "known") (mVar 0)))) (sSeq (sSet 3 (mLc false [4] (b1 oSrcL (mCall 2 m_open_cells (mCons (mVar 1) (mCons (mVar 2) (mNil))))) (tgName 4) (mYes) (mMeth "Looks" "behind" 4 mf_Looks_behind (mVar 0) (mCons (mVar 1) (mCons (mVar 2) (mCons (mVar 4) (mNil))))))) (sSub (mIf (toB (b2 oNe (mVar 3) (b1 (oMk false) (mNil)))) (b1 oMin (mCons (mVar 3) (mNil))) (mC (.int 0))) (b1 (oFld "Looks" "known") (mVar 0)) (b1 oTup (mCons (mVar 1) (mCons (mVar 2) (mNil)))) oDSet)) (sNil)) (sRet (b2 oDGet (b1 (oFld "Looks" "known") (mVar 0)) (b1 oTup (mCons (mVar 1) (mCons (mVar 2) (mNil))))))
abbrev N_Looks_behind : List Str := ["self", "low", "high", "cell"]
theorem sc_Looks_behind : FnScope ["self", "low", "high", "cell"] ["self", "low", "high", "cell"] (defScope s_Looks_behind) := ⟨rfl, rfl, rfl, by decide +kernel, rfl, by decide +kernel, by decide +kernel⟩
def g_Looks_behind (mf_Looks_left mf_Looks_behind : MF) : S := sRet (b2 (oAdd false) (mC (.int 1)) (b1 oMax (mCons (mMeth "Looks" "left" 3 mf_Looks_left (mVar 0) (mCons (mVar 1) (mCons (mCall 2 m_after_lessT (mCons (mVar 2) (mCons (mVar 3) (mNil)))) (mNil)))) (mCons (mMeth "Looks" "left" 3 mf_Looks_left (mVar 0) (mCons (mCall 2 m_after_greaterT (mCons (mVar 1) (mCons (mVar 3) (mNil)))) (mCons (mVar 2) (mNil)))) (mNil)))))
def rec_Looks_left : Nat → MF × MF
  | 0 => (runF 5 (fun _ _ => .stuck), runF 4 (fun _ _ => .stuck))
  | n + 1 => (runF 5 (g_Looks_left ((rec_Looks_left n).1) ((rec_Looks_left n).2)), runF 4 (g_Looks_behind ((rec_Looks_left n).1) ((rec_Looks_left n).2)))
def m_Looks_left : MF := (rec_Looks_left 40).1
def m_Looks_behind : MF := (rec_Looks_left 40).2
theorem ok0_Looks_left (T0 : Txt w K mg) : OkM P w K mg base (2) "Looks" "left" 3 (runF 5 (fun _ _ => .stuck)) := by
  have T := T0.t
  obtain ⟨fd, Fn⟩ := T.def_ 10 (d := d_Looks_left) rfl
  have nd := sc_Looks_left.nd
  exact ⟨_, fd, ["self", "low", "high"], T.glo 24, T.cls 25, T.meth 35, Fn.bindsN (fun _ _ _ _ _ _ us hl => match us, hl with | [_, _, _], _ => rfl), rfl, vfnD Fn sc_Looks_left rfl fun cdv A outer s H E hr => by
    have tk := tk_of (Pr := P) (w := w) (K := K) (mg := mg) (base := base) (N := ["self", "low", "high", "some", "cell"]) (qual := "Looks.left") (sc := defScope s_Looks_left) (f := He.fAd K d_Looks_left.at_) (cd := cdv) (A := A) (outer := outer) (s := s) (H := H) (E := E)
    have pw := pw_of (Pr := P) (w := w) (K := K) (mg := mg) (base := base) (N := ["self", "low", "high", "some", "cell"]) (qual := "Looks.left") (sc := defScope s_Looks_left) (f := He.fAd K d_Looks_left.at_) (cd := cdv) (A := A) (outer := outer) (s := s) (H := H) (E := E)
    exact vss_stuck⟩
theorem ok1_Looks_left (T0 : Txt w K mg) {mf_Looks_left mf_Looks_behind : MF} {lv : Nat} (hlv : 1 ≤ lv) (ih_Looks_left : OkM P w K mg base (lv) "Looks" "left" 3 (mf_Looks_left)) (ih_Looks_behind : OkM P w K mg base (lv) "Looks" "behind" 4 (mf_Looks_behind)) : OkM P w K mg base (lv + 1) "Looks" "left" 3 (runF 5 (g_Looks_left mf_Looks_left mf_Looks_behind)) := by
  have T := T0.t
  obtain ⟨fd, Fn⟩ := T.def_ 10 (d := d_Looks_left) rfl
  have nd := sc_Looks_left.nd
  exact ⟨_, fd, ["self", "low", "high"], T.glo 24, T.cls 25, T.meth 35, Fn.bindsN (fun _ _ _ _ _ _ us hl => match us, hl with | [_, _, _], _ => rfl), rfl, vfnD Fn sc_Looks_left rfl fun cdv A outer s H E hr => by
    have tk := tk_of (Pr := P) (w := w) (K := K) (mg := mg) (base := base) (N := ["self", "low", "high", "some", "cell"]) (qual := "Looks.left") (sc := defScope s_Looks_left) (f := He.fAd K d_Looks_left.at_) (cd := cdv) (A := A) (outer := outer) (s := s) (H := H) (E := E)
    have pw := pw_of (Pr := P) (w := w) (K := K) (mg := mg) (base := base) (N := ["self", "low", "high", "some", "cell"]) (qual := "Looks.left") (sc := defScope s_Looks_left) (f := He.fAd K d_Looks_left.at_) (cd := cdv) (A := A) (outer := outer) (s := s) (H := H) (E := E)
    exact vss_cons (vs_if (vt_cmp (op_notInDict hr.units) (o_din true) (ve_tup (va_cons (ve_var 1 rfl (Or.inr (Or.inl rfl))) (va_cons (ve_var 2 rfl (Or.inr (Or.inl rfl))) (va_nil)))) (ve_fld (T.glo 24) (T.cls 25) (T.noat 26) (ve_var 0 rfl (Or.inr (Or.inl rfl)))) (by rfl)) (vss_cons (vs_setLc false (i := 3) (own := [("cell", 4)]) rfl nd rfl rfl (sw_true rfl rfl rfl (by decide +kernel)) (vi_list (ve_callK tk (ok_open_cells T0) (hr.mono (by omega)) rfl (va_cons (ve_var 1 rfl (Or.inr (Or.inl rfl))) (va_cons (ve_var 2 rfl (Or.inr (Or.inl rfl))) (va_nil))))) (blkOk_by (N := N_Looks_left) (sc := defScope s_Looks_left) (own := [("cell", 4)]) (by decide +kernel)) (by decide) (fun _ _ _ _ _ => vg_name (i := 4) nd rfl (Or.inl rfl) (Or.inr rfl)) (fun _ _ _ _ _ => vts_nil) (fun _ _ _ _ _ => ve_meth takes0 ih_Looks_behind hr (ve_var 0 rfl (Or.inr (Or.inl rfl))) (va_cons (ve_var 1 rfl (Or.inr (Or.inl rfl))) (va_cons (ve_var 2 rfl (Or.inr (Or.inl rfl))) (va_cons (ve_var 4 rfl (Or.inl rfl)) (va_nil)))))) (vss_one (vs_subD hr.units (ve_ifExp (vt_cmp (s_ne hr.units) o_ne (ve_var 3 rfl (Or.inl rfl)) (ve_lst false (va_nil)) (nomark _)) (ve_callB (s_min rfl) o_min rfl (T.fr 29) bb_min (va_cons (ve_var 3 rfl (Or.inl rfl)) (va_nil))) (ve_int)) (ve_fld (T.glo 24) (T.cls 25) (T.noat 26) (ve_var 0 rfl (Or.inr (Or.inl rfl)))) (ve_tup (va_cons (ve_var 1 rfl (Or.inr (Or.inl rfl))) (va_cons (ve_var 2 rfl (Or.inr (Or.inl rfl))) (va_nil))))))) (vss_nil)) (vss_one (vs_ret (ve_ix (ix_dict hr.units) o_dget (ve_fld (T.glo 24) (T.cls 25) (T.noat 26) (ve_var 0 rfl (Or.inr (Or.inl rfl)))) (ve_tup (va_cons (ve_var 1 rfl (Or.inr (Or.inl rfl))) (va_cons (ve_var 2 rfl (Or.inr (Or.inl rfl))) (va_nil)))) (fun _ _ => rfl))))⟩
theorem ok0_Looks_behind (T0 : Txt w K mg) : OkM P w K mg base (2) "Looks" "behind" 4 (runF 4 (fun _ _ => .stuck)) := by
  have T := T0.t
  obtain ⟨fd, Fn⟩ := T.def_ 11 (d := d_Looks_behind) rfl
  have nd := sc_Looks_behind.nd
  exact ⟨_, fd, ["self", "low", "high", "cell"], T.glo 24, T.cls 25, T.meth 36, Fn.bindsN (fun _ _ _ _ _ _ us hl => match us, hl with | [_, _, _, _], _ => rfl), rfl, vfnD Fn sc_Looks_behind rfl fun cdv A outer s H E hr => by
    have tk := tk_of (Pr := P) (w := w) (K := K) (mg := mg) (base := base) (N := ["self", "low", "high", "cell"]) (qual := "Looks.behind") (sc := defScope s_Looks_behind) (f := He.fAd K d_Looks_behind.at_) (cd := cdv) (A := A) (outer := outer) (s := s) (H := H) (E := E)
    have pw := pw_of (Pr := P) (w := w) (K := K) (mg := mg) (base := base) (N := ["self", "low", "high", "cell"]) (qual := "Looks.behind") (sc := defScope s_Looks_behind) (f := He.fAd K d_Looks_behind.at_) (cd := cdv) (A := A) (outer := outer) (s := s) (H := H) (E := E)
    exact vss_stuck⟩
theorem ok1_Looks_behind (T0 : Txt w K mg) {mf_Looks_left mf_Looks_behind : MF} {lv : Nat} (hlv : 1 ≤ lv) (ih_Looks_left : OkM P w K mg base (lv) "Looks" "left" 3 (mf_Looks_left)) (ih_Looks_behind : OkM P w K mg base (lv) "Looks" "behind" 4 (mf_Looks_behind)) : OkM P w K mg base (lv + 1) "Looks" "behind" 4 (runF 4 (g_Looks_behind mf_Looks_left mf_Looks_behind)) := by
  have T := T0.t
  obtain ⟨fd, Fn⟩ := T.def_ 11 (d := d_Looks_behind) rfl
  have nd := sc_Looks_behind.nd
  exact ⟨_, fd, ["self", "low", "high", "cell"], T.glo 24, T.cls 25, T.meth 36, Fn.bindsN (fun _ _ _ _ _ _ us hl => match us, hl with | [_, _, _, _], _ => rfl), rfl, vfnD Fn sc_Looks_behind rfl fun cdv A outer s H E hr => by
    have tk := tk_of (Pr := P) (w := w) (K := K) (mg := mg) (base := base) (N := ["self", "low", "high", "cell"]) (qual := "Looks.behind") (sc := defScope s_Looks_behind) (f := He.fAd K d_Looks_behind.at_) (cd := cdv) (A := A) (outer := outer) (s := s) (H := H) (E := E)
    have pw := pw_of (Pr := P) (w := w) (K := K) (mg := mg) (base := base) (N := ["self", "low", "high", "cell"]) (qual := "Looks.behind") (sc := defScope s_Looks_behind) (f := He.fAd K d_Looks_behind.at_) (cd := cdv) (A := A) (outer := outer) (s := s) (H := H) (E := E)
    exact vss_one (vs_ret (ve_op s_add (o_add false) (ve_int) (ve_callB (s_max rfl) o_max rfl (T.fr 30) bb_max (va_cons (ve_meth tk ih_Looks_left hr (ve_var 0 rfl (Or.inl rfl)) (va_cons (ve_var 1 rfl (Or.inl rfl)) (va_cons (ve_callK tk (ok_after_lessT T0) (hr.mono (by omega)) rfl (va_cons (ve_var 2 rfl (Or.inl rfl)) (va_cons (ve_var 3 rfl (Or.inl rfl)) (va_nil)))) (va_nil)))) (va_cons (ve_meth tk ih_Looks_left hr (ve_var 0 rfl (Or.inl rfl)) (va_cons (ve_callK tk (ok_after_greaterT T0) (hr.mono (by omega)) rfl (va_cons (ve_var 1 rfl (Or.inl rfl)) (va_cons (ve_var 3 rfl (Or.inl rfl)) (va_nil)))) (va_cons (ve_var 2 rfl (Or.inl rfl)) (va_nil)))) (va_nil))))))⟩
theorem rec_Looks_left_ok (T0 : Txt w K mg) : ∀ n : Nat, OkM P w K mg base (2 + n) "Looks" "left" 3 ((rec_Looks_left n).1) ∧ OkM P w K mg base (2 + n) "Looks" "behind" 4 ((rec_Looks_left n).2)
  | 0 => ⟨ok0_Looks_left T0, ok0_Looks_behind T0⟩
  | n + 1 => ⟨ok1_Looks_left (lv := 2 + n) T0 (by omega) ((rec_Looks_left_ok T0 n).1) ((rec_Looks_left_ok T0 n).2), ok1_Looks_behind (lv := 2 + n) T0 (by omega) ((rec_Looks_left_ok T0 n).1) ((rec_Looks_left_ok T0 n).2)⟩
theorem ok_Looks_left (T0 : Txt w K mg) : OkM P w K mg base (42) "Looks" "left" 3 (m_Looks_left) := (rec_Looks_left_ok T0 40).1
abbrev N_Looks___init__ : List Str := ["self"]
theorem sc_Looks___init__ : FnScope ["self"] ["self"] (defScope s_Looks___init__) := ⟨rfl, rfl, rfl, by decide +kernel, rfl, by decide +kernel, by decide +kernel⟩
def g_Looks___init__ : S := sFldS "Looks" "known" (mDn) (mVar 0)
def m_Looks___init__ : MF := runF 1 g_Looks___init__
theorem ok_Looks___init__ (T0 : Txt w K mg) : OkI P w K mg base 1 "Looks" 1 m_Looks___init__ := by
  have T := T0.t
  obtain ⟨fd, Fn⟩ := T.def_ 12 (d := d_Looks___init__) rfl
  have nd := sc_Looks___init__.nd
  exact ⟨_, fd, ["self"], T.glo 24, T.mkr 37, Fn.bindsN (fun _ _ _ _ _ _ us hl => match us, hl with | [_], _ => rfl), rfl, vfnD Fn sc_Looks___init__ rfl fun cdv A outer s H E hr => by
    have tk := tk_of (Pr := P) (w := w) (K := K) (mg := mg) (base := base) (N := ["self"]) (qual := "Looks.__init__") (sc := defScope s_Looks___init__) (f := He.fAd K d_Looks___init__.at_) (cd := cdv) (A := A) (outer := outer) (s := s) (H := H) (E := E)
    have pw := pw_of (Pr := P) (w := w) (K := K) (mg := mg) (base := base) (N := ["self"]) (qual := "Looks.__init__") (sc := defScope s_Looks___init__) (f := He.fAd K d_Looks___init__.at_) (cd := cdv) (A := A) (outer := outer) (s := s) (H := H) (E := E)
    exact vss_one (vs_fld (T.glo 24) (T.cls 25) (T.noat 26) (ve_dn0) (ve_var 0 rfl (Or.inl rfl)))⟩
abbrev N_fewest_looks : List Str := ["r", "p"]
theorem sc_fewest_looks : FnScope ["r", "p"] ["r", "p"] (defScope s_fewest_looks) := ⟨rfl, rfl, rfl, by decide +kernel, rfl, by decide +kernel, by decide +kernel⟩
def g_fewest_looks : S := sTrunc (sSeq (sExpr (mCall 2 m_need_size (mCons (mVar 0) (mCons (mVar 1) (mNil))))) (sRet (mMeth "Looks" "left" 3 m_Looks_left (mMake "Looks" 1 m_Looks___init__ mNil) (mCons (b2 oMulT (b1 oTup (mCons (mC (.int 0)) (mNil))) (mVar 0)) (mCons (b2 oMulT (b1 oTup (mCons (mVar 1) (mNil))) (mVar 0)) (mNil))))))
def m_fewest_looks : MF := runF 2 g_fewest_looks
theorem ok_fewest_looks (T0 : Txt w K mg) : Ok P w K mg base 43 "fewest_looks" 2 m_fewest_looks := by
  have T := T0.t
  obtain ⟨fd, Fn⟩ := T.def_ 13 (d := d_fewest_looks) rfl
  have nd := sc_fewest_looks.nd
  exact ⟨_, fd, ["r", "p"], T.glo 38, Fn.kp, Fn.bindsN (fun _ _ _ _ _ _ us hl => match us, hl with | [_, _], _ => rfl), rfl, vfnD Fn sc_fewest_looks rfl fun cdv A outer s H E hr => by
    have tk := tk_of (Pr := P) (w := w) (K := K) (mg := mg) (base := base) (N := ["r", "p"]) (qual := "fewest_looks") (sc := defScope s_fewest_looks) (f := He.fAd K d_fewest_looks.at_) (cd := cdv) (A := A) (outer := outer) (s := s) (H := H) (E := E)
    have pw := pw_of (Pr := P) (w := w) (K := K) (mg := mg) (base := base) (N := ["r", "p"]) (qual := "fewest_looks") (sc := defScope s_fewest_looks) (f := He.fAd K d_fewest_looks.at_) (cd := cdv) (A := A) (outer := outer) (s := s) (H := H) (E := E)
    exact vss_trunc (vss_cons (vs_expr (ve_callK tk (ok_need_size T0) (hr.mono (by omega)) rfl (va_cons (ve_var 0 rfl (Or.inl rfl)) (va_cons (ve_var 1 rfl (Or.inl rfl)) (va_nil))))) (vss_one (vs_ret (ve_meth tk (ok_Looks_left T0) (hr.mono (by omega)) (ve_make0 tk (ok_Looks___init__ T0) (hr.mono (by omega)) rfl) (va_cons (ve_op s_mulT o_mulT (ve_tup (va_cons (ve_int) (va_nil))) (ve_var 0 rfl (Or.inl rfl))) (va_cons (ve_op s_mulT o_mulT (ve_tup (va_cons (ve_var 1 rfl (Or.inl rfl)) (va_nil))) (ve_var 0 rfl (Or.inl rfl))) (va_nil)))))))⟩
abbrev N_read_word : List Str := ["word", "figures", "sign"]
theorem sc_read_word : FnScope ["word", "figures", "sign"] ["word"] (defScope s_read_word) := ⟨rfl, rfl, rfl, by decide +kernel, rfl, by decide +kernel, by decide +kernel⟩
def g_read_word : S := sSeq (sSet 1 (mVar 0)) (sSeq (sIf (toB (b2 oEq (mSl (oSl false) (mVar 0) (mNoPt) (b1 oPt (mC (.int 1)))) (mC (.str "-")))) (sSet 1 (mSl (oSl false) (mVar 0) (b1 oPt (mC (.int 1))) (mNoPt))) (sNil)) (sSeq (sIf (mOr (toB (b2 oEq (mVar 1) (mC (.str "")))) (mOr (toB (b2 oGt (b1 oLen (mCons (mVar 1) (mNil))) (mC (.int 4000)))) (toB (b2 oNe (mLc false [2] (b1 oSrcS (mVar 1)) (tgName 2) (toB (b2 oNotInSg (mVar 2) (mC (.str "0123456789")))) (mVar 2)) (b1 (oMk false) (mNil)))))) (sRaise "NoText") (sNil)) (sSeq (sIf (mOr (toB (b2 oEq (mVar 0) (mC (.str "-0")))) (mAnd (toB (b2 oGt (b1 oLen (mCons (mVar 1) (mNil))) (mC (.int 1)))) (toB (b2 oEq (b2 oIx (mVar 1) (mC (.int 0))) (mC (.str "0")))))) (sRaise "NoText") (sNil)) (sRet (b1 oIntS (mCons (mVar 0) (mNil)))))))
def m_read_word : MF := runF 3 g_read_word
theorem ok_read_word (T0 : Txt w K mg) : Ok P w K mg base 1 "read_word" 1 m_read_word := by
  have T := T0.t
  obtain ⟨fd, Fn⟩ := T.def_ 14 (d := d_read_word) rfl
  have nd := sc_read_word.nd
  exact ⟨_, fd, ["word"], T.glo 42, Fn.kp, Fn.bindsN (fun _ _ _ _ _ _ us hl => match us, hl with | [_], _ => rfl), rfl, vfnD Fn sc_read_word rfl fun cdv A outer s H E hr => by
    have tk := tk_of (Pr := P) (w := w) (K := K) (mg := mg) (base := base) (N := ["word", "figures", "sign"]) (qual := "read_word") (sc := defScope s_read_word) (f := He.fAd K d_read_word.at_) (cd := cdv) (A := A) (outer := outer) (s := s) (H := H) (E := E)
    have pw := pw_of (Pr := P) (w := w) (K := K) (mg := mg) (base := base) (N := ["word", "figures", "sign"]) (qual := "read_word") (sc := defScope s_read_word) (f := He.fAd K d_read_word.at_) (cd := cdv) (A := A) (outer := outer) (s := s) (H := H) (E := E)
    exact vss_cons (vs_set (i := 1) nd rfl (Or.inl rfl) (ve_var 0 rfl (Or.inl rfl)) rfl (Or.inl rfl)) (vss_cons (vs_if (vt_cmp (s_eq hr.units) o_eq (ve_slice s_sl (o_sl false) (ve_var 0 rfl (Or.inl rfl)) (vp_none) (vp_some (ve_int))) (ve_str) (nomark _)) (vss_one (vs_set (i := 1) nd rfl (Or.inl rfl) (ve_slice s_sl (o_sl false) (ve_var 0 rfl (Or.inl rfl)) (vp_some (ve_int)) (vp_none)) rfl (Or.inl rfl))) (vss_nil)) (vss_cons (vs_if (vt_w (vw_or (vt_cmp (s_eq hr.units) o_eq (ve_var 1 rfl (Or.inl rfl)) (ve_str) (nomark _)) (vw_or (vt_cmp op_gt o_gt (ve_callB call_len o_len rfl (T.fr 8) bb_len (va_cons (ve_var 1 rfl (Or.inl rfl)) (va_nil))) (ve_int) (nomark _)) (vw_or1 (vt_cmp (s_ne hr.units) o_ne (ve_lc false (own := [("sign", 2)]) rfl nd (vi_str (ve_var 1 rfl (Or.inl rfl))) (blkOk_by (N := N_read_word) (sc := defScope s_read_word) (own := [("sign", 2)]) (by decide +kernel)) (by decide) (fun _ _ _ _ _ => vg_name (i := 2) nd rfl (Or.inl rfl) (Or.inr rfl)) (fun _ _ _ _ _ => vts_one (vt_cmp op_notIn_sign o_notInSg (ve_var 2 rfl (Or.inl rfl)) (ve_globS rfl (T.str_ 41)) (by rfl))) (fun _ _ _ _ _ => ve_var 2 rfl (Or.inl rfl))) (ve_lst false (va_nil)) (nomark _)))))) (vss_one (vs_raise rfl tk (T.exc1 39) (T.exc2 40) (T.exc3 39) (T.exc4 39) rfl)) (vss_nil)) (vss_cons (vs_if (vt_w (vw_or (vt_cmp (s_eq hr.units) o_eq (ve_var 0 rfl (Or.inl rfl)) (ve_str) (nomark _)) (vw_or1 (vt_w (vw_and (vt_cmp op_gt o_gt (ve_callB call_len o_len rfl (T.fr 8) bb_len (va_cons (ve_var 1 rfl (Or.inl rfl)) (va_nil))) (ve_int) (nomark _)) (vw_and1 (vt_cmp (s_eq hr.units) o_eq (ve_ix ix_seq o_ix (ve_var 1 rfl (Or.inl rfl)) (ve_int) (fun _ _ => rfl)) (ve_str) (nomark _)))))))) (vss_one (vs_raise rfl tk (T.exc1 39) (T.exc2 40) (T.exc3 39) (T.exc4 39) rfl)) (vss_nil)) (vss_one (vs_ret (ve_callTy call_int_str o_intS rfl (T.fr 17) bb_int (va_cons (ve_var 0 rfl (Or.inl rfl)) (va_nil))))))))⟩
abbrev N_are_rows : List Str := ["thing", "row", "number"]
theorem sc_are_rows : FnScope ["thing", "row", "number"] ["thing"] (defScope s_are_rows) := ⟨rfl, rfl, rfl, by decide +kernel, rfl, by decide +kernel, by decide +kernel⟩
def g_are_rows : S := sSeq (sIf (mOr (mNot (toB (b1 (oIsi .list) (mVar 0)))) (mNot (toB (mChain oLe oLe (mC (.int 1)) (b1 oLen (mCons (mVar 0) (mNil))) (mC (.int 6)))))) (sRet (mC (.bl false))) (sNil)) (sSeq (sFor (b1 oSrcL (mVar 0)) (tgName 1) (sSeq (sIf (mOr (mNot (toB (b1 (oIsi .list) (mVar 1)))) (mOr (mNot (toB (mChain oLe oLe (mC (.int 1)) (b1 oLen (mCons (mVar 1) (mNil))) (mC (.int 6))))) (toB (b2 oNe (b1 oLen (mCons (mVar 1) (mNil))) (b1 oLen (mCons (b2 oIx (mVar 0) (mC (.int 0))) (mNil))))))) (sRet (mC (.bl false))) (sNil)) (sIf (toB (b2 oNe (mLc false [2] (b1 oSrcL (mVar 1)) (tgName 2) (mNot (toB (mCall 1 m_is_whole (mCons (mVar 2) (mNil))))) (mVar 2)) (b1 (oMk false) (mNil)))) (sRet (mC (.bl false))) (sNil)))) (sRet (mC (.bl true))))
def m_are_rows : MF := runF 3 g_are_rows
theorem ok_are_rows (T0 : Txt w K mg) : Ok P w K mg base 2 "are_rows" 1 m_are_rows := by
  have T := T0.t
  obtain ⟨fd, Fn⟩ := T.def_ 15 (d := d_are_rows) rfl
  have nd := sc_are_rows.nd
  exact ⟨_, fd, ["thing"], T.glo 46, Fn.kp, Fn.bindsN (fun _ _ _ _ _ _ us hl => match us, hl with | [_], _ => rfl), rfl, vfnD Fn sc_are_rows rfl fun cdv A outer s H E hr => by
    have tk := tk_of (Pr := P) (w := w) (K := K) (mg := mg) (base := base) (N := ["thing", "row", "number"]) (qual := "are_rows") (sc := defScope s_are_rows) (f := He.fAd K d_are_rows.at_) (cd := cdv) (A := A) (outer := outer) (s := s) (H := H) (E := E)
    have pw := pw_of (Pr := P) (w := w) (K := K) (mg := mg) (base := base) (N := ["thing", "row", "number"]) (qual := "are_rows") (sc := defScope s_are_rows) (f := He.fAd K d_are_rows.at_) (cd := cdv) (A := A) (outer := outer) (s := s) (H := H) (E := E)
    exact vss_cons (vs_if (vt_w (vw_or (vt_not (vt_val (ve_isi .list rfl (T.fr 4) bb_isinstance rfl (T.fr 43) bb_list (ve_var 0 rfl (Or.inl rfl))))) (vw_or1 (vt_not (vt_chain op_le op_le o_le o_le (ve_int) (ve_callB call_len o_len rfl (T.fr 8) bb_len (va_cons (ve_var 0 rfl (Or.inl rfl)) (va_nil))) (ve_globI rfl (T.int_ 44))))))) (vss_one (vs_ret (ve_bl))) (vss_nil)) (vss_cons (vs_for pw rfl (vi_list (ve_var 0 rfl (Or.inl rfl))) (vg_name (i := 1) nd rfl (Or.inl rfl) (Or.inl rfl)) (vss_cons (vs_if (vt_w (vw_or (vt_not (vt_val (ve_isi .list rfl (T.fr 4) bb_isinstance rfl (T.fr 43) bb_list (ve_var 1 rfl (Or.inl rfl))))) (vw_or (vt_not (vt_chain op_le op_le o_le o_le (ve_int) (ve_callB call_len o_len rfl (T.fr 8) bb_len (va_cons (ve_var 1 rfl (Or.inl rfl)) (va_nil))) (ve_globI rfl (T.int_ 45)))) (vw_or1 (vt_cmp (s_ne hr.units) o_ne (ve_callB call_len o_len rfl (T.fr 8) bb_len (va_cons (ve_var 1 rfl (Or.inl rfl)) (va_nil))) (ve_callB call_len o_len rfl (T.fr 8) bb_len (va_cons (ve_ix ix_seq o_ix (ve_var 0 rfl (Or.inl rfl)) (ve_int) (fun _ _ => rfl)) (va_nil))) (nomark _)))))) (vss_one (vs_ret (ve_bl))) (vss_nil)) (vss_one (vs_if (vt_cmp (s_ne hr.units) o_ne (ve_lc false (own := [("number", 2)]) rfl nd (vi_list (ve_var 1 rfl (Or.inl rfl))) (blkOk_by (N := N_are_rows) (sc := defScope s_are_rows) (own := [("number", 2)]) (by decide +kernel)) (by decide) (fun _ _ _ _ _ => vg_name (i := 2) nd rfl (Or.inl rfl) (Or.inr rfl)) (fun _ _ _ _ _ => vts_one (vt_not (vt_val (ve_callK takes0 (ok_is_whole T0) (hr.mono (by omega)) rfl (va_cons (ve_var 2 rfl (Or.inl rfl)) (va_nil)))))) (fun _ _ _ _ _ => ve_var 2 rfl (Or.inl rfl))) (ve_lst false (va_nil)) (nomark _)) (vss_one (vs_ret (ve_bl))) (vss_nil))))) (vss_one (vs_ret (ve_bl))))⟩
abbrev N_rises : List Str := ["numbers", "k"]
theorem sc_rises : FnScope ["numbers", "k"] ["numbers"] (defScope s_rises) := ⟨rfl, rfl, rfl, by decide +kernel, rfl, by decide +kernel, by decide +kernel⟩
def g_rises : S := sRet (b2 oEq (mLc false [1] (b1 oRng2 (mCons (mC (.int 1)) (mCons (b1 oLen (mCons (mVar 0) (mNil))) (mNil)))) (tgName 1) (toB (b2 oLt (b2 oIx (mVar 0) (mVar 1)) (b2 oIx (mVar 0) (b2 (oSub) (mVar 1) (mC (.int 1)))))) (mVar 1)) (b1 (oMk false) (mNil)))
def m_rises : MF := runF 2 g_rises
theorem ok_rises (T0 : Txt w K mg) : Ok P w K mg base 1 "rises" 1 m_rises := by
  have T := T0.t
  obtain ⟨fd, Fn⟩ := T.def_ 16 (d := d_rises) rfl
  have nd := sc_rises.nd
  exact ⟨_, fd, ["numbers"], T.glo 47, Fn.kp, Fn.bindsN (fun _ _ _ _ _ _ us hl => match us, hl with | [_], _ => rfl), rfl, vfnD Fn sc_rises rfl fun cdv A outer s H E hr => by
    have tk := tk_of (Pr := P) (w := w) (K := K) (mg := mg) (base := base) (N := ["numbers", "k"]) (qual := "rises") (sc := defScope s_rises) (f := He.fAd K d_rises.at_) (cd := cdv) (A := A) (outer := outer) (s := s) (H := H) (E := E)
    have pw := pw_of (Pr := P) (w := w) (K := K) (mg := mg) (base := base) (N := ["numbers", "k"]) (qual := "rises") (sc := defScope s_rises) (f := He.fAd K d_rises.at_) (cd := cdv) (A := A) (outer := outer) (s := s) (H := H) (E := E)
    exact vss_one (vs_ret (ve_cmp (s_eq hr.units) o_eq (ve_lc false (own := [("k", 1)]) rfl nd (vi_rng2 rfl (T.fr 27) (va_cons (ve_int) (va_cons (ve_callB call_len o_len rfl (T.fr 8) bb_len (va_cons (ve_var 0 rfl (Or.inr (Or.inl rfl))) (va_nil))) (va_nil)))) (blkOk_by (N := N_rises) (sc := defScope s_rises) (own := [("k", 1)]) (by decide +kernel)) (by decide) (fun _ _ _ _ _ => vg_name (i := 1) nd rfl (Or.inl rfl) (Or.inr rfl)) (fun _ _ _ _ _ => vts_one (vt_cmp op_lt o_lt (ve_ix ix_seq o_ix (ve_var 0 rfl (Or.inr (Or.inl rfl))) (ve_var 1 rfl (Or.inl rfl)) (fun _ _ => rfl)) (ve_ix ix_seq o_ix (ve_var 0 rfl (Or.inr (Or.inl rfl))) (ve_op op_sub o_sub (ve_var 1 rfl (Or.inl rfl)) (ve_int)) (fun _ _ => rfl)) (nomark _))) (fun _ _ _ _ _ => ve_var 1 rfl (Or.inl rfl))) (ve_lst false (va_nil)) (nomark _)))⟩
abbrev N_is_table : List Str := ["thing", "row", "place"]
theorem sc_is_table : FnScope ["thing", "row", "place"] ["thing"] (defScope s_is_table) := ⟨rfl, rfl, rfl, by decide +kernel, rfl, by decide +kernel, by decide +kernel⟩
def g_is_table : S := sSeq (sIf (mNot (toB (mCall 1 m_are_rows (mCons (mVar 0) (mNil))))) (sRet (mC (.bl false))) (sNil)) (sSeq (sIf (toB (b2 oNe (mLc false [1] (b1 oSrcL (mVar 0)) (tgName 1) (mNot (toB (mCall 1 m_rises (mCons (mVar 1) (mNil))))) (mVar 1)) (b1 (oMk false) (mNil)))) (sRet (mC (.bl false))) (sNil)) (sRet (b2 oEq (mLc false [2] (b1 oRng1 (mCons (b1 oLen (mCons (b2 oIx (mVar 0) (mC (.int 0))) (mNil))) (mNil))) (tgName 2) (mNot (toB (mCall 1 m_rises (mCons (mLc false [1] (b1 oSrcL (mVar 0)) (tgName 1) (mYes) (b2 oIx (mVar 1) (mVar 2))) (mNil))))) (mVar 2)) (b1 (oMk false) (mNil)))))
def m_is_table : MF := runF 3 g_is_table
theorem ok_is_table (T0 : Txt w K mg) : Ok P w K mg base 3 "is_table" 1 m_is_table := by
  have T := T0.t
  obtain ⟨fd, Fn⟩ := T.def_ 17 (d := d_is_table) rfl
  have nd := sc_is_table.nd
  exact ⟨_, fd, ["thing"], T.glo 48, Fn.kp, Fn.bindsN (fun _ _ _ _ _ _ us hl => match us, hl with | [_], _ => rfl), rfl, vfnD Fn sc_is_table rfl fun cdv A outer s H E hr => by
    have tk := tk_of (Pr := P) (w := w) (K := K) (mg := mg) (base := base) (N := ["thing", "row", "place"]) (qual := "is_table") (sc := defScope s_is_table) (f := He.fAd K d_is_table.at_) (cd := cdv) (A := A) (outer := outer) (s := s) (H := H) (E := E)
    have pw := pw_of (Pr := P) (w := w) (K := K) (mg := mg) (base := base) (N := ["thing", "row", "place"]) (qual := "is_table") (sc := defScope s_is_table) (f := He.fAd K d_is_table.at_) (cd := cdv) (A := A) (outer := outer) (s := s) (H := H) (E := E)
    exact vss_cons (vs_if (vt_not (vt_val (ve_callK tk (ok_are_rows T0) (hr.mono (by omega)) rfl (va_cons (ve_var 0 rfl (Or.inr (Or.inl rfl))) (va_nil))))) (vss_one (vs_ret (ve_bl))) (vss_nil)) (vss_cons (vs_if (vt_cmp (s_ne hr.units) o_ne (ve_lc false (own := [("row", 1)]) rfl nd (vi_list (ve_var 0 rfl (Or.inr (Or.inl rfl)))) (blkOk_by (N := N_is_table) (sc := defScope s_is_table) (own := [("row", 1)]) (by decide +kernel)) (by decide) (fun _ _ _ _ _ => vg_name (i := 1) nd rfl (Or.inl rfl) (Or.inr rfl)) (fun _ _ _ _ _ => vts_one (vt_not (vt_val (ve_callK takes0 (ok_rises T0) (hr.mono (by omega)) rfl (va_cons (ve_var 1 rfl (Or.inl rfl)) (va_nil)))))) (fun _ _ _ _ _ => ve_var 1 rfl (Or.inl rfl))) (ve_lst false (va_nil)) (nomark _)) (vss_one (vs_ret (ve_bl))) (vss_nil)) (vss_one (vs_ret (ve_cmp (s_eq hr.units) o_eq (ve_lc false (own := [("place", 2)]) rfl nd (vi_rng1 rfl (T.fr 27) (va_cons (ve_callB call_len o_len rfl (T.fr 8) bb_len (va_cons (ve_ix ix_seq o_ix (ve_var 0 rfl (Or.inr (Or.inl rfl))) (ve_int) (fun _ _ => rfl)) (va_nil))) (va_nil))) (blkOk_by (N := N_is_table) (sc := defScope s_is_table) (own := [("place", 2)]) (by decide +kernel)) (by decide) (fun _ _ _ _ _ => vg_name (i := 2) nd rfl (Or.inr rfl) (Or.inl rfl)) (fun _ _ _ _ _ => vts_one (vt_not (vt_val (ve_callK takes0 (ok_rises T0) (hr.mono (by omega)) rfl (va_cons (ve_lc false (own := [("row", 1)]) rfl nd (vi_list (ve_var 0 rfl (Or.inr (Or.inl rfl)))) (blkOk_by (N := N_is_table) (sc := relS _ (defScope s_is_table)) (own := [("row", 1)]) (by decide +kernel)) (by decide) (fun _ _ _ _ _ => vg_name (i := 1) nd rfl (Or.inl rfl) (Or.inr rfl)) (fun _ _ _ _ _ => vts_nil) (fun _ _ _ _ _ => ve_ix ix_seq o_ix (ve_var 1 rfl (Or.inl rfl)) (ve_var 2 rfl (Or.inr (Or.inl rfl))) (fun _ _ => rfl))) (va_nil)))))) (fun _ _ _ _ _ => ve_var 2 rfl (Or.inr (Or.inl rfl)))) (ve_lst false (va_nil)) (nomark _)))))⟩
abbrev N_read_table : List Str := ["text", "table", "row", "word"]
theorem sc_read_table : FnScope ["text", "table", "row", "word"] ["text"] (defScope s_read_table) := ⟨rfl, rfl, rfl, by decide +kernel, rfl, by decide +kernel, by decide +kernel⟩
def g_read_table : S := sSeq (sIf (mNot (toB (b1 (oIsi .str) (mVar 0)))) (sRaise "NoText") (sNil)) (sSeq (sSet 1 (b1 (oMk true) (mNil))) (sSeq (sFor (b1 oSrcL (mMt "str" (oSplit false) (mVar 0) (mCons (mC (.str "\n")) (mNil)))) (tgName 2) (sExpr (mMt "list" oAppend (mVar 1) (mCons (mLcX false [3] (b1 oSrcL (mMt "str" (oSplit false) (mVar 2) (mCons (mC (.str " ")) (mNil)))) (tgName 3) (mYes) (mCall 1 m_read_word (mCons (mVar 3) (mNil)))) (mNil))))) (sSeq (sIf (mNot (toB (mCall 1 m_is_table (mCons (mVar 1) (mNil))))) (sRaise "NoText") (sNil)) (sFrz 1 (sRet (mVar 1))))))
def m_read_table : MF := runF 4 g_read_table
theorem ok_read_table (T0 : Txt w K mg) : Ok P w K mg base 4 "read_table" 1 m_read_table := by
  have T := T0.t
  obtain ⟨fd, Fn⟩ := T.def_ 18 (d := d_read_table) rfl
  have nd := sc_read_table.nd
  exact ⟨_, fd, ["text"], T.glo 49, Fn.kp, Fn.bindsN (fun _ _ _ _ _ _ us hl => match us, hl with | [_], _ => rfl), rfl, vfnD Fn sc_read_table rfl fun cdv A outer s H E hr => by
    have tk := tk_of (Pr := P) (w := w) (K := K) (mg := mg) (base := base) (N := ["text", "table", "row", "word"]) (qual := "read_table") (sc := defScope s_read_table) (f := He.fAd K d_read_table.at_) (cd := cdv) (A := A) (outer := outer) (s := s) (H := H) (E := E)
    have pw := pw_of (Pr := P) (w := w) (K := K) (mg := mg) (base := base) (N := ["text", "table", "row", "word"]) (qual := "read_table") (sc := defScope s_read_table) (f := He.fAd K d_read_table.at_) (cd := cdv) (A := A) (outer := outer) (s := s) (H := H) (E := E)
    exact vss_cons (vs_if (vt_not (vt_val (ve_isi .str rfl (T.fr 4) bb_isinstance rfl (T.fr 5) bb_str (ve_var 0 rfl (Or.inl rfl))))) (vss_one (vs_raise rfl tk (T.exc1 39) (T.exc2 40) (T.exc3 39) (T.exc4 39) rfl)) (vss_nil)) (vss_cons (vs_set (i := 1) nd rfl (Or.inl rfl) (ve_lst true (va_nil)) rfl (Or.inl rfl)) (vss_cons (vs_for pw rfl (vi_list (ve_bm PySem.F.plainAttrs_str PySem.F.slot_str_split PySem.F.type_str_split mt_split (o_split false) (ve_var 0 rfl (Or.inl rfl)) (va_cons (ve_str) (va_nil)))) (vg_name (i := 2) nd rfl (Or.inl rfl) (Or.inl rfl)) (vss_one (vs_expr (ve_bm PySem.F.plainAttrs_list PySem.F.slot_list_append PySem.F.type_list_append mt_append o_append (ve_var 1 rfl (Or.inl rfl)) (va_cons (ve_lcX false (own := [("word", 3)]) tk rfl rfl rfl nd (vi_list (ve_bm PySem.F.plainAttrs_str PySem.F.slot_str_split PySem.F.type_str_split mt_split (o_split false) (ve_var 2 rfl (Or.inl rfl)) (va_cons (ve_str) (va_nil)))) (blkOk_by (N := N_read_table) (sc := defScope s_read_table) (own := [("word", 3)]) (by decide +kernel)) (by decide) (fun _ _ _ _ _ => vg_name (i := 3) nd rfl (Or.inl rfl) (Or.inr rfl)) (fun _ _ _ _ _ => vts_nil) (fun _ _ _ _ _ _ _ hp => ve_callKP hp (ok_read_word T0) (hr.mono (by omega)) rfl (va_cons (ve_var 3 rfl (Or.inl rfl)) (va_nil)))) (va_nil)))))) (vss_cons (vs_if (vt_not (vt_val (ve_callK tk (ok_is_table T0) (hr.mono (by omega)) rfl (va_cons (ve_var 1 rfl (Or.inl rfl)) (va_nil))))) (vss_one (vs_raise rfl tk (T.exc1 39) (T.exc2 40) (T.exc3 39) (T.exc4 39) rfl)) (vss_nil)) (vss_frz 1 (vss_one (vs_ret (ve_var 1 rfl (Or.inl rfl))))))))⟩
abbrev N_cells_text : List Str := ["cells", "row", "place"]
theorem sc_cells_text : FnScope ["cells", "row", "place"] ["cells"] (defScope s_cells_text) := ⟨rfl, rfl, rfl, by decide +kernel, rfl, by decide +kernel, by decide +kernel⟩
def g_cells_text : S := sSeq (sIf (toB (b2 oEq (mVar 0) (b1 (oMk false) (mNil)))) (sRet (mC (.str "none"))) (sNil)) (sRet (mMt "str" oJoin (mC (.str " ")) (mCons (mLc false [1, 2] (b1 oSrcL (mVar 0)) (tgTup (tgCons (tgName 1) (tgCons (tgName 2) tgNil)) 2) (mYes) (b2 (oAdd false) (b2 (oAdd false) (b1 oStr (mCons (mVar 1) (mNil))) (mC (.str ":"))) (b1 oStr (mCons (mVar 2) (mNil))))) (mNil))))
def m_cells_text : MF := runF 3 g_cells_text
theorem ok_cells_text (T0 : Txt w K mg) : Ok P w K mg base 1 "cells_text" 1 m_cells_text := by
  have T := T0.t
  obtain ⟨fd, Fn⟩ := T.def_ 19 (d := d_cells_text) rfl
  have nd := sc_cells_text.nd
  exact ⟨_, fd, ["cells"], T.glo 52, Fn.kp, Fn.bindsN (fun _ _ _ _ _ _ us hl => match us, hl with | [_], _ => rfl), rfl, vfnD Fn sc_cells_text rfl fun cdv A outer s H E hr => by
    have tk := tk_of (Pr := P) (w := w) (K := K) (mg := mg) (base := base) (N := ["cells", "row", "place"]) (qual := "cells_text") (sc := defScope s_cells_text) (f := He.fAd K d_cells_text.at_) (cd := cdv) (A := A) (outer := outer) (s := s) (H := H) (E := E)
    have pw := pw_of (Pr := P) (w := w) (K := K) (mg := mg) (base := base) (N := ["cells", "row", "place"]) (qual := "cells_text") (sc := defScope s_cells_text) (f := He.fAd K d_cells_text.at_) (cd := cdv) (A := A) (outer := outer) (s := s) (H := H) (E := E)
    exact vss_cons (vs_if (vt_cmp (s_eq hr.units) o_eq (ve_var 0 rfl (Or.inl rfl)) (ve_lst false (va_nil)) (nomark _)) (vss_one (vs_ret (ve_str))) (vss_nil)) (vss_one (vs_ret (ve_bm PySem.F.plainAttrs_str PySem.F.slot_str_join PySem.F.type_str_join mt_join o_join (ve_str) (va_cons (ve_lc false (own := [("row", 1), ("place", 2)]) rfl nd (vi_list (ve_var 0 rfl (Or.inl rfl))) (blkOk_by (N := N_cells_text) (sc := defScope s_cells_text) (own := [("row", 1), ("place", 2)]) (by decide +kernel)) (by decide) (fun _ _ _ _ _ => vg_tup rfl (vgs_cons (vg_name (i := 1) nd rfl (Or.inl rfl) (Or.inr rfl)) (vgs_cons (vg_name (i := 2) nd rfl (Or.inl rfl) (Or.inr rfl)) (vgs_nil)))) (fun _ _ _ _ _ => vts_nil) (fun _ _ _ _ _ => ve_op s_add (o_add false) (ve_op s_add (o_add false) (ve_callTy call_str_int o_str rfl (T.fr 5) bb_str (va_cons (ve_var 1 rfl (Or.inl rfl)) (va_nil))) (ve_str)) (ve_callTy call_str_int o_str rfl (T.fr 5) bb_str (va_cons (ve_var 2 rfl (Or.inl rfl)) (va_nil))))) (va_nil)))))⟩
abbrev N_need_table : List Str := ["thing"]
theorem sc_need_table : FnScope ["thing"] ["thing"] (defScope s_need_table) := ⟨rfl, rfl, rfl, by decide +kernel, rfl, by decide +kernel, by decide +kernel⟩
def g_need_table : S := sIf (mNot (toB (mCall 1 m_is_table (mCons (mVar 0) (mNil))))) (sRaise "NoTable") (sNil)
def m_need_table : MF := runF 1 g_need_table
theorem ok_need_table (T0 : Txt w K mg) : Ok P w K mg base 4 "need_table" 1 m_need_table := by
  have T := T0.t
  obtain ⟨fd, Fn⟩ := T.def_ 20 (d := d_need_table) rfl
  have nd := sc_need_table.nd
  exact ⟨_, fd, ["thing"], T.glo 55, Fn.kp, Fn.bindsN (fun _ _ _ _ _ _ us hl => match us, hl with | [_], _ => rfl), rfl, vfnD Fn sc_need_table rfl fun cdv A outer s H E hr => by
    have tk := tk_of (Pr := P) (w := w) (K := K) (mg := mg) (base := base) (N := ["thing"]) (qual := "need_table") (sc := defScope s_need_table) (f := He.fAd K d_need_table.at_) (cd := cdv) (A := A) (outer := outer) (s := s) (H := H) (E := E)
    have pw := pw_of (Pr := P) (w := w) (K := K) (mg := mg) (base := base) (N := ["thing"]) (qual := "need_table") (sc := defScope s_need_table) (f := He.fAd K d_need_table.at_) (cd := cdv) (A := A) (outer := outer) (s := s) (H := H) (E := E)
    exact vss_one (vs_if (vt_not (vt_val (ve_callK tk (ok_is_table T0) (hr.mono (by omega)) rfl (va_cons (ve_var 0 rfl (Or.inl rfl)) (va_nil))))) (vss_one (vs_raise rfl tk (T.exc1 53) (T.exc2 54) (T.exc3 53) (T.exc4 53) rfl)) (vss_nil))⟩
abbrev N_need_number : List Str := ["thing"]
theorem sc_need_number : FnScope ["thing"] ["thing"] (defScope s_need_number) := ⟨rfl, rfl, rfl, by decide +kernel, rfl, by decide +kernel, by decide +kernel⟩
def g_need_number : S := sIf (mNot (toB (mCall 1 m_is_whole (mCons (mVar 0) (mNil))))) (sRaise "NoNumber") (sNil)
def m_need_number : MF := runF 1 g_need_number
theorem ok_need_number (T0 : Txt w K mg) : Ok P w K mg base 2 "need_number" 1 m_need_number := by
  have T := T0.t
  obtain ⟨fd, Fn⟩ := T.def_ 21 (d := d_need_number) rfl
  have nd := sc_need_number.nd
  exact ⟨_, fd, ["thing"], T.glo 58, Fn.kp, Fn.bindsN (fun _ _ _ _ _ _ us hl => match us, hl with | [_], _ => rfl), rfl, vfnD Fn sc_need_number rfl fun cdv A outer s H E hr => by
    have tk := tk_of (Pr := P) (w := w) (K := K) (mg := mg) (base := base) (N := ["thing"]) (qual := "need_number") (sc := defScope s_need_number) (f := He.fAd K d_need_number.at_) (cd := cdv) (A := A) (outer := outer) (s := s) (H := H) (E := E)
    have pw := pw_of (Pr := P) (w := w) (K := K) (mg := mg) (base := base) (N := ["thing"]) (qual := "need_number") (sc := defScope s_need_number) (f := He.fAd K d_need_number.at_) (cd := cdv) (A := A) (outer := outer) (s := s) (H := H) (E := E)
    exact vss_one (vs_if (vt_not (vt_val (ve_callK tk (ok_is_whole T0) (hr.mono (by omega)) rfl (va_cons (ve_var 0 rfl (Or.inl rfl)) (va_nil))))) (vss_one (vs_raise rfl tk (T.exc1 56) (T.exc2 57) (T.exc3 56) (T.exc4 56) rfl)) (vss_nil))⟩
abbrev N_all_cells : List Str := ["table", "found", "row", "place"]
theorem sc_all_cells : FnScope ["table", "found", "row", "place"] ["table"] (defScope s_all_cells) := ⟨rfl, rfl, rfl, by decide +kernel, rfl, by decide +kernel, by decide +kernel⟩
def g_all_cells : S := sTrunc (sSeq (sSet 1 (b1 (oMk true) (mNil))) (sSeq (sFor (b1 oRng1 (mCons (b1 oLen (mCons (mVar 0) (mNil))) (mNil))) (tgName 2) (sExpr (mMt "list" oExtend (mVar 1) (mCons (mLc false [3] (b1 oRng1 (mCons (b1 oLen (mCons (b2 oIx (mVar 0) (mC (.int 0))) (mNil))) (mNil))) (tgName 3) (mYes) (b1 oTup (mCons (mVar 2) (mCons (mVar 3) (mNil))))) (mNil))))) (sFrz 1 (sRet (mVar 1)))))
def m_all_cells : MF := runF 4 g_all_cells
theorem ok_all_cells (T0 : Txt w K mg) : Ok P w K mg base 1 "all_cells" 1 m_all_cells := by
  have T := T0.t
  obtain ⟨fd, Fn⟩ := T.def_ 22 (d := d_all_cells) rfl
  have nd := sc_all_cells.nd
  exact ⟨_, fd, ["table"], T.glo 59, Fn.kp, Fn.bindsN (fun _ _ _ _ _ _ us hl => match us, hl with | [_], _ => rfl), rfl, vfnD Fn sc_all_cells rfl fun cdv A outer s H E hr => by
    have tk := tk_of (Pr := P) (w := w) (K := K) (mg := mg) (base := base) (N := ["table", "found", "row", "place"]) (qual := "all_cells") (sc := defScope s_all_cells) (f := He.fAd K d_all_cells.at_) (cd := cdv) (A := A) (outer := outer) (s := s) (H := H) (E := E)
    have pw := pw_of (Pr := P) (w := w) (K := K) (mg := mg) (base := base) (N := ["table", "found", "row", "place"]) (qual := "all_cells") (sc := defScope s_all_cells) (f := He.fAd K d_all_cells.at_) (cd := cdv) (A := A) (outer := outer) (s := s) (H := H) (E := E)
    exact vss_trunc (vss_cons (vs_set (i := 1) nd rfl (Or.inl rfl) (ve_lst true (va_nil)) rfl (Or.inl rfl)) (vss_cons (vs_for pw rfl (vi_rng1 rfl (T.fr 27) (va_cons (ve_callB call_len o_len rfl (T.fr 8) bb_len (va_cons (ve_var 0 rfl (Or.inl rfl)) (va_nil))) (va_nil))) (vg_name (i := 2) nd rfl (Or.inr rfl) (Or.inl rfl)) (vss_one (vs_expr (ve_bm PySem.F.plainAttrs_list PySem.F.slot_list_extend PySem.F.type_list_extend mt_extend o_extend (ve_var 1 rfl (Or.inl rfl)) (va_cons (ve_lc false (own := [("place", 3)]) rfl nd (vi_rng1 rfl (T.fr 27) (va_cons (ve_callB call_len o_len rfl (T.fr 8) bb_len (va_cons (ve_ix ix_seq o_ix (ve_var 0 rfl (Or.inl rfl)) (ve_int) (fun _ _ => rfl)) (va_nil))) (va_nil))) (blkOk_by (N := N_all_cells) (sc := defScope s_all_cells) (own := [("place", 3)]) (by decide +kernel)) (by decide) (fun _ _ _ _ _ => vg_name (i := 3) nd rfl (Or.inl rfl) (Or.inr rfl)) (fun _ _ _ _ _ => vts_nil) (fun _ _ _ _ _ => ve_tup (va_cons (ve_var 2 rfl (Or.inr (Or.inl rfl))) (va_cons (ve_var 3 rfl (Or.inl rfl)) (va_nil))))) (va_nil)))))) (vss_frz 1 (vss_one (vs_ret (ve_var 1 rfl (Or.inl rfl)))))))⟩
abbrev N_cells_of : List Str := ["table", "x", "cell"]
theorem sc_cells_of : FnScope ["table", "x", "cell"] ["table", "x"] (defScope s_cells_of) := ⟨rfl, rfl, rfl, by decide +kernel, rfl, by decide +kernel, by decide +kernel⟩
def g_cells_of : S := sSeq (sExpr (mCall 1 m_need_table (mCons (mVar 0) (mNil)))) (sSeq (sExpr (mCall 1 m_need_number (mCons (mVar 1) (mNil)))) (sRet (mLc false [2] (b1 oSrcL (mCall 1 m_all_cells (mCons (mVar 0) (mNil)))) (tgName 2) (toB (b2 oEq (b2 oIx (b2 oIx (mVar 0) (b2 oIx (mVar 2) (mC (.int 0)))) (b2 oIx (mVar 2) (mC (.int 1)))) (mVar 1))) (mVar 2))))
def m_cells_of : MF := runF 3 g_cells_of
theorem ok_cells_of (T0 : Txt w K mg) : Ok P w K mg base 5 "cells_of" 2 m_cells_of := by
  have T := T0.t
  obtain ⟨fd, Fn⟩ := T.def_ 23 (d := d_cells_of) rfl
  have nd := sc_cells_of.nd
  exact ⟨_, fd, ["table", "x"], T.glo 60, Fn.kp, Fn.bindsN (fun _ _ _ _ _ _ us hl => match us, hl with | [_, _], _ => rfl), rfl, vfnD Fn sc_cells_of rfl fun cdv A outer s H E hr => by
    have tk := tk_of (Pr := P) (w := w) (K := K) (mg := mg) (base := base) (N := ["table", "x", "cell"]) (qual := "cells_of") (sc := defScope s_cells_of) (f := He.fAd K d_cells_of.at_) (cd := cdv) (A := A) (outer := outer) (s := s) (H := H) (E := E)
    have pw := pw_of (Pr := P) (w := w) (K := K) (mg := mg) (base := base) (N := ["table", "x", "cell"]) (qual := "cells_of") (sc := defScope s_cells_of) (f := He.fAd K d_cells_of.at_) (cd := cdv) (A := A) (outer := outer) (s := s) (H := H) (E := E)
    exact vss_cons (vs_expr (ve_callK tk (ok_need_table T0) (hr.mono (by omega)) rfl (va_cons (ve_var 0 rfl (Or.inr (Or.inl rfl))) (va_nil)))) (vss_cons (vs_expr (ve_callK tk (ok_need_number T0) (hr.mono (by omega)) rfl (va_cons (ve_var 1 rfl (Or.inr (Or.inl rfl))) (va_nil)))) (vss_one (vs_ret (ve_lc false (own := [("cell", 2)]) rfl nd (vi_list (ve_callK tk (ok_all_cells T0) (hr.mono (by omega)) rfl (va_cons (ve_var 0 rfl (Or.inr (Or.inl rfl))) (va_nil)))) (blkOk_by (N := N_cells_of) (sc := defScope s_cells_of) (own := [("cell", 2)]) (by decide +kernel)) (by decide) (fun _ _ _ _ _ => vg_name (i := 2) nd rfl (Or.inl rfl) (Or.inr rfl)) (fun _ _ _ _ _ => vts_one (vt_cmp (s_eq hr.units) o_eq (ve_ix ix_seq o_ix (ve_ix ix_seq o_ix (ve_var 0 rfl (Or.inr (Or.inl rfl))) (ve_ix ix_seq o_ix (ve_var 2 rfl (Or.inl rfl)) (ve_int) (fun _ _ => rfl)) (fun _ _ => rfl)) (ve_ix ix_seq o_ix (ve_var 2 rfl (Or.inl rfl)) (ve_int) (fun _ _ => rfl)) (fun _ _ => rfl)) (ve_var 1 rfl (Or.inr (Or.inl rfl))) (nomark _))) (fun _ _ _ _ _ => ve_var 2 rfl (Or.inl rfl))))))⟩
abbrev N_stair_of : List Str := ["table", "x", "row", "number"]
theorem sc_stair_of : FnScope ["table", "x", "row", "number"] ["table", "x"] (defScope s_stair_of) := ⟨rfl, rfl, rfl, by decide +kernel, rfl, by decide +kernel, by decide +kernel⟩
def g_stair_of : S := sSeq (sExpr (mCall 1 m_need_table (mCons (mVar 0) (mNil)))) (sSeq (sExpr (mCall 1 m_need_number (mCons (mVar 1) (mNil)))) (sRet (mLc false [2] (b1 oSrcL (mVar 0)) (tgName 2) (mYes) (b1 oLen (mCons (mLc false [3] (b1 oSrcL (mVar 2)) (tgName 3) (toB (b2 oLt (mVar 3) (mVar 1))) (mVar 3)) (mNil))))))
def m_stair_of : MF := runF 4 g_stair_of
theorem ok_stair_of (T0 : Txt w K mg) : Ok P w K mg base 5 "stair_of" 2 m_stair_of := by
  have T := T0.t
  obtain ⟨fd, Fn⟩ := T.def_ 24 (d := d_stair_of) rfl
  have nd := sc_stair_of.nd
  exact ⟨_, fd, ["table", "x"], T.glo 61, Fn.kp, Fn.bindsN (fun _ _ _ _ _ _ us hl => match us, hl with | [_, _], _ => rfl), rfl, vfnD Fn sc_stair_of rfl fun cdv A outer s H E hr => by
    have tk := tk_of (Pr := P) (w := w) (K := K) (mg := mg) (base := base) (N := ["table", "x", "row", "number"]) (qual := "stair_of") (sc := defScope s_stair_of) (f := He.fAd K d_stair_of.at_) (cd := cdv) (A := A) (outer := outer) (s := s) (H := H) (E := E)
    have pw := pw_of (Pr := P) (w := w) (K := K) (mg := mg) (base := base) (N := ["table", "x", "row", "number"]) (qual := "stair_of") (sc := defScope s_stair_of) (f := He.fAd K d_stair_of.at_) (cd := cdv) (A := A) (outer := outer) (s := s) (H := H) (E := E)
    exact vss_cons (vs_expr (ve_callK tk (ok_need_table T0) (hr.mono (by omega)) rfl (va_cons (ve_var 0 rfl (Or.inl rfl)) (va_nil)))) (vss_cons (vs_expr (ve_callK tk (ok_need_number T0) (hr.mono (by omega)) rfl (va_cons (ve_var 1 rfl (Or.inr (Or.inl rfl))) (va_nil)))) (vss_one (vs_ret (ve_lc false (own := [("row", 2)]) rfl nd (vi_list (ve_var 0 rfl (Or.inl rfl))) (blkOk_by (N := N_stair_of) (sc := defScope s_stair_of) (own := [("row", 2)]) (by decide +kernel)) (by decide) (fun _ _ _ _ _ => vg_name (i := 2) nd rfl (Or.inl rfl) (Or.inr rfl)) (fun _ _ _ _ _ => vts_nil) (fun _ _ _ _ _ => ve_callB call_len o_len rfl (T.fr 8) bb_len (va_cons (ve_lc false (own := [("number", 3)]) rfl nd (vi_list (ve_var 2 rfl (Or.inl rfl))) (blkOk_by (N := N_stair_of) (sc := relS _ (defScope s_stair_of)) (own := [("number", 3)]) (by decide +kernel)) (by decide) (fun _ _ _ _ _ => vg_name (i := 3) nd rfl (Or.inl rfl) (Or.inr rfl)) (fun _ _ _ _ _ => vts_one (vt_cmp op_lt o_lt (ve_var 3 rfl (Or.inl rfl)) (ve_var 1 rfl (Or.inr (Or.inl rfl))) (nomark _))) (fun _ _ _ _ _ => ve_var 3 rfl (Or.inl rfl))) (va_nil)))))))⟩
abbrev N_steps_of : List Str := ["table", "x", "found", "row", "place"]
theorem sc_steps_of : FnScope ["table", "x", "found", "row", "place"] ["table", "x"] (defScope s_steps_of) := ⟨rfl, rfl, rfl, by decide +kernel, rfl, by decide +kernel, by decide +kernel⟩
def g_steps_of : S := sTrunc (sSeq (sSet 2 (b1 (oMk true) (mNil))) (sSeq (sSet 3 (mC (.int 0))) (sSeq (sSet 4 (b2 (oSub) (b1 oLen (mCons (b2 oIx (mVar 0) (mC (.int 0))) (mNil))) (mC (.int 1)))) (sSeq (whileS (mAnd (toB (b2 oLt (mVar 3) (b1 oLen (mCons (mVar 0) (mNil))))) (toB (b2 oGe (mVar 4) (mC (.int 0))))) (sSeq (sExpr (mMt "list" oAppend (mVar 2) (mCons (b1 oTup (mCons (mVar 3) (mCons (mVar 4) (mNil)))) (mNil)))) (sSeq (sIf (toB (b2 oEq (b2 oIx (b2 oIx (mVar 0) (mVar 3)) (mVar 4)) (mVar 1))) (sFrz 2 (sRet (b1 oTup (mCons (mVar 2) (mCons (b1 oTup (mCons (mVar 3) (mCons (mVar 4) (mNil)))) (mNil)))))) (sNil)) (sIf (toB (b2 oLt (mVar 1) (b2 oIx (b2 oIx (mVar 0) (mVar 3)) (mVar 4)))) (sAug 4 (oI fun i j => .int (i - j)) (mC (.int 1))) (sAug 3 (oI fun i j => .int (i + j)) (mC (.int 1)))))) 40) (sFrz 2 (sRet (b1 oTup (mCons (mVar 2) (mCons (mC .non) (mNil))))))))))
def m_steps_of : MF := runF 5 g_steps_of
theorem ok_steps_of (T0 : Txt w K mg) : Ok P w K mg base 1 "steps_of" 2 m_steps_of := by
  have T := T0.t
  obtain ⟨fd, Fn⟩ := T.def_ 25 (d := d_steps_of) rfl
  have nd := sc_steps_of.nd
  exact ⟨_, fd, ["table", "x"], T.glo 62, Fn.kp, Fn.bindsN (fun _ _ _ _ _ _ us hl => match us, hl with | [_, _], _ => rfl), rfl, vfnD Fn sc_steps_of rfl fun cdv A outer s H E hr => by
    have tk := tk_of (Pr := P) (w := w) (K := K) (mg := mg) (base := base) (N := ["table", "x", "found", "row", "place"]) (qual := "steps_of") (sc := defScope s_steps_of) (f := He.fAd K d_steps_of.at_) (cd := cdv) (A := A) (outer := outer) (s := s) (H := H) (E := E)
    have pw := pw_of (Pr := P) (w := w) (K := K) (mg := mg) (base := base) (N := ["table", "x", "found", "row", "place"]) (qual := "steps_of") (sc := defScope s_steps_of) (f := He.fAd K d_steps_of.at_) (cd := cdv) (A := A) (outer := outer) (s := s) (H := H) (E := E)
    exact vss_trunc (vss_cons (vs_set (i := 2) nd rfl (Or.inl rfl) (ve_lst true (va_nil)) rfl (Or.inl rfl)) (vss_cons (vs_set (i := 3) nd rfl (Or.inl rfl) (ve_int) rfl (Or.inl rfl)) (vss_cons (vs_set (i := 4) nd rfl (Or.inl rfl) (ve_op op_sub o_sub (ve_callB call_len o_len rfl (T.fr 8) bb_len (va_cons (ve_ix ix_seq o_ix (ve_var 0 rfl (Or.inl rfl)) (ve_int) (fun _ _ => rfl)) (va_nil))) (ve_int)) rfl (Or.inl rfl)) (vss_cons (vs_while 40 pw (vt_w (vw_and (vt_cmp op_lt o_lt (ve_var 3 rfl (Or.inl rfl)) (ve_callB call_len o_len rfl (T.fr 8) bb_len (va_cons (ve_var 0 rfl (Or.inl rfl)) (va_nil))) (nomark _)) (vw_and1 (vt_cmp op_ge o_ge (ve_var 4 rfl (Or.inl rfl)) (ve_int) (nomark _))))) (vss_cons (vs_expr (ve_bm PySem.F.plainAttrs_list PySem.F.slot_list_append PySem.F.type_list_append mt_append o_append (ve_var 2 rfl (Or.inl rfl)) (va_cons (ve_tup (va_cons (ve_var 3 rfl (Or.inl rfl)) (va_cons (ve_var 4 rfl (Or.inl rfl)) (va_nil)))) (va_nil)))) (vss_cons (vs_if (vt_cmp (s_eq hr.units) o_eq (ve_ix ix_seq o_ix (ve_ix ix_seq o_ix (ve_var 0 rfl (Or.inl rfl)) (ve_var 3 rfl (Or.inl rfl)) (fun _ _ => rfl)) (ve_var 4 rfl (Or.inl rfl)) (fun _ _ => rfl)) (ve_var 1 rfl (Or.inl rfl)) (nomark _)) (vss_frz 2 (vss_one (vs_ret (ve_tup (va_cons (ve_var 2 rfl (Or.inl rfl)) (va_cons (ve_tup (va_cons (ve_var 3 rfl (Or.inl rfl)) (va_cons (ve_var 4 rfl (Or.inl rfl)) (va_nil)))) (va_nil))))))) (vss_nil)) (vss_one (vs_if (vt_cmp op_lt o_lt (ve_var 1 rfl (Or.inl rfl)) (ve_ix ix_seq o_ix (ve_ix ix_seq o_ix (ve_var 0 rfl (Or.inl rfl)) (ve_var 3 rfl (Or.inl rfl)) (fun _ _ => rfl)) (ve_var 4 rfl (Or.inl rfl)) (fun _ _ => rfl)) (nomark _)) (vss_one (vs_aug (i := 4) nd rfl (Or.inl rfl) (ve_int) ip_sub (Or.inl rfl))) (vss_one (vs_aug (i := 3) nd rfl (Or.inl rfl) (ve_int) ip_add (Or.inl rfl)))))))) (vss_frz 2 (vss_one (vs_ret (ve_tup (va_cons (ve_var 2 rfl (Or.inl rfl)) (va_cons (ve_non) (va_nil)))))))))))⟩
abbrev N_walk_for : List Str := ["table", "x"]
theorem sc_walk_for : FnScope ["table", "x"] ["table", "x"] (defScope s_walk_for) := ⟨rfl, rfl, rfl, by decide +kernel, rfl, by decide +kernel, by decide +kernel⟩
def g_walk_for : S := sSeq (sExpr (mCall 1 m_need_table (mCons (mVar 0) (mNil)))) (sSeq (sExpr (mCall 1 m_need_number (mCons (mVar 1) (mNil)))) (sRet (b2 oIx (mCall 2 m_steps_of (mCons (mVar 0) (mCons (mVar 1) (mNil)))) (mC (.int 0)))))
def m_walk_for : MF := runF 2 g_walk_for
theorem ok_walk_for (T0 : Txt w K mg) : Ok P w K mg base 5 "walk_for" 2 m_walk_for := by
  have T := T0.t
  obtain ⟨fd, Fn⟩ := T.def_ 26 (d := d_walk_for) rfl
  have nd := sc_walk_for.nd
  exact ⟨_, fd, ["table", "x"], T.glo 63, Fn.kp, Fn.bindsN (fun _ _ _ _ _ _ us hl => match us, hl with | [_, _], _ => rfl), rfl, vfnD Fn sc_walk_for rfl fun cdv A outer s H E hr => by
    have tk := tk_of (Pr := P) (w := w) (K := K) (mg := mg) (base := base) (N := ["table", "x"]) (qual := "walk_for") (sc := defScope s_walk_for) (f := He.fAd K d_walk_for.at_) (cd := cdv) (A := A) (outer := outer) (s := s) (H := H) (E := E)
    have pw := pw_of (Pr := P) (w := w) (K := K) (mg := mg) (base := base) (N := ["table", "x"]) (qual := "walk_for") (sc := defScope s_walk_for) (f := He.fAd K d_walk_for.at_) (cd := cdv) (A := A) (outer := outer) (s := s) (H := H) (E := E)
    exact vss_cons (vs_expr (ve_callK tk (ok_need_table T0) (hr.mono (by omega)) rfl (va_cons (ve_var 0 rfl (Or.inl rfl)) (va_nil)))) (vss_cons (vs_expr (ve_callK tk (ok_need_number T0) (hr.mono (by omega)) rfl (va_cons (ve_var 1 rfl (Or.inl rfl)) (va_nil)))) (vss_one (vs_ret (ve_ix ix_seq o_ix (ve_callK tk (ok_steps_of T0) (hr.mono (by omega)) rfl (va_cons (ve_var 0 rfl (Or.inl rfl)) (va_cons (ve_var 1 rfl (Or.inl rfl)) (va_nil)))) (ve_int) (fun _ _ => rfl)))))⟩
abbrev N_count_less : List Str := ["table", "x"]
theorem sc_count_less : FnScope ["table", "x"] ["table", "x"] (defScope s_count_less) := ⟨rfl, rfl, rfl, by decide +kernel, rfl, by decide +kernel, by decide +kernel⟩
def g_count_less : S := sRet (b1 oSum (mCons (mCall 2 m_stair_of (mCons (mVar 0) (mCons (mVar 1) (mNil)))) (mNil)))
def m_count_less : MF := runF 2 g_count_less
theorem ok_count_less (T0 : Txt w K mg) : Ok P w K mg base 6 "count_less" 2 m_count_less := by
  have T := T0.t
  obtain ⟨fd, Fn⟩ := T.def_ 27 (d := d_count_less) rfl
  have nd := sc_count_less.nd
  exact ⟨_, fd, ["table", "x"], T.glo 65, Fn.kp, Fn.bindsN (fun _ _ _ _ _ _ us hl => match us, hl with | [_, _], _ => rfl), rfl, vfnD Fn sc_count_less rfl fun cdv A outer s H E hr => by
    have tk := tk_of (Pr := P) (w := w) (K := K) (mg := mg) (base := base) (N := ["table", "x"]) (qual := "count_less") (sc := defScope s_count_less) (f := He.fAd K d_count_less.at_) (cd := cdv) (A := A) (outer := outer) (s := s) (H := H) (E := E)
    have pw := pw_of (Pr := P) (w := w) (K := K) (mg := mg) (base := base) (N := ["table", "x"]) (qual := "count_less") (sc := defScope s_count_less) (f := He.fAd K d_count_less.at_) (cd := cdv) (A := A) (outer := outer) (s := s) (H := H) (E := E)
    exact vss_one (vs_ret (ve_callB (cr_sum rfl) o_sum rfl (T.fr 64) bb_sum (va_cons (ve_callK tk (ok_stair_of T0) (hr.mono (by omega)) rfl (va_cons (ve_var 0 rfl (Or.inl rfl)) (va_cons (ve_var 1 rfl (Or.inl rfl)) (va_nil)))) (va_nil))))⟩
abbrev N_merged : List Str := ["table", "found", "row", "numbers", "place", "number"]
theorem sc_merged : FnScope ["table", "found", "row", "numbers", "place", "number"] ["table"] (defScope s_merged) := ⟨rfl, rfl, rfl, by decide +kernel, rfl, by decide +kernel, by decide +kernel⟩
def g_merged : S := sTrunc (sSeq (sExpr (mCall 1 m_need_table (mCons (mVar 0) (mNil)))) (sSeq (sSet 1 (b1 (oMk true) (mNil))) (sSeq (sFor (b1 oSrcE (mCons (mVar 0) (mNil))) (tgTup (tgCons (tgName 2) (tgCons (tgName 3) tgNil)) 2) (sExpr (mMt "list" oExtend (mVar 1) (mCons (mLc false [4, 5] (b1 oSrcE (mCons (mVar 3) (mNil))) (tgTup (tgCons (tgName 4) (tgCons (tgName 5) tgNil)) 2) (mYes) (b1 oTup (mCons (mVar 5) (mCons (mVar 2) (mCons (mVar 4) (mNil)))))) (mNil))))) (sRet (b1 (oSortT 3 false) (mCons (mVar 1) (mNil)))))))
def m_merged : MF := runF 6 g_merged
theorem ok_merged (T0 : Txt w K mg) : Ok P w K mg base 5 "merged" 1 m_merged := by
  have T := T0.t
  obtain ⟨fd, Fn⟩ := T.def_ 28 (d := d_merged) rfl
  have nd := sc_merged.nd
  exact ⟨_, fd, ["table"], T.glo 67, Fn.kp, Fn.bindsN (fun _ _ _ _ _ _ us hl => match us, hl with | [_], _ => rfl), rfl, vfnD Fn sc_merged rfl fun cdv A outer s H E hr => by
    have tk := tk_of (Pr := P) (w := w) (K := K) (mg := mg) (base := base) (N := ["table", "found", "row", "numbers", "place", "number"]) (qual := "merged") (sc := defScope s_merged) (f := He.fAd K d_merged.at_) (cd := cdv) (A := A) (outer := outer) (s := s) (H := H) (E := E)
    have pw := pw_of (Pr := P) (w := w) (K := K) (mg := mg) (base := base) (N := ["table", "found", "row", "numbers", "place", "number"]) (qual := "merged") (sc := defScope s_merged) (f := He.fAd K d_merged.at_) (cd := cdv) (A := A) (outer := outer) (s := s) (H := H) (E := E)
    exact vss_trunc (vss_cons (vs_expr (ve_callK tk (ok_need_table T0) (hr.mono (by omega)) rfl (va_cons (ve_var 0 rfl (Or.inl rfl)) (va_nil)))) (vss_cons (vs_set (i := 1) nd rfl (Or.inl rfl) (ve_lst true (va_nil)) rfl (Or.inl rfl)) (vss_cons (vs_for pw rfl (vi_enum rfl (T.fr 32) (va_cons (ve_var 0 rfl (Or.inl rfl)) (va_nil))) (vg_tup rfl (vgs_cons (vg_name (i := 2) nd rfl (Or.inr rfl) (Or.inl rfl)) (vgs_cons (vg_name (i := 3) nd rfl (Or.inl rfl) (Or.inl rfl)) (vgs_nil)))) (vss_one (vs_expr (ve_bm PySem.F.plainAttrs_list PySem.F.slot_list_extend PySem.F.type_list_extend mt_extend o_extend (ve_var 1 rfl (Or.inl rfl)) (va_cons (ve_lc false (own := [("place", 4), ("number", 5)]) rfl nd (vi_enum rfl (T.fr 32) (va_cons (ve_var 3 rfl (Or.inl rfl)) (va_nil))) (blkOk_by (N := N_merged) (sc := defScope s_merged) (own := [("place", 4), ("number", 5)]) (by decide +kernel)) (by decide) (fun _ _ _ _ _ => vg_tup rfl (vgs_cons (vg_name (i := 4) nd rfl (Or.inl rfl) (Or.inr rfl)) (vgs_cons (vg_name (i := 5) nd rfl (Or.inl rfl) (Or.inr rfl)) (vgs_nil)))) (fun _ _ _ _ _ => vts_nil) (fun _ _ _ _ _ => ve_tup (va_cons (ve_var 5 rfl (Or.inl rfl)) (va_cons (ve_var 2 rfl (Or.inr (Or.inl rfl))) (va_cons (ve_var 4 rfl (Or.inl rfl)) (va_nil)))))) (va_nil)))))) (vss_one (vs_ret (ve_callB (cr_sortL (d := 3)) (o_sortT 3 false) rfl (T.fr 66) bb_sorted (va_cons (ve_var 1 rfl (Or.inl rfl)) (va_nil))))))))⟩
abbrev N_number_by : List Str := ["table", "k", "found"]
theorem sc_number_by : FnScope ["table", "k", "found"] ["table", "k"] (defScope s_number_by) := ⟨rfl, rfl, rfl, by decide +kernel, rfl, by decide +kernel, by decide +kernel⟩
def g_number_by : S := sSeq (sSet 2 (mCall 1 m_merged (mCons (mVar 0) (mNil)))) (sSeq (sIf (mOr (mNot (toB (mCall 1 m_is_whole (mCons (mVar 1) (mNil))))) (mNot (toB (mChain oLe oLt (mC (.int 0)) (mVar 1) (b1 oLen (mCons (mVar 2) (mNil))))))) (sRaise "NoPlace") (sNil)) (sRet (b2 oIx (b2 oIx (mVar 2) (mVar 1)) (mC (.int 0)))))
def m_number_by : MF := runF 3 g_number_by
theorem ok_number_by (T0 : Txt w K mg) : Ok P w K mg base 6 "number_by" 2 m_number_by := by
  have T := T0.t
  obtain ⟨fd, Fn⟩ := T.def_ 29 (d := d_number_by) rfl
  have nd := sc_number_by.nd
  exact ⟨_, fd, ["table", "k"], T.glo 70, Fn.kp, Fn.bindsN (fun _ _ _ _ _ _ us hl => match us, hl with | [_, _], _ => rfl), rfl, vfnD Fn sc_number_by rfl fun cdv A outer s H E hr => by
    have tk := tk_of (Pr := P) (w := w) (K := K) (mg := mg) (base := base) (N := ["table", "k", "found"]) (qual := "number_by") (sc := defScope s_number_by) (f := He.fAd K d_number_by.at_) (cd := cdv) (A := A) (outer := outer) (s := s) (H := H) (E := E)
    have pw := pw_of (Pr := P) (w := w) (K := K) (mg := mg) (base := base) (N := ["table", "k", "found"]) (qual := "number_by") (sc := defScope s_number_by) (f := He.fAd K d_number_by.at_) (cd := cdv) (A := A) (outer := outer) (s := s) (H := H) (E := E)
    exact vss_cons (vs_set (i := 2) nd rfl (Or.inl rfl) (ve_callK tk (ok_merged T0) (hr.mono (by omega)) rfl (va_cons (ve_var 0 rfl (Or.inl rfl)) (va_nil))) rfl (Or.inl rfl)) (vss_cons (vs_if (vt_w (vw_or (vt_not (vt_val (ve_callK tk (ok_is_whole T0) (hr.mono (by omega)) rfl (va_cons (ve_var 1 rfl (Or.inl rfl)) (va_nil))))) (vw_or1 (vt_not (vt_chain op_le op_lt o_le o_lt (ve_int) (ve_var 1 rfl (Or.inl rfl)) (ve_callB call_len o_len rfl (T.fr 8) bb_len (va_cons (ve_var 2 rfl (Or.inl rfl)) (va_nil)))))))) (vss_one (vs_raise rfl tk (T.exc1 68) (T.exc2 69) (T.exc3 68) (T.exc4 68) rfl)) (vss_nil)) (vss_one (vs_ret (ve_ix ix_seq o_ix (ve_ix ix_seq o_ix (ve_var 2 rfl (Or.inl rfl)) (ve_var 1 rfl (Or.inl rfl)) (fun _ _ => rfl)) (ve_int) (fun _ _ => rfl)))))⟩
abbrev N_show_table : List Str := ["table", "row", "number"]
theorem sc_show_table : FnScope ["table", "row", "number"] ["table"] (defScope s_show_table) := ⟨rfl, rfl, rfl, by decide +kernel, rfl, by decide +kernel, by decide +kernel⟩
def g_show_table : S := sSeq (sIf (mNot (toB (mCall 1 m_is_table (mCons (mVar 0) (mNil))))) (sRaise "NoTable") (sNil)) (sRet (mMt "str" oJoin (mC (.str "\n")) (mCons (mLc false [1] (b1 oSrcL (mVar 0)) (tgName 1) (mYes) (mMt "str" oJoin (mC (.str " ")) (mCons (mLc false [2] (b1 oSrcL (mVar 1)) (tgName 2) (mYes) (b1 oStr (mCons (mVar 2) (mNil)))) (mNil)))) (mNil))))
def m_show_table : MF := runF 3 g_show_table
theorem ok_show_table (T0 : Txt w K mg) : Ok P w K mg base 4 "show_table" 1 m_show_table := by
  have T := T0.t
  obtain ⟨fd, Fn⟩ := T.def_ 30 (d := d_show_table) rfl
  have nd := sc_show_table.nd
  exact ⟨_, fd, ["table"], T.glo 71, Fn.kp, Fn.bindsN (fun _ _ _ _ _ _ us hl => match us, hl with | [_], _ => rfl), rfl, vfnD Fn sc_show_table rfl fun cdv A outer s H E hr => by
    have tk := tk_of (Pr := P) (w := w) (K := K) (mg := mg) (base := base) (N := ["table", "row", "number"]) (qual := "show_table") (sc := defScope s_show_table) (f := He.fAd K d_show_table.at_) (cd := cdv) (A := A) (outer := outer) (s := s) (H := H) (E := E)
    have pw := pw_of (Pr := P) (w := w) (K := K) (mg := mg) (base := base) (N := ["table", "row", "number"]) (qual := "show_table") (sc := defScope s_show_table) (f := He.fAd K d_show_table.at_) (cd := cdv) (A := A) (outer := outer) (s := s) (H := H) (E := E)
    exact vss_cons (vs_if (vt_not (vt_val (ve_callK tk (ok_is_table T0) (hr.mono (by omega)) rfl (va_cons (ve_var 0 rfl (Or.inl rfl)) (va_nil))))) (vss_one (vs_raise rfl tk (T.exc1 53) (T.exc2 54) (T.exc3 53) (T.exc4 53) rfl)) (vss_nil)) (vss_one (vs_ret (ve_bm PySem.F.plainAttrs_str PySem.F.slot_str_join PySem.F.type_str_join mt_join o_join (ve_str) (va_cons (ve_lc false (own := [("row", 1)]) rfl nd (vi_list (ve_var 0 rfl (Or.inl rfl))) (blkOk_by (N := N_show_table) (sc := defScope s_show_table) (own := [("row", 1)]) (by decide +kernel)) (by decide) (fun _ _ _ _ _ => vg_name (i := 1) nd rfl (Or.inl rfl) (Or.inr rfl)) (fun _ _ _ _ _ => vts_nil) (fun _ _ _ _ _ => ve_bm PySem.F.plainAttrs_str PySem.F.slot_str_join PySem.F.type_str_join mt_join o_join (ve_str) (va_cons (ve_lc false (own := [("number", 2)]) rfl nd (vi_list (ve_var 1 rfl (Or.inl rfl))) (blkOk_by (N := N_show_table) (sc := relS _ (defScope s_show_table)) (own := [("number", 2)]) (by decide +kernel)) (by decide) (fun _ _ _ _ _ => vg_name (i := 2) nd rfl (Or.inl rfl) (Or.inr rfl)) (fun _ _ _ _ _ => vts_nil) (fun _ _ _ _ _ => ve_callTy call_str_int o_str rfl (T.fr 5) bb_str (va_cons (ve_var 2 rfl (Or.inl rfl)) (va_nil)))) (va_nil)))) (va_nil)))))⟩
abbrev N_told_of : List Str := ["word", "table", "numbers", "one"]
theorem sc_told_of : FnScope ["word", "table", "numbers", "one"] ["word", "table", "numbers"] (defScope s_told_of) := ⟨rfl, rfl, rfl, by decide +kernel, rfl, by decide +kernel, by decide +kernel⟩
def g_told_of : S := sSeq (sIf (toB (b2 oEq (mVar 0) (mC (.str "find")))) (sRet (mCall 1 m_cells_text (mCons (mCall 2 m_cells_of (mCons (mVar 1) (mCons (b2 oIx (mVar 2) (mC (.int 0))) (mNil)))) (mNil)))) (sNil)) (sSeq (sIf (toB (b2 oEq (mVar 0) (mC (.str "stair")))) (sRet (mMt "str" oJoin (mC (.str " ")) (mCons (mLc false [3] (b1 oSrcL (mCall 2 m_stair_of (mCons (mVar 1) (mCons (b2 oIx (mVar 2) (mC (.int 0))) (mNil))))) (tgName 3) (mYes) (b1 oStr (mCons (mVar 3) (mNil)))) (mNil)))) (sNil)) (sSeq (sIf (toB (b2 oEq (mVar 0) (mC (.str "walk")))) (sRet (mCall 1 m_cells_text (mCons (mCall 2 m_walk_for (mCons (mVar 1) (mCons (b2 oIx (mVar 2) (mC (.int 0))) (mNil)))) (mNil)))) (sNil)) (sSeq (sIf (toB (b2 oEq (mVar 0) (mC (.str "below")))) (sRet (b1 oStr (mCons (mCall 2 m_count_less (mCons (mVar 1) (mCons (b2 oIx (mVar 2) (mC (.int 0))) (mNil)))) (mNil)))) (sNil)) (sSeq (sIf (toB (b2 oEq (mVar 0) (mC (.str "nth")))) (sRet (b1 oStr (mCons (mCall 2 m_number_by (mCons (mVar 1) (mCons (b2 oIx (mVar 2) (mC (.int 0))) (mNil)))) (mNil)))) (sNil)) (sRet (b1 (oRepl "\n" "/") (mCall 1 m_show_table (mCons (mVar 1) (mNil)))))))))
def m_told_of : MF := runF 4 g_told_of
theorem ok_told_of (T0 : Txt w K mg) : Ok P w K mg base 7 "told_of" 3 m_told_of := by
  have T := T0.t
  obtain ⟨fd, Fn⟩ := T.def_ 31 (d := d_told_of) rfl
  have nd := sc_told_of.nd
  exact ⟨_, fd, ["word", "table", "numbers"], T.glo 72, Fn.kp, Fn.bindsN (fun _ _ _ _ _ _ us hl => match us, hl with | [_, _, _], _ => rfl), rfl, vfnD Fn sc_told_of rfl fun cdv A outer s H E hr => by
    have tk := tk_of (Pr := P) (w := w) (K := K) (mg := mg) (base := base) (N := ["word", "table", "numbers", "one"]) (qual := "told_of") (sc := defScope s_told_of) (f := He.fAd K d_told_of.at_) (cd := cdv) (A := A) (outer := outer) (s := s) (H := H) (E := E)
    have pw := pw_of (Pr := P) (w := w) (K := K) (mg := mg) (base := base) (N := ["word", "table", "numbers", "one"]) (qual := "told_of") (sc := defScope s_told_of) (f := He.fAd K d_told_of.at_) (cd := cdv) (A := A) (outer := outer) (s := s) (H := H) (E := E)
    exact vss_if1 (s_eq hr.units) o_eq (ve_var 0 rfl (Or.inl rfl)) (vsst_of (vss_one (vs_ret (ve_callK tk (ok_cells_text T0) (hr.mono (by omega)) rfl (va_cons (ve_callK tk (ok_cells_of T0) (hr.mono (by omega)) rfl (va_cons (ve_var 1 rfl (Or.inl rfl)) (va_cons (ve_ix ix_seq o_ix (ve_var 2 rfl (Or.inl rfl)) (ve_int) (fun _ _ => rfl)) (va_nil)))) (va_nil)))))) (vsst_of vss_nil) (vsst_consT (vst_of (vs_if (vt_cmp (s_eq hr.units) o_eq (ve_var 0 rfl (Or.inl rfl)) (ve_str) (nomark _)) (vss_one (vs_ret (ve_bm PySem.F.plainAttrs_str PySem.F.slot_str_join PySem.F.type_str_join mt_join o_join (ve_str) (va_cons (ve_lc false (own := [("one", 3)]) rfl nd (vi_list (ve_callK tk (ok_stair_of T0) (hr.mono (by omega)) rfl (va_cons (ve_var 1 rfl (Or.inl rfl)) (va_cons (ve_ix ix_seq o_ix (ve_var 2 rfl (Or.inl rfl)) (ve_int) (fun _ _ => rfl)) (va_nil))))) (blkOk_by (N := N_told_of) (sc := defScope s_told_of) (own := [("one", 3)]) (by decide +kernel)) (by decide) (fun _ _ _ _ _ => vg_name (i := 3) nd rfl (Or.inl rfl) (Or.inr rfl)) (fun _ _ _ _ _ => vts_nil) (fun _ _ _ _ _ => ve_callTy call_str_int o_str rfl (T.fr 5) bb_str (va_cons (ve_var 3 rfl (Or.inl rfl)) (va_nil)))) (va_nil))))) (vss_nil))) (vsst_consT (vst_of (vs_if (vt_cmp (s_eq hr.units) o_eq (ve_var 0 rfl (Or.inl rfl)) (ve_str) (nomark _)) (vss_one (vs_ret (ve_callK tk (ok_cells_text T0) (hr.mono (by omega)) rfl (va_cons (ve_callK tk (ok_walk_for T0) (hr.mono (by omega)) rfl (va_cons (ve_var 1 rfl (Or.inl rfl)) (va_cons (ve_ix ix_seq o_ix (ve_var 2 rfl (Or.inl rfl)) (ve_int) (fun _ _ => rfl)) (va_nil)))) (va_nil))))) (vss_nil))) (vsst_consT (vst_of (vs_if (vt_cmp (s_eq hr.units) o_eq (ve_var 0 rfl (Or.inl rfl)) (ve_str) (nomark _)) (vss_one (vs_ret (ve_callTy call_str_int o_str rfl (T.fr 5) bb_str (va_cons (ve_callK tk (ok_count_less T0) (hr.mono (by omega)) rfl (va_cons (ve_var 1 rfl (Or.inl rfl)) (va_cons (ve_ix ix_seq o_ix (ve_var 2 rfl (Or.inl rfl)) (ve_int) (fun _ _ => rfl)) (va_nil)))) (va_nil))))) (vss_nil))) (vsst_consT (vst_of (vs_if (vt_cmp (s_eq hr.units) o_eq (ve_var 0 rfl (Or.inl rfl)) (ve_str) (nomark _)) (vss_one (vs_ret (ve_callTy call_str_int o_str rfl (T.fr 5) bb_str (va_cons (ve_callK tk (ok_number_by T0) (hr.mono (by omega)) rfl (va_cons (ve_var 1 rfl (Or.inl rfl)) (va_cons (ve_ix ix_seq o_ix (ve_var 2 rfl (Or.inl rfl)) (ve_int) (fun _ _ => rfl)) (va_nil)))) (va_nil))))) (vss_nil))) (vsst_one (vst_retR (ve_callK tk (ok_show_table T0) (hr.mono (by omega)) rfl (va_cons (ve_var 1 rfl (Or.inl rfl)) (va_nil))) (by decide)))))))⟩
abbrev N_Keeper___init__ : List Str := ["self", "table", "row"]
theorem sc_Keeper___init__ : FnScope ["self", "table", "row"] ["self", "table"] (defScope s_Keeper___init__) := ⟨rfl, rfl, rfl, by decide +kernel, rfl, by decide +kernel, by decide +kernel⟩
def g_Keeper___init__ : S := sSeq (sExpr (mCall 1 m_need_table (mCons (mVar 1) (mNil)))) (sSeq (sFldS "Keeper" "lines" (mLc true [2] (b1 oSrcL (mVar 1)) (tgName 2) (mYes) (b1 (oList true) (mCons (mVar 2) (mNil)))) (mVar 0)) (sFldS "Keeper" "stand" (b1 (oMk true) (mNil)) (mVar 0)))
def m_Keeper___init__ : MF := runF 3 g_Keeper___init__
theorem ok_Keeper___init__ (T0 : Txt w K mg) : OkI P w K mg base 5 "Keeper" 2 m_Keeper___init__ := by
  have T := T0.t
  obtain ⟨fd, Fn⟩ := T.def_ 32 (d := d_Keeper___init__) rfl
  have nd := sc_Keeper___init__.nd
  exact ⟨_, fd, ["self", "table"], T.glo 73, T.mkr 77, Fn.bindsN (fun _ _ _ _ _ _ us hl => match us, hl with | [_, _], _ => rfl), rfl, vfnD Fn sc_Keeper___init__ rfl fun cdv A outer s H E hr => by
    have tk := tk_of (Pr := P) (w := w) (K := K) (mg := mg) (base := base) (N := ["self", "table", "row"]) (qual := "Keeper.__init__") (sc := defScope s_Keeper___init__) (f := He.fAd K d_Keeper___init__.at_) (cd := cdv) (A := A) (outer := outer) (s := s) (H := H) (E := E)
    have pw := pw_of (Pr := P) (w := w) (K := K) (mg := mg) (base := base) (N := ["self", "table", "row"]) (qual := "Keeper.__init__") (sc := defScope s_Keeper___init__) (f := He.fAd K d_Keeper___init__.at_) (cd := cdv) (A := A) (outer := outer) (s := s) (H := H) (E := E)
    exact vss_cons (vs_expr (ve_callK tk (ok_need_table T0) (hr.mono (by omega)) rfl (va_cons (ve_var 1 rfl (Or.inl rfl)) (va_nil)))) (vss_cons (vs_fld (T.glo 73) (T.cls 74) (T.noat 75) (ve_lc true (own := [("row", 2)]) rfl nd (vi_list (ve_var 1 rfl (Or.inl rfl))) (blkOk_by (N := N_Keeper___init__) (sc := defScope s_Keeper___init__) (own := [("row", 2)]) (by decide +kernel)) (by decide) (fun _ _ _ _ _ => vg_name (i := 2) nd rfl (Or.inl rfl) (Or.inr rfl)) (fun _ _ _ _ _ => vts_nil) (fun _ _ _ _ _ => ve_callTy call_list_of (o_list true) rfl (T.fr 43) bb_list (va_cons (ve_var 2 rfl (Or.inl rfl)) (va_nil)))) (ve_var 0 rfl (Or.inl rfl))) (vss_one (vs_fld (T.glo 73) (T.cls 74) (T.noat 76) (ve_lst true (va_nil)) (ve_var 0 rfl (Or.inl rfl)))))⟩
abbrev N_is_cell : List Str := ["table", "thing"]
theorem sc_is_cell : FnScope ["table", "thing"] ["table", "thing"] (defScope s_is_cell) := ⟨rfl, rfl, rfl, by decide +kernel, rfl, by decide +kernel, by decide +kernel⟩
def g_is_cell : S := sSeq (sIf (mOr (mNot (toB (b1 (oIsi .tuple) (mVar 1)))) (mOr (toB (b2 oNe (b1 oLen (mCons (mVar 1) (mNil))) (mC (.int 2)))) (mOr (mNot (toB (mCall 1 m_is_whole (mCons (b2 oIx (mVar 1) (mC (.int 0))) (mNil))))) (mNot (toB (mCall 1 m_is_whole (mCons (b2 oIx (mVar 1) (mC (.int 1))) (mNil)))))))) (sRet (mC (.bl false))) (sNil)) (sRet (mAndV (mChain oLe oLt (mC (.int 0)) (b2 oIx (mVar 1) (mC (.int 0))) (b1 oLen (mCons (mVar 0) (mNil)))) (mChain oLe oLt (mC (.int 0)) (b2 oIx (mVar 1) (mC (.int 1))) (b1 oLen (mCons (b2 oIx (mVar 0) (mC (.int 0))) (mNil))))))
def m_is_cell : MF := runF 2 g_is_cell
theorem ok_is_cell (T0 : Txt w K mg) : Ok P w K mg base 2 "is_cell" 2 m_is_cell := by
  have T := T0.t
  obtain ⟨fd, Fn⟩ := T.def_ 33 (d := d_is_cell) rfl
  have nd := sc_is_cell.nd
  exact ⟨_, fd, ["table", "thing"], T.glo 78, Fn.kp, Fn.bindsN (fun _ _ _ _ _ _ us hl => match us, hl with | [_, _], _ => rfl), rfl, vfnD Fn sc_is_cell rfl fun cdv A outer s H E hr => by
    have tk := tk_of (Pr := P) (w := w) (K := K) (mg := mg) (base := base) (N := ["table", "thing"]) (qual := "is_cell") (sc := defScope s_is_cell) (f := He.fAd K d_is_cell.at_) (cd := cdv) (A := A) (outer := outer) (s := s) (H := H) (E := E)
    have pw := pw_of (Pr := P) (w := w) (K := K) (mg := mg) (base := base) (N := ["table", "thing"]) (qual := "is_cell") (sc := defScope s_is_cell) (f := He.fAd K d_is_cell.at_) (cd := cdv) (A := A) (outer := outer) (s := s) (H := H) (E := E)
    exact vss_cons (vs_if (vt_w (vw_or (vt_not (vt_val (ve_isi .tuple rfl (T.fr 4) bb_isinstance rfl (T.fr 31) bb_tuple (ve_var 1 rfl (Or.inl rfl))))) (vw_or (vt_cmp (s_ne hr.units) o_ne (ve_callB call_len o_len rfl (T.fr 8) bb_len (va_cons (ve_var 1 rfl (Or.inl rfl)) (va_nil))) (ve_int) (nomark _)) (vw_or (vt_not (vt_val (ve_callK tk (ok_is_whole T0) (hr.mono (by omega)) rfl (va_cons (ve_ix ix_seq o_ix (ve_var 1 rfl (Or.inl rfl)) (ve_int) (fun _ _ => rfl)) (va_nil))))) (vw_or1 (vt_not (vt_val (ve_callK tk (ok_is_whole T0) (hr.mono (by omega)) rfl (va_cons (ve_ix ix_seq o_ix (ve_var 1 rfl (Or.inl rfl)) (ve_int) (fun _ _ => rfl)) (va_nil)))))))))) (vss_one (vs_ret (ve_bl))) (vss_nil)) (vss_one (vs_ret (ve_and (ve_chain op_le op_lt o_le o_lt (ve_int) (ve_ix ix_seq o_ix (ve_var 1 rfl (Or.inl rfl)) (ve_int) (fun _ _ => rfl)) (ve_callB call_len o_len rfl (T.fr 8) bb_len (va_cons (ve_var 0 rfl (Or.inl rfl)) (va_nil)))) (ve_one (ve_chain op_le op_lt o_le o_lt (ve_int) (ve_ix ix_seq o_ix (ve_var 1 rfl (Or.inl rfl)) (ve_int) (fun _ _ => rfl)) (ve_callB call_len o_len rfl (T.fr 8) bb_len (va_cons (ve_ix ix_seq o_ix (ve_var 0 rfl (Or.inl rfl)) (ve_int) (fun _ _ => rfl)) (va_nil))))))))⟩
abbrev N_need_cell : List Str := ["table", "thing"]
theorem sc_need_cell : FnScope ["table", "thing"] ["table", "thing"] (defScope s_need_cell) := ⟨rfl, rfl, rfl, by decide +kernel, rfl, by decide +kernel, by decide +kernel⟩
def g_need_cell : S := sIf (mNot (toB (mCall 2 m_is_cell (mCons (mVar 0) (mCons (mVar 1) (mNil)))))) (sRaise "NoCell") (sNil)
def m_need_cell : MF := runF 2 g_need_cell
theorem ok_need_cell (T0 : Txt w K mg) : Ok P w K mg base 3 "need_cell" 2 m_need_cell := by
  have T := T0.t
  obtain ⟨fd, Fn⟩ := T.def_ 34 (d := d_need_cell) rfl
  have nd := sc_need_cell.nd
  exact ⟨_, fd, ["table", "thing"], T.glo 81, Fn.kp, Fn.bindsN (fun _ _ _ _ _ _ us hl => match us, hl with | [_, _], _ => rfl), rfl, vfnD Fn sc_need_cell rfl fun cdv A outer s H E hr => by
    have tk := tk_of (Pr := P) (w := w) (K := K) (mg := mg) (base := base) (N := ["table", "thing"]) (qual := "need_cell") (sc := defScope s_need_cell) (f := He.fAd K d_need_cell.at_) (cd := cdv) (A := A) (outer := outer) (s := s) (H := H) (E := E)
    have pw := pw_of (Pr := P) (w := w) (K := K) (mg := mg) (base := base) (N := ["table", "thing"]) (qual := "need_cell") (sc := defScope s_need_cell) (f := He.fAd K d_need_cell.at_) (cd := cdv) (A := A) (outer := outer) (s := s) (H := H) (E := E)
    exact vss_one (vs_if (vt_not (vt_val (ve_callK tk (ok_is_cell T0) (hr.mono (by omega)) rfl (va_cons (ve_var 0 rfl (Or.inl rfl)) (va_cons (ve_var 1 rfl (Or.inl rfl)) (va_nil)))))) (vss_one (vs_raise rfl tk (T.exc1 79) (T.exc2 80) (T.exc3 79) (T.exc4 79) rfl)) (vss_nil))⟩
abbrev N_Keeper_ends_of : List Str := ["self", "cell", "row", "place", "ahead", "behind", "line"]
theorem sc_Keeper_ends_of : FnScope ["self", "cell", "row", "place", "ahead", "behind", "line"] ["self", "cell"] (defScope s_Keeper_ends_of) := ⟨rfl, rfl, rfl, by decide +kernel, rfl, by decide +kernel, by decide +kernel⟩
def g_Keeper_ends_of : S := sSeq (sAsg (mVar 1) (tgTup (tgCons (tgName 2) (tgCons (tgName 3) tgNil)) 2)) (sSeq (sSet 4 (b2 (oAdd false) (mSl (oSl false) (b2 oIx (b1 (oFld "Keeper" "lines") (mVar 0)) (mVar 2)) (b1 oPt (b1 oMax (mCons (mC (.int 0)) (mCons (b2 (oSub) (mVar 3) (mC (.int 1))) (mNil))))) (b1 oPt (mVar 3))) (mLc false [6] (b1 oSrcL (mSl (oSl false) (b1 (oFld "Keeper" "lines") (mVar 0)) (b1 oPt (b1 oMax (mCons (mC (.int 0)) (mCons (b2 (oSub) (mVar 2) (mC (.int 1))) (mNil))))) (b1 oPt (mVar 2)))) (tgName 6) (mYes) (b2 oIx (mVar 6) (mVar 3))))) (sSeq (sSet 5 (b2 (oAdd false) (mSl (oSl false) (b2 oIx (b1 (oFld "Keeper" "lines") (mVar 0)) (mVar 2)) (b1 oPt (b2 (oAdd false) (mVar 3) (mC (.int 1)))) (b1 oPt (b2 (oAdd false) (mVar 3) (mC (.int 2))))) (mLc false [6] (b1 oSrcL (mSl (oSl false) (b1 (oFld "Keeper" "lines") (mVar 0)) (b1 oPt (b2 (oAdd false) (mVar 2) (mC (.int 1)))) (b1 oPt (b2 (oAdd false) (mVar 2) (mC (.int 2)))))) (tgName 6) (mYes) (b2 oIx (mVar 6) (mVar 3))))) (sRet (b1 oTup (mCons (mIf (toB (b2 oNe (mVar 4) (b1 (oMk false) (mNil)))) (b1 oMax (mCons (mVar 4) (mNil))) (mC .non)) (mCons (mIf (toB (b2 oNe (mVar 5) (b1 (oMk false) (mNil)))) (b1 oMin (mCons (mVar 5) (mNil))) (mC .non)) (mNil)))))))
def m_Keeper_ends_of : MF := runF 7 g_Keeper_ends_of
theorem ok_Keeper_ends_of (T0 : Txt w K mg) : OkM P w K mg base 1 "Keeper" "ends_of" 2 m_Keeper_ends_of := by
  have T := T0.t
  obtain ⟨fd, Fn⟩ := T.def_ 35 (d := d_Keeper_ends_of) rfl
  have nd := sc_Keeper_ends_of.nd
  exact ⟨_, fd, ["self", "cell"], T.glo 73, T.cls 74, T.meth 82, Fn.bindsN (fun _ _ _ _ _ _ us hl => match us, hl with | [_, _], _ => rfl), rfl, vfnD Fn sc_Keeper_ends_of rfl fun cdv A outer s H E hr => by
    have tk := tk_of (Pr := P) (w := w) (K := K) (mg := mg) (base := base) (N := ["self", "cell", "row", "place", "ahead", "behind", "line"]) (qual := "Keeper.ends_of") (sc := defScope s_Keeper_ends_of) (f := He.fAd K d_Keeper_ends_of.at_) (cd := cdv) (A := A) (outer := outer) (s := s) (H := H) (E := E)
    have pw := pw_of (Pr := P) (w := w) (K := K) (mg := mg) (base := base) (N := ["self", "cell", "row", "place", "ahead", "behind", "line"]) (qual := "Keeper.ends_of") (sc := defScope s_Keeper_ends_of) (f := He.fAd K d_Keeper_ends_of.at_) (cd := cdv) (A := A) (outer := outer) (s := s) (H := H) (E := E)
    exact vss_cons (vs_asg (ve_var 1 rfl (Or.inl rfl)) (vg_tup rfl (vgs_cons (vg_name (i := 2) nd rfl (Or.inl rfl) (Or.inl rfl)) (vgs_cons (vg_name (i := 3) nd rfl (Or.inr rfl) (Or.inl rfl)) (vgs_nil))))) (vss_cons (vs_set (i := 4) nd rfl (Or.inl rfl) (ve_op s_add (o_add false) (ve_slice s_sl (o_sl false) (ve_ix ix_seq o_ix (ve_fld (T.glo 73) (T.cls 74) (T.noat 75) (ve_var 0 rfl (Or.inl rfl))) (ve_var 2 rfl (Or.inl rfl)) (fun _ _ => rfl)) (vp_some (ve_callB (s_max rfl) o_max rfl (T.fr 30) bb_max (va_cons (ve_int) (va_cons (ve_op op_sub o_sub (ve_var 3 rfl (Or.inr (Or.inl rfl))) (ve_int)) (va_nil))))) (vp_some (ve_var 3 rfl (Or.inr (Or.inl rfl))))) (ve_lc false (own := [("line", 6)]) rfl nd (vi_list (ve_slice s_sl (o_sl false) (ve_fld (T.glo 73) (T.cls 74) (T.noat 75) (ve_var 0 rfl (Or.inl rfl))) (vp_some (ve_callB (s_max rfl) o_max rfl (T.fr 30) bb_max (va_cons (ve_int) (va_cons (ve_op op_sub o_sub (ve_var 2 rfl (Or.inl rfl)) (ve_int)) (va_nil))))) (vp_some (ve_var 2 rfl (Or.inl rfl))))) (blkOk_by (N := N_Keeper_ends_of) (sc := defScope s_Keeper_ends_of) (own := [("line", 6)]) (by decide +kernel)) (by decide) (fun _ _ _ _ _ => vg_name (i := 6) nd rfl (Or.inl rfl) (Or.inr rfl)) (fun _ _ _ _ _ => vts_nil) (fun _ _ _ _ _ => ve_ix ix_seq o_ix (ve_var 6 rfl (Or.inl rfl)) (ve_var 3 rfl (Or.inr (Or.inl rfl))) (fun _ _ => rfl)))) rfl (Or.inl rfl)) (vss_cons (vs_set (i := 5) nd rfl (Or.inl rfl) (ve_op s_add (o_add false) (ve_slice s_sl (o_sl false) (ve_ix ix_seq o_ix (ve_fld (T.glo 73) (T.cls 74) (T.noat 75) (ve_var 0 rfl (Or.inl rfl))) (ve_var 2 rfl (Or.inl rfl)) (fun _ _ => rfl)) (vp_some (ve_op s_add (o_add false) (ve_var 3 rfl (Or.inr (Or.inl rfl))) (ve_int))) (vp_some (ve_op s_add (o_add false) (ve_var 3 rfl (Or.inr (Or.inl rfl))) (ve_int)))) (ve_lc false (own := [("line", 6)]) rfl nd (vi_list (ve_slice s_sl (o_sl false) (ve_fld (T.glo 73) (T.cls 74) (T.noat 75) (ve_var 0 rfl (Or.inl rfl))) (vp_some (ve_op s_add (o_add false) (ve_var 2 rfl (Or.inl rfl)) (ve_int))) (vp_some (ve_op s_add (o_add false) (ve_var 2 rfl (Or.inl rfl)) (ve_int))))) (blkOk_by (N := N_Keeper_ends_of) (sc := defScope s_Keeper_ends_of) (own := [("line", 6)]) (by decide +kernel)) (by decide) (fun _ _ _ _ _ => vg_name (i := 6) nd rfl (Or.inl rfl) (Or.inr rfl)) (fun _ _ _ _ _ => vts_nil) (fun _ _ _ _ _ => ve_ix ix_seq o_ix (ve_var 6 rfl (Or.inl rfl)) (ve_var 3 rfl (Or.inr (Or.inl rfl))) (fun _ _ => rfl)))) rfl (Or.inl rfl)) (vss_one (vs_ret (ve_tup (va_cons (ve_ifExp (vt_cmp (s_ne hr.units) o_ne (ve_var 4 rfl (Or.inl rfl)) (ve_lst false (va_nil)) (nomark _)) (ve_callB (s_max rfl) o_max rfl (T.fr 30) bb_max (va_cons (ve_var 4 rfl (Or.inl rfl)) (va_nil))) (ve_non)) (va_cons (ve_ifExp (vt_cmp (s_ne hr.units) o_ne (ve_var 5 rfl (Or.inl rfl)) (ve_lst false (va_nil)) (nomark _)) (ve_callB (s_min rfl) o_min rfl (T.fr 29) bb_min (va_cons (ve_var 5 rfl (Or.inl rfl)) (va_nil))) (ve_non)) (va_nil))))))))⟩
abbrev N_Keeper_put : List Str := ["self", "cell", "x", "row", "place", "before"]
theorem sc_Keeper_put : FnScope ["self", "cell", "x", "row", "place", "before"] ["self", "cell", "x"] (defScope s_Keeper_put) := ⟨rfl, rfl, rfl, by decide +kernel, rfl, by decide +kernel, by decide +kernel⟩
def g_Keeper_put : S := sSeq (sAsg (mVar 1) (tgTup (tgCons (tgName 3) (tgCons (tgName 4) tgNil)) 2)) (sSeq (sSet 5 (b2 oIx (b2 oIx (b1 (oFld "Keeper" "lines") (mVar 0)) (mVar 3)) (mVar 4))) (sSeq (sSub (mVar 2) (b2 oIx (b1 (oFld "Keeper" "lines") (mVar 0)) (mVar 3)) (mVar 4) oSetL) (sRet (b1 oTup (mCons (mVar 5) (mCons (mVar 2) (mNil)))))))
def m_Keeper_put : MF := runF 6 g_Keeper_put
theorem ok_Keeper_put (T0 : Txt w K mg) : OkM P w K mg base 1 "Keeper" "put" 3 m_Keeper_put := by
  have T := T0.t
  obtain ⟨fd, Fn⟩ := T.def_ 36 (d := d_Keeper_put) rfl
  have nd := sc_Keeper_put.nd
  exact ⟨_, fd, ["self", "cell", "x"], T.glo 73, T.cls 74, T.meth 85, Fn.bindsN (fun _ _ _ _ _ _ us hl => match us, hl with | [_, _, _], _ => rfl), rfl, vfnD Fn sc_Keeper_put rfl fun cdv A outer s H E hr => by
    have tk := tk_of (Pr := P) (w := w) (K := K) (mg := mg) (base := base) (N := ["self", "cell", "x", "row", "place", "before"]) (qual := "Keeper.put") (sc := defScope s_Keeper_put) (f := He.fAd K d_Keeper_put.at_) (cd := cdv) (A := A) (outer := outer) (s := s) (H := H) (E := E)
    have pw := pw_of (Pr := P) (w := w) (K := K) (mg := mg) (base := base) (N := ["self", "cell", "x", "row", "place", "before"]) (qual := "Keeper.put") (sc := defScope s_Keeper_put) (f := He.fAd K d_Keeper_put.at_) (cd := cdv) (A := A) (outer := outer) (s := s) (H := H) (E := E)
    exact vss_cons (vs_asg (ve_var 1 rfl (Or.inl rfl)) (vg_tup rfl (vgs_cons (vg_name (i := 3) nd rfl (Or.inl rfl) (Or.inl rfl)) (vgs_cons (vg_name (i := 4) nd rfl (Or.inl rfl) (Or.inl rfl)) (vgs_nil))))) (vss_cons (vs_set (i := 5) nd rfl (Or.inl rfl) (ve_ix ix_seq o_ix (ve_ix ix_seq o_ix (ve_fld (T.glo 73) (T.cls 74) (T.noat 75) (ve_var 0 rfl (Or.inl rfl))) (ve_var 3 rfl (Or.inl rfl)) (fun _ _ => rfl)) (ve_var 4 rfl (Or.inl rfl)) (fun _ _ => rfl)) rfl (Or.inl rfl)) (vss_cons (vs_sub (ve_var 2 rfl (Or.inl rfl)) (ve_ix ix_seq o_ix (ve_fld (T.glo 73) (T.cls 74) (T.noat 75) (ve_var 0 rfl (Or.inl rfl))) (ve_var 3 rfl (Or.inl rfl)) (fun _ _ => rfl)) (ve_var 4 rfl (Or.inl rfl))) (vss_one (vs_ret (ve_tup (va_cons (ve_var 5 rfl (Or.inl rfl)) (va_cons (ve_var 2 rfl (Or.inl rfl)) (va_nil))))))))⟩
abbrev N_Keeper_change : List Str := ["self", "cell", "x", "least", "greatest"]
theorem sc_Keeper_change : FnScope ["self", "cell", "x", "least", "greatest"] ["self", "cell", "x"] (defScope s_Keeper_change) := ⟨rfl, rfl, rfl, by decide +kernel, rfl, by decide +kernel, by decide +kernel⟩
def g_Keeper_change : S := sSeq (sExpr (mCall 2 m_need_cell (mCons (b1 (oFld "Keeper" "lines") (mVar 0)) (mCons (mVar 1) (mNil))))) (sSeq (sExpr (mCall 1 m_need_number (mCons (mVar 2) (mNil)))) (sSeq (sAsg (mMeth "Keeper" "ends_of" 2 m_Keeper_ends_of (mVar 0) (mCons (mVar 1) (mNil))) (tgTup (tgCons (tgName 3) (tgCons (tgName 4) tgNil)) 2)) (sSeq (sIf (mOr (mAnd (toB (b2 oNotN (mVar 3) (mC .non))) (toB (b2 oLt (mVar 2) (mVar 3)))) (mAnd (toB (b2 oNotN (mVar 4) (mC .non))) (toB (b2 oGt (mVar 2) (mVar 4))))) (sRaise "NoFit") (sNil)) (sSeq (sExpr (mMt "list" oAppend (b1 (oFld "Keeper" "stand") (mVar 0)) (mCons (b1 oTup (mCons (mVar 1) (mCons (b2 oIx (b2 oIx (b1 (oFld "Keeper" "lines") (mVar 0)) (b2 oIx (mVar 1) (mC (.int 0)))) (b2 oIx (mVar 1) (mC (.int 1)))) (mNil)))) (mNil)))) (sRet (mMeth "Keeper" "put" 3 m_Keeper_put (mVar 0) (mCons (mVar 1) (mCons (mVar 2) (mNil)))))))))
def m_Keeper_change : MF := runF 5 g_Keeper_change
theorem ok_Keeper_change (T0 : Txt w K mg) : OkM P w K mg base 4 "Keeper" "change" 3 m_Keeper_change := by
  have T := T0.t
  obtain ⟨fd, Fn⟩ := T.def_ 37 (d := d_Keeper_change) rfl
  have nd := sc_Keeper_change.nd
  exact ⟨_, fd, ["self", "cell", "x"], T.glo 73, T.cls 74, T.meth 86, Fn.bindsN (fun _ _ _ _ _ _ us hl => match us, hl with | [_, _, _], _ => rfl), rfl, vfnD Fn sc_Keeper_change rfl fun cdv A outer s H E hr => by
    have tk := tk_of (Pr := P) (w := w) (K := K) (mg := mg) (base := base) (N := ["self", "cell", "x", "least", "greatest"]) (qual := "Keeper.change") (sc := defScope s_Keeper_change) (f := He.fAd K d_Keeper_change.at_) (cd := cdv) (A := A) (outer := outer) (s := s) (H := H) (E := E)
    have pw := pw_of (Pr := P) (w := w) (K := K) (mg := mg) (base := base) (N := ["self", "cell", "x", "least", "greatest"]) (qual := "Keeper.change") (sc := defScope s_Keeper_change) (f := He.fAd K d_Keeper_change.at_) (cd := cdv) (A := A) (outer := outer) (s := s) (H := H) (E := E)
    exact vss_cons (vs_expr (ve_callK tk (ok_need_cell T0) (hr.mono (by omega)) rfl (va_cons (ve_fld (T.glo 73) (T.cls 74) (T.noat 75) (ve_var 0 rfl (Or.inl rfl))) (va_cons (ve_var 1 rfl (Or.inl rfl)) (va_nil))))) (vss_cons (vs_expr (ve_callK tk (ok_need_number T0) (hr.mono (by omega)) rfl (va_cons (ve_var 2 rfl (Or.inl rfl)) (va_nil)))) (vss_cons (vs_asg (ve_meth tk (ok_Keeper_ends_of T0) (hr.mono (by omega)) (ve_var 0 rfl (Or.inl rfl)) (va_cons (ve_var 1 rfl (Or.inl rfl)) (va_nil))) (vg_tup rfl (vgs_cons (vg_name (i := 3) nd rfl (Or.inl rfl) (Or.inl rfl)) (vgs_cons (vg_name (i := 4) nd rfl (Or.inl rfl) (Or.inl rfl)) (vgs_nil))))) (vss_cons (vs_if (vt_w (vw_or (vt_w (vw_and (vt_cmp op_notN o_notN (ve_var 3 rfl (Or.inl rfl)) (ve_non) (nomark _)) (vw_and1 (vt_cmp op_lt o_lt (ve_var 2 rfl (Or.inl rfl)) (ve_var 3 rfl (Or.inl rfl)) (nomark _))))) (vw_or1 (vt_w (vw_and (vt_cmp op_notN o_notN (ve_var 4 rfl (Or.inl rfl)) (ve_non) (nomark _)) (vw_and1 (vt_cmp op_gt o_gt (ve_var 2 rfl (Or.inl rfl)) (ve_var 4 rfl (Or.inl rfl)) (nomark _)))))))) (vss_one (vs_raise rfl tk (T.exc1 83) (T.exc2 84) (T.exc3 83) (T.exc4 83) rfl)) (vss_nil)) (vss_cons (vs_expr (ve_bm PySem.F.plainAttrs_list PySem.F.slot_list_append PySem.F.type_list_append mt_append o_append (ve_fld (T.glo 73) (T.cls 74) (T.noat 76) (ve_var 0 rfl (Or.inl rfl))) (va_cons (ve_tup (va_cons (ve_var 1 rfl (Or.inl rfl)) (va_cons (ve_ix ix_seq o_ix (ve_ix ix_seq o_ix (ve_fld (T.glo 73) (T.cls 74) (T.noat 75) (ve_var 0 rfl (Or.inl rfl))) (ve_ix ix_seq o_ix (ve_var 1 rfl (Or.inl rfl)) (ve_int) (fun _ _ => rfl)) (fun _ _ => rfl)) (ve_ix ix_seq o_ix (ve_var 1 rfl (Or.inl rfl)) (ve_int) (fun _ _ => rfl)) (fun _ _ => rfl)) (va_nil)))) (va_nil)))) (vss_one (vs_ret (ve_meth tk (ok_Keeper_put T0) (hr.mono (by omega)) (ve_var 0 rfl (Or.inl rfl)) (va_cons (ve_var 1 rfl (Or.inl rfl)) (va_cons (ve_var 2 rfl (Or.inl rfl)) (va_nil))))))))))⟩
abbrev N_Keeper_table : List Str := ["self", "row"]
theorem sc_Keeper_table : FnScope ["self", "row"] ["self"] (defScope s_Keeper_table) := ⟨rfl, rfl, rfl, by decide +kernel, rfl, by decide +kernel, by decide +kernel⟩
def g_Keeper_table : S := sRet (mLc false [1] (b1 oSrcL (b1 (oFld "Keeper" "lines") (mVar 0))) (tgName 1) (mYes) (b1 (oList false) (mCons (mVar 1) (mNil))))
def m_Keeper_table : MF := runF 2 g_Keeper_table
theorem ok_Keeper_table (T0 : Txt w K mg) : OkM P w K mg base 1 "Keeper" "table" 1 m_Keeper_table := by
  have T := T0.t
  obtain ⟨fd, Fn⟩ := T.def_ 38 (d := d_Keeper_table) rfl
  have nd := sc_Keeper_table.nd
  exact ⟨_, fd, ["self"], T.glo 73, T.cls 74, T.meth 87, Fn.bindsN (fun _ _ _ _ _ _ us hl => match us, hl with | [_], _ => rfl), rfl, vfnD Fn sc_Keeper_table rfl fun cdv A outer s H E hr => by
    have tk := tk_of (Pr := P) (w := w) (K := K) (mg := mg) (base := base) (N := ["self", "row"]) (qual := "Keeper.table") (sc := defScope s_Keeper_table) (f := He.fAd K d_Keeper_table.at_) (cd := cdv) (A := A) (outer := outer) (s := s) (H := H) (E := E)
    have pw := pw_of (Pr := P) (w := w) (K := K) (mg := mg) (base := base) (N := ["self", "row"]) (qual := "Keeper.table") (sc := defScope s_Keeper_table) (f := He.fAd K d_Keeper_table.at_) (cd := cdv) (A := A) (outer := outer) (s := s) (H := H) (E := E)
    exact vss_one (vs_ret (ve_lc false (own := [("row", 1)]) rfl nd (vi_list (ve_fld (T.glo 73) (T.cls 74) (T.noat 75) (ve_var 0 rfl (Or.inl rfl)))) (blkOk_by (N := N_Keeper_table) (sc := defScope s_Keeper_table) (own := [("row", 1)]) (by decide +kernel)) (by decide) (fun _ _ _ _ _ => vg_name (i := 1) nd rfl (Or.inl rfl) (Or.inr rfl)) (fun _ _ _ _ _ => vts_nil) (fun _ _ _ _ _ => ve_callTy call_list_of (o_list false) rfl (T.fr 43) bb_list (va_cons (ve_var 1 rfl (Or.inl rfl)) (va_nil)))))⟩
abbrev N_Desk_say : List Str := ["self", "row", "words", "name", "numbers", "kept", "word"]
theorem sc_Desk_say : FnScope ["self", "row", "words", "name", "numbers", "kept", "word"] ["self", "row"] (defScope s_Desk_say) := ⟨rfl, rfl, rfl, by decide +kernel, rfl, by decide +kernel, by decide +kernel⟩
def g_Desk_say : S := sSeq (sSet 2 (mCall 1 m_words_in (mCons (mVar 1) (mNil)))) (sSeq (sIf (toB (b2 oEq (b2 oIx (mVar 2) (mC (.int 0))) (mC (.str "looks")))) (sRet (b1 oStr (mCons (mCall 2 m_fewest_looks (mCons (b1 oIntS (mCons (b2 oIx (mVar 2) (mC (.int 1))) (mNil))) (mCons (b1 oIntS (mCons (b2 oIx (mVar 2) (mC (.int 2))) (mNil))) (mNil)))) (mNil)))) (sNil)) (sSeq (sSet 3 (b2 oIx (mVar 2) (mC (.int 1)))) (sSeq (sIf (toB (b2 oEq (b2 oIx (mVar 2) (mC (.int 0))) (mC (.str "table")))) (sSeq (sIf (toB (b2 oInSg (mC (.str "\n")) (b2 oIx (mVar 2) (mC (.int 2))))) (sRaise "NoText") (sNil)) (sSeq (sSub (mCall 1 m_read_table (mCons (b1 (oRepl "/" "\n") (b2 oIx (mVar 2) (mC (.int 2)))) mNil)) (b1 (oFld "Desk" "tables") (mVar 0)) (mVar 3) oDSet) (sRet (mC (.str "ok"))))) (sNil)) (sSeq (sIf (toB (b2 (oDIn true) (mVar 3) (b1 (oFld "Desk" "tables") (mVar 0)))) (sRaise "NoName") (sNil)) (sSeq (sIf (toB (b2 oEq (b2 oIx (mVar 2) (mC (.int 0))) (mC (.str "drop")))) (sSeq (sExpr (mMt "dict" oDPop (b1 (oFld "Desk" "tables") (mVar 0)) (mCons (mVar 3) (mNil)))) (sRet (mC (.str "ok")))) (sNil)) (sSeq (sSet 4 (mLc false [6] (b1 oSrcL (mSl (oSl false) (mVar 2) (b1 oPt (mC (.int 2))) (mNoPt))) (tgName 6) (mYes) (b1 oIntS (mCons (mVar 6) (mNil))))) (sSeq (sIf (toB (b2 oNe (b2 oIx (mVar 2) (mC (.int 0))) (mC (.str "cell")))) (sRet (mCall 3 m_told_of (mCons (b2 oIx (mVar 2) (mC (.int 0))) (mCons (b2 oDGet (b1 (oFld "Desk" "tables") (mVar 0)) (mVar 3)) (mCons (mVar 4) (mNil)))))) (sNil)) (sSeq (sSet 5 (mMake "Keeper" 2 m_Keeper___init__ (mCons (b2 oDGet (b1 (oFld "Desk" "tables") (mVar 0)) (mVar 3)) (mNil)))) (sSeq (sExpr (mMeth "Keeper" "change" 3 m_Keeper_change (mVar 5) (mCons (b1 oTup (mCons (b2 oIx (mVar 4) (mC (.int 0))) (mCons (b2 oIx (mVar 4) (mC (.int 1))) (mNil)))) (mCons (b2 oIx (mVar 4) (mC (.int 2))) (mNil))))) (sSeq (sSub (mMeth "Keeper" "table" 1 m_Keeper_table (mVar 5) mNil) (b1 (oFld "Desk" "tables") (mVar 0)) (mVar 3) oDSet) (sRet (mC (.str "ok")))))))))))))
def m_Desk_say : MF := runF 7 g_Desk_say
theorem ok_Desk_say (T0 : Txt w K mg) : OkM P w K mg base 44 "Desk" "say" 2 m_Desk_say := by
  have T := T0.t
  obtain ⟨fd, Fn⟩ := T.def_ 39 (d := d_Desk_say) rfl
  have nd := sc_Desk_say.nd
  exact ⟨_, fd, ["self", "row"], T.glo 0, T.cls 1, T.meth 88, Fn.bindsN (fun _ _ _ _ _ _ us hl => match us, hl with | [_, _], _ => rfl), rfl, vfnD Fn sc_Desk_say rfl fun cdv A outer s H E hr => by
    have tk := tk_of (Pr := P) (w := w) (K := K) (mg := mg) (base := base) (N := ["self", "row", "words", "name", "numbers", "kept", "word"]) (qual := "Desk.say") (sc := defScope s_Desk_say) (f := He.fAd K d_Desk_say.at_) (cd := cdv) (A := A) (outer := outer) (s := s) (H := H) (E := E)
    have pw := pw_of (Pr := P) (w := w) (K := K) (mg := mg) (base := base) (N := ["self", "row", "words", "name", "numbers", "kept", "word"]) (qual := "Desk.say") (sc := defScope s_Desk_say) (f := He.fAd K d_Desk_say.at_) (cd := cdv) (A := A) (outer := outer) (s := s) (H := H) (E := E)
    exact vss_cons (vs_set (i := 2) nd rfl (Or.inl rfl) (ve_callK tk (ok_words_in T0) (hr.mono (by omega)) rfl (va_cons (ve_var 1 rfl (Or.inl rfl)) (va_nil))) rfl (Or.inl rfl)) (vss_cons (vs_if (vt_cmp (s_eq hr.units) o_eq (ve_ix ix_seq o_ix (ve_var 2 rfl (Or.inl rfl)) (ve_int) (fun _ _ => rfl)) (ve_str) (nomark _)) (vss_one (vs_ret (ve_callTy call_str_int o_str rfl (T.fr 5) bb_str (va_cons (ve_callK tk (ok_fewest_looks T0) (hr.mono (by omega)) rfl (va_cons (ve_callTy call_int_str o_intS rfl (T.fr 17) bb_int (va_cons (ve_ix ix_seq o_ix (ve_var 2 rfl (Or.inl rfl)) (ve_int) (fun _ _ => rfl)) (va_nil))) (va_cons (ve_callTy call_int_str o_intS rfl (T.fr 17) bb_int (va_cons (ve_ix ix_seq o_ix (ve_var 2 rfl (Or.inl rfl)) (ve_int) (fun _ _ => rfl)) (va_nil))) (va_nil)))) (va_nil))))) (vss_nil)) (vss_cons (vs_set (i := 3) nd rfl (Or.inl rfl) (ve_ix ix_seq o_ix (ve_var 2 rfl (Or.inl rfl)) (ve_int) (fun _ _ => rfl)) rfl (Or.inl rfl)) (vss_cons (vs_if1 (s_eq hr.units) o_eq (ve_ix ix_seq o_ix (ve_var 2 rfl (Or.inl rfl)) (ve_int) (fun _ _ => rfl)) (vsst_consT (vst_of (vs_if (vt_cmp op_in_sign o_inSg (ve_str) (ve_ix ix_seq o_ix (ve_var 2 rfl (Or.inl rfl)) (ve_int) (fun _ _ => rfl)) (by rfl)) (vss_one (vs_raise rfl tk (T.exc1 39) (T.exc2 40) (T.exc3 39) (T.exc4 39) rfl)) (vss_nil))) (vsst_consT (vst_subD hr.units (vet_callK tk (ok_read_table T0) (hr.mono (by omega)) rfl (vat_one (vet_repl (ve_ix ix_seq o_ix (ve_var 2 rfl (Or.inl rfl)) (ve_int) (fun _ _ => rfl)) (by decide)))) (ve_fld (T.glo 0) (T.cls 1) (T.noat 2) (ve_var 0 rfl (Or.inl rfl))) (ve_var 3 rfl (Or.inl rfl))) (vsst_one (vst_of (vs_ret (ve_str)))))) (vsst_of vss_nil)) (vss_cons (vs_if (vt_cmp (op_notInDict hr.units) (o_din true) (ve_var 3 rfl (Or.inl rfl)) (ve_fld (T.glo 0) (T.cls 1) (T.noat 2) (ve_var 0 rfl (Or.inl rfl))) (by rfl)) (vss_one (vs_raise rfl tk (T.exc1 50) (T.exc2 51) (T.exc3 50) (T.exc4 50) rfl)) (vss_nil)) (vss_cons (vs_if (vt_cmp (s_eq hr.units) o_eq (ve_ix ix_seq o_ix (ve_var 2 rfl (Or.inl rfl)) (ve_int) (fun _ _ => rfl)) (ve_str) (nomark _)) (vss_cons (vs_expr (ve_bm PySem.F.plainAttrs_dict PySem.F.slot_dict_pop PySem.F.type_dict_pop mt_dpop o_dpop (ve_fld (T.glo 0) (T.cls 1) (T.noat 2) (ve_var 0 rfl (Or.inl rfl))) (va_cons (ve_var 3 rfl (Or.inl rfl)) (va_nil)))) (vss_one (vs_ret (ve_str)))) (vss_nil)) (vss_cons (vs_setLc false (i := 4) (own := [("word", 6)]) rfl nd rfl rfl (sw_true rfl rfl rfl (by decide +kernel)) (vi_list (ve_slice s_sl (o_sl false) (ve_var 2 rfl (Or.inl rfl)) (vp_some (ve_int)) (vp_none))) (blkOk_by (N := N_Desk_say) (sc := defScope s_Desk_say) (own := [("word", 6)]) (by decide +kernel)) (by decide) (fun _ _ _ _ _ => vg_name (i := 6) nd rfl (Or.inl rfl) (Or.inr rfl)) (fun _ _ _ _ _ => vts_nil) (fun _ _ _ _ _ => ve_callTy call_int_str o_intS rfl (T.fr 17) bb_int (va_cons (ve_var 6 rfl (Or.inl rfl)) (va_nil)))) (vss_cons (vs_if (vt_cmp (s_ne hr.units) o_ne (ve_ix ix_seq o_ix (ve_var 2 rfl (Or.inl rfl)) (ve_int) (fun _ _ => rfl)) (ve_str) (nomark _)) (vss_one (vs_ret (ve_callK tk (ok_told_of T0) (hr.mono (by omega)) rfl (va_cons (ve_ix ix_seq o_ix (ve_var 2 rfl (Or.inl rfl)) (ve_int) (fun _ _ => rfl)) (va_cons (ve_ix (ix_dict hr.units) o_dget (ve_fld (T.glo 0) (T.cls 1) (T.noat 2) (ve_var 0 rfl (Or.inl rfl))) (ve_var 3 rfl (Or.inl rfl)) (fun _ _ => rfl)) (va_cons (ve_var 4 rfl (Or.inl rfl)) (va_nil))))))) (vss_nil)) (vss_cons (vs_set (i := 5) nd rfl (Or.inl rfl) (ve_make tk (ok_Keeper___init__ T0) (hr.mono (by omega)) rfl (va_cons (ve_ix (ix_dict hr.units) o_dget (ve_fld (T.glo 0) (T.cls 1) (T.noat 2) (ve_var 0 rfl (Or.inl rfl))) (ve_var 3 rfl (Or.inl rfl)) (fun _ _ => rfl)) (va_nil))) rfl (Or.inl rfl)) (vss_cons (vs_expr (ve_meth tk (ok_Keeper_change T0) (hr.mono (by omega)) (ve_var 5 rfl (Or.inl rfl)) (va_cons (ve_tup (va_cons (ve_ix ix_seq o_ix (ve_var 4 rfl (Or.inl rfl)) (ve_int) (fun _ _ => rfl)) (va_cons (ve_ix ix_seq o_ix (ve_var 4 rfl (Or.inl rfl)) (ve_int) (fun _ _ => rfl)) (va_nil)))) (va_cons (ve_ix ix_seq o_ix (ve_var 4 rfl (Or.inl rfl)) (ve_int) (fun _ _ => rfl)) (va_nil))))) (vss_cons (vs_subD hr.units (ve_meth0 tk (ok_Keeper_table T0) (hr.mono (by omega)) (ve_var 5 rfl (Or.inl rfl))) (ve_fld (T.glo 0) (T.cls 1) (T.noat 2) (ve_var 0 rfl (Or.inl rfl))) (ve_var 3 rfl (Or.inl rfl))) (vss_one (vs_ret (ve_str)))))))))))))⟩
abbrev N_law_none : List Str := ["some", "word", "end"]
theorem sc_law_none : FnScope ["some", "word", "end"] [] (defScope s_law_none) := ⟨rfl, rfl, rfl, by decide +kernel, rfl, by decide +kernel, by decide +kernel⟩
def g_law_none : S := sTrunc (sSeq (sSet 0 (b1 (oMk true) (mCons (mC (.str "")) (mCons (mC (.str " ")) (mCons (mC (.str "table")) (mCons (mC (.str "table a")) (mCons (mC (.str "table A 1")) (mCons (mC (.str "table a1 1")) (mNil))))))))) (sSeq (sSet 0 (b2 (oAdd true) (mVar 0) (b1 (oMk false) (mCons (mC (.str "table abcdefghi 1")) (mCons (mC (.str "table  1")) (mCons (mC (.str " table a 1")) (mCons (mC (.str "Table a 1")) (mCons (mC (.str "tables a 1")) (mNil))))))))) (sSeq (sSet 0 (b2 (oAdd true) (mVar 0) (b1 (oMk false) (mCons (mC (.str "cell")) (mCons (mC (.str "cell a")) (mCons (mC (.str "cell a 0 0")) (mCons (mC (.str "cell a 0 0 1 1")) (mNil)))))))) (sSeq (sSet 0 (b2 (oAdd true) (mVar 0) (b1 (oMk false) (mCons (mC (.str "cell a 00 0 1")) (mCons (mC (.str "cell a 0 00 1")) (mCons (mC (.str "cell a 0 0 01")) (mCons (mC (.str "cell a 0 0 -0")) (mNil)))))))) (sSeq (sSet 0 (b2 (oAdd true) (mVar 0) (b1 (oMk false) (mCons (mC (.str "cell a -1 0 1")) (mCons (mC (.str "cell a 0 100 1")) (mCons (mC (.str "cell a 0 0 1000000000")) (mNil))))))) (sSeq (sSet 0 (b2 (oAdd true) (mVar 0) (b1 (oMk false) (mCons (mC (.str "cell a 0 0 -1000000000")) (mCons (mC (.str "cell A 0 0 1")) (mCons (mC (.str "cell a 0 0 x")) (mNil))))))) (sSeq (sSet 0 (b2 (oAdd true) (mVar 0) (b1 (oMk false) (mCons (mC (.str "cell a 0 0 1 ")) (mCons (mC (.str "cell a  0 0 1")) (mCons (mC (.str "cell a 0 0 1\n")) (mCons (mC (.str "drop")) (mCons (mC (.str "drop a b")) (mNil))))))))) (sSeq (sSet 0 (b2 (oAdd true) (mVar 0) (b1 (oMk false) (mCons (mC (.str "drop A")) (mCons (mC (.str "drop a ")) (mCons (mC (.str "find")) (mCons (mC (.str "find a")) (mCons (mC (.str "find a 01")) (mNil))))))))) (sSeq (sSet 0 (b2 (oAdd true) (mVar 0) (b1 (oMk false) (mCons (mC (.str "find a --1")) (mCons (mC (.str "find A 1")) (mCons (mC (.str "find a 1 1")) (mCons (mC (.str "find a +1")) (mCons (mC (.str "stair")) (mNil))))))))) (sSeq (sSet 0 (b2 (oAdd true) (mVar 0) (b1 (oMk false) (mCons (mC (.str "stair a")) (mCons (mC (.str "stair a x")) (mCons (mC (.str "stair A 1")) (mCons (mC (.str "stair a 1 1")) (mCons (mC (.str "walk")) (mNil))))))))) (sSeq (sSet 0 (b2 (oAdd true) (mVar 0) (b1 (oMk false) (mCons (mC (.str "walk a")) (mCons (mC (.str "walk a 1.0")) (mCons (mC (.str "walk A 1")) (mCons (mC (.str "walk a 1 1")) (mCons (mC (.str "below")) (mCons (mC (.str "below a")) (mNil)))))))))) (sSeq (sSet 0 (b2 (oAdd true) (mVar 0) (b1 (oMk false) (mCons (mC (.str "below a -01")) (mCons (mC (.str "below A 1")) (mCons (mC (.str "below a 1_0")) (mCons (mC (.str "nth")) (mCons (mC (.str "nth a")) (mNil))))))))) (sSeq (sSet 0 (b2 (oAdd true) (mVar 0) (b1 (oMk false) (mCons (mC (.str "nth a 01")) (mCons (mC (.str "nth a -1")) (mCons (mC (.str "nth a 100")) (mCons (mC (.str "nth A 1")) (mCons (mC (.str "nth a 1 1")) (mCons (mC (.str "show")) (mNil)))))))))) (sSeq (sSet 0 (b2 (oAdd true) (mVar 0) (b1 (oMk false) (mCons (mC (.str "show a 1")) (mCons (mC (.str "show A")) (mCons (mC (.str "show a ")) (mCons (mC (.str "looks")) (mCons (mC (.str "looks 4")) (mNil))))))))) (sSeq (sSet 0 (b2 (oAdd true) (mVar 0) (b1 (oMk false) (mCons (mC (.str "looks 4 4 4")) (mCons (mC (.str "looks 04 4")) (mCons (mC (.str "looks 4 04")) (mCons (mC (.str "looks 4 x")) (mCons (mC (.str "looks -1 4")) (mCons (mC (.str "looks 4 100")) (mNil)))))))))) (sSeq (sSet 0 (b2 (oAdd true) (mVar 0) (b1 (oMk false) (mCons (mC (.str "looks a 4")) (mCons (mC (.str "looks 4  4")) (mCons (mC (.str "names")) (mCons (mC (.str "all")) (mCons (mC (.str "-")) (mNil))))))))) (sSeq (sFor (b1 oSrcL (b1 (oMk false) (mCons (mC (.str "find")) (mCons (mC (.str "stair")) (mCons (mC (.str "walk")) (mCons (mC (.str "below")) (mCons (mC (.str "nth")) (mNil)))))))) (tgName 1) (sSeq (sFor (b1 oSrcL (b1 (oMk false) (mCons (mC (.str " abcdefghi 1")) (mCons (mC (.str "  a 1")) (mCons (mC (.str " a ")) (mNil)))))) (tgName 2) (sExpr (mMt "list" oAppend (mVar 0) (mCons (b2 (oAdd false) (mVar 1) (mVar 2)) (mNil))))) (sExpr (mMt "list" oAppend (mVar 0) (mCons (b2 (oAdd false) (b2 (oAdd false) (mC (.str " ")) (mVar 1)) (mC (.str " a 1"))) (mNil)))))) (sSeq (sSet 0 (b2 (oAdd true) (mVar 0) (b1 (oMk false) (mCons (mC (.str "show abcdefghi")) (mCons (mC (.str "drop abcdefghi")) (mCons (mC (.str "cell abcdefghi 0 0 1")) (mCons (mC (.str "table A x")) (mNil)))))))) (sSeq (sSet 0 (b2 (oAdd true) (mVar 0) (b1 (oMk false) (mCons (mC (.str "nth zz 01")) (mCons (mC (.str "cell zz 0 0 x")) (mCons (mC (.str "SHOW a")) (mNil))))))) (sRet (b2 (oAdd false) (mVar 0) (b1 (oMk false) (mCons (mC (.str "show\ta")) (mCons (mC (.str " show a")) (mCons (mC (.str "show  a")) (mNil))))))))))))))))))))))))))
def m_law_none : MF := runF 3 g_law_none
theorem ok_law_none (T0 : Txt w K mg) : Ok P w K mg base 1 "_law_none" 0 m_law_none := by
  have T := T0.t
  obtain ⟨fd, Fn⟩ := T.def_ 40 (d := d_law_none) rfl
  have nd := sc_law_none.nd
  exact ⟨_, fd, [], T.glo 89, Fn.kp, Fn.bindsN (fun _ _ _ _ _ _ us hl => match us, hl with | [], _ => rfl), rfl, vfnD Fn sc_law_none rfl fun cdv A outer s H E hr => by
    have tk := tk_of (Pr := P) (w := w) (K := K) (mg := mg) (base := base) (N := ["some", "word", "end"]) (qual := "_law_none") (sc := defScope s_law_none) (f := He.fAd K d_law_none.at_) (cd := cdv) (A := A) (outer := outer) (s := s) (H := H) (E := E)
    have pw := pw_of (Pr := P) (w := w) (K := K) (mg := mg) (base := base) (N := ["some", "word", "end"]) (qual := "_law_none") (sc := defScope s_law_none) (f := He.fAd K d_law_none.at_) (cd := cdv) (A := A) (outer := outer) (s := s) (H := H) (E := E)
    exact vss_trunc (vss_cons (vs_set (i := 0) nd rfl (Or.inl rfl) (ve_lst true (va_cons (ve_str) (va_cons (ve_str) (va_cons (ve_str) (va_cons (ve_str) (va_cons (ve_str) (va_cons (ve_str) (va_nil)))))))) rfl (Or.inl rfl)) (vss_cons (vs_set (i := 0) nd rfl (Or.inl rfl) (ve_op s_add (o_add true) (ve_var 0 rfl (Or.inl rfl)) (ve_lst false (va_cons (ve_str) (va_cons (ve_str) (va_cons (ve_str) (va_cons (ve_str) (va_cons (ve_str) (va_nil)))))))) rfl (Or.inl rfl)) (vss_cons (vs_set (i := 0) nd rfl (Or.inl rfl) (ve_op s_add (o_add true) (ve_var 0 rfl (Or.inl rfl)) (ve_lst false (va_cons (ve_str) (va_cons (ve_str) (va_cons (ve_str) (va_cons (ve_str) (va_nil))))))) rfl (Or.inl rfl)) (vss_cons (vs_set (i := 0) nd rfl (Or.inl rfl) (ve_op s_add (o_add true) (ve_var 0 rfl (Or.inl rfl)) (ve_lst false (va_cons (ve_str) (va_cons (ve_str) (va_cons (ve_str) (va_cons (ve_str) (va_nil))))))) rfl (Or.inl rfl)) (vss_cons (vs_set (i := 0) nd rfl (Or.inl rfl) (ve_op s_add (o_add true) (ve_var 0 rfl (Or.inl rfl)) (ve_lst false (va_cons (ve_str) (va_cons (ve_str) (va_cons (ve_str) (va_nil)))))) rfl (Or.inl rfl)) (vss_cons (vs_set (i := 0) nd rfl (Or.inl rfl) (ve_op s_add (o_add true) (ve_var 0 rfl (Or.inl rfl)) (ve_lst false (va_cons (ve_str) (va_cons (ve_str) (va_cons (ve_str) (va_nil)))))) rfl (Or.inl rfl)) (vss_cons (vs_set (i := 0) nd rfl (Or.inl rfl) (ve_op s_add (o_add true) (ve_var 0 rfl (Or.inl rfl)) (ve_lst false (va_cons (ve_str) (va_cons (ve_str) (va_cons (ve_str) (va_cons (ve_str) (va_cons (ve_str) (va_nil)))))))) rfl (Or.inl rfl)) (vss_cons (vs_set (i := 0) nd rfl (Or.inl rfl) (ve_op s_add (o_add true) (ve_var 0 rfl (Or.inl rfl)) (ve_lst false (va_cons (ve_str) (va_cons (ve_str) (va_cons (ve_str) (va_cons (ve_str) (va_cons (ve_str) (va_nil)))))))) rfl (Or.inl rfl)) (vss_cons (vs_set (i := 0) nd rfl (Or.inl rfl) (ve_op s_add (o_add true) (ve_var 0 rfl (Or.inl rfl)) (ve_lst false (va_cons (ve_str) (va_cons (ve_str) (va_cons (ve_str) (va_cons (ve_str) (va_cons (ve_str) (va_nil)))))))) rfl (Or.inl rfl)) (vss_cons (vs_set (i := 0) nd rfl (Or.inl rfl) (ve_op s_add (o_add true) (ve_var 0 rfl (Or.inl rfl)) (ve_lst false (va_cons (ve_str) (va_cons (ve_str) (va_cons (ve_str) (va_cons (ve_str) (va_cons (ve_str) (va_nil)))))))) rfl (Or.inl rfl)) (vss_cons (vs_set (i := 0) nd rfl (Or.inl rfl) (ve_op s_add (o_add true) (ve_var 0 rfl (Or.inl rfl)) (ve_lst false (va_cons (ve_str) (va_cons (ve_str) (va_cons (ve_str) (va_cons (ve_str) (va_cons (ve_str) (va_cons (ve_str) (va_nil))))))))) rfl (Or.inl rfl)) (vss_cons (vs_set (i := 0) nd rfl (Or.inl rfl) (ve_op s_add (o_add true) (ve_var 0 rfl (Or.inl rfl)) (ve_lst false (va_cons (ve_str) (va_cons (ve_str) (va_cons (ve_str) (va_cons (ve_str) (va_cons (ve_str) (va_nil)))))))) rfl (Or.inl rfl)) (vss_cons (vs_set (i := 0) nd rfl (Or.inl rfl) (ve_op s_add (o_add true) (ve_var 0 rfl (Or.inl rfl)) (ve_lst false (va_cons (ve_str) (va_cons (ve_str) (va_cons (ve_str) (va_cons (ve_str) (va_cons (ve_str) (va_cons (ve_str) (va_nil))))))))) rfl (Or.inl rfl)) (vss_cons (vs_set (i := 0) nd rfl (Or.inl rfl) (ve_op s_add (o_add true) (ve_var 0 rfl (Or.inl rfl)) (ve_lst false (va_cons (ve_str) (va_cons (ve_str) (va_cons (ve_str) (va_cons (ve_str) (va_cons (ve_str) (va_nil)))))))) rfl (Or.inl rfl)) (vss_cons (vs_set (i := 0) nd rfl (Or.inl rfl) (ve_op s_add (o_add true) (ve_var 0 rfl (Or.inl rfl)) (ve_lst false (va_cons (ve_str) (va_cons (ve_str) (va_cons (ve_str) (va_cons (ve_str) (va_cons (ve_str) (va_cons (ve_str) (va_nil))))))))) rfl (Or.inl rfl)) (vss_cons (vs_set (i := 0) nd rfl (Or.inl rfl) (ve_op s_add (o_add true) (ve_var 0 rfl (Or.inl rfl)) (ve_lst false (va_cons (ve_str) (va_cons (ve_str) (va_cons (ve_str) (va_cons (ve_str) (va_cons (ve_str) (va_nil)))))))) rfl (Or.inl rfl)) (vss_cons (vs_for pw rfl (vi_list (ve_lst false (va_cons (ve_str) (va_cons (ve_str) (va_cons (ve_str) (va_cons (ve_str) (va_cons (ve_str) (va_nil)))))))) (vg_name (i := 1) nd rfl (Or.inl rfl) (Or.inl rfl)) (vss_cons (vs_for pw rfl (vi_list (ve_lst false (va_cons (ve_str) (va_cons (ve_str) (va_cons (ve_str) (va_nil)))))) (vg_name (i := 2) nd rfl (Or.inl rfl) (Or.inl rfl)) (vss_one (vs_expr (ve_bm PySem.F.plainAttrs_list PySem.F.slot_list_append PySem.F.type_list_append mt_append o_append (ve_var 0 rfl (Or.inl rfl)) (va_cons (ve_op s_add (o_add false) (ve_var 1 rfl (Or.inl rfl)) (ve_var 2 rfl (Or.inl rfl))) (va_nil)))))) (vss_one (vs_expr (ve_bm PySem.F.plainAttrs_list PySem.F.slot_list_append PySem.F.type_list_append mt_append o_append (ve_var 0 rfl (Or.inl rfl)) (va_cons (ve_op s_add (o_add false) (ve_op s_add (o_add false) (ve_str) (ve_var 1 rfl (Or.inl rfl))) (ve_str)) (va_nil))))))) (vss_cons (vs_set (i := 0) nd rfl (Or.inl rfl) (ve_op s_add (o_add true) (ve_var 0 rfl (Or.inl rfl)) (ve_lst false (va_cons (ve_str) (va_cons (ve_str) (va_cons (ve_str) (va_cons (ve_str) (va_nil))))))) rfl (Or.inl rfl)) (vss_cons (vs_set (i := 0) nd rfl (Or.inl rfl) (ve_op s_add (o_add true) (ve_var 0 rfl (Or.inl rfl)) (ve_lst false (va_cons (ve_str) (va_cons (ve_str) (va_cons (ve_str) (va_nil)))))) rfl (Or.inl rfl)) (vss_one (vs_ret (ve_op s_add (o_add false) (ve_var 0 rfl (Or.inl rfl)) (ve_lst false (va_cons (ve_str) (va_cons (ve_str) (va_cons (ve_str) (va_nil)))))))))))))))))))))))))))⟩
abbrev N_law_others : List Str := ["some", "texts", "text"]
theorem sc_law_others : FnScope ["some", "texts", "text"] [] (defScope s_law_others) := ⟨rfl, rfl, rfl, by decide +kernel, rfl, by decide +kernel, by decide +kernel⟩
def g_law_others : S := sSeq (sSet 0 (b1 (oMk false) (mCons (b1 oTup (mCons (mC (.str "cell zz 0 0 1")) (mCons (mC (.str "name")) (mNil)))) (mCons (b1 oTup (mCons (mC (.str "cell zz 99 99 1")) (mCons (mC (.str "name")) (mNil)))) (mCons (b1 oTup (mCons (mC (.str "drop zz")) (mCons (mC (.str "name")) (mNil)))) (mNil)))))) (sSeq (sSet 0 (b2 (oAdd false) (mVar 0) (b1 (oMk false) (mCons (b1 oTup (mCons (mC (.str "find zz 1")) (mCons (mC (.str "name")) (mNil)))) (mCons (b1 oTup (mCons (mC (.str "stair zz -1")) (mCons (mC (.str "name")) (mNil)))) (mNil)))))) (sSeq (sSet 0 (b2 (oAdd false) (mVar 0) (b1 (oMk false) (mCons (b1 oTup (mCons (mC (.str "walk zz 1")) (mCons (mC (.str "name")) (mNil)))) (mCons (b1 oTup (mCons (mC (.str "below zz 1")) (mCons (mC (.str "name")) (mNil)))) (mCons (b1 oTup (mCons (mC (.str "nth zz 99")) (mCons (mC (.str "name")) (mNil)))) (mNil))))))) (sSeq (sSet 0 (b2 (oAdd false) (mVar 0) (b1 (oMk false) (mCons (b1 oTup (mCons (mC (.str "show zz")) (mCons (mC (.str "name")) (mNil)))) (mCons (b1 oTup (mCons (mC (.str "cell a 2 0 5")) (mCons (mC (.str "cell")) (mNil)))) (mNil)))))) (sSeq (sSet 0 (b2 (oAdd false) (mVar 0) (b1 (oMk false) (mCons (b1 oTup (mCons (mC (.str "cell a 0 2 5")) (mCons (mC (.str "cell")) (mNil)))) (mCons (b1 oTup (mCons (mC (.str "cell a 99 99 9")) (mCons (mC (.str "cell")) (mNil)))) (mCons (b1 oTup (mCons (mC (.str "cell b 1 0 7")) (mCons (mC (.str "cell")) (mNil)))) (mNil))))))) (sSeq (sSet 0 (b2 (oAdd false) (mVar 0) (b1 (oMk false) (mCons (b1 oTup (mCons (mC (.str "cell a 0 0 4")) (mCons (mC (.str "fit")) (mNil)))) (mCons (b1 oTup (mCons (mC (.str "cell a 1 1 2")) (mCons (mC (.str "fit")) (mNil)))) (mNil)))))) (sSeq (sSet 0 (b2 (oAdd false) (mVar 0) (b1 (oMk false) (mCons (b1 oTup (mCons (mC (.str "cell a 0 1 0")) (mCons (mC (.str "fit")) (mNil)))) (mCons (b1 oTup (mCons (mC (.str "cell a 0 1 6")) (mCons (mC (.str "fit")) (mNil)))) (mCons (b1 oTup (mCons (mC (.str "cell a 1 0 0")) (mCons (mC (.str "fit")) (mNil)))) (mNil))))))) (sSeq (sSet 0 (b2 (oAdd false) (mVar 0) (b1 (oMk false) (mCons (b1 oTup (mCons (mC (.str "cell a 1 0 6")) (mCons (mC (.str "fit")) (mNil)))) (mCons (b1 oTup (mCons (mC (.str "cell a 2 2 -999999999")) (mCons (mC (.str "cell")) (mNil)))) (mNil)))))) (sSeq (sSet 0 (b2 (oAdd false) (mVar 0) (b1 (oMk false) (mCons (b1 oTup (mCons (mC (.str "nth a 4")) (mCons (mC (.str "place")) (mNil)))) (mCons (b1 oTup (mCons (mC (.str "nth a 99")) (mCons (mC (.str "place")) (mNil)))) (mCons (b1 oTup (mCons (mC (.str "nth b 1")) (mCons (mC (.str "place")) (mNil)))) (mNil))))))) (sSeq (sSet 0 (b2 (oAdd false) (mVar 0) (b1 (oMk false) (mCons (b1 oTup (mCons (mC (.str "looks 0 1")) (mCons (mC (.str "size")) (mNil)))) (mCons (b1 oTup (mCons (mC (.str "looks 1 0")) (mCons (mC (.str "size")) (mNil)))) (mNil)))))) (sSeq (sSet 0 (b2 (oAdd false) (mVar 0) (b1 (oMk false) (mCons (b1 oTup (mCons (mC (.str "looks 5 1")) (mCons (mC (.str "size")) (mNil)))) (mCons (b1 oTup (mCons (mC (.str "looks 4 5")) (mCons (mC (.str "size")) (mNil)))) (mNil)))))) (sSeq (sSet 0 (b2 (oAdd false) (mVar 0) (b1 (oMk false) (mCons (b1 oTup (mCons (mC (.str "looks 99 99")) (mCons (mC (.str "size")) (mNil)))) (mCons (b1 oTup (mCons (mC (.str "looks 0 0")) (mCons (mC (.str "size")) (mNil)))) (mNil)))))) (sSeq (sSet 1 (b1 (oMk false) (mCons (mC (.str "")) (mCons (mC (.str "2 1")) (mCons (mC (.str "2/1")) (mCons (mC (.str "1 2/3")) (mCons (mC (.str "1 2/1 1")) (mCons (mC (.str "1 2/0 2")) (mCons (mC (.str "1 ")) (mCons (mC (.str " 1")) (mCons (mC (.str "1  2")) (mNil)))))))))))) (sSeq (sSet 1 (b2 (oAdd false) (mVar 1) (b1 (oMk false) (mCons (mC (.str "01")) (mCons (mC (.str "-0")) (mCons (mC (.str "+1")) (mCons (mC (.str "1.0")) (mCons (mC (.str "x")) (mCons (mC (.str "1 x")) (mCons (mC (.str "1,2")) (mCons (mC (.str "1 2 3 4 5 6 7")) (mNil)))))))))))) (sSeq (sSet 1 (b2 (oAdd false) (mVar 1) (b1 (oMk false) (mCons (mC (.str "1 2/3/4 5 6")) (mCons (mC (.str "1 2 3/4/5 6")) (mCons (mC (.str "1/2 3/4")) (mNil))))))) (sSeq (sSet 1 (b2 (oAdd false) (mVar 1) (b1 (oMk false) (mCons (mC (.str "1/2/3/4/5/6/7")) (mCons (mC (.str "1/")) (mCons (mC (.str "/1")) (mCons (mC (.str "1//2")) (mCons (mC (.str "1\n2")) (mCons (mC (.str "1\t2")) (mCons (mC (.str "1_0")) (mNil))))))))))) (sSeq (sSet 1 (b2 (oAdd false) (mVar 1) (b1 (oMk false) (mCons (mC (.str "--1")) (mCons (mC (.str "`")) (mCons (mC (.str "10 9")) (mCons (mC (.str "-1 -2")) (mCons (mC (.str "1 2/3 1")) (mCons (mC (.str "1 3/2 2")) (mNil)))))))))) (sSeq (sSet 0 (b2 (oAdd false) (mVar 0) (mLc false [2] (b1 oSrcL (mVar 1)) (tgName 2) (mYes) (b1 oTup (mCons (b2 (oAdd false) (mC (.str "table zz ")) (mVar 2)) (mCons (mC (.str "text")) (mNil))))))) (sRet (b2 (oAdd false) (mVar 0) (mLc false [2] (b1 oSrcL (mVar 1)) (tgName 2) (mYes) (b1 oTup (mCons (b2 (oAdd false) (mC (.str "table a ")) (mVar 2)) (mCons (mC (.str "text")) (mNil))))))))))))))))))))))))
def m_law_others : MF := runF 3 g_law_others
theorem ok_law_others (T0 : Txt w K mg) : Ok P w K mg base 1 "_law_others" 0 m_law_others := by
  have T := T0.t
  obtain ⟨fd, Fn⟩ := T.def_ 41 (d := d_law_others) rfl
  have nd := sc_law_others.nd
  exact ⟨_, fd, [], T.glo 90, Fn.kp, Fn.bindsN (fun _ _ _ _ _ _ us hl => match us, hl with | [], _ => rfl), rfl, vfnD Fn sc_law_others rfl fun cdv A outer s H E hr => by
    have tk := tk_of (Pr := P) (w := w) (K := K) (mg := mg) (base := base) (N := ["some", "texts", "text"]) (qual := "_law_others") (sc := defScope s_law_others) (f := He.fAd K d_law_others.at_) (cd := cdv) (A := A) (outer := outer) (s := s) (H := H) (E := E)
    have pw := pw_of (Pr := P) (w := w) (K := K) (mg := mg) (base := base) (N := ["some", "texts", "text"]) (qual := "_law_others") (sc := defScope s_law_others) (f := He.fAd K d_law_others.at_) (cd := cdv) (A := A) (outer := outer) (s := s) (H := H) (E := E)
    exact vss_cons (vs_set (i := 0) nd rfl (Or.inl rfl) (ve_lst false (va_cons (ve_tup (va_cons (ve_str) (va_cons (ve_str) (va_nil)))) (va_cons (ve_tup (va_cons (ve_str) (va_cons (ve_str) (va_nil)))) (va_cons (ve_tup (va_cons (ve_str) (va_cons (ve_str) (va_nil)))) (va_nil))))) rfl (Or.inl rfl)) (vss_cons (vs_set (i := 0) nd rfl (Or.inl rfl) (ve_op s_add (o_add false) (ve_var 0 rfl (Or.inl rfl)) (ve_lst false (va_cons (ve_tup (va_cons (ve_str) (va_cons (ve_str) (va_nil)))) (va_cons (ve_tup (va_cons (ve_str) (va_cons (ve_str) (va_nil)))) (va_nil))))) rfl (Or.inl rfl)) (vss_cons (vs_set (i := 0) nd rfl (Or.inl rfl) (ve_op s_add (o_add false) (ve_var 0 rfl (Or.inl rfl)) (ve_lst false (va_cons (ve_tup (va_cons (ve_str) (va_cons (ve_str) (va_nil)))) (va_cons (ve_tup (va_cons (ve_str) (va_cons (ve_str) (va_nil)))) (va_cons (ve_tup (va_cons (ve_str) (va_cons (ve_str) (va_nil)))) (va_nil)))))) rfl (Or.inl rfl)) (vss_cons (vs_set (i := 0) nd rfl (Or.inl rfl) (ve_op s_add (o_add false) (ve_var 0 rfl (Or.inl rfl)) (ve_lst false (va_cons (ve_tup (va_cons (ve_str) (va_cons (ve_str) (va_nil)))) (va_cons (ve_tup (va_cons (ve_str) (va_cons (ve_str) (va_nil)))) (va_nil))))) rfl (Or.inl rfl)) (vss_cons (vs_set (i := 0) nd rfl (Or.inl rfl) (ve_op s_add (o_add false) (ve_var 0 rfl (Or.inl rfl)) (ve_lst false (va_cons (ve_tup (va_cons (ve_str) (va_cons (ve_str) (va_nil)))) (va_cons (ve_tup (va_cons (ve_str) (va_cons (ve_str) (va_nil)))) (va_cons (ve_tup (va_cons (ve_str) (va_cons (ve_str) (va_nil)))) (va_nil)))))) rfl (Or.inl rfl)) (vss_cons (vs_set (i := 0) nd rfl (Or.inl rfl) (ve_op s_add (o_add false) (ve_var 0 rfl (Or.inl rfl)) (ve_lst false (va_cons (ve_tup (va_cons (ve_str) (va_cons (ve_str) (va_nil)))) (va_cons (ve_tup (va_cons (ve_str) (va_cons (ve_str) (va_nil)))) (va_nil))))) rfl (Or.inl rfl)) (vss_cons (vs_set (i := 0) nd rfl (Or.inl rfl) (ve_op s_add (o_add false) (ve_var 0 rfl (Or.inl rfl)) (ve_lst false (va_cons (ve_tup (va_cons (ve_str) (va_cons (ve_str) (va_nil)))) (va_cons (ve_tup (va_cons (ve_str) (va_cons (ve_str) (va_nil)))) (va_cons (ve_tup (va_cons (ve_str) (va_cons (ve_str) (va_nil)))) (va_nil)))))) rfl (Or.inl rfl)) (vss_cons (vs_set (i := 0) nd rfl (Or.inl rfl) (ve_op s_add (o_add false) (ve_var 0 rfl (Or.inl rfl)) (ve_lst false (va_cons (ve_tup (va_cons (ve_str) (va_cons (ve_str) (va_nil)))) (va_cons (ve_tup (va_cons (ve_str) (va_cons (ve_str) (va_nil)))) (va_nil))))) rfl (Or.inl rfl)) (vss_cons (vs_set (i := 0) nd rfl (Or.inl rfl) (ve_op s_add (o_add false) (ve_var 0 rfl (Or.inl rfl)) (ve_lst false (va_cons (ve_tup (va_cons (ve_str) (va_cons (ve_str) (va_nil)))) (va_cons (ve_tup (va_cons (ve_str) (va_cons (ve_str) (va_nil)))) (va_cons (ve_tup (va_cons (ve_str) (va_cons (ve_str) (va_nil)))) (va_nil)))))) rfl (Or.inl rfl)) (vss_cons (vs_set (i := 0) nd rfl (Or.inl rfl) (ve_op s_add (o_add false) (ve_var 0 rfl (Or.inl rfl)) (ve_lst false (va_cons (ve_tup (va_cons (ve_str) (va_cons (ve_str) (va_nil)))) (va_cons (ve_tup (va_cons (ve_str) (va_cons (ve_str) (va_nil)))) (va_nil))))) rfl (Or.inl rfl)) (vss_cons (vs_set (i := 0) nd rfl (Or.inl rfl) (ve_op s_add (o_add false) (ve_var 0 rfl (Or.inl rfl)) (ve_lst false (va_cons (ve_tup (va_cons (ve_str) (va_cons (ve_str) (va_nil)))) (va_cons (ve_tup (va_cons (ve_str) (va_cons (ve_str) (va_nil)))) (va_nil))))) rfl (Or.inl rfl)) (vss_cons (vs_set (i := 0) nd rfl (Or.inl rfl) (ve_op s_add (o_add false) (ve_var 0 rfl (Or.inl rfl)) (ve_lst false (va_cons (ve_tup (va_cons (ve_str) (va_cons (ve_str) (va_nil)))) (va_cons (ve_tup (va_cons (ve_str) (va_cons (ve_str) (va_nil)))) (va_nil))))) rfl (Or.inl rfl)) (vss_cons (vs_set (i := 1) nd rfl (Or.inl rfl) (ve_lst false (va_cons (ve_str) (va_cons (ve_str) (va_cons (ve_str) (va_cons (ve_str) (va_cons (ve_str) (va_cons (ve_str) (va_cons (ve_str) (va_cons (ve_str) (va_cons (ve_str) (va_nil))))))))))) rfl (Or.inl rfl)) (vss_cons (vs_set (i := 1) nd rfl (Or.inl rfl) (ve_op s_add (o_add false) (ve_var 1 rfl (Or.inl rfl)) (ve_lst false (va_cons (ve_str) (va_cons (ve_str) (va_cons (ve_str) (va_cons (ve_str) (va_cons (ve_str) (va_cons (ve_str) (va_cons (ve_str) (va_cons (ve_str) (va_nil))))))))))) rfl (Or.inl rfl)) (vss_cons (vs_set (i := 1) nd rfl (Or.inl rfl) (ve_op s_add (o_add false) (ve_var 1 rfl (Or.inl rfl)) (ve_lst false (va_cons (ve_str) (va_cons (ve_str) (va_cons (ve_str) (va_nil)))))) rfl (Or.inl rfl)) (vss_cons (vs_set (i := 1) nd rfl (Or.inl rfl) (ve_op s_add (o_add false) (ve_var 1 rfl (Or.inl rfl)) (ve_lst false (va_cons (ve_str) (va_cons (ve_str) (va_cons (ve_str) (va_cons (ve_str) (va_cons (ve_str) (va_cons (ve_str) (va_cons (ve_str) (va_nil)))))))))) rfl (Or.inl rfl)) (vss_cons (vs_set (i := 1) nd rfl (Or.inl rfl) (ve_op s_add (o_add false) (ve_var 1 rfl (Or.inl rfl)) (ve_lst false (va_cons (ve_str) (va_cons (ve_str) (va_cons (ve_str) (va_cons (ve_str) (va_cons (ve_str) (va_cons (ve_str) (va_nil))))))))) rfl (Or.inl rfl)) (vss_cons (vs_set (i := 0) nd rfl (Or.inl rfl) (ve_op s_add (o_add false) (ve_var 0 rfl (Or.inl rfl)) (ve_lc false (own := [("text", 2)]) rfl nd (vi_list (ve_var 1 rfl (Or.inl rfl))) (blkOk_by (N := N_law_others) (sc := defScope s_law_others) (own := [("text", 2)]) (by decide +kernel)) (by decide) (fun _ _ _ _ _ => vg_name (i := 2) nd rfl (Or.inl rfl) (Or.inr rfl)) (fun _ _ _ _ _ => vts_nil) (fun _ _ _ _ _ => ve_tup (va_cons (ve_op s_add (o_add false) (ve_str) (ve_var 2 rfl (Or.inl rfl))) (va_cons (ve_str) (va_nil)))))) rfl (Or.inl rfl)) (vss_one (vs_ret (ve_op s_add (o_add false) (ve_var 0 rfl (Or.inl rfl)) (ve_lc false (own := [("text", 2)]) rfl nd (vi_list (ve_var 1 rfl (Or.inl rfl))) (blkOk_by (N := N_law_others) (sc := defScope s_law_others) (own := [("text", 2)]) (by decide +kernel)) (by decide) (fun _ _ _ _ _ => vg_name (i := 2) nd rfl (Or.inl rfl) (Or.inr rfl)) (fun _ _ _ _ _ => vts_nil) (fun _ _ _ _ _ => ve_tup (va_cons (ve_op s_add (o_add false) (ve_str) (ve_var 2 rfl (Or.inl rfl))) (va_cons (ve_str) (va_nil)))))))))))))))))))))))))⟩
abbrev N_law_cell : List Str := ["script", "k"]
theorem sc_law_cell : FnScope ["script", "k"] ["script", "k"] (defScope s_law_cell) := ⟨rfl, rfl, rfl, by decide +kernel, rfl, by decide +kernel, by decide +kernel⟩
def g_law_cell : S := sSeq (sIf (toB (b2 oLt (mVar 1) (b1 oLen (mCons (mVar 0) (mNil))))) (sRet (b2 oIx (mVar 0) (mVar 1))) (sNil)) (sRet (b2 (oAdd false) (b2 (oAdd false) (b2 (oMul false) (b2 (oMul false) (mC (.int 127)) (mVar 1)) (mVar 1)) (b2 (oMul false) (mC (.int 103)) (mVar 1))) (mC (.int 25))))
def m_law_cell : MF := runF 2 g_law_cell
theorem ok_law_cell (T0 : Txt w K mg) : Ok P w K mg base 1 "_law_cell" 2 m_law_cell := by
  have T := T0.t
  obtain ⟨fd, Fn⟩ := T.def_ 42 (d := d_law_cell) rfl
  have nd := sc_law_cell.nd
  exact ⟨_, fd, ["script", "k"], T.glo 91, Fn.kp, Fn.bindsN (fun _ _ _ _ _ _ us hl => match us, hl with | [_, _], _ => rfl), rfl, vfnD Fn sc_law_cell rfl fun cdv A outer s H E hr => by
    have tk := tk_of (Pr := P) (w := w) (K := K) (mg := mg) (base := base) (N := ["script", "k"]) (qual := "_law_cell") (sc := defScope s_law_cell) (f := He.fAd K d_law_cell.at_) (cd := cdv) (A := A) (outer := outer) (s := s) (H := H) (E := E)
    have pw := pw_of (Pr := P) (w := w) (K := K) (mg := mg) (base := base) (N := ["script", "k"]) (qual := "_law_cell") (sc := defScope s_law_cell) (f := He.fAd K d_law_cell.at_) (cd := cdv) (A := A) (outer := outer) (s := s) (H := H) (E := E)
    exact vss_cons (vs_if (vt_cmp op_lt o_lt (ve_var 1 rfl (Or.inl rfl)) (ve_callB call_len o_len rfl (T.fr 8) bb_len (va_cons (ve_var 0 rfl (Or.inl rfl)) (va_nil))) (nomark _)) (vss_one (vs_ret (ve_ix ix_seq o_ix (ve_var 0 rfl (Or.inl rfl)) (ve_var 1 rfl (Or.inl rfl)) (fun _ _ => rfl)))) (vss_nil)) (vss_one (vs_ret (ve_op s_add (o_add false) (ve_op s_add (o_add false) (ve_op s_mul (o_mul false) (ve_op s_mul (o_mul false) (ve_int) (ve_var 1 rfl (Or.inl rfl))) (ve_var 1 rfl (Or.inl rfl))) (ve_op s_mul (o_mul false) (ve_int) (ve_var 1 rfl (Or.inl rfl)))) (ve_int))))⟩
abbrev N_law_spoilt : List Str := ["cell", "rows", "words", "signs", "sign", "at", "bad", "way", "row"]
theorem sc_law_spoilt : FnScope ["cell", "rows", "words", "signs", "sign", "at", "bad", "way", "row"] ["cell"] (defScope s_law_spoilt) := ⟨rfl, rfl, rfl, by decide +kernel, rfl, by decide +kernel, by decide +kernel⟩
def g_law_spoilt : S := sTrunc (sSeq (sSet 1 (b1 (oMk false) (mCons (mC (.str "cell abcdefgh 0 0 1")) (mCons (mC (.str "find abcdefgh 1")) (mCons (mC (.str "stair abcdefgh 1")) (mNil)))))) (sSeq (sSet 1 (b2 (oAdd false) (mVar 1) (b1 (oMk false) (mCons (mC (.str "walk abcdefgh 1")) (mCons (mC (.str "below abcdefgh 1")) (mCons (mC (.str "nth abcdefgh 1")) (mNil))))))) (sSeq (sSet 1 (b2 (oAdd false) (mVar 1) (b1 (oMk false) (mCons (mC (.str "drop abcdefgh")) (mCons (mC (.str "show abcdefgh")) (mCons (mC (.str "table abcdefgh 1")) (mNil))))))) (sSeq (sSet 2 (mMt "str" (oSplit true) (b2 oIx (mVar 1) (b2 (oMod) (b2 (oDiv) (mVar 0) (mC (.int 3))) (b2 oIx (b1 (oMk false) (mCons (mC (.int 9)) (mCons (mC (.int 9)) (mCons (mC (.int 6)) (mNil))))) (b2 (oMod) (mVar 0) (mC (.int 3)))))) (mCons (mC (.str " ")) (mNil)))) (sSeq (sSet 3 (mC (.str "!\"\\#$&'()*+,-./0123456789:;<=>?@ABCDEFGHIJKLMNOPQRSTUVWXYZ[]^_`{|}~\t\n"))) (sSeq (sSet 4 (b2 oIx (mVar 3) (b2 (oMod) (b2 (oDiv) (mVar 0) (mC (.int 1000))) (b1 oLen (mCons (mVar 3) (mNil)))))) (sSeq (sIf (toB (b2 oEq (b2 (oMod) (mVar 0) (mC (.int 3))) (mC (.int 0)))) (sSeq (sSet 5 (b2 (oMod) (b2 (oDiv) (mVar 0) (mC (.int 27))) (mC (.int 9)))) (sSub (b2 (oAdd false) (b2 (oAdd false) (mSl (oSl false) (b2 oIx (mVar 2) (mC (.int 1))) (mNoPt) (b1 oPt (mVar 5))) (mVar 4)) (mSl (oSl false) (b2 oIx (mVar 2) (mC (.int 1))) (b1 oPt (b2 (oAdd false) (mVar 5) (b2 (oMod) (b2 (oDiv) (mVar 0) (mC (.int 243))) (mC (.int 2))))) (mNoPt))) (mVar 2) (mC (.int 1)) oSetL)) (sNil)) (sSeq (sIf (toB (b2 oEq (b2 (oMod) (mVar 0) (mC (.int 3))) (mC (.int 1)))) (sSeq (sSet 5 (b2 (oMod) (b2 (oDiv) (mVar 0) (mC (.int 27))) (b2 (oAdd false) (b1 oLen (mCons (b2 oIx (mVar 2) (mC (.int 0))) (mNil))) (mC (.int 1))))) (sSeq (sSet 4 (b2 oIx (b2 (oAdd false) (mVar 4) (mC (.str "abcdefghijklmnopqrstuvwxyz"))) (b2 (oMod) (b2 (oDiv) (mVar 0) (mC (.int 500))) (mC (.int 27))))) (sSeq (sSub (b2 (oAdd false) (b2 (oAdd false) (mSl (oSl false) (b2 oIx (mVar 2) (mC (.int 0))) (mNoPt) (b1 oPt (mVar 5))) (mVar 4)) (mSl (oSl false) (b2 oIx (mVar 2) (mC (.int 0))) (b1 oPt (b2 (oAdd false) (mVar 5) (b2 (oMod) (b2 (oDiv) (mVar 0) (mC (.int 243))) (mC (.int 2))))) (mNoPt))) (mVar 2) (mC (.int 0)) oSetL) (sIf (toB (b2 (oIn false) (b2 oIx (mVar 2) (mC (.int 0))) (mLc false [8] (b1 oSrcL (mVar 1)) (tgName 8) (mYes) (b2 oIx (mMt "str" (oSplit false) (mVar 8) (mCons (mC (.str " ")) (mNil))) (mC (.int 0)))))) (sSub (b2 (oAdd false) (b2 oIx (mVar 2) (mC (.int 0))) (b2 oIx (mVar 2) (mC (.int 0)))) (mVar 2) (mC (.int 0)) oSetL) (sNil))))) (sNil)) (sSeq (sIf (toB (b2 oEq (b2 (oMod) (mVar 0) (mC (.int 3))) (mC (.int 2)))) (sSeq (sSet 6 (b1 (oMk false) (mCons (mC (.str "1000000000")) (mCons (mC (.str "")) (mCons (mC (.str "01")) (mCons (mC (.str "00")) (mCons (mC (.str "x")) (mCons (mC (.str "+1")) (mCons (mC (.str "1_")) (mCons (mC (.str "1.0")) (mNil))))))))))) (sSeq (sSet 6 (b2 (oAdd false) (mVar 6) (b1 (oMk false) (mCons (mC (.str "1\n")) (mCons (mC (.str "\t1")) (mCons (mC (.str "10x")) (mCons (mC (.str "-0")) (mCons (mC (.str "-01")) (mCons (mC (.str "--1")) (mCons (mC (.str "-")) (mCons (mC (.str "1 1")) (mNil)))))))))))) (sSub (b2 oIx (mVar 6) (b2 (oMod) (b2 (oDiv) (mVar 0) (mC (.int 54))) (mC (.int 16)))) (mVar 2) (b2 (oAdd false) (mC (.int 2)) (b2 (oMod) (b2 (oDiv) (mVar 0) (mC (.int 18))) (b2 (oSub) (b1 oLen (mCons (mVar 2) (mNil))) (mC (.int 2))))) oSetL))) (sNil)) (sSeq (sSet 7 (b2 (oMod) (b2 (oDiv) (mVar 0) (mC (.int 100000))) (mC (.int 8)))) (sSeq (sIf (toB (b2 oLt (mVar 7) (mC (.int 2)))) (sSub (b2 oIx (b1 (oMk false) (mCons (mC (.str "")) (mCons (mC (.str "abcdefghi")) (mNil)))) (mVar 7)) (mVar 2) (mC (.int 1)) oSetL) (sNil)) (sRet (mMt "str" oJoin (mC (.str " ")) (mCons (mVar 2) (mNil)))))))))))))))
def m_law_spoilt : MF := runF 9 g_law_spoilt
theorem ok_law_spoilt (T0 : Txt w K mg) : Ok P w K mg base 1 "_law_spoilt" 1 m_law_spoilt := by
  have T := T0.t
  obtain ⟨fd, Fn⟩ := T.def_ 43 (d := d_law_spoilt) rfl
  have nd := sc_law_spoilt.nd
  exact ⟨_, fd, ["cell"], T.glo 92, Fn.kp, Fn.bindsN (fun _ _ _ _ _ _ us hl => match us, hl with | [_], _ => rfl), rfl, vfnD Fn sc_law_spoilt rfl fun cdv A outer s H E hr => by
    have tk := tk_of (Pr := P) (w := w) (K := K) (mg := mg) (base := base) (N := ["cell", "rows", "words", "signs", "sign", "at", "bad", "way", "row"]) (qual := "_law_spoilt") (sc := defScope s_law_spoilt) (f := He.fAd K d_law_spoilt.at_) (cd := cdv) (A := A) (outer := outer) (s := s) (H := H) (E := E)
    have pw := pw_of (Pr := P) (w := w) (K := K) (mg := mg) (base := base) (N := ["cell", "rows", "words", "signs", "sign", "at", "bad", "way", "row"]) (qual := "_law_spoilt") (sc := defScope s_law_spoilt) (f := He.fAd K d_law_spoilt.at_) (cd := cdv) (A := A) (outer := outer) (s := s) (H := H) (E := E)
    exact vss_trunc (vss_cons (vs_set (i := 1) nd rfl (Or.inl rfl) (ve_lst false (va_cons (ve_str) (va_cons (ve_str) (va_cons (ve_str) (va_nil))))) rfl (Or.inl rfl)) (vss_cons (vs_set (i := 1) nd rfl (Or.inl rfl) (ve_op s_add (o_add false) (ve_var 1 rfl (Or.inl rfl)) (ve_lst false (va_cons (ve_str) (va_cons (ve_str) (va_cons (ve_str) (va_nil)))))) rfl (Or.inl rfl)) (vss_cons (vs_set (i := 1) nd rfl (Or.inl rfl) (ve_op s_add (o_add false) (ve_var 1 rfl (Or.inl rfl)) (ve_lst false (va_cons (ve_str) (va_cons (ve_str) (va_cons (ve_str) (va_nil)))))) rfl (Or.inl rfl)) (vss_cons (vs_set (i := 2) nd rfl (Or.inl rfl) (ve_bm PySem.F.plainAttrs_str PySem.F.slot_str_split PySem.F.type_str_split mt_split (o_split true) (ve_ix ix_seq o_ix (ve_var 1 rfl (Or.inl rfl)) (ve_op op_mod o_mod (ve_op op_fdivW o_div (ve_var 0 rfl (Or.inl rfl)) (ve_int)) (ve_ix ix_seq o_ix (ve_lst false (va_cons (ve_int) (va_cons (ve_int) (va_cons (ve_int) (va_nil))))) (ve_op op_mod o_mod (ve_var 0 rfl (Or.inl rfl)) (ve_int)) (fun _ _ => rfl))) (fun _ _ => rfl)) (va_cons (ve_str) (va_nil))) rfl (Or.inl rfl)) (vss_cons (vs_set (i := 3) nd rfl (Or.inl rfl) (ve_str) rfl (Or.inl rfl)) (vss_cons (vs_set (i := 4) nd rfl (Or.inl rfl) (ve_ix ix_seq o_ix (ve_var 3 rfl (Or.inl rfl)) (ve_op op_mod o_mod (ve_op op_fdivW o_div (ve_var 0 rfl (Or.inl rfl)) (ve_int)) (ve_callB call_len o_len rfl (T.fr 8) bb_len (va_cons (ve_var 3 rfl (Or.inl rfl)) (va_nil)))) (fun _ _ => rfl)) rfl (Or.inl rfl)) (vss_cons (vs_if (vt_cmp (s_eq hr.units) o_eq (ve_op op_mod o_mod (ve_var 0 rfl (Or.inl rfl)) (ve_int)) (ve_int) (nomark _)) (vss_cons (vs_set (i := 5) nd rfl (Or.inl rfl) (ve_op op_mod o_mod (ve_op op_fdivW o_div (ve_var 0 rfl (Or.inl rfl)) (ve_int)) (ve_int)) rfl (Or.inl rfl)) (vss_one (vs_sub (ve_op s_add (o_add false) (ve_op s_add (o_add false) (ve_slice s_sl (o_sl false) (ve_ix ix_seq o_ix (ve_var 2 rfl (Or.inl rfl)) (ve_int) (fun _ _ => rfl)) (vp_none) (vp_some (ve_var 5 rfl (Or.inl rfl)))) (ve_var 4 rfl (Or.inl rfl))) (ve_slice s_sl (o_sl false) (ve_ix ix_seq o_ix (ve_var 2 rfl (Or.inl rfl)) (ve_int) (fun _ _ => rfl)) (vp_some (ve_op s_add (o_add false) (ve_var 5 rfl (Or.inl rfl)) (ve_op op_mod o_mod (ve_op op_fdivW o_div (ve_var 0 rfl (Or.inl rfl)) (ve_int)) (ve_int)))) (vp_none))) (ve_var 2 rfl (Or.inl rfl)) (ve_int)))) (vss_nil)) (vss_cons (vs_if (vt_cmp (s_eq hr.units) o_eq (ve_op op_mod o_mod (ve_var 0 rfl (Or.inl rfl)) (ve_int)) (ve_int) (nomark _)) (vss_cons (vs_set (i := 5) nd rfl (Or.inl rfl) (ve_op op_mod o_mod (ve_op op_fdivW o_div (ve_var 0 rfl (Or.inl rfl)) (ve_int)) (ve_op s_add (o_add false) (ve_callB call_len o_len rfl (T.fr 8) bb_len (va_cons (ve_ix ix_seq o_ix (ve_var 2 rfl (Or.inl rfl)) (ve_int) (fun _ _ => rfl)) (va_nil))) (ve_int))) rfl (Or.inl rfl)) (vss_cons (vs_set (i := 4) nd rfl (Or.inl rfl) (ve_ix ix_seq o_ix (ve_op s_add (o_add false) (ve_var 4 rfl (Or.inl rfl)) (ve_str)) (ve_op op_mod o_mod (ve_op op_fdivW o_div (ve_var 0 rfl (Or.inl rfl)) (ve_int)) (ve_int)) (fun _ _ => rfl)) rfl (Or.inl rfl)) (vss_cons (vs_sub (ve_op s_add (o_add false) (ve_op s_add (o_add false) (ve_slice s_sl (o_sl false) (ve_ix ix_seq o_ix (ve_var 2 rfl (Or.inl rfl)) (ve_int) (fun _ _ => rfl)) (vp_none) (vp_some (ve_var 5 rfl (Or.inl rfl)))) (ve_var 4 rfl (Or.inl rfl))) (ve_slice s_sl (o_sl false) (ve_ix ix_seq o_ix (ve_var 2 rfl (Or.inl rfl)) (ve_int) (fun _ _ => rfl)) (vp_some (ve_op s_add (o_add false) (ve_var 5 rfl (Or.inl rfl)) (ve_op op_mod o_mod (ve_op op_fdivW o_div (ve_var 0 rfl (Or.inl rfl)) (ve_int)) (ve_int)))) (vp_none))) (ve_var 2 rfl (Or.inl rfl)) (ve_int)) (vss_one (vs_if (vt_cmp op_in_seq (o_in false) (ve_ix ix_seq o_ix (ve_var 2 rfl (Or.inl rfl)) (ve_int) (fun _ _ => rfl)) (ve_lc false (own := [("row", 8)]) rfl nd (vi_list (ve_var 1 rfl (Or.inl rfl))) (blkOk_by (N := N_law_spoilt) (sc := defScope s_law_spoilt) (own := [("row", 8)]) (by decide +kernel)) (by decide) (fun _ _ _ _ _ => vg_name (i := 8) nd rfl (Or.inl rfl) (Or.inr rfl)) (fun _ _ _ _ _ => vts_nil) (fun _ _ _ _ _ => ve_ix ix_seq o_ix (ve_bm PySem.F.plainAttrs_str PySem.F.slot_str_split PySem.F.type_str_split mt_split (o_split false) (ve_var 8 rfl (Or.inl rfl)) (va_cons (ve_str) (va_nil))) (ve_int) (fun _ _ => rfl))) (by rfl)) (vss_one (vs_sub (ve_op s_add (o_add false) (ve_ix ix_seq o_ix (ve_var 2 rfl (Or.inl rfl)) (ve_int) (fun _ _ => rfl)) (ve_ix ix_seq o_ix (ve_var 2 rfl (Or.inl rfl)) (ve_int) (fun _ _ => rfl))) (ve_var 2 rfl (Or.inl rfl)) (ve_int))) (vss_nil)))))) (vss_nil)) (vss_cons (vs_if (vt_cmp (s_eq hr.units) o_eq (ve_op op_mod o_mod (ve_var 0 rfl (Or.inl rfl)) (ve_int)) (ve_int) (nomark _)) (vss_cons (vs_set (i := 6) nd rfl (Or.inl rfl) (ve_lst false (va_cons (ve_str) (va_cons (ve_str) (va_cons (ve_str) (va_cons (ve_str) (va_cons (ve_str) (va_cons (ve_str) (va_cons (ve_str) (va_cons (ve_str) (va_nil)))))))))) rfl (Or.inl rfl)) (vss_cons (vs_set (i := 6) nd rfl (Or.inl rfl) (ve_op s_add (o_add false) (ve_var 6 rfl (Or.inl rfl)) (ve_lst false (va_cons (ve_str) (va_cons (ve_str) (va_cons (ve_str) (va_cons (ve_str) (va_cons (ve_str) (va_cons (ve_str) (va_cons (ve_str) (va_cons (ve_str) (va_nil))))))))))) rfl (Or.inl rfl)) (vss_one (vs_sub (ve_ix ix_seq o_ix (ve_var 6 rfl (Or.inl rfl)) (ve_op op_mod o_mod (ve_op op_fdivW o_div (ve_var 0 rfl (Or.inl rfl)) (ve_int)) (ve_int)) (fun _ _ => rfl)) (ve_var 2 rfl (Or.inl rfl)) (ve_op s_add (o_add false) (ve_int) (ve_op op_mod o_mod (ve_op op_fdivW o_div (ve_var 0 rfl (Or.inl rfl)) (ve_int)) (ve_op op_sub o_sub (ve_callB call_len o_len rfl (T.fr 8) bb_len (va_cons (ve_var 2 rfl (Or.inl rfl)) (va_nil))) (ve_int)))))))) (vss_nil)) (vss_cons (vs_set (i := 7) nd rfl (Or.inl rfl) (ve_op op_mod o_mod (ve_op op_fdivW o_div (ve_var 0 rfl (Or.inl rfl)) (ve_int)) (ve_int)) rfl (Or.inl rfl)) (vss_cons (vs_if (vt_cmp op_lt o_lt (ve_var 7 rfl (Or.inl rfl)) (ve_int) (nomark _)) (vss_one (vs_sub (ve_ix ix_seq o_ix (ve_lst false (va_cons (ve_str) (va_cons (ve_str) (va_nil)))) (ve_var 7 rfl (Or.inl rfl)) (fun _ _ => rfl)) (ve_var 2 rfl (Or.inl rfl)) (ve_int))) (vss_nil)) (vss_one (vs_ret (ve_bm PySem.F.plainAttrs_str PySem.F.slot_str_join PySem.F.type_str_join mt_join o_join (ve_str) (va_cons (ve_var 2 rfl (Or.inl rfl)) (va_nil))))))))))))))))⟩
abbrev N_law_said : List Str := ["desk", "row", "found", "e", "kinds", "others", "words"]
theorem sc_law_said : FnScope ["desk", "row", "found", "e", "kinds", "others", "words"] ["desk", "row"] (defScope s_law_said) := ⟨rfl, rfl, rfl, by decide +kernel, rfl, by decide +kernel, by decide +kernel⟩
def g_law_said : S := sTrunc (sSeq (sSet 2 (b1 (oMk true) (mCons (mC (.bl false)) (mCons (mC .non) (mNil))))) (sSeq (sCatch es 3 (sSeq (sSet 4 (b1 (oMk false) (mCons (b1 (oIsE es "NoCell") (mVar 3)) (mCons (b1 (oIsE es "NoFit") (mVar 3)) (mCons (b1 (oIsE es "NoName") (mVar 3)) (mNil)))))) (sSeq (sSet 4 (b2 (oAdd false) (mVar 4) (b1 (oMk false) (mCons (b1 (oIsE es "NoPlace") (mVar 3)) (mCons (b1 (oIsE es "NoRow") (mVar 3)) (mNil)))))) (sSeq (sSet 4 (b2 (oAdd false) (mVar 4) (b1 (oMk false) (mCons (b1 (oIsE es "NoSize") (mVar 3)) (mCons (b1 (oIsE es "NoText") (mVar 3)) (mNil)))))) (sSeq (sSet 5 (b1 (oIsET es ["NoChange", "NoLook", "NoNumber", "NoStair", "NoTable"]) (mVar 3))) (sSeq (sSet 2 (b1 (oMk true) (mCons (mC (.bl true)) (mCons (mC (.str "other")) (mNil))))) (sIf (mAnd (toB (b1 (oIsV es) (mVar 3))) (mAnd (mNot (toB (mVar 5))) (toB (b2 oEq (mMt "list" oCountB (mVar 4) (mCons (mC (.bl true)) (mNil))) (mC (.int 1)))))) (sSeq (sSet 6 (b1 (oMk false) (mCons (mC (.str "cell")) (mCons (mC (.str "fit")) (mCons (mC (.str "name")) (mCons (mC (.str "place")) (mCons (mC (.str "row")) (mCons (mC (.str "size")) (mCons (mC (.str "text")) (mNil)))))))))) (sSet 2 (b1 (oMk true) (mCons (mC (.bl true)) (mCons (b2 oIx (mVar 6) (mMt "list" oIndexB (mVar 4) (mCons (mC (.bl true)) (mNil)))) (mNil)))))) (sNil))))))) (sSub (mMeth "Desk" "say" 2 m_Desk_say (mVar 0) (mCons (mVar 1) (mNil))) (mVar 2) (mC (.int 1)) oSetL)) (sFrz 2 (sRet (mVar 2)))))
def m_law_said : MF := runF 7 g_law_said
theorem ok_law_said (T0 : Txt w K mg) : Ok P w K mg base 45 "_law_said" 2 m_law_said := by
  have T := T0.t
  obtain ⟨fd, Fn⟩ := T.def_ 44 (d := d_law_said) rfl
  have nd := sc_law_said.nd
  exact ⟨_, fd, ["desk", "row"], T.glo 99, Fn.kp, Fn.bindsN (fun _ _ _ _ _ _ us hl => match us, hl with | [_, _], _ => rfl), rfl, vfnD Fn sc_law_said rfl fun cdv A outer s H E hr => by
    have tk := tk_of (Pr := P) (w := w) (K := K) (mg := mg) (base := base) (N := ["desk", "row", "found", "e", "kinds", "others", "words"]) (qual := "_law_said") (sc := defScope s_law_said) (f := He.fAd K d_law_said.at_) (cd := cdv) (A := A) (outer := outer) (s := s) (H := H) (E := E)
    have pw := pw_of (Pr := P) (w := w) (K := K) (mg := mg) (base := base) (N := ["desk", "row", "found", "e", "kinds", "others", "words"]) (qual := "_law_said") (sc := defScope s_law_said) (f := He.fAd K d_law_said.at_) (cd := cdv) (A := A) (outer := outer) (s := s) (H := H) (E := E)
    exact vss_trunc (vss_cons (vs_set (i := 2) nd rfl (Or.inl rfl) (ve_lst true (va_cons (ve_bl) (va_cons (ve_non) (va_nil)))) rfl (Or.inl rfl)) (vss_cons (vs_catch (i := 3) T0.x rfl rfl rfl nd rfl rfl rfl (T.glo 98) (glo_es T) (fun _ _ _ tk pw => vss_one (vs_sub (ve_meth tk (ok_Desk_say T0) (hr.mono (by omega)) (ve_var 0 rfl (Or.inl rfl)) (va_cons (ve_var 1 rfl (Or.inl rfl)) (va_nil))) (ve_var 2 rfl (Or.inl rfl)) (ve_int))) (fun _ _ => vss_cons (vs_set (i := 4) nd rfl (Or.inl rfl) (ve_lst false (va_cons (ve_isE T0.x (by decide +kernel) rfl (T.fr 4) bb_isinstance rfl (T.glo 80) (ve_var 3 rfl (Or.inl rfl))) (va_cons (ve_isE T0.x (by decide +kernel) rfl (T.fr 4) bb_isinstance rfl (T.glo 84) (ve_var 3 rfl (Or.inl rfl))) (va_cons (ve_isE T0.x (by decide +kernel) rfl (T.fr 4) bb_isinstance rfl (T.glo 51) (ve_var 3 rfl (Or.inl rfl))) (va_nil))))) rfl (Or.inl rfl)) (vss_cons (vs_set (i := 4) nd rfl (Or.inl rfl) (ve_op s_add (o_add false) (ve_var 4 rfl (Or.inl rfl)) (ve_lst false (va_cons (ve_isE T0.x (by decide +kernel) rfl (T.fr 4) bb_isinstance rfl (T.glo 69) (ve_var 3 rfl (Or.inl rfl))) (va_cons (ve_isE T0.x (by decide +kernel) rfl (T.fr 4) bb_isinstance rfl (T.glo 7) (ve_var 3 rfl (Or.inl rfl))) (va_nil))))) rfl (Or.inl rfl)) (vss_cons (vs_set (i := 4) nd rfl (Or.inl rfl) (ve_op s_add (o_add false) (ve_var 4 rfl (Or.inl rfl)) (ve_lst false (va_cons (ve_isE T0.x (by decide +kernel) rfl (T.fr 4) bb_isinstance rfl (T.glo 22) (ve_var 3 rfl (Or.inl rfl))) (va_cons (ve_isE T0.x (by decide +kernel) rfl (T.fr 4) bb_isinstance rfl (T.glo 40) (ve_var 3 rfl (Or.inl rfl))) (va_nil))))) rfl (Or.inl rfl)) (vss_cons (vs_set (i := 5) nd rfl (Or.inl rfl) (ve_isET (ts := ["NoChange", "NoLook", "NoNumber", "NoStair", "NoTable"]) T0.x (by decide +kernel) (by decide) rfl (T.fr 4) bb_isinstance (pac_cons rfl (T.glo 96) (pac_cons rfl (T.glo 95) (pac_cons rfl (T.glo 57) (pac_cons rfl (T.glo 94) (pac_cons rfl (T.glo 54) (pac_nil)))))) (ve_var 3 rfl (Or.inl rfl))) rfl (Or.inl rfl)) (vss_cons (vs_set (i := 2) nd rfl (Or.inl rfl) (ve_lst true (va_cons (ve_bl) (va_cons (ve_str) (va_nil)))) rfl (Or.inl rfl)) (vss_one (vs_if (vt_w (vw_and (vt_val (ve_isV T0.x rfl (T.fr 4) bb_isinstance rfl (T.fr 97) bb_ValueError (ve_var 3 rfl (Or.inl rfl)))) (vw_and (vt_not (vt_val (ve_var 5 rfl (Or.inl rfl)))) (vw_and1 (vt_cmp (s_eq hr.units) o_eq (ve_bm PySem.F.plainAttrs_list PySem.F.slot_list_count PySem.F.type_list_count mt_cntB o_countB (ve_var 4 rfl (Or.inl rfl)) (va_cons (ve_bl) (va_nil))) (ve_int) (nomark _)))))) (vss_cons (vs_set (i := 6) nd rfl (Or.inl rfl) (ve_lst false (va_cons (ve_str) (va_cons (ve_str) (va_cons (ve_str) (va_cons (ve_str) (va_cons (ve_str) (va_cons (ve_str) (va_cons (ve_str) (va_nil))))))))) rfl (Or.inl rfl)) (vss_one (vs_set (i := 2) nd rfl (Or.inl rfl) (ve_lst true (va_cons (ve_bl) (va_cons (ve_ix ix_seq o_ix (ve_var 6 rfl (Or.inl rfl)) (ve_bm PySem.F.plainAttrs_list PySem.F.slot_list_index PySem.F.type_list_index mt_index o_indexB (ve_var 4 rfl (Or.inl rfl)) (va_cons (ve_bl) (va_nil))) (fun _ _ => rfl)) (va_nil)))) rfl (Or.inl rfl)))) (vss_nil))))))))) (vss_frz 2 (vss_one (vs_ret (ve_var 2 rfl (Or.inl rfl)))))))⟩
abbrev N_Desk_names : List Str := ["self"]
theorem sc_Desk_names : FnScope ["self"] ["self"] (defScope s_Desk_names) := ⟨rfl, rfl, rfl, by decide +kernel, rfl, by decide +kernel, by decide +kernel⟩
def g_Desk_names : S := sRet (b1 (oSortD false) (mCons (b1 (oFld "Desk" "tables") (mVar 0)) (mNil)))
def m_Desk_names : MF := runF 1 g_Desk_names
theorem ok_Desk_names (T0 : Txt w K mg) : OkM P w K mg base 1 "Desk" "names" 1 m_Desk_names := by
  have T := T0.t
  obtain ⟨fd, Fn⟩ := T.def_ 45 (d := d_Desk_names) rfl
  have nd := sc_Desk_names.nd
  exact ⟨_, fd, ["self"], T.glo 0, T.cls 1, T.meth 100, Fn.bindsN (fun _ _ _ _ _ _ us hl => match us, hl with | [_], _ => rfl), rfl, vfnD Fn sc_Desk_names rfl fun cdv A outer s H E hr => by
    have tk := tk_of (Pr := P) (w := w) (K := K) (mg := mg) (base := base) (N := ["self"]) (qual := "Desk.names") (sc := defScope s_Desk_names) (f := He.fAd K d_Desk_names.at_) (cd := cdv) (A := A) (outer := outer) (s := s) (H := H) (E := E)
    have pw := pw_of (Pr := P) (w := w) (K := K) (mg := mg) (base := base) (N := ["self"]) (qual := "Desk.names") (sc := defScope s_Desk_names) (f := He.fAd K d_Desk_names.at_) (cd := cdv) (A := A) (outer := outer) (s := s) (H := H) (E := E)
    exact vss_one (vs_ret (ve_callB (call_sortedD rfl) (o_sortD false) rfl (T.fr 66) bb_sorted (va_cons (ve_fld (T.glo 0) (T.cls 1) (T.noat 2) (ve_var 0 rfl (Or.inl rfl))) (va_nil))))⟩
def g_Desk_namesC : S := sRet (b1 (oSortD true) (mCons (b1 (oFld "Desk" "tables") (mVar 0)) (mNil)))
def m_Desk_namesC : MF := runF 1 g_Desk_namesC
theorem ok_Desk_namesC (T0 : Txt w K mg) : OkM P w K mg base 1 "Desk" "names" 1 m_Desk_namesC := by
  have T := T0.t
  obtain ⟨fd, Fn⟩ := T.def_ 45 (d := d_Desk_names) rfl
  have nd := sc_Desk_names.nd
  exact ⟨_, fd, ["self"], T.glo 0, T.cls 1, T.meth 100, Fn.bindsN (fun _ _ _ _ _ _ us hl => match us, hl with | [_], _ => rfl), rfl, vfnD Fn sc_Desk_names rfl fun cdv A outer s H E hr => by
    have tk := tk_of (Pr := P) (w := w) (K := K) (mg := mg) (base := base) (N := ["self"]) (qual := "Desk.names") (sc := defScope s_Desk_names) (f := He.fAd K d_Desk_names.at_) (cd := cdv) (A := A) (outer := outer) (s := s) (H := H) (E := E)
    have pw := pw_of (Pr := P) (w := w) (K := K) (mg := mg) (base := base) (N := ["self"]) (qual := "Desk.names") (sc := defScope s_Desk_names) (f := He.fAd K d_Desk_names.at_) (cd := cdv) (A := A) (outer := outer) (s := s) (H := H) (E := E)
    exact vss_one (vs_ret (ve_callB (call_sortedD rfl) (o_sortD true) rfl (T.fr 66) bb_sorted (va_cons (ve_fld (T.glo 0) (T.cls 1) (T.noat 2) (ve_var 0 rfl (Or.inl rfl))) (va_nil))))⟩
abbrev N_law : List Str := ["script", "desk", "other", "tables", "name", "held", "every", "thing", "k", "cell", "row", "due", "told", "rows"]
theorem sc_law : FnScope ["script", "desk", "other", "tables", "name", "held", "every", "thing", "k", "cell", "row", "due", "told", "rows"] ["script"] (defScope s_law) := ⟨rfl, rfl, rfl, by decide +kernel, rfl, by decide +kernel, by decide +kernel⟩
def g_law : S := sTrunc (sSeq (sSet 1 (mMake "Desk" 1 m_Desk___init__ mNil)) (sSeq (sSet 2 (mMake "Desk" 1 m_Desk___init__ mNil)) (sSeq (sSet 3 (mC (.dkf [("a", "1 3/2 5"), ("abcdefgh", "1 1 1/1 1 1"), ("b", "7")]))) (sSeq (sFor (b1 oSrcKF (mVar 3)) (tgName 4) (sExpr (mMeth "Desk" "say" 2 m_Desk_say (mVar 1) (mCons (b2 (oAdd false) (b2 (oAdd false) (b2 (oAdd false) (mC (.str "table ")) (mVar 4)) (mC (.str " "))) (b2 oDGetF (mVar 3) (mVar 4))) (mNil))))) (sSeq (sSet 5 (b1 (oMk true) (mNil))) (sSeq (sSet 6 (b2 (oAdd true) (mLc false [10] (b1 oSrcL ((fun _ G => m_law_none [] G))) (tgName 10) (mYes) (b1 oTup (mCons (mVar 10) (mCons (mC (.str "row")) (mNil))))) ((fun _ G => m_law_others [] G)))) (sSeq (sFor (b1 oSrcL (b1 (oMk false) (mCons (mC .non) (mCons (mC (.int 0)) (mCons (b1 (oMk false) (mCons (mC (.str "show a")) (mNil))) (mCons (mC (.bl true)) (mCons (b1 oTup (mCons (mC (.str "show")) (mCons (mC (.str "a")) (mNil)))) (mCons (mC .dct0) (mNil))))))))) (tgName 7) (sExpr (mMt "list" oAppend (mVar 6) (mCons (b1 oTup (mCons (mVar 7) (mCons (mC (.str "row")) (mNil)))) (mNil))))) (sSeq (sFor (b1 oRng1 (mCons (b1 oMax (mCons (mC (.int 24)) (mCons (b1 oMin (mCons (b1 oLen (mCons (mVar 0) (mNil))) (mCons (mC (.int 63)) (mNil)))) (mNil)))) (mNil))) (tgName 8) (sTrunc (sSeq (sSet 9 (mCall 2 m_law_cell (mCons (mVar 0) (mCons (mVar 8) (mNil))))) (sSeq (sAsg (b2 oIx (mVar 6) (b2 (oMod) (mVar 9) (b1 oLen (mCons (mVar 6) (mNil))))) (tgTup (tgCons (tgName 10) (tgCons (tgName 11) tgNil)) 2)) (sSeq (sIf (toB (b2 oEq (b2 (oMod) (b2 (oDiv) (mVar 9) (b1 oLen (mCons (mVar 6) (mNil)))) (mC (.int 3))) (mC (.int 1)))) (sPar 10 11 (mCons (mCall 1 m_law_spoilt (mCons (b2 (oDiv) (b1 oAbs (mCons (mVar 9) (mNil))) (b2 (oMul false) (mC (.int 3)) (b1 oLen (mCons (mVar 6) (mNil))))) (mNil))) (mCons (mC (.str "row")) mNil))) (sNil)) (sSeq (sIf (mOr (toB (b2 oNe (mCall 2 m_law_said (mCons (mVar 1) (mCons (mVar 10) (mNil)))) (b1 (oMk false) (mCons (mC (.bl true)) (mCons (mVar 11) (mNil)))))) (toB (b2 oNe (mMeth "Desk" "names" 1 m_Desk_names (mVar 2) mNil) (b1 (oMk false) (mNil))))) (sRet (mC (.bl false))) (sNil)) (sSeq (sSet 12 (mMeth "Desk" "names" 1 m_Desk_namesC (mVar 1) mNil)) (sSeq (sIf (toB (b2 oNe (mVar 12) (b1 (oMk false) (mCons (mC (.str "a")) (mCons (mC (.str "abcdefgh")) (mCons (mC (.str "b")) (mNil))))))) (sRet (mC (.bl false))) (sNil)) (sSeq (sFor (b1 oSrcKF (mVar 3)) (tgName 4) (sIf (toB (b2 oNe (mMeth "Desk" "say" 2 m_Desk_say (mVar 1) (mCons (b2 (oAdd false) (mC (.str "show ")) (mVar 4)) (mNil))) (b2 oDGetF (mVar 3) (mVar 4)))) (sRet (mC (.bl false))) (sNil))) (sSeq (sIf (mAnd (toB (b2 oNe (mVar 5) (b1 (oMk false) (mNil)))) (toB (b2 oNe (b2 oIx (mVar 5) (b1 oNeg (mC (.int 1)))) (b1 (oMk false) (mCons (mC (.str "a")) (mCons (mC (.str "abcdefgh")) (mCons (mC (.str "b")) (mCons (mC (.str "c")) (mNil))))))))) (sRet (mC (.bl false))) (sNil)) (sSeq (sExpr (mMt "list" oAppend (mVar 12) (mCons (mC (.str "c")) (mNil)))) (sFrz 12 (sExpr (mMt "list" oAppend (mVar 5) (mCons (mVar 12) (mNil)))))))))))))))) (sSeq (sSet 13 (b1 (oMk false) (mCons (mC (.str "find a 2")) (mCons (mC (.str "find a 4")) (mCons (mC (.str "stair a 3")) (mCons (mC (.str "walk a 2")) (mCons (mC (.str "below a 5")) (mNil)))))))) (sSeq (sSet 13 (b2 (oAdd false) (mVar 13) (b1 (oMk false) (mCons (mC (.str "nth a 2")) (mCons (mC (.str "looks 2 2")) (mCons (mC (.str "looks 1 1")) (mCons (mC (.str "find abcdefgh 2")) (mNil)))))))) (sSeq (sSet 12 (mLc true [10] (b1 oSrcL (mVar 13)) (tgName 10) (mYes) (mMeth "Desk" "say" 2 m_Desk_say (mVar 1) (mCons (mVar 10) (mNil))))) (sRet (b2 oEq (mVar 12) (b1 (oMk false) (mCons (mC (.str "1:0")) (mCons (mC (.str "none")) (mCons (mC (.str "1 1")) (mCons (mC (.str "0:1 0:0 1:0")) (mCons (mC (.str "3")) (mCons (mC (.str "3")) (mCons (mC (.str "3")) (mCons (mC (.str "1")) (mCons (mC (.str "none")) (mNil))))))))))))))))))))))))
def m_law : MF := runF 14 g_law
theorem fn_law (T0 : Txt w K mg) {fd : FuncData} (Fn : FunD K d_law.name d_law.qual d_law.params d_law.body d_law.scope (d_law.dvs K) (d_law.kws K) (He.fAd K d_law.at_) fd) :
    FnOk P w K mg base (L2.CX P w) 46 (He.fAd K d_law.at_) fd ["script"] (spD K mg 1 m_law) := by
  have T := T0.t
  have nd := sc_law.nd
  exact vfnD Fn sc_law rfl fun cdv A outer s H E hr => by
    have tk := tk_of (Pr := P) (w := w) (K := K) (mg := mg) (base := base) (N := ["script", "desk", "other", "tables", "name", "held", "every", "thing", "k", "cell", "row", "due", "told", "rows"]) (qual := "law") (sc := defScope s_law) (f := He.fAd K d_law.at_) (cd := cdv) (A := A) (outer := outer) (s := s) (H := H) (E := E)
    have pw := pw_of (Pr := P) (w := w) (K := K) (mg := mg) (base := base) (N := ["script", "desk", "other", "tables", "name", "held", "every", "thing", "k", "cell", "row", "due", "told", "rows"]) (qual := "law") (sc := defScope s_law) (f := He.fAd K d_law.at_) (cd := cdv) (A := A) (outer := outer) (s := s) (H := H) (E := E)
    exact vss_trunc (vss_cons (vs_set (i := 1) nd rfl (Or.inr rfl) (ve_make0 tk (ok_Desk___init__ T0) (hr.mono (by omega)) rfl) rfl (Or.inl rfl)) (vss_cons (vs_set (i := 2) nd rfl (Or.inl rfl) (ve_make0 tk (ok_Desk___init__ T0) (hr.mono (by omega)) rfl) rfl (Or.inl rfl)) (vss_cons (vs_set (i := 3) nd rfl (Or.inl rfl) (ve_dispF (kvs := [("a", "1 3/2 5"), ("abcdefgh", "1 1 1/1 1 1"), ("b", "7")]) (pps_cons pe_str pe_str (pps_cons pe_str pe_str (pps_cons pe_str pe_str (pps_nil)))) rfl rfl (by simp) (by decide) (by decide) rfl) rfl (Or.inl rfl)) (vss_cons (vs_for pw rfl (vi_keysF (ve_var 3 rfl (Or.inl rfl))) (vg_name (i := 4) nd rfl (Or.inl rfl) (Or.inl rfl)) (vss_one (vs_expr (ve_meth tk (ok_Desk_say T0) (hr.mono (by omega)) (ve_var 1 rfl (Or.inr (Or.inl rfl))) (va_cons (ve_op s_add (o_add false) (ve_op s_add (o_add false) (ve_op s_add (o_add false) (ve_str) (ve_var 4 rfl (Or.inl rfl))) (ve_str)) (ve_ix (ix_dict hr.units) o_dgetF (ve_var 3 rfl (Or.inl rfl)) (ve_var 4 rfl (Or.inl rfl)) (fun _ _ => rfl))) (va_nil)))))) (vss_cons (vs_set (i := 5) nd rfl (Or.inl rfl) (ve_lst true (va_nil)) rfl (Or.inl rfl)) (vss_cons (vs_set (i := 6) nd rfl (Or.inl rfl) (ve_op s_add (o_add true) (ve_lc false (own := [("row", 10)]) rfl nd (vi_list (ve_callK0 tk (ok_law_none T0) (hr.mono (by omega)) rfl)) (blkOk_by (N := N_law) (sc := defScope s_law) (own := [("row", 10)]) (by decide +kernel)) (by decide) (fun _ _ _ _ _ => vg_name (i := 10) nd rfl (Or.inl rfl) (Or.inr rfl)) (fun _ _ _ _ _ => vts_nil) (fun _ _ _ _ _ => ve_tup (va_cons (ve_var 10 rfl (Or.inl rfl)) (va_cons (ve_str) (va_nil))))) (ve_callK0 tk (ok_law_others T0) (hr.mono (by omega)) rfl)) rfl (Or.inl rfl)) (vss_cons (vs_for pw rfl (vi_list (ve_lst false (va_cons (ve_non) (va_cons (ve_int) (va_cons (ve_lst false (va_cons (ve_str) (va_nil))) (va_cons (ve_bl) (va_cons (ve_tup (va_cons (ve_str) (va_cons (ve_str) (va_nil)))) (va_cons (ve_dct0) (va_nil))))))))) (vg_name (i := 7) nd rfl (Or.inl rfl) (Or.inl rfl)) (vss_one (vs_expr (ve_bm PySem.F.plainAttrs_list PySem.F.slot_list_append PySem.F.type_list_append mt_append o_append (ve_var 6 rfl (Or.inl rfl)) (va_cons (ve_tup (va_cons (ve_var 7 rfl (Or.inl rfl)) (va_cons (ve_str) (va_nil)))) (va_nil)))))) (vss_cons (vs_for pw rfl (vi_rng1 rfl (T.fr 27) (va_cons (ve_callB (s_max rfl) o_max rfl (T.fr 30) bb_max (va_cons (ve_int) (va_cons (ve_callB (s_min rfl) o_min rfl (T.fr 29) bb_min (va_cons (ve_callB call_len o_len rfl (T.fr 8) bb_len (va_cons (ve_var 0 rfl (Or.inl rfl)) (va_nil))) (va_cons (ve_int) (va_nil)))) (va_nil)))) (va_nil))) (vg_name (i := 8) nd rfl (Or.inl rfl) (Or.inl rfl)) (vss_trunc (vss_cons (vs_set (i := 9) nd rfl (Or.inl rfl) (ve_callK tk (ok_law_cell T0) (hr.mono (by omega)) rfl (va_cons (ve_var 0 rfl (Or.inl rfl)) (va_cons (ve_var 8 rfl (Or.inl rfl)) (va_nil)))) rfl (Or.inl rfl)) (vss_cons (vs_asg (ve_ix ix_seq o_ix (ve_var 6 rfl (Or.inl rfl)) (ve_op op_mod o_mod (ve_var 9 rfl (Or.inl rfl)) (ve_callB call_len o_len rfl (T.fr 8) bb_len (va_cons (ve_var 6 rfl (Or.inl rfl)) (va_nil)))) (fun _ _ => rfl)) (vg_tup rfl (vgs_cons (vg_name (i := 10) nd rfl (Or.inl rfl) (Or.inl rfl)) (vgs_cons (vg_name (i := 11) nd rfl (Or.inl rfl) (Or.inl rfl)) (vgs_nil))))) (vss_cons (vs_if (vt_cmp (s_eq hr.units) o_eq (ve_op op_mod o_mod (ve_op op_fdivW o_div (ve_var 9 rfl (Or.inl rfl)) (ve_callB call_len o_len rfl (T.fr 8) bb_len (va_cons (ve_var 6 rfl (Or.inl rfl)) (va_nil)))) (ve_int)) (ve_int) (nomark _)) (vss_one (vs_par (i := 10) (j := 11) rfl nd rfl rfl (by decide) rfl rfl (va_cons (ve_callK tk (ok_law_spoilt T0) (hr.mono (by omega)) rfl (va_cons (ve_op op_fdivW o_div (ve_callB call_abs o_abs rfl (T.fr 93) bb_abs (va_cons (ve_var 9 rfl (Or.inl rfl)) (va_nil))) (ve_op s_mul (o_mul false) (ve_int) (ve_callB call_len o_len rfl (T.fr 8) bb_len (va_cons (ve_var 6 rfl (Or.inl rfl)) (va_nil))))) (va_nil))) (va_cons (ve_str) va_nil)) (by rfl))) (vss_nil)) (vss_cons (vs_if (vt_w (vw_or (vt_cmp (s_ne hr.units) o_ne (ve_callK tk (ok_law_said T0) (hr.mono (by omega)) rfl (va_cons (ve_var 1 rfl (Or.inr (Or.inl rfl))) (va_cons (ve_var 10 rfl (Or.inl rfl)) (va_nil)))) (ve_lst false (va_cons (ve_bl) (va_cons (ve_var 11 rfl (Or.inl rfl)) (va_nil)))) (nomark _)) (vw_or1 (vt_cmp (s_ne hr.units) o_ne (ve_meth0 tk (ok_Desk_names T0) (hr.mono (by omega)) (ve_var 2 rfl (Or.inl rfl))) (ve_lst false (va_nil)) (nomark _))))) (vss_one (vs_ret (ve_bl))) (vss_nil)) (vss_cons (vs_set (i := 12) nd rfl (Or.inl rfl) (ve_meth0 tk (ok_Desk_namesC T0) (hr.mono (by omega)) (ve_var 1 rfl (Or.inr (Or.inl rfl)))) rfl (Or.inl rfl)) (vss_cons (vs_if (vt_cmp (s_ne hr.units) o_ne (ve_var 12 rfl (Or.inl rfl)) (ve_lst false (va_cons (ve_str) (va_cons (ve_str) (va_cons (ve_str) (va_nil))))) (nomark _)) (vss_one (vs_ret (ve_bl))) (vss_nil)) (vss_cons (vs_for pw rfl (vi_keysF (ve_var 3 rfl (Or.inl rfl))) (vg_name (i := 4) nd rfl (Or.inl rfl) (Or.inl rfl)) (vss_one (vs_if (vt_cmp (s_ne hr.units) o_ne (ve_meth tk (ok_Desk_say T0) (hr.mono (by omega)) (ve_var 1 rfl (Or.inr (Or.inl rfl))) (va_cons (ve_op s_add (o_add false) (ve_str) (ve_var 4 rfl (Or.inl rfl))) (va_nil))) (ve_ix (ix_dict hr.units) o_dgetF (ve_var 3 rfl (Or.inl rfl)) (ve_var 4 rfl (Or.inl rfl)) (fun _ _ => rfl)) (nomark _)) (vss_one (vs_ret (ve_bl))) (vss_nil)))) (vss_cons (vs_if (vt_w (vw_and (vt_cmp (s_ne hr.units) o_ne (ve_var 5 rfl (Or.inl rfl)) (ve_lst false (va_nil)) (nomark _)) (vw_and1 (vt_cmp (s_ne hr.units) o_ne (ve_ix ix_seq o_ix (ve_var 5 rfl (Or.inl rfl)) (ve_neg (ve_int)) (fun _ _ => rfl)) (ve_lst false (va_cons (ve_str) (va_cons (ve_str) (va_cons (ve_str) (va_cons (ve_str) (va_nil)))))) (nomark _))))) (vss_one (vs_ret (ve_bl))) (vss_nil)) (vss_cons (vs_expr (ve_bm PySem.F.plainAttrs_list PySem.F.slot_list_append PySem.F.type_list_append mt_append o_append (ve_var 12 rfl (Or.inl rfl)) (va_cons (ve_str) (va_nil)))) (vss_frz 12 (vss_one (vs_expr (ve_bm PySem.F.plainAttrs_list PySem.F.slot_list_append PySem.F.type_list_append mt_append o_append (ve_var 5 rfl (Or.inl rfl)) (va_cons (ve_var 12 rfl (Or.inl rfl)) (va_nil))))))))))))))))) (vss_cons (vs_set (i := 13) nd rfl (Or.inl rfl) (ve_lst false (va_cons (ve_str) (va_cons (ve_str) (va_cons (ve_str) (va_cons (ve_str) (va_cons (ve_str) (va_nil))))))) rfl (Or.inl rfl)) (vss_cons (vs_set (i := 13) nd rfl (Or.inl rfl) (ve_op s_add (o_add false) (ve_var 13 rfl (Or.inl rfl)) (ve_lst false (va_cons (ve_str) (va_cons (ve_str) (va_cons (ve_str) (va_cons (ve_str) (va_nil))))))) rfl (Or.inl rfl)) (vss_cons (vs_setLc true (i := 12) (own := [("row", 10)]) rfl nd rfl rfl (sw_true rfl rfl rfl (by decide +kernel)) (vi_list (ve_var 13 rfl (Or.inl rfl))) (blkOk_by (N := N_law) (sc := defScope s_law) (own := [("row", 10)]) (by decide +kernel)) (by decide) (fun _ _ _ _ _ => vg_name (i := 10) nd rfl (Or.inl rfl) (Or.inr rfl)) (fun _ _ _ _ _ => vts_nil) (fun _ _ _ _ _ => ve_meth takes0 (ok_Desk_say T0) (hr.mono (by omega)) (ve_var 1 rfl (Or.inr (Or.inl rfl))) (va_cons (ve_var 10 rfl (Or.inl rfl)) (va_nil)))) (vss_one (vs_ret (ve_cmp (s_eq hr.units) o_eq (ve_var 12 rfl (Or.inl rfl)) (ve_lst false (va_cons (ve_str) (va_cons (ve_str) (va_cons (ve_str) (va_cons (ve_str) (va_cons (ve_str) (va_cons (ve_str) (va_cons (ve_str) (va_cons (ve_str) (va_cons (ve_str) (va_nil))))))))))) (nomark _)))))))))))))))
end
end Lk37

open PySem L2 VL

namespace Lk37
end Lk37
open PySem L2 VL
local macro_rules | `(tactic| walk_at "v") => `(tactic| with_reducible first
  | refine e_seq ?_ | refine e_set ?_ | refine e_b2 ?_ | refine e_b1 ?_ | refine e_mC ?_ | refine e_var rfl ?_
  | refine e_add ?_ | refine e_sub ?_ | refine e_mod (by first | decide | omega) ?_ | refine e_div (cDiv_of (by omega) (by omega)) ?_ | refine e_mul (by first | exact .inr (by decide) | exact .inl (by decide) | exact .inl (small64_of (by omega) (by omega)) | exact .inr (small64_of (by omega) (by omega))) ?_
  | refine e_lt ?_ | refine e_le ?_ | refine e_gt ?_ | refine e_ge ?_ | refine e_eqI ?_ | refine e_neI ?_ | refine e_toB ?_ | refine e_oB ?_ | refine e_if ?_ | refine e_ret ?_ | refine e_cons ?_ | refine e_nil ?_ | refine e_call ?_ | refine e_sNil ?_
  | refine e_sSub ?_ | refine e_expr ?_ | refine e_mt ?_ | refine e_not ?_ | refine e_and ?_ | refine e_or ?_ | refine e_andV ?_ | refine e_orV ?_ | refine e_onB ?_ | refine e_oNot ?_ | refine e_chain ?_ | refine e_ifE ?_ | refine e_yes ?_ | refine e_sl ?_
  | refine e_noPt ?_ | refine e_oPt ?_ | refine e_for ?_ | refine e_runF ?_ | refine e_trunc ?_
  | refine e_ix (by with_unfolding_all rfl) ?_ | refine e_st (by with_unfolding_all rfl) ?_ | refine e_mk (by with_unfolding_all rfl) ?_ | refine e_isi (by with_unfolding_all rfl) ?_ | refine e_int (by with_unfolding_all rfl) ?_ | refine e_len (by with_unfolding_all rfl) ?_ | refine e_app (by with_unfolding_all rfl) ?_ | refine e_pow (by with_unfolding_all rfl) ?_ | refine e_isN (by with_unfolding_all rfl) ?_ | refine e_notN (by with_unfolding_all rfl) ?_
  | refine e_neg ?_ | refine e_rng1 (by omega) ?_ | refine e_rng2 (by omega) ?_ | refine ⟨rfl, ?_⟩ | refine e_bind ?_
  | refine e_aug rfl ?_ | refine e_oI ?_ | refine e_max2 ?_ | refine e_min2 ?_
  | refine e_retN ?_ | refine e_raise ?_ | refine e_asg ?_ | refine e_par ?_)
local macro_rules | `(tactic| walk_at "w") => `(tactic| first | walk_at "v" | with_reducible refine e_ifF ?_ | with_reducible refine e_ifT ?_ | with_reducible refine e_ifNT ?_ | with_reducible refine e_ifNF ?_)
local macro_rules | `(tactic| walk_at "u") => `(tactic| first | walk_at "w" | with_reducible refine e_iteF (by decide) ?_ | with_reducible refine e_iteT (by decide) ?_ | with_reducible refine e_tup2 ?_ | with_reducible refine e_tup3 ?_ | with_reducible refine e_neB ?_)

namespace Lk37
theorem whole_int (i : Int) (G : GH) : m_is_whole [.int i] G = .ok (.bl true) G := rfl
theorem rises_ok {G : GH} {d : D} {r : List Int} (hd : lstOf G d = some (r.map D.int)) (hr : Up r) (hl : r.length ≤ 1000) : m_rises [d] G = .ok (.bl true) G := by
  refine Out.P.eq ?_
  unfold m_rises
  refine e_runF ?_
  unfold g_rises
  refine e_ret (e_b2 ?_)
  have hlen : oLen [d] G = .ok (.int (r.length : Nat)) G := by rw [len_of hd, List.length_map]
  have hsrc : (b1 oRng2 (mCons (mC (.int 1)) (mCons (b1 oLen (mCons (mVar 0) (mNil))) (mNil)))) (startD 2 [d]) G = .ok (srcC (rngL 1 ((r.length : Int) - 1).toNat)) G := by
    refine Out.P.eq ?_
    repeat walk_at "v"
    refine e_len hlen ?_
    repeat walk_at "v"
    rfl
  rw [lc_pure (L := rngL 1 ((r.length : Int) - 1).toNat) hsrc (fun _ => rfl) (Nat.le_refl _) (by rw [rngL_len]; show _ ≤ 2 ^ 24; omega) (fun _ => false) (fun x => x)]
  · rw [show (rngL 1 ((r.length : Int) - 1).toNat).filter (fun _ => false) = [] by simp]
    exact ⟨rfl, rfl⟩
  · intro x hx
    obtain ⟨i, hi⟩ := List.mem_iff_getElem?.mp hx
    obtain ⟨hi2, rfl⟩ := rngL_at hi
    refine ⟨_, rfl, ?_, fun z => Bool.noConfusion z⟩
    obtain ⟨x, y, e1, e2, e3⟩ := lt_fact hr (k := 1 + i) (by omega) (by omega)
    refine Out.P.eq ?_
    repeat walk_at "v"
    refine e_ix (ix_of hd (by omega) (ints_get e1)) ?_
    repeat walk_at "v"
    refine e_ix (ix_of hd (by omega) (ints_get e2)) ?_
    repeat walk_at "v"
    exact ⟨decide_eq_false (by omega), rfl⟩

theorem cmpNum_ok {G : GH} {d : D} {r : List Int} (hd : lstOf G d = some (r.map D.int)) (hl : r.length ≤ 1000) {rh : DEnv} (h1 : rh[1]? = some (some d)) (h2 : 2 < rh.length) :
    (mLc false [2] (b1 oSrcL (mVar 1)) (tgName 2) (mNot (toB (mCall 1 m_is_whole (mCons (mVar 2) (mNil))))) (mVar 2)) rh G = .ok (.lst []) G := by
  refine Out.P.eq ?_
  refine lc_list (d := d) (by unfold mVar; rw [h1]) hd (by rw [List.length_map]; show _ ≤ 2 ^ 24; omega) (fun _ => false) (fun x => x) ?_ ?_
  · intro x hx
    obtain ⟨i, _, rfl⟩ := List.mem_map.mp hx
    refine ⟨_, rfl, ?_, fun z => Bool.noConfusion z⟩
    refine Out.P.eq ?_
    have hv : ((wipeD rh [2]).set 2 (some (D.int i)))[2]? = some (some (.int i)) := by
      have hw : 2 < (wipeD rh [2]).length := by
        unfold wipeD; simp [wipeD]; exact h2
      rw [List.getElem?_set_self hw]
    refine e_not (e_toB (e_call (e_cons (e_var hv (e_nil ⟨rfl, ?_⟩)))))
    rw [whole_int]
    exact ⟨rfl, rfl⟩
  · rw [show (r.map D.int).filter (fun _ => false) = [] by simp]
    exact ⟨rfl, rfl⟩
theorem rows_ok {G : GH} {d : D} {w : Nat} {T : List (List Int)} (hd : IsTab G d T) (hT : Tab w T) : m_are_rows [d] G = .ok (.bl true) G := by
  obtain ⟨rows, e1, e2, e3⟩ := hd.ex
  have h1 := hT.h1
  have h6 := hT.h6
  refine Out.P.eq ?_
  unfold m_are_rows
  refine e_runF ?_
  unfold g_are_rows
  repeat walk_at "v"
  refine e_isi (isi_list e1) ?_
  repeat walk_at "v"
  refine e_iteF (by decide) ?_
  repeat walk_at "v"
  refine e_len (len_of (lstOf_of e1)) ?_
  repeat walk_at "v"
  rw [decide_eq_true (by omega)]
  refine e_iteT rfl ?_
  repeat walk_at "v"
  rw [decide_eq_true (by omega)]
  refine e_iteF (by decide) ?_
  repeat walk_at "v"
  refine e_ok (oSrcL_of (lstOf_of e1)) ?_
  refine listL_P (fun _ rh G' => G = G' ∧ ∃ x y, rh = [some d, x, y]) (fun i rh G' z => by rw [← z.1]; exact lstOf_of e1) ?_ ⟨rfl, _, _, rfl⟩ ?_
  · rintro i x rh _ hx ⟨rfl, u, v, rfl⟩
    refine ⟨_, rfl, ?_⟩
    have hi : i < T.length := by rw [← e2]; exact (List.getElem?_eq_some_iff.mp hx).1
    obtain ⟨x', f1, f2⟩ := e3 i T[i] (List.getElem?_eq_getElem hi)
    rw [hx] at f1
    cases f1
    obtain ⟨x0, g1, g2⟩ := e3 0 T[0] (List.getElem?_eq_getElem (by omega))
    have w0 := hT.wide T[0] (List.getElem_mem _)
    have wi := hT.wide T[i] (List.getElem_mem hi)
    have hw1 := hT.w1
    have hw6 := hT.w6
    have L1 : oLen [x] G = .ok (.int (w : Nat)) G := by rw [len_of (lstOf_of f2), List.length_map, wi]
    have L0 : oLen [x0] G = .ok (.int (w : Nat)) G := by rw [len_of (lstOf_of g2), List.length_map, w0]
    repeat walk_at "v"
    refine e_isi (isi_list f2) ?_
    repeat walk_at "v"
    refine e_iteF (by decide) ?_
    repeat walk_at "v"
    refine e_len L1 ?_
    repeat walk_at "v"
    rw [decide_eq_true (by omega)]
    refine e_iteT rfl ?_
    repeat walk_at "v"
    rw [decide_eq_true (by omega)]
    refine e_iteF (by decide) ?_
    repeat walk_at "v"
    refine e_len L1 ?_
    repeat walk_at "v"
    refine e_ix (ix_of (lstOf_of e1) (by decide) g1) ?_
    repeat walk_at "v"
    refine e_len L0 ?_
    repeat walk_at "v"
    rw [decide_eq_true rfl]
    refine e_iteF (by decide) ?_
    repeat walk_at "v"
    refine e_ok (cmpNum_ok (lstOf_of f2) (by omega) rfl (by simp)) ?_
    repeat walk_at "v"
    refine e_ne (b := true) rfl ?_
    repeat walk_at "v"
    refine e_iteF (by decide) ?_
    repeat walk_at "v"
    exact ⟨_, _, rfl⟩
  · rintro rh _ ⟨rfl, x, y, rfl⟩
    repeat walk_at "v"
    rfl
theorem table_ok {G : GH} {d : D} {w : Nat} {T : List (List Int)} (hd : IsTab G d T) (hT : Tab w T) : m_is_table [d] G = .ok (.bl true) G := by
  obtain ⟨rows, e1, e2, e3⟩ := hd.ex
  have h1 := hT.h1
  have h6 := hT.h6
  have hw6 := hT.w6
  have key : ∀ (i : Nat) x, rows[i]? = some x → ∃ r : List Int, T[i]? = some r ∧ lstO G x = some (r.map D.int) := by
    intro i x hx
    have hi : i < T.length := by rw [← e2]; exact (List.getElem?_eq_some_iff.mp hx).1
    obtain ⟨x', f1, f2⟩ := e3 i T[i] (List.getElem?_eq_getElem hi)
    rw [hx] at f1
    cases f1
    exact ⟨_, List.getElem?_eq_getElem hi, f2⟩
  refine Out.P.eq ?_
  unfold m_is_table
  refine e_runF ?_
  unfold g_is_table
  repeat walk_at "v"
  refine e_ok (rows_ok hd hT) ?_
  repeat walk_at "v"
  refine e_iteF (by decide) ?_
  repeat walk_at "v"
  refine lc_list (d := d) rfl (lstOf_of e1) (by show _ ≤ 2 ^ 24; omega) (fun _ => false) (fun x => x) ?_ ?_
  · intro x hx
    obtain ⟨i, hi⟩ := List.mem_iff_getElem?.mp hx
    obtain ⟨r, hr, f2⟩ := key i x hi
    refine ⟨_, rfl, ?_, fun z => Bool.noConfusion z⟩
    refine Out.P.eq ?_
    have hm := List.mem_of_getElem? hr
    have hw := hT.wide r hm
    repeat walk_at "v"
    refine e_ok (rises_ok (lstOf_of f2) (hT.right r hm) (by omega)) ?_
    repeat walk_at "v"
    rfl
  rw [show rows.filter (fun _ => false) = [] by simp]
  refine e_mkF ?_
  repeat walk_at "v"
  refine e_ne (b := true) rfl ?_
  repeat walk_at "v"
  refine e_iteF (by decide) ?_
  repeat walk_at "v"
  obtain ⟨x0, g1, g2⟩ := e3 0 T[0] (List.getElem?_eq_getElem (by omega))
  have w0 := hT.wide T[0] (List.getElem_mem _)
  have L0 : oLen [x0] G = .ok (.int (w : Nat)) G := by rw [len_of (lstOf_of g2), List.length_map, w0]
  have hsrc : (b1 oRng1 (mCons (b1 oLen (mCons (b2 oIx (mVar 0) (mC (.int 0))) (mNil))) (mNil))) (startD 3 [d]) G = .ok (srcC (rngL 0 w)) G := by
    refine Out.P.eq ?_
    repeat walk_at "v"
    refine e_ix (ix_of (lstOf_of e1) (by decide) g1) ?_
    repeat walk_at "v"
    refine e_len L0 ?_
    repeat walk_at "v"
    rfl
  rw [lc_pure (L := rngL 0 w) hsrc (fun _ => rfl) (Nat.le_refl _) (by rw [rngL_len]; show _ ≤ 2 ^ 24; omega) (fun _ => false) (fun x => x)]
  · rw [show (rngL 0 w).filter (fun _ => false) = [] by simp]
    exact ⟨rfl, rfl⟩
  · intro x hx
    obtain ⟨i, hi⟩ := List.mem_iff_getElem?.mp hx
    obtain ⟨hi2, rfl⟩ := rngL_at hi
    refine ⟨_, rfl, ?_, fun z => Bool.noConfusion z⟩
    refine Out.P.eq ?_
    rw [show (0 : Int) + (i : Int) = (i : Int) by omega]
    repeat walk_at "v"
    refine e_ok ((col_ok (cm := false) (a := 1) (b := 2) hd hT hi2 rfl (by simp [wipeD, startD]) (by decide) rfl).trans (show mk false _ G = .ok (rowD (colOf T i)) G from rfl)) ?_
    repeat walk_at "v"
    have hr : m_rises [rowD (colOf T i)] G = .ok (.bl true) G := rises_ok rfl (col_up hT hi2) (by unfold colOf; rw [List.length_map]; omega)
    rw [hr, P_ok]
    repeat walk_at "v"
    rfl
theorem need_ok {G : GH} {d : D} {w : Nat} {T : List (List Int)} (hd : IsTab G d T) (hT : Tab w T) : m_need_table [d] G = .ok .non G := by
  refine Out.P.eq ?_
  unfold m_need_table
  refine e_runF ?_
  unfold g_need_table
  repeat walk_at "v"
  refine e_ok (table_ok hd hT) ?_
  repeat walk_at "v"
  refine e_iteF (by decide) ?_
  repeat walk_at "v"
  rfl


theorem neednum_ok {G : GH} {x : Int} : m_need_number [.int x] G = .ok .non G := by
  refine Out.P.eq ?_
  unfold m_need_number
  refine e_runF ?_
  unfold g_need_number
  repeat walk_at "v"
  refine e_ok (whole_int x G) ?_
  repeat walk_at "v"
  refine e_iteF (by decide) ?_
  repeat walk_at "v"
  rfl

theorem tab0I {G : GH} {d : D} {w : Nat} {T : List (List Int)} (hd : IsTab G d T) (hT : Tab w T) : ∃ x, oIx d (.int 0) G = .ok x G ∧ oLen [x] G = .ok (.int (w : Nat)) G := by
  obtain ⟨rows, e1, e2, e3⟩ := hd.ex
  have h1 := hT.h1
  obtain ⟨x, f1, f2⟩ := e3 0 T[0] (List.getElem?_eq_getElem (by omega))
  exact ⟨x, ix_of (lstOf_of e1) (by decide) f1, by rw [len_of (lstOf_of f2), List.length_map, hT.wide _ (List.getElem_mem _)]⟩
theorem tabLI {G : GH} {d : D} {T : List (List Int)} (hd : IsTab G d T) : oLen [d] G = .ok (.int (T.length : Nat)) G := by
  obtain ⟨rows, e1, e2, e3⟩ := hd.ex
  rw [len_of (lstOf_of e1), e2]
theorem tabRI {G : GH} {d : D} {T : List (List Int)} (hd : IsTab G d T) {i : Nat} {r : List Int} (h : T[i]? = some r) : ∃ x, oIx d (.int (i : Nat)) G = .ok x G ∧ lstO G x = some (r.map D.int) := by
  obtain ⟨rows, e1, e2, e3⟩ := hd.ex
  obtain ⟨x, f1, f2⟩ := e3 i r h
  exact ⟨x, ix_nat (lstOf_of e1) f1, f2⟩
theorem allcellsI_ok {w : Nat} {T : List (List Int)} (hT : Tab w T) {G : GH} {d : D} (hd : IsTab G d T) (hG : G.all (belC G.length) = true) : m_all_cells [d] G = .ok (.lst ((allC T.length w).map cD)) G := by
  have h6 := hT.h6
  have w6 := hT.w6
  have t0 : ∀ fs, ∃ x, oIx d (.int 0) (G ++ fs) = .ok x (G ++ fs) ∧ oLen [x] (G ++ fs) = .ok (.int (w : Nat)) (G ++ fs) := fun fs => tab0I hd.ext hT
  have tl : ∀ fs, oLen [d] (G ++ fs) = .ok (.int (T.length : Nat)) (G ++ fs) := fun fs => tabLI hd.ext
  refine Out.P.eq ?_
  unfold m_all_cells
  refine e_runF ?_
  unfold g_all_cells
  repeat walk_at "u"
  refine e_len (tl _) ?_
  repeat walk_at "u"
  refine rng_P (fun i rh G' => ∃ x2 x3, G' = G ++ [.lst ((allC i w).map cD)] ∧ rh = [some d, some (.loc G.length), x2, x3]) ?_ ⟨_, _, rfl, rfl⟩ ?_
  · rintro i rh _ hi ⟨x2, x3, rfl, rfl⟩
    obtain ⟨y, t1, t2⟩ := t0 [.lst ((allC i w).map cD)]
    refine ⟨_, rfl, ?_⟩
    rw [show (0 : Int) + (i : Int) = (i : Int) by omega]
    repeat walk_at "u"
    refine ⟨ty_list snoc1_get, ?_⟩
    repeat walk_at "u"
    refine lc_asR (lo := 0) (n := w) (fun _ => true) (fun j => cellD i j) (Out.P.eq ?_) (by omega) (fun j hj => ⟨_, rfl, rfl, fun _ => ?_⟩) ?_
    · repeat walk_at "u"
      refine e_ix t1 ?_
      repeat walk_at "u"
      refine e_len t2 ?_
      repeat walk_at "u"
      rfl
    · rw [show (0 : Int) + (j : Int) = (j : Int) by omega]
      rfl
    · rw [filtT]
      refine e_mkF ?_
      repeat walk_at "u"
      have hl : (allC i w).length ≤ 36 := by
        rw [allC_len]
        exact Nat.mul_le_mul (show i ≤ 6 by omega) w6
      refine e_ok (extC snoc1_get (by rw [List.length_map, List.length_map, List.length_range]; show _ ≤ 2 ^ 24; omega)) ?_
      rw [snoc1_set]
      refine ⟨_, _, ?_, rfl⟩
      rw [allC_succ, List.map_append, List.map_map]
      rfl
  · rintro rh _ ⟨x2, x3, rfl, rfl⟩
    refine e_frz rfl snoc1_get ?_
    repeat walk_at "u"
    refine ⟨G, by rw [snoc1_set]; exact trunc_ok hG, bel_cells fun y hy => ?_, ?_, rfl⟩
    · obtain ⟨c, _, rfl⟩ := List.mem_map.mp hy
      exact isC_cD c
    · rw [show (T.length : Int).toNat = T.length from rfl]
theorem cellsP_ok {w : Nat} {T : List (List Int)} (hT : Tab w T) {x : Int} {G : GH} {d : D} (hd : IsTab G d T) (hG : G.all (belC G.length) = true) {cm : Bool} {q : D → GH → Prop} {X : Str → GH → Prop} (k : (mk cm ((cellsT T w x).map cD) G).P q X) :
    (mLc cm [2] (b1 oSrcL (mCall 1 m_all_cells (mCons (mVar 0) (mNil)))) (tgName 2) (toB (b2 oEq (b2 oIx (b2 oIx (mVar 0) (b2 oIx (mVar 2) (mC (.int 0)))) (b2 oIx (mVar 2) (mC (.int 1)))) (mVar 1))) (mVar 2) [some d, some (.int x), none] G).P q X := by
  have h6 := hT.h6
  have w6 := hT.w6
  have ha := allcellsI_ok hT hd hG
  refine lc_asL (d := .lst ((allC T.length w).map cD)) (allC T.length w) cD (fun c => decide (numT T c = x)) cD (Out.P.eq ?_) rfl (by rw [allC_len]; exact Nat.le_trans (Nat.mul_le_mul h6 w6) (by decide)) (fun c hc => ⟨_, rfl, Out.P.eq ?_, fun _ => rfl⟩) k
  · repeat walk_at "u"
    exact e_ok ha ⟨rfl, rfl⟩
  · obtain ⟨h1, h2⟩ := allC_mem hc
    obtain ⟨r, e1, e2⟩ := numT_at hT h1 h2
    obtain ⟨y, f1, f2⟩ := tabRI hd e1
    repeat walk_at "u"
    refine e_ix f1 ?_
    repeat walk_at "u"
    refine e_ix (ix_nat (lstOf_of f2) (ints_get e2)) ?_
    repeat walk_at "u"
    rfl
theorem cellsI_ok {w : Nat} {T : List (List Int)} (hT : Tab w T) {x : Int} {G : GH} {d : D} (hd : IsTab G d T) (hG : G.all (belC G.length) = true) : m_cells_of [d, .int x] G = .ok (.lst ((cellsT T w x).map cD)) G := by
  refine Out.P.eq ?_
  unfold m_cells_of
  refine e_runF ?_
  unfold g_cells_of
  repeat walk_at "u"
  refine e_ok (need_ok hd hT) ?_
  repeat walk_at "u"
  refine e_ok neednum_ok ?_
  repeat walk_at "u"
  exact cellsP_ok hT hd hG (e_mkF ⟨rfl, rfl⟩)

def stepsT (T : List (List Int)) (w : Nat) (x : Int) : List D × D := stepsF T x (T.length + w) 0 w
theorem tabL0 {w : Nat} {T : List (List Int)} (hT : Tab w T) {G : GH} : ∃ r, oIx (tabD T) (.int 0) G = .ok (rowD r) G ∧ r.length = w := by
  have h1 := hT.h1
  have w0 := hT.wide T[0] (List.getElem_mem _)
  exact ⟨T[0], row_ix (j := 0) rfl (List.getElem?_eq_getElem (by omega)), w0⟩
/-- one look of the walk -/
theorem steps_turn {w : Nat} {T : List (List Int)} (hT : Tab w T) {x : Int} {m row p : Nat} (hm : m = T.length - row + p) (hr : row < T.length) (hp : p ≤ w) (hp0 : 1 ≤ p) : ∃ (r : List Int) (v : Int), T[row]? = some r ∧ r[p - 1]? = some v ∧
    (v = x → stepsF T x m row p = ([cellD row (p - 1)], cellD row (p - 1))) ∧ (v ≠ x → x < v → stepsF T x m row p = (cellD row (p - 1) :: (stepsF T x (m - 1) row (p - 1)).1, (stepsF T x (m - 1) row (p - 1)).2)) ∧
    (v ≠ x → ¬ x < v → stepsF T x m row p = (cellD row (p - 1) :: (stepsF T x (m - 1) (row + 1) p).1, (stepsF T x (m - 1) (row + 1) p).2)) := by
  obtain ⟨p, rfl⟩ : ∃ q, p = q + 1 := ⟨p - 1, by omega⟩
  obtain ⟨m, rfl⟩ : ∃ q, m = q + 1 := ⟨m - 1, by omega⟩
  obtain ⟨r, e1, e2, e3⟩ := tab_get hT hr (show p < w by omega)
  refine ⟨r, r.getD p 0, e1, e3, fun h => ?_, fun h1 h2 => ?_, fun h1 h2 => ?_⟩
  · unfold stepsF; rw [e1]; dsimp only; rw [if_pos h]; rfl
  · rw [Nat.add_sub_cancel, Nat.add_sub_cancel]
    rw [stepsF, e1]; dsimp only; rw [if_neg h1, if_pos h2]
  · rw [Nat.add_sub_cancel, Nat.add_sub_cancel]
    rw [stepsF, e1]; dsimp only; rw [if_neg h1, if_neg h2]
theorem cell_tup {i j : Int} {a b : Nat} (h1 : i = a) (h2 : j = b) {G : GH} : oTup [.int i, .int j] G = .ok (cellD a b) G := by subst h1 h2; unfold oTup; exact if_pos (show [D.int a, D.int b].length ≤ sizeLine from show 2 ≤ 2 ^ 24 by decide)
theorem steps_ok {w : Nat} {T : List (List Int)} (hT : Tab w T) {x : Int} {G : GH} (hG : G.all (belC G.length) = true) : m_steps_of [tabD T, .int x] G = .ok (.tup [.lst (stepsT T w x).1, (stepsT T w x).2]) G := by
  have h1 := hT.h1
  have h6 := hT.h6
  have w1 := hT.w1
  have w6 := hT.w6
  have hcs := steps_cells (T := T) (x := x) (T.length + w) 0 w
  have hb : bel 8 G.length (.tup [.lst (stepsT T w x).1, (stepsT T w x).2]) = true := by
    have b1 : bel 7 G.length (.lst (stepsT T w x).1) = true := List.all_eq_true.mpr fun y hy => bel_cell (m := 4) (hcs.1 y hy)
    have b2 : bel 7 G.length (stepsT T w x).2 = true := by
      rcases hcs.2 with h | h
      · rw [show (stepsT T w x).2 = .non from h]; rfl
      · exact bel_cell (m := 5) h
    show ([D.lst (stepsT T w x).1, (stepsT T w x).2]).all (bel 7 G.length) = true
    rw [List.all_cons, List.all_cons, b1, b2]; rfl
  refine Out.P.eq ?_
  unfold m_steps_of
  refine e_runF ?_
  unfold g_steps_of
  obtain ⟨r0, t1, t2⟩ := tabL0 hT (G := G ++ [.lst []])
  repeat walk_at "w"
  refine e_ix t1 ?_
  repeat walk_at "w"
  rw [List.length_map, t2]
  refine while_P (fun m rh G' => ∃ (acc : List D) (row p : Nat) (i j : Int), m = T.length - row + p ∧ row ≤ T.length ∧ p ≤ w ∧ i = row ∧ j = (p : Int) - 1 ∧ acc.length + m ≤ T.length + w ∧ G' = G ++ [.lst acc] ∧
      rh = [some (tabD T), some (.int x), some (.loc G.length), some (.int i), some (.int j)] ∧ acc ++ (stepsF T x m row p).1 = (stepsT T w x).1 ∧ (stepsF T x m row p).2 = (stepsT T w x).2) ?_ 40 (T.length + w) _ _ (by omega) ⟨[], 0, w, 0, (w : Int) - 1, by omega, by omega, by omega, rfl, rfl, by simp, rfl, rfl, rfl, rfl⟩
  have fin : ∀ {acc : List D}, acc = (stepsT T w x).1 → ∃ G2, truncG G.length ((G ++ [Cell.lst acc]).set G.length .dead) = some G2 ∧ bel 8 G.length (.tup [.lst acc, (stepsT T w x).2]) = true ∧ D.tup [.lst acc, (stepsT T w x).2] = .tup [.lst (stepsT T w x).1, (stepsT T w x).2] ∧ G2 = G := by
    rintro acc rfl
    exact ⟨G, by rw [snoc1_set]; exact trunc_ok hG, hb, rfl, rfl⟩
  rintro m rh G' ⟨acc, row, p, i, j, hm, hr, hp, hi, hj, hl, rfl, rfl, s1, s2⟩
  repeat walk_at "w"
  rw [List.length_map]
  refine e_iteB (fun c1 => ?_) (fun c1 => ?_)
  · repeat walk_at "w"
    refine e_iteB (fun c2 => ?_) (fun c2 => ?_)
    · have hrow : row < T.length := by omega
      have hp1 : 1 ≤ p := by omega
      obtain ⟨r, v, e1, e2, k1, k2, k3⟩ := steps_turn hT (x := x) hm hrow hp hp1
      have hj2 : j = ((p - 1 : Nat) : Int) := by omega
      repeat walk_at "w"
      refine ⟨ty_list snoc1_get, ?_⟩
      repeat walk_at "w"
      refine e_ok (cell_tup hi hj2) ?_
      repeat walk_at "w"
      refine e_app (appC snoc1_get (by show _ < 2 ^ 24; omega)) ?_
      rw [snoc1_set]
      repeat walk_at "w"
      refine e_ix (row_ix hi e1) ?_
      repeat walk_at "w"
      refine e_ix (num_ix hj2 e2) ?_
      repeat walk_at "w"
      refine e_iteB (fun c3 => ?_) (fun c3 => ?_)
      · refine e_frz rfl snoc1_get ?_
        repeat walk_at "w"
        refine e_ok (cell_tup hi hj2) ?_
        repeat walk_at "w"
        rw [k1 c3] at s1 s2
        refine e_tup (show 2 ≤ 2 ^ 24 by decide) ?_
        rw [show cellD row (p - 1) = (stepsT T w x).2 from s2]
        exact fin (by rw [← s1, ← s2])
      · repeat walk_at "w"
        refine e_ix (row_ix hi e1) ?_
        repeat walk_at "w"
        refine e_ix (num_ix hj2 e2) ?_
        repeat walk_at "w"
        refine e_iteB (fun c4 => ?_) (fun c4 => ?_)
        · repeat walk_at "w"
          rw [k2 c3 c4] at s1 s2
          exact ⟨m - 1, by omega, acc ++ [cellD row (p - 1)], row, p - 1, _, _, by omega, by omega, by omega, hi, by omega, by simp; omega, rfl, rfl, by rw [List.append_assoc]; exact s1, s2⟩
        · repeat walk_at "w"
          rw [k3 c3 c4] at s1 s2
          exact ⟨m - 1, by omega, acc ++ [cellD row (p - 1)], row + 1, p, _, _, by omega, by omega, by omega, by omega, hj, by simp; omega, rfl, rfl, by rw [List.append_assoc]; exact s1, s2⟩
    · repeat walk_at "w"
      rw [steps_end (.inr (by omega)), List.append_nil] at s1
      rw [steps_end (.inr (by omega))] at s2
      refine e_frz rfl snoc1_get ?_
      repeat walk_at "w"
      refine e_tup (show 2 ≤ 2 ^ 24 by decide) ?_
      rw [show D.non = (stepsT T w x).2 from s2]
      exact fin s1
  · repeat walk_at "w"
    rw [steps_end (.inl (by omega)), List.append_nil] at s1
    rw [steps_end (.inl (by omega))] at s2
    refine e_frz rfl snoc1_get ?_
    repeat walk_at "w"
    refine e_tup (show 2 ≤ 2 ^ 24 by decide) ?_
    rw [show D.non = (stepsT T w x).2 from s2]
    exact fin s1
theorem walkF_ok {w : Nat} {T : List (List Int)} (hT : Tab w T) {x : Int} {G : GH} (hG : G.all (belC G.length) = true) : m_walk_for [tabD T, .int x] G = .ok (.lst ((walkC T x (T.length + w) 0 w).1.map cD)) G := by
  have hs := steps_ok hT (x := x) hG
  have e := (steps_walk (T := T) (x := x) (T.length + w) 0 w).1
  rw [show (stepsT T w x).1 = (walkC T x (T.length + w) 0 w).1.map cD from e] at hs
  refine Out.P.eq ?_
  unfold m_walk_for
  refine e_runF ?_
  unfold g_walk_for
  repeat walk_at "u"
  refine e_ok (need_ok (IsTab.frozen T) hT) ?_
  repeat walk_at "u"
  refine e_ok neednum_ok ?_
  repeat walk_at "u"
  refine e_ok hs ?_
  repeat walk_at "u"
  rfl

theorem stair_ok {w : Nat} {T : List (List Int)} (hT : Tab w T) {x : Int} {G : GH} : m_stair_of [tabD T, .int x] G = .ok (rowD (lessT T x)) G := by
  have h6 := hT.h6
  have w6 := hT.w6
  refine Out.P.eq ?_
  unfold m_stair_of
  refine e_runF ?_
  unfold g_stair_of
  repeat walk_at "w"
  refine e_ok (need_ok (IsTab.frozen T) hT) ?_
  repeat walk_at "w"
  refine e_ok neednum_ok ?_
  repeat walk_at "w"
  refine lc_asL (d := tabD T) T rowD (fun _ => true) (fun r => .int ((r.filter fun n => decide (n < x)).length : Nat)) rfl rfl (by show _ ≤ 2 ^ 24; omega) ?_ ?_
  · intro r hr
    have hw := hT.wide r hr
    refine ⟨_, rfl, rfl, fun _ => Out.P.eq ?_⟩
    repeat walk_at "w"
    refine lc_asL (d := rowD r) r D.int (fun n => decide (n < x)) D.int rfl rfl (by show _ ≤ 2 ^ 24; omega) (fun i _ => ⟨_, rfl, rfl, fun _ => rfl⟩) ?_
    refine e_mkF ?_
    repeat walk_at "w"
    rw [List.length_map]
    exact ⟨rfl, rfl⟩
  · rw [filtT]
    refine e_mkF ⟨?_, rfl⟩
    unfold lessT rowD
    rw [List.map_map]
    rfl

theorem cless_ok {w : Nat} {T : List (List Int)} (hT : Tab w T) {x : Int} {G : GH} : m_count_less [tabD T, .int x] G = .ok (.int ((T.flatten.filter fun n => decide (n < x)).length : Nat)) G := by
  refine Out.P.eq ?_
  unfold m_count_less
  refine e_runF ?_
  unfold g_count_less
  repeat walk_at "w"
  refine e_ok (stair_ok hT) ?_
  repeat walk_at "w"
  refine e_ok (sum_of (r := lessT T x) rfl) ?_
  rw [sum_less]
  exact ⟨rfl, rfl⟩

theorem mergedI_ok {w : Nat} {T : List (List Int)} (hT : Tab w T) {G : GH} {d : D} (hd : IsTab G d T) (hG : G.all (belC G.length) = true) : m_merged [d] G = .ok (.lst (mergedT T)) G := by
  have h6 := hT.h6
  have w6 := hT.w6
  have hn : m_need_table [d] G = .ok .non G := need_ok hd hT
  obtain ⟨rows, q1, q2, q3⟩ := hd.ex
  refine Out.P.eq ?_
  unfold m_merged
  refine e_runF ?_
  unfold g_merged
  repeat walk_at "u"
  refine e_ok hn ?_
  repeat walk_at "u"
  refine e_enum (L := rows) (fun i rh G' => ∃ x2 x3 x4 x5, G' = G ++ [.lst ((triN i T).map triD)] ∧ rh = [some d, some (.loc G.length), x2, x3, x4, x5]) (lstOf_of (lstO_ext q1)) (fun i rh G' z => by obtain ⟨_, _, _, _, rfl, _⟩ := z; exact lstOf_of (lstO_ext q1)) ?_ ⟨_, _, _, _, rfl, rfl⟩ ?_
  · rintro i x rh _ hx ⟨x2, x3, x4, x5, rfl, rfl⟩
    have hi : i < T.length := by rw [← q2]; exact (List.getElem?_eq_some_iff.mp hx).1
    obtain ⟨r, hr⟩ : ∃ r, T[i]? = some r := ⟨_, List.getElem?_eq_getElem hi⟩
    obtain ⟨x', p1, p2⟩ := q3 i r hr
    rw [hx] at p1
    cases p1
    have hw := hT.wide r (List.mem_of_getElem? hr)
    have hl := triN_len hT.wide (n := i) (by omega)
    have hl2 : i * w ≤ 36 := Nat.mul_le_mul (show i ≤ 6 by omega) w6
    refine ⟨_, rfl, ?_⟩
    repeat walk_at "u"
    refine ⟨ty_list snoc1_get, ?_⟩
    repeat walk_at "u"
    refine lc_enum (d := x) r (fun p => triD (r.getD p 0, i, p)) rfl (lstOf_of (lstO_ext p2)) (by omega) (fun p hp => ⟨_, rfl, rfl, rfl⟩) (e_mkF ?_)
    repeat walk_at "u"
    refine e_ok (extC snoc1_get (by rw [List.length_map, List.length_map, List.length_range]; show _ ≤ 2 ^ 24; omega)) ?_
    rw [snoc1_set]
    refine ⟨_, _, _, _, ?_, rfl⟩
    rw [show triN (i + 1) T = triN i T ++ triR i (T.getD i []) from rfl, show T.getD i [] = r by simp [List.getD, hr], List.map_append]
    unfold triR
    rw [List.map_map]
    rfl
  · rintro rh _ ⟨x2, x3, x4, x5, rfl, rfl⟩
    rw [q2]
    repeat walk_at "u"
    have hl := triN_len hT.wide (n := T.length) (Nat.le_refl _)
    have hl2 : T.length * w ≤ 36 := Nat.mul_le_mul h6 w6
    refine e_ok ((sortTri (cm := false) snoc1_get (by omega)).trans mkF_eq) ?_
    exact ⟨G, trunc_ok hG, bel_tris fun y hy => by obtain ⟨t, _, e⟩ := merged_mem hy; exact ⟨t, e⟩, rfl, rfl⟩
theorem byI_ok {w : Nat} {T : List (List Int)} (hT : Tab w T) {k : Nat} (hk : k < T.length * w) {G : GH} {d : D} (hd : IsTab G d T) (hG : G.all (belC G.length) = true) : m_number_by [d, .int (k : Nat)] G = .ok (.int ((ordT T).getD k 0)) G := by
  have hlen : (mergedT T).length = T.length * w := by rw [merged_len, flat_len hT.wide]
  have hk2 : k < (mergedT T).length := by omega
  obtain ⟨t, _, ht⟩ := merged_mem (List.getElem_mem hk2)
  have hm := mergedI_ok hT hd hG
  have ht1 : (ordT T).getD k 0 = t.1 := by
    unfold ordT
    rw [List.getD_eq_getElem?_getD, List.getElem?_map, List.getElem?_eq_getElem hk2, ht]
    rfl
  rw [ht1]
  refine Out.P.eq ?_
  unfold m_number_by
  refine e_runF ?_
  unfold g_number_by
  repeat walk_at "u"
  refine e_ok hm ?_
  repeat walk_at "u"
  refine e_ok (whole_int _ G) ?_
  repeat walk_at "u"
  rw [decide_eq_true (show (0 : Int) ≤ (k : Nat) by omega)]
  repeat walk_at "u"
  rw [decide_eq_true (show ((k : Nat) : Int) < ((mergedT T).length : Nat) by omega)]
  repeat walk_at "u"
  refine e_ix (ix_nat (xs := mergedT T) (x := triD t) rfl (by rw [List.getElem?_eq_getElem hk2, ht])) ?_
  repeat walk_at "u"
  rfl

theorem lk_rep {r i : Nat} {x : Int} (hi : i < r) : lk (List.replicate r x) i = x := lk_of (by rw [List.getElem?_replicate, if_pos hi])
theorem rep_bd {r : Nat} {x : Int} (h0 : 0 ≤ x) (h1 : x ≤ 4) : Bd r (List.replicate r x) := ⟨List.length_replicate, fun i hi => by rw [lk_rep hi]; exact h0, fun i hi => by rw [lk_rep hi]; exact h1⟩

theorem needsize_ok {r p : Nat} {G : GH} (hr : sized r) (hp : sized p) : m_need_size [.int (r : Nat), .int (p : Nat)] G = .ok .non G := by
  obtain ⟨r1, r4⟩ := hr
  obtain ⟨p1, p4⟩ := hp
  refine Out.P.eq ?_
  unfold m_need_size
  refine e_runF ?_
  unfold g_need_size
  repeat walk_at "u"
  refine e_ok (b := srcC [D.int (r : Nat), D.int (p : Nat)]) rfl ?_
  refine loopC_P [D.int (r : Nat), D.int (p : Nat)] (fun i rh G' => ∃ x, G' = G ∧ rh = [some (.int (r : Nat)), some (.int (p : Nat)), x]) ?_ ⟨_, rfl, rfl⟩ ?_
  · rintro i x rh _ hx ⟨y, rfl, rfl⟩
    obtain ⟨n, rfl, h1, h4⟩ : ∃ n : Nat, x = .int (n : Nat) ∧ 1 ≤ n ∧ n ≤ 4 := by
      have := List.mem_of_getElem? hx
      simp only [List.mem_cons, List.not_mem_nil, or_false] at this
      rcases this with rfl | rfl
      · exact ⟨r, rfl, r1, r4⟩
      · exact ⟨p, rfl, p1, p4⟩
    refine ⟨_, rfl, ?_⟩
    repeat walk_at "u"
    refine e_ok (whole_int _ _) ?_
    repeat walk_at "u"
    refine e_iteT (decide_eq_true (show (1 : Int) ≤ n by omega)) ?_
    repeat walk_at "u"
    rw [show (decide ((n : Int) ≤ 4)) = true from decide_eq_true (by omega)]
    repeat walk_at "u"
    exact ⟨_, rfl, rfl⟩
  · rintro rh _ ⟨y, rfl, rfl⟩
    exact ⟨rfl, rfl⟩

theorem opencellsS_ok {r : Nat} {lo hi : List Int} {G : GH} {d1 d2 : D} (r4 : r ≤ 4) (h1 : Bd r lo) (h2 : Bd r hi) (e1 : ∀ fs, seqOf (G ++ fs) d1 = some (lo.map D.int)) (e2 : ∀ fs, seqOf (G ++ fs) d2 = some (hi.map D.int)) (hG : G.all (belC G.length) = true) :
    m_open_cells [d1, d2] G = .ok (.lst ((openL lo hi r).map cD)) G := by
  have hle : ∀ i, i < r → (lk hi i - lk lo i).toNat ≤ 4 := fun i hi => by
    have := h1.lo i hi
    have := h2.hi i hi
    omega
  have tl : ∀ fs, oLen [d1] (G ++ fs) = .ok (.int (r : Nat)) (G ++ fs) := fun fs => by rw [len_seq (e1 fs), List.length_map, h1.len]
  refine Out.P.eq ?_
  unfold m_open_cells
  refine e_runF ?_
  unfold g_open_cells
  repeat walk_at "u"
  refine e_len (tl _) ?_
  repeat walk_at "u"
  refine rng_P (fun i rh G' => ∃ x2 x3, G' = G ++ [.lst ((openL lo hi i).map cD)] ∧ rh = [some d1, some d2, some (.loc G.length), x2, x3]) ?_ ⟨_, _, rfl, rfl⟩ ?_
  · rintro i rh _ hi' ⟨x2, x3, rfl, rfl⟩
    have hi2 : i < r := by omega
    refine ⟨_, rfl, ?_⟩
    rw [show (0 : Int) + (i : Int) = (i : Int) by omega]
    repeat walk_at "u"
    refine ⟨ty_list snoc1_get, ?_⟩
    repeat walk_at "u"
    have hz := h1.lo i hi2
    have hz2 := h2.lo i hi2
    have hz3 := h1.hi i hi2
    have hz4 := h2.hi i hi2
    with_reducible refine lc_asR (lo := lk lo i) (n := (lk hi i - lk lo i).toNat) (fun _ => true) (fun j => cD (i, (lk lo i).toNat + j)) (Out.P.eq ?_) (by omega) (fun j hj => ⟨_, rfl, rfl, fun _ => ?_⟩) ?_
    · repeat walk_at "u"
      refine e_ix (ix_sq (e1 _) (ints_get (lk_get (by rw [h1.len]; exact hi2)))) ?_
      repeat walk_at "u"
      refine e_ix (ix_sq (e2 _) (ints_get (lk_get (by rw [h2.len]; exact hi2)))) ?_
      repeat walk_at "u"
      rfl
    · have : lk lo i + (j : Int) = (((lk lo i).toNat + j : Nat) : Int) := by omega
      rw [this]
      rfl
    · rw [filtT]
      with_reducible refine e_mkF ?_
      repeat walk_at "u"
      have hl : (openL lo hi i).length ≤ 16 := Nat.le_trans (openL_len fun k hk => hle k (by omega)) (by omega)
      refine e_ok (extC snoc1_get (by rw [List.length_map, List.length_map, List.length_range]; show _ ≤ 2 ^ 24; omega)) ?_
      rw [snoc1_set]
      refine ⟨_, _, ?_, rfl⟩
      rw [openL_succ, List.map_append, List.map_map]
      rfl
  · rintro rh _ ⟨x2, x3, rfl, rfl⟩
    refine e_frz rfl snoc1_get ?_
    repeat walk_at "u"
    refine ⟨G, by rw [snoc1_set]; exact trunc_ok hG, bel_cells fun y hy => ?_, ?_, rfl⟩
    · obtain ⟨c, _, rfl⟩ := List.mem_map.mp hy
      exact isC_cD c
    · rw [show ((r : Nat) : Int).toNat = r from rfl]
section
variable {G : GH} {l : List Int}
theorem afterlessT_ok (hl : l.length ≤ 4) {a b : Nat} : m_after_lessT [.tup (l.map D.int), cellD a b] G = .ok (.tup ((dLess l a b).map D.int)) G := by
  refine Out.P.eq ?_
  unfold m_after_lessT
  refine e_runF ?_
  unfold g_after_lessT cellD
  repeat walk_at "u"
  with_reducible refine lc_enumT l (fun i : Nat => .int (if (a : Int) ≤ i then (if (b : Int) < lk l i then (b : Int) else lk l i) else lk l i)) rfl (by omega) (fun i hi => ⟨_, rfl, rfl, Out.P.eq ?_⟩) ?_
  · repeat walk_at "u"
    refine e_iteB (fun h => ?_) (fun h => ?_)
    · repeat walk_at "u"
      rw [if_pos (show (a : Int) ≤ i by omega)]
      exact ⟨rfl, rfl⟩
    · repeat walk_at "u"
      rw [if_neg (show ¬ (a : Int) ≤ i by omega)]
      exact ⟨rfl, rfl⟩
  with_reducible refine e_mkF ?_
  repeat walk_at "u"
  refine ⟨?_, rfl⟩
  unfold dLess
  rw [List.map_map]
  rfl
theorem aftergreaterT_ok (hl : l.length ≤ 4) {a b : Nat} : m_after_greaterT [.tup (l.map D.int), cellD a b] G = .ok (.tup ((dGreater l a b).map D.int)) G := by
  refine Out.P.eq ?_
  unfold m_after_greaterT
  refine e_runF ?_
  unfold g_after_greaterT cellD
  repeat walk_at "u"
  with_reducible refine lc_enumT l (fun i : Nat => .int (if (i : Int) ≤ a then (if (b : Int) + 1 > lk l i then (b : Int) + 1 else lk l i) else lk l i)) rfl (by omega) (fun i hi => ⟨_, rfl, rfl, Out.P.eq ?_⟩) ?_
  · repeat walk_at "u"
    refine e_iteB (fun h => ?_) (fun h => ?_)
    · repeat walk_at "u"
      rw [if_pos (show (i : Int) ≤ a by omega)]
      exact ⟨rfl, rfl⟩
    · repeat walk_at "u"
      rw [if_neg (show ¬ (i : Int) ≤ a by omega)]
      exact ⟨rfl, rfl⟩
  with_reducible refine e_mkF ?_
  repeat walk_at "u"
  refine ⟨?_, rfl⟩
  unfold dGreater
  rw [List.map_map]
  rfl
end
theorem look_known {d : D} : ([("known", d)] : List (Str × D)).lookup ("known" : Str) = some d := by
  rw [List.lookup_cons]
  have : (("known" : Str) == ("known" : Str)) = true := by decide +kernel
  rw [this]
theorem not_left {d : D} : ([("known", d)] : List (Str × D)).lookup ("left" : Str) = none := by
  rw [List.lookup_cons]
  have : (("left" : Str) == ("known" : Str)) = false := by decide +kernel
  rw [this]
  rfl
theorem not_behind {d : D} : ([("known", d)] : List (Str × D)).lookup ("behind" : Str) = none := by
  rw [List.lookup_cons]
  have : (("behind" : Str) == ("known" : Str)) = false := by decide +kernel
  rw [this]
  rfl
abbrev tupI (l : List Int) : D := .tup (l.map D.int)
structure KOk (r : Nat) (kvs : List (NK × D)) : Prop where
  nd : (kvs.map (·.1)).Nodup
  key : ∀ x ∈ kvs, ∃ lo hi, Bd r lo ∧ Bd r hi ∧ x = ([lo, hi], .int ((need (openL lo hi r) : Nat) : Int))
theorem KOk.nil {r : Nat} : KOk r [] := ⟨List.nodup_nil, fun x h => nomatch h⟩
theorem KOk.at {r : Nat} {kvs : List (NK × D)} (h : KOk r kvs) {lo hi : List Int} {d : D} (e : dlk kvs [lo, hi] = some d) : d = .int ((need (openL lo hi r) : Nat) : Int) := by
  obtain ⟨lo', hi', _, _, e2⟩ := h.key _ (dlk_mem e)
  injection e2 with e3 e4
  injection e3 with e5 e6
  injection e6 with e6 _
  subst e5 e6
  exact e4
theorem KOk.put {r : Nat} {kvs : List (NK × D)} (h : KOk r kvs) {lo hi : List Int} (h1 : Bd r lo) (h2 : Bd r hi) : KOk r (dpt kvs [lo, hi] (.int ((need (openL lo hi r) : Nat) : Int))) :=
  ⟨dpt_nodup h.nd, fun x hx => by
    rcases dpt_mem hx with rfl | hx
    · exact ⟨lo, hi, h1, h2, rfl⟩
    · exact h.key x hx⟩
theorem KOk.few {r : Nat} (hr : r ≤ 4) {kvs : List (NK × D)} (h : KOk r kvs) : kvs.length < sizeLine := by
  have := keys_few hr h.nd fun k hk => by
    obtain ⟨x, hx, rfl⟩ := List.mem_map.mp hk
    obtain ⟨lo, hi, h1, h2, rfl⟩ := h.key x hx
    exact ⟨lo, hi, h1, h2, rfl⟩
  rw [List.length_map] at this
  exact Nat.lt_of_le_of_lt this (by decide)
theorem KOk.bel {r : Nat} {kvs : List (NK × D)} (h : KOk r kvs) (n : Nat) : belC n (.dn kvs) = true := List.all_eq_true.mpr fun x hx => by
  obtain ⟨lo, hi, _, _, rfl⟩ := h.key x hx
  rfl
/-- a Looks at k, what it knows at kk -/
structure LkAt (k kk r : Nat) (kvs : List (NK × D)) (G : GH) : Prop where
  ins : G[k]? = some (.ins "Looks" [("known", .loc kk)])
  dn : G[kk]? = some (.dn kvs)
  ne : k ≠ kk
  ok : KOk r kvs
  bel : G.all (belC G.length) = true
theorem LkAt.set {k kk r : Nat} {kvs kvs' : List (NK × D)} {G : GH} (h : LkAt k kk r kvs G) (h' : KOk r kvs') : LkAt k kk r kvs' (G.set kk (.dn kvs')) :=
  ⟨by rw [List.getElem?_set_ne h.ne.symm]; exact h.ins, List.getElem?_set_self (List.getElem?_eq_some_iff.mp h.dn).1, h.ne, h', by rw [List.length_set]; exact all_set h.bel (h'.bel _)⟩
theorem LkAt.self {k kk r : Nat} {kvs : List (NK × D)} {G : GH} (h : LkAt k kk r kvs G) : G.set kk (.dn kvs) = G := by
  apply List.ext_getElem?
  intro j
  by_cases e : kk = j
  · subst e; rw [List.getElem?_set_self (List.getElem?_eq_some_iff.mp h.dn).1, h.dn]
  · rw [List.getElem?_set_ne e]
def Known (kk r v : Nat) (G : GH) : D → GH → Prop := fun d G' => d = .int ((v : Nat) : Int) ∧ ∃ kvs', KOk r kvs' ∧ G' = G.set kk (.dn kvs')
def LeftP (f : MF) (n : Nat) : Prop := ∀ (r k kk : Nat) (kvs : List (NK × D)) (lo hi : List Int) (G : GH), r ≤ 4 → Bd r lo → Bd r hi → LkAt k kk r kvs G → 2 * (openL lo hi r).length < n → (f [.loc k, tupI lo, tupI hi] G).P (Known kk r (need (openL lo hi r)) G) X0
def BehindP (f : MF) (n : Nat) : Prop := ∀ (r k kk : Nat) (kvs : List (NK × D)) (lo hi : List Int) (a b : Nat) (G : GH), r ≤ 4 → Bd r lo → Bd r hi → LkAt k kk r kvs G → (a, b) ∈ openL lo hi r → 2 * (openL lo hi r).length ≤ n → (f [.loc k, tupI lo, tupI hi, cellD a b] G).P (Known kk r (withC (a, b) (openL lo hi r)) G) X0
theorem behind_step {f g : MF} {n : Nat} (hl : LeftP f n) : BehindP (runF 4 (g_Looks_behind f g)) (n + 1) := by
  intro r k kk kvs lo hi a b G r4 h1 h2 hk hm hn
  obtain ⟨ha, hb1, hb2⟩ := openL_of h1.lo hm
  have hb4 : b < 4 := by have := h2.hi a ha; omega
  have e1 := openL_less (lo := lo) (hi := hi) (a := a) (b := b) (n := r) h1.lo (by rw [h2.len]; exact Nat.le_refl _)
  have e2 := openL_more (lo := lo) (hi := hi) (a := a) (b := b) (n := r) h1.lo (by rw [h1.len]; exact Nat.le_refl _)
  have l1 := lessC_lt hm
  have l2 := moreC_lt hm
  refine e_runF ?_
  unfold g_Looks_behind
  repeat walk_at "u"
  refine e_meth ?_
  repeat walk_at "u"
  refine ⟨k, _, rfl, hk.ins, not_left, ?_⟩
  repeat walk_at "u"
  refine e_ok (afterlessT_ok (by rw [h2.len]; exact r4)) ?_
  repeat walk_at "u"
  refine Out.P.imp (hl r k kk kvs lo (dLess hi a b) G r4 h1 h2.less hk (by rw [e1]; omega)) ?_ (fun _ _ z => z.elim)
  rintro _ _ ⟨rfl, kvs1, k1, rfl⟩
  have hk1 := hk.set k1
  repeat walk_at "u"
  refine e_meth ?_
  repeat walk_at "u"
  refine ⟨k, _, rfl, hk1.ins, not_left, ?_⟩
  repeat walk_at "u"
  refine e_ok (aftergreaterT_ok (by rw [h1.len]; exact r4)) ?_
  repeat walk_at "u"
  refine Out.P.imp (hl r k kk kvs1 (dGreater lo a b) hi _ r4 (h1.greater hb4) h2 hk1 (by rw [e2]; omega)) ?_ (fun _ _ z => z.elim)
  rintro _ _ ⟨rfl, kvs2, k2, rfl⟩
  repeat walk_at "u"
  refine ⟨?_, kvs2, k2, by rw [List.set_set]⟩
  rw [e1, e2]
  unfold withC
  congr 1
  split <;> omega
theorem left_step {f g : MF} {n : Nat} (hb : BehindP g n) : LeftP (runF 5 (g_Looks_left f g)) (n + 1) := by
  intro r k kk kvs lo hi G r4 h1 h2 hk hn
  have h16 : (openL lo hi r).length ≤ 16 := Nat.le_trans (openL_len fun i hi' => by have := h1.lo i hi'; have := h2.hi i hi'; omega) (by omega)
  refine e_runF ?_
  unfold g_Looks_left
  repeat walk_at "u"
  refine e_fld hk.ins look_known ?_
  cases q : dlk kvs [lo, hi] with
  | some d =>
    refine e_ok (nin_yes (by rw [dLook_n hk.dn nkOf_two, q])) ?_
    repeat walk_at "u"
    refine e_fld hk.ins look_known ?_
    repeat walk_at "u"
    refine e_ok (oDGet_of (by rw [dLook_n hk.dn nkOf_two, q])) ?_
    exact ⟨hk.ok.at q, kvs, hk.ok, hk.self.symm⟩
  | none =>
    refine e_ok (nin_no (by rw [dLook_n hk.dn nkOf_two, q])) ?_
    repeat walk_at "u"
    generalize hcs : openL lo hi r = cs at *
    have hopen : m_open_cells [tupI lo, tupI hi] G = .ok (.lst (cs.map cD)) G := by rw [← hcs]; exact opencellsS_ok (lo := lo) (hi := hi) r4 h1 h2 (fun _ => rfl) (fun _ => rfl) hk.bel
    generalize hdd : D.lst (cs.map cD) = dd at hopen
    have hls : ∀ G' : GH, lstOf G' dd = some (cs.map cD) := fun _ => by rw [← hdd]; rfl
    with_reducible refine lc_inv (s := srcL (fun G' => lstOf G' dd) (cs.map cD).length) (L := cs.map cD) (Out.P.eq ?_) (fun G i => by unfold srcL; dsimp only; rw [hls]) (Nat.le_refl _) (by rw [List.length_map]; exact Nat.le_trans h16 (by decide)) (fun (i : Nat) (acc : List D) (G' : GH) => ∃ kvs', KOk r kvs' ∧ G' = G.set kk (.dn kvs') ∧ acc = ((cs.take i).map fun c => ((withC c cs : Nat) : Int)).map D.int) ⟨kvs, hk.ok, hk.self.symm, rfl⟩ ?_ ?_
    · repeat walk_at "u"
      with_reducible refine e_ok hopen ?_
      with_reducible refine e_ok (oSrcL_of (hls _)) ?_
      exact ⟨rfl, rfl⟩
    · rintro i x acc _ hx ⟨kvs1, k1, rfl, rfl⟩
      rw [List.getElem?_map] at hx
      obtain ⟨⟨a, b⟩, hc, rfl⟩ := Option.map_eq_some_iff.mp hx
      have hk1 := hk.set k1
      have hm : (a, b) ∈ openL lo hi r := by rw [hcs]; exact List.mem_of_getElem? hc
      refine ⟨_, rfl, ?_⟩
      repeat walk_at "u"
      refine e_meth ?_
      repeat walk_at "u"
      refine ⟨k, _, rfl, hk1.ins, not_behind, ?_⟩
      repeat walk_at "u"
      refine Out.P.imp (hb r k kk kvs1 lo hi a b _ r4 h1 h2 hk1 hm (by rw [hcs]; omega)) ?_ (fun _ _ z => z.elim)
      rintro _ _ ⟨rfl, kvs2, k2, rfl⟩
      refine ⟨kvs2, k2, by rw [List.set_set], ?_⟩
      rw [List.take_add_one, hc, List.map_append, List.map_append, hcs]
      rfl
    · rintro acc _ hl ⟨kvs1, k1, rfl, rfl⟩
      have hk1 := hk.set k1
      rw [List.length_map, List.take_length]
      generalize hns : cs.map (fun c => ((withC c cs : Nat) : Int)) = ns
      have hval : (cs = [] ∧ ns = []) ∨ (ns ≠ [] ∧ minL ns = ((need cs : Nat) : Int)) := by
        by_cases e : cs = []
        · subst e; exact .inl ⟨rfl, hns.symm⟩
        · refine .inr ⟨fun z => e (by rw [← hns, List.map_eq_nil_iff] at z; exact z), ?_⟩
          rw [← hns, need_eq, ← minL_cast, List.map_map]
          rfl
      have hset := k1.put h1 h2
      rw [hcs] at hset
      have hk2 := hk.set hset
      have fin : (oDGet (.loc kk) (.tup [tupI lo, tupI hi]) ((G.set kk (.dn kvs1)).set kk (.dn (dpt kvs1 [lo, hi] (.int ((need cs : Nat) : Int)))))).P (Known kk r (need cs) G) X0 := by
        rw [List.set_set]
        refine e_ok (oDGet_of (x := .int ((need cs : Nat) : Int)) (by rw [dLook_n hk2.dn nkOf_two, dlk_pt, if_pos rfl])) ?_
        exact ⟨rfl, _, hset, rfl⟩
      with_reducible refine e_mkF ?_
      repeat walk_at "u"
      have hne : oEq (.lst (ns.map D.int)) (.lst []) (G.set kk (.dn kvs1)) = .ok (.bl (decide (ns.map PyData.int = []))) (G.set kk (.dn kvs1)) := eq_nilL (toP_row (n := 14) rfl) (Lay.row ns)
      have hfld : ∀ {G' : GH} {q : D → GH → Prop} {X : Str → GH → Prop}, G'[k]? = some (.ins "Looks" [("known", .loc kk)]) → q (.loc kk) G' → (oFld "Looks" "known" (.loc k) G').P q X := fun h1 h2 => e_fld h1 look_known h2
      rcases hval with ⟨e1, e2⟩ | ⟨e1, e2⟩
      · subst e1 e2
        with_reducible refine e_ne (b := true) (hne.trans rfl) ?_
        repeat walk_at "u"
        refine hfld hk1.ins ?_
        repeat walk_at "u"
        with_reducible refine e_ok (oDSet_n hk1.dn nkOf_two (k1.few r4)) ?_
        repeat walk_at "u"
        refine hfld (by rw [List.set_set]; exact (hk.set hset).ins) ?_
        repeat walk_at "u"
        exact fin
      · have hneF : ¬ (ns.map PyData.int = []) := fun z => e1 (List.map_eq_nil_iff.mp z)
        with_reducible refine e_ne (b := false) (by rw [hne, decide_eq_false hneF]) ?_
        repeat walk_at "u"
        with_reducible refine e_ok (min_ints e1) ?_
        rw [e2]
        repeat walk_at "u"
        refine hfld hk1.ins ?_
        repeat walk_at "u"
        with_reducible refine e_ok (oDSet_n hk1.dn nkOf_two (k1.few r4)) ?_
        repeat walk_at "u"
        refine hfld (by rw [List.set_set]; exact (hk.set hset).ins) ?_
        repeat walk_at "u"
        exact fin
theorem rec_P : ∀ n : Nat, LeftP (rec_Looks_left n).1 n ∧ BehindP (rec_Looks_left n).2 n
  | 0 => ⟨fun r k kk kvs lo hi G _ _ _ _ h => absurd h (Nat.not_lt_zero _), fun r k kk kvs lo hi a b G _ _ _ _ hm h => by
    have := List.length_pos_of_mem hm
    omega⟩
  | n + 1 => ⟨left_step (rec_P n).2, behind_step (rec_P n).1⟩
theorem left_ok : LeftP m_Looks_left 40 := (rec_P 40).1
theorem open16 {r : Nat} {lo hi : List Int} (r4 : r ≤ 4) (h1 : Bd r lo) (h2 : Bd r hi) : (openL lo hi r).length ≤ 16 := Nat.le_trans (openL_len fun i hi' => by have := h1.lo i hi'; have := h2.hi i hi'; omega) (by omega)
/-- Looks(), made behind G -/
abbrev lkG (G : GH) (kvs : List (NK × D)) : GH := G ++ [.ins "Looks" [("known", .loc (G.length + 1))], .dn kvs]
theorem lkG_at {G : GH} {r : Nat} {kvs : List (NK × D)} (hG : G.all (belC G.length) = true) (h : KOk r kvs) : LkAt G.length (G.length + 1) r kvs (lkG G kvs) where
  ins := snoc2_get0
  dn := snoc2_get1
  ne := by omega
  ok := h
  bel := by
    rw [List.all_append, List.length_append]
    have h1 : G.all (belC (G.length + 2)) = true := List.all_eq_true.mpr fun c hc => belC_up (by omega) (List.all_eq_true.mp hG c hc)
    rw [Bool.and_eq_true]
    refine ⟨h1, ?_⟩
    rw [List.all_cons, List.all_cons, h.bel]
    have : belC (G.length + 2) (.ins "Looks" [("known", .loc (G.length + 1))]) = true := by
      show ([(("known" : Str), D.loc (G.length + 1))].all fun q => bel 8 (G.length + 2) q.2) = true
      rw [List.all_cons]
      show (decide (G.length + 1 < G.length + 2) && true) = true
      rw [decide_eq_true (by omega)]
      rfl
    rw [show G.length + [Cell.ins "Looks" [("known", D.loc (G.length + 1))], Cell.dn kvs].length = G.length + 2 from rfl, this]
    rfl
theorem init_ok {G : GH} : m_Looks___init__ [.loc G.length] (G ++ [.ins "Looks" []]) = .ok .non (lkG G []) := by
  refine Out.P.eq ?_
  unfold m_Looks___init__
  refine e_runF ?_
  unfold g_Looks___init__
  refine e_fldS ?_
  refine e_ok (G' := G ++ [.ins "Looks" []] ++ [.dn []]) rfl ?_
  repeat walk_at "u"
  refine ⟨G.length, [], rfl, ?_, by decide, ?_⟩
  · rw [List.getElem?_append_left (by simp), List.getElem?_append_right (Nat.le_refl _), Nat.sub_self]; rfl
  · refine ⟨rfl, ?_⟩
    rw [List.append_assoc, List.length_append]
    rw [List.set_append_right _ _ (Nat.le_refl _), Nat.sub_self]
    rfl

/-- .. what comes of a new Looks asked once -/
theorem ask_P {G : GH} {r : Nat} {lo hi : List Int} {q : D → GH → Prop} {X : Str → GH → Prop} {rh : DEnv} {ml : M (List D)} (r4 : r ≤ 4) (h1 : Bd r lo) (h2 : Bd r hi) (hG : G.all (belC G.length) = true) (hm : ∀ kvs, ml rh (lkG G kvs) = .ok [tupI lo, tupI hi] (lkG G kvs))
    (k : ∀ kvs, KOk r kvs → q (.int ((need (openL lo hi r) : Nat) : Int)) (lkG G kvs)) : (mMeth "Looks" "left" 3 m_Looks_left (mMake "Looks" 1 m_Looks___init__ mNil) ml rh G).P q X := by
  refine e_meth ?_
  refine e_make ?_
  refine e_nil ?_
  refine ⟨rfl, ?_⟩
  with_reducible refine e_ok init_ok ?_
  have hk := lkG_at hG (KOk.nil (r := r))
  refine ⟨rfl, G.length, _, rfl, hk.ins, not_left, ?_⟩
  with_reducible refine e_ok (hm []) ?_
  refine ⟨rfl, ?_⟩
  refine Out.P.imp (left_ok r G.length (G.length + 1) [] lo hi _ r4 h1 h2 hk (by have := open16 r4 h1 h2; omega)) ?_ (fun _ _ z => z.elim)
  rintro _ _ ⟨rfl, kvs, k1, rfl⟩
  rw [snoc2_set1]
  exact k kvs k1

def gridL (r p : Nat) : List Ce := openL (List.replicate r 0) (List.replicate r ((p : Nat) : Int)) r
theorem mulT_rep {r : Nat} {x : Int} {G : GH} (hr : sized r) : oMulT (.tup [.int x]) (.int (r : Nat)) G = .ok (tupI (List.replicate r x)) G := by
  obtain ⟨r1, r4⟩ := hr
  have : r = 1 ∨ r = 2 ∨ r = 3 ∨ r = 4 := by omega
  rcases this with rfl | rfl | rfl | rfl <;> with_unfolding_all rfl
theorem fewest_ok {G : GH} {r p : Nat} (hr : sized r) (hp : sized p) (hG : G.all (belC G.length) = true) : m_fewest_looks [.int (r : Nat), .int (p : Nat)] G = .ok (.int ((need (gridL r p) : Nat) : Int)) G := by
  have hp4 := hp.2
  refine Out.P.eq ?_
  unfold m_fewest_looks
  refine e_runF ?_
  unfold g_fewest_looks
  repeat walk_at "u"
  refine e_ok (needsize_ok hr hp) ?_
  repeat walk_at "u"
  refine ask_P hr.2 (rep_bd (x := 0) (by omega) (by omega)) (rep_bd (x := ((p : Nat) : Int)) (by omega) (by omega)) hG (fun kvs => Out.P.eq ?_) ?_
  · repeat walk_at "u"
    refine e_tup (show 1 ≤ sizeLine by decide) ?_
    repeat walk_at "u"
    with_reducible refine e_ok (mulT_rep hr) ?_
    repeat walk_at "u"
    refine e_tup (show 1 ≤ sizeLine by decide) ?_
    repeat walk_at "u"
    with_reducible refine e_ok (mulT_rep hr) ?_
    repeat walk_at "u"
    first | rfl | exact ⟨rfl, rfl⟩
  · intro kvs _
    exact ⟨G, trunc_ok hG, rfl, rfl, rfl⟩

theorem e_catch {es : List Str} {i : Nat} {h g : S} {rh : DEnv} {G : GH} {N : DEnv → GH → Prop} {R : D → GH → Prop} {X : Str → DEnv → GH → Prop} (hg : (g rh G).P N R (fun c rh' G' => c ∈ es ∧ i < rh'.length ∧ (h (rh'.set i (some (.exc c))) G').P (fun rh2 G2 => N (rh2.set i none) G2) (fun _ _ => False) (fun _ _ _ => False))) : (sCatch es i h g rh G).P N R X := by
  unfold sCatch
  cases q : g rh G with
  | nx rh' G' => rw [q] at hg; exact hg
  | rt d G' => rw [q] at hg; exact hg
  | bk rh' G' => rw [q] at hg; exact hg.elim
  | ct rh' G' => rw [q] at hg; exact hg.elim
  | stuck => rw [q] at hg; exact hg.elim
  | exn c rh' G' =>
    rw [q] at hg
    obtain ⟨h1, h2, h3⟩ := hg
    dsimp only
    rw [if_pos ⟨h1, h2⟩]
    cases q2 : h (rh'.set i (some (.exc c))) G' with
    | nx rh2 G2 => rw [q2] at h3; exact h3
    | rt d G' => rw [q2] at h3; exact h3.elim
    | bk rh' G' => rw [q2] at h3; exact h3.elim
    | ct rh' G' => rw [q2] at h3; exact h3.elim
    | stuck => rw [q2] at h3; exact h3.elim
    | exn c rh' G' => rw [q2] at h3; exact h3.elim
/-! _law_said: what is told, or the refusal's name -/
abbrev askC : Cell := .lst [.bl false, .non]
def dueL : List (Str × Str) := [("NoCell", "cell"), ("NoFit", "fit"), ("NoName", "name"), ("NoPlace", "place"), ("NoRow", "row"), ("NoSize", "size"), ("NoText", "text")]
theorem exc_facts {c due : Str} (hc : (c, due) ∈ dueL) : ∃ b1 b2 b3 b4 b5 b6 b7 : Bool, (∀ G, oIsE es "NoCell" (.exc c) G = .ok (.bl b1) G) ∧ (∀ G, oIsE es "NoFit" (.exc c) G = .ok (.bl b2) G) ∧ (∀ G, oIsE es "NoName" (.exc c) G = .ok (.bl b3) G) ∧ (∀ G, oIsE es "NoPlace" (.exc c) G = .ok (.bl b4) G) ∧ (∀ G, oIsE es "NoRow" (.exc c) G = .ok (.bl b5) G)
    ∧ (∀ G, oIsE es "NoSize" (.exc c) G = .ok (.bl b6) G) ∧ (∀ G, oIsE es "NoText" (.exc c) G = .ok (.bl b7) G) ∧ (∀ G, oIsV es (.exc c) G = .ok (.bl true) G) ∧ (∀ G, oIsET es ["NoChange", "NoLook", "NoNumber", "NoStair", "NoTable"] (.exc c) G = .ok (.bl false) G)
    ∧ ∃ i : Nat, ([b1, b2, b3, b4, b5, b6, b7].count true = 1 ∧ true ∈ [b1, b2, b3, b4, b5, b6, b7] ∧ [b1, b2, b3, b4, b5, b6, b7].idxOf true = i) ∧ ([("cell" : Str), "fit", "name", "place", "row", "size", "text"].map D.str)[i]? = some (.str due) := by
  have hin : c ∈ es := by
    have : ∀ q ∈ dueL, q.1 ∈ es := by decide +kernel
    exact this _ hc
  have e0 : ∀ (t : Str) (b : Bool), decide (c = t) = b → ∀ G, oIsE es t (.exc c) G = .ok (.bl b) G := fun t b h2 G => by
    show (if c ∈ es then Out.ok (D.bl (decide (c = t))) G else .stuck) = _
    rw [if_pos hin, h2]
  have e1 : ∀ (ts : List Str) (b : Bool), decide (c ∈ ts) = b → ∀ G, oIsET es ts (.exc c) G = .ok (.bl b) G := fun t b h2 G => by
    show (if c ∈ es then Out.ok (D.bl (decide (c ∈ t))) G else .stuck) = _
    rw [if_pos hin, h2]
  have e2 : ∀ G, oIsV es (.exc c) G = .ok (.bl true) G := fun G => by
    show (if c ∈ es then Out.ok (D.bl true) G else .stuck) = _
    rw [if_pos hin]
  refine ⟨_, _, _, _, _, _, _, e0 _ _ rfl, e0 _ _ rfl, e0 _ _ rfl, e0 _ _ rfl, e0 _ _ rfl, e0 _ _ rfl, e0 _ _ rfl, e2, e1 _ _ ?_, ?_⟩
  · have : ∀ q ∈ dueL, decide (q.1 ∈ [("NoChange" : Str), "NoLook", "NoNumber", "NoStair", "NoTable"]) = false := by decide +kernel
    exact this _ hc
  · have key : ∀ q ∈ dueL, ∃ i < 7, ([decide (q.1 = "NoCell"), decide (q.1 = "NoFit"), decide (q.1 = "NoName"), decide (q.1 = "NoPlace"), decide (q.1 = "NoRow"), decide (q.1 = "NoSize"), decide (q.1 = "NoText")].count true = 1 ∧ true ∈ [decide (q.1 = "NoCell"), decide (q.1 = "NoFit"), decide (q.1 = "NoName"), decide (q.1 = "NoPlace"), decide (q.1 = "NoRow"), decide (q.1 = "NoSize"), decide (q.1 = "NoText")] ∧ [decide (q.1 = "NoCell"), decide (q.1 = "NoFit"), decide (q.1 = "NoName"), decide (q.1 = "NoPlace"), decide (q.1 = "NoRow"), decide (q.1 = "NoSize"), decide (q.1 = "NoText")].idxOf true = i) ∧ ([("cell" : Str), "fit", "name", "place", "row", "size", "text"])[i]? = some q.2 := by decide +kernel
    obtain ⟨i, _, h1, h2⟩ := key _ hc
    exact ⟨i, h1, by rw [List.getElem?_map, h2]; rfl⟩
theorem said_no {dl r : D} {c due : Str} {G : GH} {E : List Cell} (hG : G.all (belC G.length) = true) (hc : (c, due) ∈ dueL) (ht : insOf "Desk" dl (G ++ [askC]) ≠ none) (hf : ∀ q, insOf "Desk" dl (G ++ [askC]) = some q → q.2.lookup ("say" : Str) = none)
    (h : m_Desk_say [dl, r] (G ++ [askC]) = .exn c (G ++ askC :: E)) : m_law_said [dl, r] G = .ok (.lst [.bl true, .str due]) G := by
  refine Out.P.eq ?_
  unfold m_law_said
  refine e_runF ?_
  unfold g_law_said
  refine e_trunc ?_
  repeat walk_at "u"
  refine e_catch ?_
  have hm : (mMeth "Desk" "say" 2 m_Desk_say (mVar 0) (mCons (mVar 1) mNil) [some dl, some r, some (.loc G.length), none, none, none, none] (G ++ [askC])) = .exn c (G ++ askC :: E) := by
    show (match insOf "Desk" dl (G ++ [askC]) with
      | some (_, fs) => if fs.lookup ("say" : Str) = none then (Out.ok [r] (G ++ [askC])).bind fun ds G2 => if ds.length + 1 = 2 then m_Desk_say (dl :: ds) G2 else .stuck else .stuck
      | none => .stuck) = _
    cases q : insOf "Desk" dl (G ++ [askC]) with
    | none => exact absurd q ht
    | some z =>
      obtain ⟨k, fs⟩ := z
      have := hf _ q
      dsimp only at this ⊢
      rw [if_pos this]
      exact h
  refine e_sSub ?_
  refine e_exn hm ?_
  have hin : c ∈ es := by
    have : ∀ q ∈ dueL, q.1 ∈ es := by decide +kernel
    exact this _ hc
  obtain ⟨b1_, b2_, b3_, b4_, b5_, b6_, b7_, hE1, hE2, hE3, hE4, hE5, hE6, hE7, hV, hT, hk⟩ := exc_facts hc
  refine ⟨hin, by show 3 < 7; decide, ?_⟩
  have hG1 : truncG G.length ((G ++ askC :: E ++ [Cell.lst [.bl true, .str "other"]]) ++ [Cell.dead]) = some G := by
    rw [List.append_assoc, List.append_assoc]; exact trunc_ok hG
  revert hG1
  generalize G ++ askC :: E = G1
  intro hG1
  repeat walk_at "u"
  obtain ⟨i, ⟨hk1, hk2, hk3⟩, hk4⟩ := hk
  with_reducible refine e_ok (hE1 _) ?_
  repeat walk_at "u"
  with_reducible refine e_ok (hE2 _) ?_
  repeat walk_at "u"
  with_reducible refine e_ok (hE3 _) ?_
  repeat walk_at "u"
  with_reducible refine e_ok (hE4 _) ?_
  repeat walk_at "u"
  with_reducible refine e_ok (hE5 _) ?_
  repeat walk_at "u"
  refine e_ok (G' := G1) (b := D.lst [.bl b1_, .bl b2_, .bl b3_, .bl b4_, .bl b5_]) (by with_unfolding_all rfl) ?_
  repeat walk_at "u"
  with_reducible refine e_ok (hE6 _) ?_
  repeat walk_at "u"
  with_reducible refine e_ok (hE7 _) ?_
  repeat walk_at "u"
  refine e_ok (G' := G1) (b := D.lst [.bl b1_, .bl b2_, .bl b3_, .bl b4_, .bl b5_, .bl b6_, .bl b7_]) (by with_unfolding_all rfl) ?_
  repeat walk_at "u"
  with_reducible refine e_ok (hT _) ?_
  repeat walk_at "u"
  with_reducible refine e_ok (hV _) ?_
  repeat walk_at "u"
  have hb : boolsOf (G1 ++ [Cell.lst [.bl true, .str "other"]]) (D.lst [.bl b1_, .bl b2_, .bl b3_, .bl b4_, .bl b5_, .bl b6_, .bl b7_]) = some [b1_, b2_, b3_, b4_, b5_, b6_, b7_] := rfl
  refine e_ok (G' := G1 ++ [Cell.lst [.bl true, .str "other"]]) (b := D.int (1 : Nat)) (by unfold oCountB; rw [hb]; dsimp only; rw [hk1]) ?_
  repeat walk_at "u"
  refine e_ok (G' := G1 ++ [Cell.lst [.bl true, .str "other"]]) (b := D.int (i : Nat)) (by unfold oIndexB; rw [hb]; dsimp only; rw [if_pos hk2, hk3]) ?_
  refine e_ok (G' := G1 ++ [Cell.lst [.bl true, .str "other"]]) (b := D.str due) (ix_nat rfl hk4) ?_
  repeat walk_at "u"
  refine e_frz (k := (G1 ++ [Cell.lst [.bl true, .str "other"]]).length) rfl snoc1_get ?_
  repeat walk_at "u"
  exact ⟨G, by rw [snoc1_set]; exact hG1, rfl, rfl, rfl⟩
/-! the desk: its rows, where the words are known -/
structure DeskAt (G : GH) (a b : Nat) (kvs : List (Key × D)) : Prop where
  ins : G[a]? = some (.ins "Desk" [("tables", .loc b)])
  dk : G[b]? = some (.dk kvs)
def wsD (ws : List Str) : D := .lst (ws.map D.str)
theorem look_tables {d : D} : ([("tables", d)] : List (Str × D)).lookup ("tables" : Str) = some d := rfl
theorem eq_str2 {x y : Str} {G : GH} : oEq (.str x) (.str y) G = .ok (.bl (decide (x = y))) G := rfl
theorem ne_str2 {x y : Str} {G : GH} : oNe (.str x) (.str y) G = .ok (.bl (!decide (x = y))) G := oNe_of eq_str2
theorem ws_at {ws : List Str} {i : Nat} {x : Str} {G : GH} (h : ws[i]? = some x) : oIx (wsD ws) (.int (i : Nat)) G = .ok (.str x) G := ix_nat (xs := ws.map D.str) rfl (by rw [List.getElem?_map, h]; rfl)
theorem desk_in {G : GH} {b : Nat} {kvs : List (Key × D)} {name : Str} {neg : Bool} (h : G[b]? = some (.dk kvs)) : oDIn neg (.str name) (.loc b) G = .ok (.bl (if neg = true then !(dlk kvs (.inr name)).isSome else (dlk kvs (.inr name)).isSome)) G := by
  unfold oDIn dLook
  dsimp only
  rw [h]
  rfl
theorem desk_has {G : GH} {b : Nat} {kvs : List (Key × D)} {name : Str} {t : D} (h : G[b]? = some (.dk kvs)) (hn : dlk kvs (.inr name) = some t) : oDIn true (.str name) (.loc b) G = .ok (.bl false) G := by
  rw [desk_in h, hn]
  rfl
theorem desk_get {G : GH} {b : Nat} {kvs : List (Key × D)} {name : Str} {t : D} (h : G[b]? = some (.dk kvs)) (ht : dlk kvs (.inr name) = some t) : oDGet (.loc b) (.str name) G = .ok t G := by
  unfold oDGet dLook
  dsimp only
  rw [h]
  show (match (some (dlk kvs (.inr name)) : Option (Option D)) with | some (some x) => Out.ok x G | _ => .stuck) = _
  rw [ht]
section
variable {a b : Nat} {kvs : List (Key × D)} {G : GH} {row : D} {kind name : Str} {Q : D → GH → Prop} {X : Str → GH → Prop}
theorem say_bad {c : Str} {G' : GH} (hw : m_words_in [row] G = .exn c G') (k : X c G') : (m_Desk_say [.loc a, row] G).P Q X := by
  unfold m_Desk_say
  refine e_runF ?_
  unfold g_Desk_say
  repeat walk_at "u"
  exact e_exn hw k
theorem say_looks {wr wp : Str} {r p : Int} (hw : m_words_in [row] G = .ok (wsD ["looks", wr, wp]) G) (hr : oIntS [.str wr] G = .ok (.int r) G) (hp : oIntS [.str wp] G = .ok (.int p) G)
    (k : (m_fewest_looks [.int r, .int p] G).P (fun d G' => ∃ y : Int, d = .int y ∧ y.natAbs.log2 < 1920 ∧ Q (.str (Str.ofString (toString y))) G') X) : (m_Desk_say [.loc a, row] G).P Q X := by
  unfold m_Desk_say
  refine e_runF ?_
  unfold g_Desk_say
  repeat walk_at "u"
  refine e_ok hw ?_
  repeat walk_at "u"
  refine e_eq eq_str2 ?_
  rw [decide_eq_true rfl]
  repeat walk_at "u"
  with_reducible refine e_ok hr ?_
  repeat walk_at "u"
  with_reducible refine e_ok hp ?_
  repeat walk_at "u"
  refine k.imp ?_ (fun _ _ z => z)
  rintro d G' ⟨y, rfl, hy, z⟩
  repeat walk_at "u"
  exact e_ok (by unfold oStr; dsimp only; rw [if_pos hy]) z
def ival (w : Str) : Int := (PySem.intText? w).getD 0
theorem sl_two {k n : Str} {ws : List Str} {G : GH} : oSl false (wsD (k :: n :: ws)) (some 2) none G = .ok (.lst (ws.map D.str)) G := by
  rw [oSl_of (xs := (k :: n :: ws).map D.str) rfl]
  show Out.ok (D.lst (cutD ((k :: n :: ws).map D.str) (some 2) none)) G = _
  congr 2
  unfold cutD
  rw [List.map_cons, List.map_cons, List.length_cons, List.length_cons]
  rw [show (some (2 : Int)) = some ((2 : Nat) : Int) from rfl, HT.sIx_nat, HT.sIx_none, Nat.min_eq_left (by omega)]
  show List.take _ (ws.map D.str) = _
  exact List.take_of_length_le (by omega)
theorem say_nums {ws : List Str} {rh : DEnv} {q : D → GH → Prop} {X : Str → GH → Prop} (hr : rh[2]? = some (some (wsD (kind :: name :: ws)))) (h6 : rh.length = 7) (hl : ws.length ≤ 1000) (hi : ∀ w ∈ ws, oIntS [.str w] G = .ok (.int (ival w)) G) (k : q (.lst ((ws.map ival).map D.int)) G) :
    (mLc false [6] (b1 oSrcL (mSl (oSl false) (mVar 2) (b1 oPt (mC (.int 2))) mNoPt)) (tgName 6) mYes (b1 oIntS (mCons (mVar 6) mNil)) rh G).P q X := by
  refine lc_asL (d := .lst (ws.map D.str)) ws D.str (fun _ => true) (fun w => .int (ival w)) ?_ rfl (by show _ ≤ 2 ^ 24; omega) ?_ ?_
  · refine Out.P.eq ?_
    refine e_sl (e_var hr (e_b1 (e_mC (e_oPt (e_noPt ?_)))))
    refine e_ok sl_two ⟨rfl, rfl⟩
  · intro w hw
    refine ⟨_, rfl, rfl, fun _ => Out.P.eq ?_⟩
    refine e_b1 (e_cons (e_var ?_ (e_nil (e_ok (hi w hw) ⟨rfl, rfl⟩))))
    rw [List.getElem?_set_self (by rw [wipeD_len]; omega)]
  · rw [filtT]
    refine e_mkF ?_
    rw [List.map_map] at k
    exact k
theorem say_told (hd : DeskAt G a b kvs) {ws : List Str} (hw : m_words_in [row] G = .ok (wsD (kind :: name :: ws)) G) (h1 : kind ≠ "looks") (h2 : kind ≠ "table") (h3 : kind ≠ "drop") (h4 : kind ≠ "cell") {t : D} (hn : dlk kvs (.inr name) = some t)
    (hl : ws.length ≤ 1000) (hi : ∀ w ∈ ws, oIntS [.str w] G = .ok (.int (ival w)) G) (k : (m_told_of [.str kind, t, .lst ((ws.map ival).map D.int)] G).P Q X) : (m_Desk_say [.loc a, row] G).P Q X := by
  unfold m_Desk_say
  refine e_runF ?_
  unfold g_Desk_say
  repeat walk_at "u"
  refine e_ok hw ?_
  repeat walk_at "u"
  refine e_ix (ws_at (i := 0) rfl) ?_
  repeat walk_at "u"
  refine e_eq eq_str2 ?_
  rw [decide_eq_false h1]
  repeat walk_at "u"
  refine e_ix (ws_at (i := 1) rfl) ?_
  repeat walk_at "u"
  refine e_ix (ws_at (i := 0) rfl) ?_
  repeat walk_at "u"
  refine e_eq eq_str2 ?_
  rw [decide_eq_false h2]
  repeat walk_at "u"
  refine e_fld hd.ins look_tables ?_
  repeat walk_at "u"
  refine e_ok (desk_has hd.dk hn) ?_
  repeat walk_at "u"
  refine e_ix (ws_at (i := 0) rfl) ?_
  repeat walk_at "u"
  refine e_eq eq_str2 ?_
  rw [decide_eq_false h3]
  repeat walk_at "u"
  refine say_nums rfl rfl hl hi ?_
  repeat walk_at "u"
  refine e_ix (ws_at (i := 0) rfl) ?_
  repeat walk_at "u"
  refine e_ok ne_str2 ?_
  rw [decide_eq_false h4]
  repeat walk_at "u"
  refine e_ix (ws_at (i := 0) rfl) ?_
  repeat walk_at "u"
  refine e_fld hd.ins look_tables ?_
  repeat walk_at "u"
  refine e_ok (desk_get hd.dk hn) ?_
  repeat walk_at "u"
  exact k
end

theorem sp_one : (" " : Str).length = 1 := by decide +kernel
theorem writ_row {r : List Int} {G : GH} (h6 : r.length ≤ 6) (h : ∀ i ∈ r, i.natAbs < 10 ^ 100) : oJoin (.str " ") [.lst ((r.map shS).map D.str)] G = .ok (.str (rowS r)) G :=
  oJoin_of rfl (Nat.le_trans (join_small (k := 101) fun y hy => by
    obtain ⟨i, hi, rfl⟩ := List.mem_map.mp hy
    exact sh_len (by decide) (h i hi)) (by rw [sp_one, List.length_map]; omega))
/-! what is told of a table, as texts -/
def cellS (c : Nat × Nat) : Str := shS (c.1 : Nat) ++ (":" : Str) ++ shS (c.2 : Nat)
def cellsS (cs : List (Nat × Nat)) : Str := if cs = [] then "none" else Txt.join " " (cs.map cellS)
theorem eq_nilD {d : D} {L : List (Nat × Nat)} {G : GH} (h : lstOf G d = some (L.map cD)) : oEq d (.lst []) G = .ok (.bl (decide (L = []))) G := by
  rw [eq_nilL (ps := (L.map cD).map cP) (toP_cells (n := 13) h (fun y hy => by obtain ⟨c, _, rfl⟩ := List.mem_map.mp hy; exact isC_cD c)) (lay_cells (fun y hy => by obtain ⟨c, _, rfl⟩ := List.mem_map.mp hy; exact isC_cD c)) (by omega)]
  cases L <;> rfl
theorem sh_few {n : Nat} (h : n ≤ 1000) : ((n : Nat) : Int).natAbs < 10 ^ 100 := by
  have : ((n : Nat) : Int).natAbs = n := rfl
  rw [this]
  exact Nat.lt_of_le_of_lt h (by decide)
theorem sh_sm {n : Nat} (h : n < 100) : (shS (n : Nat)).length ≤ 3 := sh_len (k := 2) (by decide) (by show n < 10 ^ 2; omega)
theorem add_strs {x y : Str} {G : GH} (h : x.length + y.length ≤ 10000) : oAdd false (.str x) (.str y) G = .ok (.str (x ++ y)) G := by
  show (if x.length + y.length ≤ sizeLine then Out.ok (D.str (x ++ y)) G else .stuck) = _
  rw [if_pos (Nat.le_trans h (by decide))]
theorem len_app {x y : Str} : (x ++ y).length = x.length + y.length := by
  show (x.cps ++ y.cps).size = _
  rw [Array.size_append]
  rfl
theorem cell_len {c : Nat × Nat} (h1 : c.1 < 100) (h2 : c.2 < 100) : (cellS c).length ≤ 7 := by
  have a := sh_sm h1
  have b := sh_sm h2
  unfold cellS
  rw [len_app, len_app]
  have : (":" : Str).length = 1 := by decide +kernel
  omega
theorem one_cell {c : Nat × Nat} {rh : DEnv} {G : GH} (h1 : c.1 < 100) (h2 : c.2 < 100) {i j : Nat} (e1 : rh[i]? = some (some (.int (c.1 : Nat)))) (e2 : rh[j]? = some (some (.int (c.2 : Nat)))) :
    b2 (oAdd false) (b2 (oAdd false) (b1 oStr (mCons (mVar i) mNil)) (mC (.str ":"))) (b1 oStr (mCons (mVar j) mNil)) rh G = .ok (.str (cellS c)) G := by
  have a := sh_sm h1
  have b := sh_sm h2
  have cc : (":" : Str).length = 1 := by decide +kernel
  refine Out.P.eq ?_
  refine e_b2 (e_b2 (e_b1 (e_cons (e_var e1 (e_nil (e_ok (oStr_few (sh_few (by omega))) (e_mC (e_ok (add_strs (by omega)) ?_))))))))
  refine e_b1 (e_cons (e_var e2 (e_nil (e_ok (oStr_few (sh_few (by omega))) (e_ok (add_strs (by rw [len_app]; omega)) ⟨rfl, rfl⟩)))))
theorem cells_join {cs : List (Nat × Nat)} {G : GH} (hl : cs.length ≤ 1000) (hc : ∀ c ∈ cs, c.1 < 100 ∧ c.2 < 100) : oJoin (.str " ") [.lst ((cs.map cellS).map D.str)] G = .ok (.str (Txt.join " " (cs.map cellS))) G :=
  oJoin_of rfl (Nat.le_trans (join_small (k := 7) fun y hy => by
    obtain ⟨c, hc', rfl⟩ := List.mem_map.mp hy
    exact cell_len (hc c hc').1 (hc c hc').2) (by rw [sp_one, List.length_map]; omega))
theorem celltext_ok {cs : List (Nat × Nat)} {G : GH} (hl : cs.length ≤ 1000) (hc : ∀ c ∈ cs, c.1 < 100 ∧ c.2 < 100) : m_cells_text [.lst (cs.map cD)] G = .ok (.str (cellsS cs)) G := by
  refine Out.P.eq ?_
  unfold m_cells_text
  refine e_runF ?_
  unfold g_cells_text
  have hd : lstO G (.lst (cs.map cD)) = some (cs.map cD) := rfl
  generalize D.lst (cs.map cD) = t at hd ⊢
  repeat walk_at "u"
  with_reducible refine e_eq (eq_nilD (lstOf_of hd)) ?_
  unfold cellsS
  by_cases h0 : cs = []
  · rw [decide_eq_true h0, if_pos h0]
    repeat walk_at "u"
    first | rfl | exact ⟨rfl, rfl⟩
  · rw [decide_eq_false h0, if_neg h0]
    repeat walk_at "u"
    with_reducible refine lc_asL (d := t) cs cD (fun _ => true) (fun c => .str (cellS c)) rfl (lstOf_of hd) (Nat.le_trans hl (by decide)) (fun c hc' => ⟨_, rfl, rfl, fun _ => one_cell (hc c hc').1 (hc c hc').2 rfl rfl⟩) ?_
    rw [filtT, show cs.map (fun c => D.str (cellS c)) = (cs.map cellS).map D.str by rw [List.map_map]; rfl]
    with_reducible refine e_mkF ?_
    repeat walk_at "u"
    with_reducible refine e_ok (cells_join hl hc) ?_
    first | rfl | exact ⟨rfl, rfl⟩

section
variable {w : Nat} {T : List (List Int)} {G : GH}
theorem cells_small {x : Int} (hT : Tab w T) : ∀ c ∈ cellsT T w x, c.1 < 6 ∧ c.2 < 6 := fun c hc => by
  have h6 := hT.h6
  have w6 := hT.w6
  unfold cellsT at hc
  obtain ⟨h1, _⟩ := List.mem_filter.mp hc
  unfold allC at h1
  obtain ⟨r, hr, h2⟩ := List.mem_flatMap.mp h1
  obtain ⟨p, hp, rfl⟩ := List.mem_map.mp h2
  have := List.mem_range.mp hr
  have := List.mem_range.mp hp
  dsimp only
  omega
theorem cells_few {x : Int} (hT : Tab w T) : (cellsT T w x).length ≤ 36 := by
  have h6 := hT.h6
  have w6 := hT.w6
  have h2 : T.length * w ≤ 36 := Nat.mul_le_mul h6 w6
  have : (cellsT T w x).length ≤ (allC T.length w).length := List.length_filter_le _ _
  rw [allC_len] at this
  omega
theorem less_small {x : Int} (hT : Tab w T) : ∀ v ∈ lessT T x, v.natAbs ≤ 6 := fun v hv => by
  have w6 := hT.w6
  unfold lessT at hv
  obtain ⟨r, hr, rfl⟩ := List.mem_map.mp hv
  have h1 : (r.filter fun n => decide (n < x)).length ≤ r.length := List.length_filter_le _ _
  have h2 := hT.wide r hr
  show (r.filter fun n => decide (n < x)).length ≤ 6
  omega
theorem told_find {x : Int} (hT : Tab w T) (hG : G.all (belC G.length) = true) : m_told_of [.str "find", tabD T, .lst [.int x]] G = .ok (.str (cellsS (cellsT T w x))) G := by
  have hc := cellsI_ok hT (x := x) (IsTab.frozen T) hG
  refine Out.P.eq ?_
  unfold m_told_of
  refine e_runF ?_
  unfold g_told_of
  generalize tabD T = t at hc ⊢
  repeat walk_at "u"
  refine e_eq eq_str2 ?_
  rw [decide_eq_true rfl]
  repeat walk_at "u"
  refine e_ok hc ?_
  repeat walk_at "u"
  refine e_ok (celltext_ok (Nat.le_trans (cells_few hT) (by decide)) fun c hc => by have := cells_small hT c hc; omega) ?_
  first | rfl | exact ⟨rfl, rfl⟩
theorem stair_join {x : Int} (hT : Tab w T) : oJoin (.str " ") [.lst (((lessT T x).map shS).map D.str)] G = .ok (.str (rowS (lessT T x))) G := writ_row (by rw [less_len]; exact hT.h6) fun i hi => Nat.lt_of_le_of_lt (less_small hT i hi) (by decide)
theorem told_stair {x : Int} (hT : Tab w T) : m_told_of [.str "stair", tabD T, .lst [.int x]] G = .ok (.str (rowS (lessT T x))) G := by
  have hc := stair_ok hT (x := x) (G := G)
  refine Out.P.eq ?_
  unfold m_told_of
  refine e_runF ?_
  unfold g_told_of
  generalize tabD T = t at hc ⊢
  repeat walk_at "u"
  refine e_eq eq_str2 ?_
  rw [decide_eq_false (by decide)]
  repeat walk_at "u"
  refine e_eq eq_str2 ?_
  rw [decide_eq_true rfl]
  repeat walk_at "u"
  refine lc_asL (d := rowD (lessT T x)) (lessT T x) D.int (fun _ => true) (fun v => .str (shS v)) ?_ rfl (by rw [less_len]; exact Nat.le_trans hT.h6 (by decide)) (fun v hv => ⟨_, rfl, rfl, fun _ => Out.P.eq ?_⟩) ?_
  · refine Out.P.eq ?_
    repeat walk_at "u"
    exact e_ok hc ⟨rfl, rfl⟩
  · repeat walk_at "u"
    refine e_ok (oStr_few (Nat.lt_of_le_of_lt (less_small hT v hv) (by decide))) ?_
    first | rfl | exact ⟨rfl, rfl⟩
  · rw [filtT, show (lessT T x).map (fun v => D.str (shS v)) = ((lessT T x).map shS).map D.str by rw [List.map_map]; rfl]
    refine e_mkF ?_
    repeat walk_at "u"
    refine e_ok (stair_join hT) ?_
    first | rfl | exact ⟨rfl, rfl⟩
theorem told_walk {x : Int} (hT : Tab w T) (hG : G.all (belC G.length) = true) : m_told_of [.str "walk", tabD T, .lst [.int x]] G = .ok (.str (cellsS (walkC T x (T.length + w) 0 w).1)) G := by
  have hc := walkF_ok hT (x := x) hG
  have h6 := hT.h6
  have w6 := hT.w6
  refine Out.P.eq ?_
  unfold m_told_of
  refine e_runF ?_
  unfold g_told_of
  generalize tabD T = t at hc ⊢
  repeat walk_at "u"
  refine e_eq eq_str2 ?_
  rw [decide_eq_false (by decide)]
  repeat walk_at "u"
  refine e_eq eq_str2 ?_
  rw [decide_eq_false (by decide)]
  repeat walk_at "u"
  refine e_eq eq_str2 ?_
  rw [decide_eq_true rfl]
  repeat walk_at "u"
  refine e_ok hc ?_
  repeat walk_at "u"
  refine e_ok (celltext_ok (by have := walk_len (T := T) (x := x) (T.length + w) 0 w; omega) fun c hc => by have := walk_in (T := T) (x := x) (T.length + w) 0 w (Nat.le_refl _) c hc; omega) ?_
  first | rfl | exact ⟨rfl, rfl⟩
theorem told_below {x : Int} (hT : Tab w T) : m_told_of [.str "below", tabD T, .lst [.int x]] G = .ok (.str (shS ((T.flatten.filter fun n => decide (n < x)).length : Nat))) G := by
  have hc := cless_ok hT (x := x) (G := G)
  have hl : (T.flatten.filter fun n => decide (n < x)).length ≤ 1000 := by
    have := flat_pos hT
    have h2 : (T.flatten.filter fun n => decide (n < x)).length ≤ T.flatten.length := List.length_filter_le _ _
    omega
  refine Out.P.eq ?_
  unfold m_told_of
  refine e_runF ?_
  unfold g_told_of
  generalize tabD T = t at hc ⊢
  repeat walk_at "u"
  refine e_eq eq_str2 ?_
  rw [decide_eq_false (by decide)]
  repeat walk_at "u"
  refine e_eq eq_str2 ?_
  rw [decide_eq_false (by decide)]
  repeat walk_at "u"
  refine e_eq eq_str2 ?_
  rw [decide_eq_false (by decide)]
  repeat walk_at "u"
  refine e_eq eq_str2 ?_
  rw [decide_eq_true rfl]
  repeat walk_at "u"
  refine e_ok hc ?_
  repeat walk_at "u"
  refine e_ok (oStr_few (sh_few hl)) ?_
  first | rfl | exact ⟨rfl, rfl⟩
theorem ord_few {k : Nat} (hF : Few T) : ((ordT T).getD k 0).natAbs < 10 ^ 100 := by
  rw [List.getD_eq_getElem?_getD]
  cases e : (ordT T)[k]? with
  | none => simp
  | some v =>
    have h1 := (ord_perm T).mem_iff.mp (List.mem_of_getElem? e)
    obtain ⟨r, hr, hv⟩ := List.mem_flatten.mp h1
    exact (hF r hr).2.2 v hv
theorem told_nth {k : Nat} (hT : Tab w T) (hF : Few T) (hk : k < T.length * w) (hG : G.all (belC G.length) = true) : m_told_of [.str "nth", tabD T, .lst [.int (k : Nat)]] G = .ok (.str (shS ((ordT T).getD k 0))) G := by
  have hc := byI_ok hT hk (IsTab.frozen T) hG
  refine Out.P.eq ?_
  unfold m_told_of
  refine e_runF ?_
  unfold g_told_of
  generalize tabD T = t at hc ⊢
  repeat walk_at "u"
  refine e_eq eq_str2 ?_
  rw [decide_eq_false (by decide)]
  repeat walk_at "u"
  refine e_eq eq_str2 ?_
  rw [decide_eq_false (by decide)]
  repeat walk_at "u"
  refine e_eq eq_str2 ?_
  rw [decide_eq_false (by decide)]
  repeat walk_at "u"
  refine e_eq eq_str2 ?_
  rw [decide_eq_false (by decide)]
  repeat walk_at "u"
  refine e_eq eq_str2 ?_
  rw [decide_eq_true rfl]
  repeat walk_at "u"
  refine e_ok hc ?_
  repeat walk_at "u"
  refine e_ok (oStr_few (ord_few hF)) ?_
  first | rfl | exact ⟨rfl, rfl⟩
theorem by_no {k : Nat} (hT : Tab w T) (hk : T.length * w ≤ k) (hG : G.all (belC G.length) = true) : m_number_by [tabD T, .int (k : Nat)] G = .exn "NoPlace" G := by
  have hlen : (mergedT T).length = T.length * w := by rw [merged_len, flat_len hT.wide]
  have hm := mergedI_ok hT (IsTab.frozen T) hG
  have key : (m_number_by [tabD T, .int (k : Nat)] G).P (fun _ _ => False) (fun c G' => c = "NoPlace" ∧ G' = G) := by
    generalize tabD T = t at hm
    unfold m_number_by
    refine e_runF ?_
    unfold g_number_by
    repeat walk_at "u"
    refine e_ok hm ?_
    repeat walk_at "u"
    refine e_ok (whole_int _ G) ?_
    repeat walk_at "u"
    rw [decide_eq_true (show (0 : Int) ≤ (k : Nat) by omega)]
    repeat walk_at "u"
    rw [decide_eq_false (show ¬ ((k : Nat) : Int) < ((mergedT T).length : Nat) by omega)]
    repeat walk_at "u"
    first | rfl | exact ⟨rfl, rfl⟩
  revert key
  generalize m_number_by [tabD T, .int (k : Nat)] G = o
  intro key
  cases o with
  | ok y G' => exact key.elim
  | exn c G' => obtain ⟨rfl, rfl⟩ := key; rfl
  | stuck => exact key.elim
theorem told_nth_no {k : Nat} (hT : Tab w T) (hk : T.length * w ≤ k) (hG : G.all (belC G.length) = true) {Q : D → GH → Prop} {X : Str → GH → Prop} (kk : X "NoPlace" G) : (m_told_of [.str "nth", tabD T, .lst [.int (k : Nat)]] G).P Q X := by
  have hc := by_no hT hk hG
  unfold m_told_of
  refine e_runF ?_
  unfold g_told_of
  generalize tabD T = t at hc ⊢
  repeat walk_at "u"
  refine e_eq eq_str2 ?_
  rw [decide_eq_false (by decide)]
  repeat walk_at "u"
  refine e_eq eq_str2 ?_
  rw [decide_eq_false (by decide)]
  repeat walk_at "u"
  refine e_eq eq_str2 ?_
  rw [decide_eq_false (by decide)]
  repeat walk_at "u"
  refine e_eq eq_str2 ?_
  rw [decide_eq_false (by decide)]
  repeat walk_at "u"
  refine e_eq eq_str2 ?_
  rw [decide_eq_true rfl]
  repeat walk_at "u"
  exact e_exn hc kk
end

theorem needsize_no {r p : Int} {G : GH} (h : ¬ ((1 ≤ r ∧ r ≤ 4) ∧ 1 ≤ p ∧ p ≤ 4)) {Q : D → GH → Prop} {X : Str → GH → Prop} (k : X "NoSize" G) : (m_need_size [.int r, .int p] G).P Q X := by
  unfold m_need_size
  refine e_runF ?_
  unfold g_need_size
  repeat walk_at "u"
  refine e_ok (b := srcC [D.int r, D.int p]) rfl ?_
  refine loopC_P [D.int r, D.int p] (fun i rh G' => G' = G ∧ ∃ x, rh = [some (.int r), some (.int p), x] ∧ (i = 0 ∨ (i = 1 ∧ 1 ≤ r ∧ r ≤ 4))) ?_ ⟨rfl, _, rfl, .inl rfl⟩ ?_
  · rintro i x rh _ hx ⟨rfl, y, rfl, hi⟩
    refine ⟨_, rfl, ?_⟩
    rcases hi with rfl | ⟨rfl, h1, h2⟩
    · obtain rfl : D.int r = x := Option.some.inj hx
      repeat walk_at "u"
      refine e_ok (whole_int _ _) ?_
      repeat walk_at "u"
      by_cases a : 1 ≤ r
      · rw [decide_eq_true a]
        repeat walk_at "u"
        by_cases b : r ≤ 4
        · rw [decide_eq_true b]
          repeat walk_at "u"
          exact ⟨_, rfl, .inr ⟨rfl, a, b⟩⟩
        · rw [decide_eq_false b]
          repeat walk_at "u"
          exact k
      · rw [decide_eq_false a]
        repeat walk_at "u"
        exact k
    · obtain rfl : D.int p = x := Option.some.inj hx
      repeat walk_at "u"
      refine e_ok (whole_int _ _) ?_
      repeat walk_at "u"
      by_cases a : 1 ≤ p
      · rw [decide_eq_true a]
        repeat walk_at "u"
        have b : ¬ p ≤ 4 := fun b => h ⟨⟨h1, h2⟩, a, b⟩
        rw [decide_eq_false b]
        repeat walk_at "u"
        exact k
      · rw [decide_eq_false a]
        repeat walk_at "u"
        exact k
  · rintro rh _ ⟨rfl, x, rfl, hi⟩
    have hi : (2 : Nat) = 0 ∨ (2 : Nat) = 1 ∧ 1 ≤ r ∧ r ≤ 4 := hi
    omega
theorem fewest_no {r p : Int} {G : GH} (h : ¬ ((1 ≤ r ∧ r ≤ 4) ∧ 1 ≤ p ∧ p ≤ 4)) (hG : G.all (belC G.length) = true) {Q : D → GH → Prop} {X : Str → GH → Prop} (k : X "NoSize" G) : (m_fewest_looks [.int r, .int p] G).P Q X := by
  unfold m_fewest_looks
  refine e_runF ?_
  unfold g_fewest_looks
  refine e_trunc ?_
  repeat walk_at "u"
  refine needsize_no h ?_
  exact ⟨G, by have := trunc_ok (G := G) (fs := []) hG; rwa [List.append_nil] at this, k⟩

/-! the rows evaluated over any list held -/
def T4 : D := .lst [.str "a", .str "abcdefgh", .str "b", .str "c"]
def rowsO (o : Out D) : List D := match o with
  | .ok (.lst xs) _ => xs
  | _ => []
def noneL : List D := rowsO (m_law_none [] [])
def othersL : List D := rowsO (m_law_others [] [])
def oddL : List D := [.non, .int 0, .lst [.str "show a"], .bl true, .tup [.str "show", .str "a"], .dct0]
def dRow (d : D) : D := .tup [d, .str "row"]
def everyL : List D := (noneL.map dRow ++ othersL) ++ oddL.map dRow
def tabA : D := .lst [.lst [.int 1, .int 3], .lst [.int 2, .int 5]]
def tabH : D := .lst [.lst [.int 1, .int 1, .int 1], .lst [.int 1, .int 1, .int 1]]
def tabB : D := .lst [.lst [.int 7]]
def GX (xs : List D) : GH := [.ins "Desk" [("tables", .loc 1)], .dk [(.inr "a", tabA), (.inr "abcdefgh", tabH), (.inr "b", tabB)], .ins "Desk" [("tables", .loc 3)], .dk [], .dead, .dead, .dead, .lst xs, .lst everyL]
theorem every_len : everyL.length = 209 := by decide +kernel
def exnC : Out D → Option (Str × GH)
  | .exn c G => some (c, G.take 10)
  | _ => none
def clsOf (due : Str) : Str := match dueL.find? (fun q => q.2 == due) with
  | some q => q.1
  | none => ""
def isPS (due : Str) : Bool := decide (due = "place") || decide (due = "size")
def runE (xs : List D) (e : D) : Option (Str × GH) := match e with
  | .tup [r, .str due] => if isPS due = true then none else exnC (m_Desk_say [.loc 0, r] (GX xs ++ [askC]))
  | _ => none
def wantE (xs : List D) (e : D) : Option (Str × GH) := match e with
  | .tup [_, .str due] => if isPS due = true then none else some (clsOf due, GX xs ++ [askC])
  | _ => none
set_option maxHeartbeats 0 in
theorem every_run (xs : List D) : everyL.map (runE xs) = everyL.map (wantE xs) := by kernel_rfl
def shapeB (e : D) : Bool := match e with
  | .tup [_, .str due] => dueL.any fun q => q.1 == clsOf due && q.2 == due
  | _ => false
theorem every_shape : everyL.all shapeB = true := by decide +kernel
def psB (e : D) : Bool := match e with
  | .tup [_, .str due] => isPS due
  | _ => false
def psL : List (Str × Str) := [("nth a 4", "place"), ("nth a 99", "place"), ("nth b 1", "place"), ("looks 0 1", "size"), ("looks 1 0", "size"), ("looks 5 1", "size"), ("looks 4 5", "size"), ("looks 99 99", "size"), ("looks 0 0", "size")]
theorem every_ps : everyL.filter psB = psL.map fun q => D.tup [.str q.1, .str q.2] := by kernel_rfl

theorem map_at {A B : Type} {f g : A → B} : ∀ {l : List A}, l.map f = l.map g → ∀ x ∈ l, f x = g x
  | [], _, x, h => nomatch h
  | y :: l, e, x, h => by
    rw [List.map_cons, List.map_cons] at e
    have e2 := List.cons.inj e
    rcases List.mem_cons.mp h with rfl | h
    · exact e2.1
    · exact map_at e2.2 x h
def HX (k : Nat) : List D := List.replicate k T4
theorem gx_len (xs : List D) : (GX xs).length = 9 := rfl
theorem every_bel : everyL.all (bel 8 9) = true := by decide +kernel
theorem gx_bel (k : Nat) : (GX (HX k)).all (belC (GX (HX k)).length) = true := by
  rw [gx_len]
  unfold GX
  have h1 : belC 9 (.lst (HX k)) = true := by
    show (HX k).all (bel 8 9) = true
    unfold HX
    rw [List.all_replicate]
    cases k with
    | zero => rfl
    | succ n => rfl
  have h2 : belC 9 (.lst everyL) = true := every_bel
  simp only [List.all_cons, h1, h2, List.all_nil, Bool.and_true]
  decide +kernel
theorem desk_at (k : Nat) : DeskAt (GX (HX k) ++ [askC]) 0 1 [(.inr "a", tabA), (.inr "abcdefgh", tabH), (.inr "b", tabB)] := ⟨rfl, rfl⟩
theorem ga_bel (k : Nat) : (GX (HX k) ++ [askC]).all (belC (GX (HX k) ++ [askC]).length) = true := by
  rw [List.all_append, Bool.and_eq_true]
  exact ⟨List.all_eq_true.mpr fun c hc => belC_up (by rw [List.length_append]; omega) (List.all_eq_true.mp (gx_bel k) c hc), rfl⟩
theorem ins_at (k : Nat) : insOf "Desk" (.loc 0) (GX (HX k) ++ [askC]) = some (0, [(("tables" : Str), D.loc 1)]) := by
  unfold insOf
  dsimp only
  rw [show (GX (HX k) ++ [askC])[0]? = some (Cell.ins "Desk" [(("tables" : Str), D.loc 1)]) from rfl]
  dsimp only
  rw [if_pos rfl]
theorem ins_ne (k : Nat) : insOf "Desk" (.loc 0) (GX (HX k) ++ [askC]) ≠ none := by
  rw [ins_at]
  exact fun h => nomatch h
theorem ins_say (k : Nat) : ∀ q, insOf "Desk" (.loc 0) (GX (HX k) ++ [askC]) = some q → q.2.lookup ("say" : Str) = none := by
  intro q h
  rw [ins_at] at h
  cases h
  rfl
theorem said_of {k : Nat} {r : D} {c due : Str} (hc : (c, due) ∈ dueL) (h : ∃ E, m_Desk_say [.loc 0, r] (GX (HX k) ++ [askC]) = .exn c (GX (HX k) ++ askC :: E)) : m_law_said [.loc 0, r] (GX (HX k)) = .ok (.lst [.bl true, .str due]) (GX (HX k)) := by
  obtain ⟨E, h⟩ := h
  exact said_no (gx_bel k) hc (ins_ne k) (ins_say k) h
theorem exn_of {o : Out D} {c : Str} {k : Nat} (h : exnC o = some (c, GX (HX k) ++ [askC])) : ∃ E, o = .exn c (GX (HX k) ++ askC :: E) := by
  unfold exnC at h
  split at h
  · rename_i c' G
    have h2 := Prod.mk.inj (Option.some.inj h)
    obtain ⟨rfl, h3⟩ := h2
    refine ⟨G.drop 10, ?_⟩
    have : GX (HX k) ++ askC :: G.drop 10 = (GX (HX k) ++ [askC]) ++ G.drop 10 := by rw [List.append_assoc]; rfl
    rw [this, ← h3, List.take_append_drop]
  · cases h
theorem exn_P {o : Out D} {c : Str} {k : Nat} (h : o.P (fun _ _ => False) (fun c' G' => c' = c ∧ G' = GX (HX k) ++ [askC])) : ∃ E, o = .exn c (GX (HX k) ++ askC :: E) := by
  cases o with
  | ok y G' => exact h.elim
  | exn c' G' => obtain ⟨rfl, rfl⟩ := h; exact ⟨[], rfl⟩
  | stuck => exact h.elim
theorem tabA_ok : Tab 2 [[1, 3], [2, 5]] := (rectB_iff ⟨by decide, by decide, by decide, by decide, by decide⟩).mp (by decide +kernel)
theorem tabB_ok : Tab 1 [[7]] := (rectB_iff ⟨by decide, by decide, by decide, by decide, by decide⟩).mp (by decide +kernel)
theorem tabH_ok : Tab 3 [[1, 1, 1], [1, 1, 1]] := (rectB_iff ⟨by decide, by decide, by decide, by decide, by decide⟩).mp (by decide +kernel)
theorem int_of {w : Str} {i : Int} {G : GH} (h : intText? w = some i) (hl : w.length ≤ 640) : oIntS [.str w] G = .ok (.int i) G := by
  unfold oIntS
  dsimp only
  rw [h]
  dsimp only
  rw [if_pos hl]
theorem place_said {k : Nat} {name w : Str} {j q : Nat} {T : List (List Int)} {row : Str} (hT : Tab q T) (hw : ∀ G, m_words_in [.str row] G = .ok (wsD ["nth", name, w]) G) (hn : dlk [((.inr "a" : Key), tabA), (.inr "abcdefgh", tabH), (.inr "b", tabB)] (.inr name) = some (tabD T)) (hi : intText? w = some ((j : Nat) : Int)) (hl : w.length ≤ 640) (hj : T.length * q ≤ j) :
    m_law_said [.loc 0, .str row] (GX (HX k)) = .ok (.lst [.bl true, .str "place"]) (GX (HX k)) := by
  refine said_of (c := "NoPlace") (by decide +kernel) (exn_P ?_)
  have hv : ival w = (j : Nat) := by unfold ival; rw [hi]; rfl
  refine say_told (desk_at k) (hw _) (by decide) (by decide) (by decide) (by decide) hn (by show 1 ≤ 1000; decide) (fun z hz => ?_) ?_
  · rw [List.mem_singleton] at hz
    subst hz
    rw [hv]
    exact int_of hi hl
  · show (m_told_of [.str "nth", tabD T, .lst [.int (ival w)]] _).P _ _
    rw [hv]
    exact told_nth_no hT hj (ga_bel k) ⟨rfl, rfl⟩
theorem size_said {k : Nat} {wr wp : Str} {r p : Int} {row : Str} (hw : ∀ G, m_words_in [.str row] G = .ok (wsD ["looks", wr, wp]) G) (hi : intText? wr = some r) (hl : wr.length ≤ 640) (hi2 : intText? wp = some p) (hl2 : wp.length ≤ 640) (hs : ¬ ((1 ≤ r ∧ r ≤ 4) ∧ 1 ≤ p ∧ p ≤ 4)) :
    m_law_said [.loc 0, .str row] (GX (HX k)) = .ok (.lst [.bl true, .str "size"]) (GX (HX k)) := by
  refine said_of (c := "NoSize") (by decide +kernel) (exn_P ?_)
  exact say_looks (hw _) (int_of hi hl) (int_of hi2 hl2) (fewest_no hs (ga_bel k) ⟨rfl, rfl⟩)
theorem ps_said (k : Nat) : ∀ q ∈ psL, m_law_said [.loc 0, .str q.1] (GX (HX k)) = .ok (.lst [.bl true, .str q.2]) (GX (HX k)) := by
  intro q hq
  unfold psL at hq
  simp only [List.mem_cons, List.not_mem_nil, or_false] at hq
  rcases hq with rfl | rfl | rfl | rfl | rfl | rfl | rfl | rfl | rfl
  · exact place_said (w := "4") (name := "a") (j := 4) tabA_ok (fun G => by kernel_rfl) (by kernel_rfl) (by kernel_rfl) (by decide +kernel) (by decide)
  · exact place_said (w := "99") (name := "a") (j := 99) tabA_ok (fun G => by kernel_rfl) (by kernel_rfl) (by kernel_rfl) (by decide +kernel) (by decide)
  · exact place_said (w := "1") (name := "b") (j := 1) tabB_ok (fun G => by kernel_rfl) (by kernel_rfl) (by kernel_rfl) (by decide +kernel) (by decide)
  · exact size_said (wr := "0") (wp := "1") (r := 0) (p := 1) (fun G => by kernel_rfl) (by kernel_rfl) (by decide +kernel) (by kernel_rfl) (by decide +kernel) (by decide)
  · exact size_said (wr := "1") (wp := "0") (r := 1) (p := 0) (fun G => by kernel_rfl) (by kernel_rfl) (by decide +kernel) (by kernel_rfl) (by decide +kernel) (by decide)
  · exact size_said (wr := "5") (wp := "1") (r := 5) (p := 1) (fun G => by kernel_rfl) (by kernel_rfl) (by decide +kernel) (by kernel_rfl) (by decide +kernel) (by decide)
  · exact size_said (wr := "4") (wp := "5") (r := 4) (p := 5) (fun G => by kernel_rfl) (by kernel_rfl) (by decide +kernel) (by kernel_rfl) (by decide +kernel) (by decide)
  · exact size_said (wr := "99") (wp := "99") (r := 99) (p := 99) (fun G => by kernel_rfl) (by kernel_rfl) (by decide +kernel) (by kernel_rfl) (by decide +kernel) (by decide)
  · exact size_said (wr := "0") (wp := "0") (r := 0) (p := 0) (fun G => by kernel_rfl) (by kernel_rfl) (by decide +kernel) (by kernel_rfl) (by decide +kernel) (by decide)
theorem every_said {e : D} (he : e ∈ everyL) : ∃ r due, e = .tup [r, .str due] ∧ ∀ k, m_law_said [.loc 0, r] (GX (HX k)) = .ok (.lst [.bl true, .str due]) (GX (HX k)) := by
  have hs := List.all_eq_true.mp every_shape e he
  unfold shapeB at hs
  split at hs
  · rename_i r due
    obtain ⟨q, hq, hq2⟩ := List.any_eq_true.mp hs
    obtain ⟨h1, h2⟩ := Bool.and_eq_true_iff.mp hq2
    have hd : (clsOf due, due) ∈ dueL := by
      rw [← eq_of_beq h1, ← eq_of_beq h2]
      exact hq
    refine ⟨r, due, rfl, fun k => ?_⟩
    cases hp : isPS due with
    | false =>
      have hm := map_at (every_run (HX k)) _ he
      unfold runE wantE at hm
      dsimp only at hm
      rw [hp] at hm
      simp only [Bool.false_eq_true, if_false] at hm
      exact said_of hd (exn_of hm)
    | true =>
      have hm : D.tup [r, .str due] ∈ everyL.filter psB := List.mem_filter.mpr ⟨he, hp⟩
      rw [every_ps] at hm
      obtain ⟨q, hq, e⟩ := List.mem_map.mp hm
      have := ps_said k q hq
      cases e
      exact this
  · cases hs

/-! texts taken apart (plain) -/
def Runs (n : Nat) (l : List Nat) : Prop := ∀ a m b : List Nat, l = a ++ (m ++ b) → (∀ c ∈ m, c ≠ 32 ∧ c ≠ 10) → m.length ≤ n
theorem Runs.sep {n s : Nat} {p q : List Nat} (hs : s = 32 ∨ s = 10) (h1 : Runs n p) (h2 : Runs n q) : Runs n (p ++ ([s] ++ q)) := fun a m b h hm => by
  have no : s ∉ m := fun z => by
    have := hm s z
    omega
  rcases List.append_eq_append_iff.mp h with ⟨t, e1, e2⟩ | ⟨t, e1, e2⟩
  · cases t with
    | nil =>
      cases m with
      | nil => exact Nat.zero_le _
      | cons c m =>
        have : s = c := (List.cons.inj e2).1
        exact absurd (by rw [this]; exact List.mem_cons_self) no
    | cons c t => exact h2 t m b (List.cons.inj e2).2 hm
  · rcases List.append_eq_append_iff.mp e2 with ⟨u, e3, e4⟩ | ⟨u, e3, e4⟩
    · exact h1 a m u (by rw [e1, e3]) hm
    · subst e3
      cases u with
      | nil =>
        rw [List.append_nil]
        exact h1 a t [] (by rw [List.append_nil]; exact e1) fun c hc => hm c (List.mem_append_left _ hc)
      | cons c u =>
        have : s = c := (List.cons.inj e4).1
        exact absurd (by rw [this]; exact List.mem_append_right _ List.mem_cons_self) no
theorem Runs.take {n k : Nat} {l : List Nat} (h : Runs n l) : Runs n (l.take k) := fun a m b e hm => h a m (b ++ l.drop k) (by
  rw [← List.append_assoc m, ← List.append_assoc a, ← e, List.take_append_drop]) hm
theorem Runs.drop {n k : Nat} {l : List Nat} (h : Runs n l) : Runs n (l.drop k) := fun a m b e hm => h (l.take k ++ a) m b (by
  rw [List.append_assoc, ← e, List.take_append_drop]) hm
theorem Runs.len {n : Nat} {l : List Nat} (h : l.length ≤ n) : Runs n l := fun a m b e _ => by
  have := congrArg List.length e
  rw [List.length_append, List.length_append] at this
  omega
theorem Runs.le {n k : Nat} {l : List Nat} (h : Runs n l) (hk : n ≤ k) : Runs k l := fun a m b e hm => Nat.le_trans (h a m b e hm) hk
theorem Runs.join {n s : Nat} (hs : s = 32 ∨ s = 10) : ∀ {ps : List (List Nat)}, (∀ p ∈ ps, Runs n p) → Runs n (TL.joinL [s] ps)
  | [], _ => Runs.len (Nat.zero_le _)
  | [p], h => h p List.mem_cons_self
  | p :: q :: r, h => Runs.sep hs (h p List.mem_cons_self) (Runs.join hs fun z hz => h z (List.mem_cons_of_mem _ hz))
/-- a text's rows, a row's words -/
def rowsOf (x : Str) : List Str := Txt.split x "\n"
def wordsOf (r : Str) : List Str := Txt.split r " "
/-- a word's figures -/
def figs (a : List Nat) : List Nat := if a.take 1 = [45] then a.drop 1 else a
structure Writes (a : List Nat) : Prop where
  ne : figs a ≠ []
  dig : ∀ c ∈ figs a, 48 ≤ c ∧ c ≤ 57
  no0 : a ≠ [45, 48]
  lead : ¬ (1 < (figs a).length ∧ (figs a).head? = some 48)
/-! words: names, figures, rows taken apart -/
def OkS (x : Str) : Prop := ∀ c ∈ TL.tl x, c < 1114112
theorem lay_str {n : Nat} {x : Str} (h : OkS x) (hn : 1 ≤ n := by omega) : Lay n (.str x) := by
  refine ⟨?_, by simp [PyData.depth]; try omega⟩
  show x.cps.all (fun c => decide (c < 0x110000)) = true
  rw [← Array.all_toList, List.all_eq_true]
  exact fun c hc => decide_eq_true (h c hc)
theorem lay_strs {L : List Str} (h : ∀ x ∈ L, OkS x) : Lay 2 (.list (L.map PyData.str)) := (LayL.of (n := 1) fun p hp => by
  obtain ⟨x, hx, rfl⟩ := List.mem_map.mp hp
  exact lay_str (h x hx)).list
theorem toP_strs {L : List Str} {G : GH} {d : D} (h : lstOf G d = some (L.map D.str)) : toP G 16 d = some (.list (L.map PyData.str)) :=
  toP_lst (n := 15) h (mapO_mapR (e := D.str) (g := PyData.str) fun x _ => rfl)
theorem eq_strs_nil {L : List Str} {G : GH} {d : D} (h : lstOf G d = some (L.map D.str)) (hL : ∀ x ∈ L, OkS x) : oEq d (.lst []) G = .ok (.bl (decide (L = []))) G := by
  rw [eq_nilL (toP_strs h) (lay_strs hL)]
  congr 2
  simp
def signS (c : Nat) : Str := ⟨#[c]⟩
theorem ok_sign {z : Str} (h : OkS z) {l : List Nat} (hl : ∀ c ∈ l, c ∈ TL.tl z) : ∀ x ∈ l.map signS, OkS x := fun x hx => by
  obtain ⟨c, hc, rfl⟩ := List.mem_map.mp hx
  intro k hk
  have : k = c := by simpa [signS, TL.tl] using hk
  rw [this]
  exact h c (hl c hc)
theorem lets_mk : ("abcdefghijklmnopqrstuvwxyz" : Str) = mkW [97, 98, 99, 100, 101, 102, 103, 104, 105, 106, 107, 108, 109, 110, 111, 112, 113, 114, 115, 116, 117, 118, 119, 120, 121, 122] := by decide +kernel
theorem is_let {c : Nat} {G : GH} : oNotInSg (.str ⟨#[c]⟩) (.str "abcdefghijklmnopqrstuvwxyz") G = .ok (.bl (!decide (97 ≤ c ∧ c ≤ 122))) G := by
  rw [lets_mk]
  show Out.ok (D.bl (!decide (c ∈ [97, 98, 99, 100, 101, 102, 103, 104, 105, 106, 107, 108, 109, 110, 111, 112, 113, 114, 115, 116, 117, 118, 119, 120, 121, 122]))) G = _
  congr 3
  exact decide_eq_decide.mpr (by simp; omega)
theorem len_str {z : Str} {G : GH} (h : z.length ≤ 10000) : oLen [.str z] G = .ok (.int ((z.length : Nat) : Int)) G := by
  show (if z.length ≤ sizeLine then Out.ok (D.int (z.length : Nat)) G else .stuck) = _
  rw [if_pos (Nat.le_trans h (by decide))]
/-- the signs of a text that are none of some -/
theorem odd_signs {P : Nat → Bool} {z : Str} {rh : DEnv} {G : GH} {i j : Nat} {w : Str} {q : D → GH → Prop} {X : Str → GH → Prop} (hz : rh[i]? = some (some (.str z))) (hj : j < rh.length) (hl : z.length ≤ 10000) (hw : ∀ c : Nat, ∀ G, oNotInSg (.str ⟨#[c]⟩) (.str w) G = .ok (.bl (!P c)) G)
    (k : q (.lst ((((TL.tl z).filter fun c => !P c).map signS).map D.str)) G) : (mLc false [j] (b1 oSrcS (mVar i)) (tgName j) (toB (b2 oNotInSg (mVar j) (mC (.str w)))) (mVar j) rh G).P q X := by
  refine lc_as (s := srcC ((TL.tl z).map fun x => D.str ⟨#[x]⟩)) (TL.tl z) (fun x => D.str ⟨#[x]⟩) (fun c => !P c) (fun x => D.str ⟨#[x]⟩) (Out.P.eq ?_) (fun i => rfl) (by rw [srcC_fuel, List.length_map]; exact Nat.le_refl _) (by rw [TL.len_tl] at hl; exact Nat.le_trans hl (by decide)) (fun c _ => ⟨_, rfl, Out.P.eq ?_, fun _ => Out.P.eq ?_⟩) ?_
  · exact e_b1 (e_var hz (e_ok (b := srcC ((TL.tl z).map fun x => D.str ⟨#[x]⟩)) rfl ⟨rfl, rfl⟩))
  · refine e_toB (e_b2 (e_var ?_ (e_mC (e_ok (hw c G) (e_oB ⟨rfl, rfl⟩)))))
    rw [List.getElem?_set_self (by rw [wipeD_len]; exact hj)]
  · refine e_var ?_ ⟨rfl, rfl⟩
    rw [List.getElem?_set_self (by rw [wipeD_len]; exact hj)]
  · refine e_mkF ?_
    rw [List.map_map] at k
    exact k
theorem none_odd {P : Nat → Bool} {l : List Nat} : decide (((l.filter fun c => !P c).map signS) = []) = l.all P := by
  rw [Bool.eq_iff_iff, decide_eq_true_eq, List.map_eq_nil_iff, List.filter_eq_nil_iff, List.all_eq_true]
  exact ⟨fun h c hc => by simpa using h c hc, fun h c hc => by simpa using h c hc⟩
def letB (c : Nat) : Bool := decide (97 ≤ c ∧ c ≤ 122)
def digB (c : Nat) : Bool := decide (48 ≤ c ∧ c ≤ 57)
def nameB (z : Str) : Bool := decide (1 ≤ z.length) && (decide (z.length ≤ 8) && (TL.tl z).all letB)
theorem name_ok {z : Str} {G : GH} (hz : OkS z) (hl : z.length ≤ 10000) : m_is_name [.str z] G = .ok (.bl (nameB z)) G := by
  have h1 := len_str (G := G) hl
  refine Out.P.eq ?_
  unfold m_is_name
  refine e_runF ?_
  unfold g_is_name nameB
  repeat walk_at "u"
  refine e_len h1 ?_
  repeat walk_at "u"
  have c1 : decide ((1 : Int) ≤ (z.length : Nat)) = decide (1 ≤ z.length) := decide_eq_decide.mpr (by omega)
  have c2 : decide (((z.length : Nat) : Int) ≤ 8) = decide (z.length ≤ 8) := decide_eq_decide.mpr (by omega)
  rw [c1]
  cases decide (1 ≤ z.length) with
  | false =>
    repeat walk_at "u"
    first | rfl | exact ⟨rfl, rfl⟩
  | true =>
    repeat walk_at "u"
    rw [c2]
    cases decide (z.length ≤ 8) with
    | false =>
      repeat walk_at "u"
      first | rfl | exact ⟨rfl, rfl⟩
    | true =>
      repeat walk_at "u"
      refine odd_signs (P := letB) (z := z) rfl (by show 1 < 2; decide) hl (fun c G => is_let) ?_
      repeat walk_at "u"
      refine e_eq (eq_strs_nil rfl (ok_sign hz fun c hc => (List.mem_filter.mp hc).1)) ?_
      rw [none_odd]
      first | rfl | exact ⟨rfl, rfl⟩
def figB (z : Str) (n : Nat) : Bool := decide (1 ≤ z.length) && (decide (z.length ≤ n) && ((TL.tl z).all digB && (decide (z.length = 1) || !decide ((TL.tl z).head? = some 48))))
def wordB (f z : Str) : Bool := if f = "d" then figB z 2 else if (TL.tl z).take 1 = [45] then !decide (z = "-0") && figB (mkW ((TL.tl z).drop 1)) 9 else figB z 9
/-! rows taken apart by words_in -/
theorem sp_len0 : ((" " : Str).length == 0) = false := by decide +kernel
theorem split_of {row : Str} {ws : List Str} {G : GH} (h : Txt.split row " " = ws) (hl : row.length ≤ 10000) : oSplit false (.str row) [.str " "] G = .ok (wsD ws) G := by
  unfold oSplit
  dsimp only
  rw [if_pos ⟨sp_len0, by show row.length + 2 ≤ 2 ^ 24; omega⟩, h]
  rfl
theorem kget_of {kvs : List (Str × Str)} {z : Str} {G : GH} : oKGet kvs (.str z) G = .ok (match kvs.lookup z with | some f => .str f | none => .non) G := rfl
section
variable {row : Str} {ws : List Str} {G : GH} {w0 nm : Str} {Q : D → GH → Prop} {X : Str → GH → Prop}
theorem wi_unknown (hs : Txt.split row " " = w0 :: ws) (hl : row.length ≤ 10000) (h1 : w0 ≠ "table") (h2 : w0 ≠ "looks") (h3 : tab_FORMS.lookup w0 = none) (k : X "NoRow" G) : (m_words_in [.str row] G).P Q X := by
  unfold m_words_in
  refine e_runF ?_
  unfold g_words_in
  repeat walk_at "u"
  refine e_ok (split_of hs hl) ?_
  repeat walk_at "u"
  refine e_ix (ws_at (i := 0) rfl) ?_
  repeat walk_at "u"
  refine e_eq eq_str2 ?_
  rw [decide_eq_false h1]
  repeat walk_at "u"
  refine e_ix (ws_at (i := 0) rfl) ?_
  repeat walk_at "u"
  refine e_eq eq_str2 ?_
  rw [decide_eq_false h2]
  repeat walk_at "u"
  refine e_ix (ws_at (i := 0) rfl) ?_
  refine e_ok (b := .non) (G' := G) (by rw [kget_of, h3]) ?_
  repeat walk_at "u"
  exact k
theorem wi_badname (hs : Txt.split row " " = w0 :: nm :: ws) (hl : row.length ≤ 10000) (h1 : w0 ≠ "table") (h2 : w0 ≠ "looks") (hn : nameB nm = false) (hz : OkS nm) (hnl : nm.length ≤ 10000) {f : Str} (hf : tab_FORMS.lookup w0 = some f) (hfl : f.length ≤ 100) (k : X "NoRow" G) : (m_words_in [.str row] G).P Q X := by
  unfold m_words_in
  refine e_runF ?_
  unfold g_words_in
  repeat walk_at "u"
  refine e_ok (split_of hs hl) ?_
  repeat walk_at "u"
  refine e_ix (ws_at (i := 0) rfl) ?_
  repeat walk_at "u"
  refine e_eq eq_str2 ?_
  rw [decide_eq_false h1]
  repeat walk_at "u"
  refine e_ix (ws_at (i := 0) rfl) ?_
  repeat walk_at "u"
  refine e_eq eq_str2 ?_
  rw [decide_eq_false h2]
  repeat walk_at "u"
  refine e_ix (ws_at (i := 0) rfl) ?_
  refine e_ok (b := .str f) (G' := G) (by rw [kget_of, hf]) ?_
  repeat walk_at "u"
  rw [show isNonD (D.str f) = false from rfl]
  repeat walk_at "u"
  refine e_len (len_str (Nat.le_trans hfl (by decide))) ?_
  repeat walk_at "u"
  have ec : decide (((((w0 :: nm :: ws).map D.str).length : Nat) : Int) = ((f.length : Nat) : Int) + 2) = decide (ws.length = f.length) := decide_eq_decide.mpr (by rw [List.length_map, List.length_cons, List.length_cons]; omega)
  rw [ec]
  cases decide (ws.length = f.length) with
  | false =>
    repeat walk_at "u"
    exact k
  | true =>
    repeat walk_at "u"
    refine e_ix (ws_at (i := 1) rfl) ?_
    repeat walk_at "u"
    refine e_ok (name_ok hz hnl) ?_
    rw [hn]
    repeat walk_at "u"
    exact k
theorem tl_app {x y : Str} : TL.tl (x ++ y) = TL.tl x ++ TL.tl y := by
  show (x.cps ++ y.cps).toList = _
  rw [Array.toList_append]
theorem head_table {rest : List Nat} (h : TL.tl row = [116, 97, 98, 108, 101] ++ ([32] ++ rest)) : ∃ xs : List Str, Txt.split row " " = ("table" : Str) :: xs := by
  have e := TL.split_spl row " " (by decide +kernel) (TL.kind_ok (by decide +kernel))
  rw [show TL.tl (" " : Str) = [32] by decide +kernel, h, TL.spl_part1 (S := []) (by decide)] at e
  cases q : Txt.split row " " with
  | nil => rw [q] at e; cases e
  | cons x xs =>
    rw [q] at e
    have := (List.cons.inj e).1
    exact ⟨xs, by rw [show x = "table" from TL.ext_tl (by rw [this]; decide +kernel)]⟩
theorem cut_six {a b : List Nat} (ha : a.length = 6) : cutS (mkW (a ++ b)) (some 6) none = mkW b := by
  unfold cutS
  rw [len_mkW]
  show (⟨(((a ++ b).drop (HT.sIx (a ++ b).length 0 (some 6))).take ((a ++ b).length - HT.sIx (a ++ b).length 0 (some 6))).toArray⟩ : Str) = mkW b
  have e : HT.sIx (a ++ b).length 0 (some ((6 : Nat) : Int)) = 6 := by
    rw [HT.sIx_nat]
    exact Nat.min_eq_left (by rw [List.length_append]; omega)
  rw [show (some (6 : Int)) = some ((6 : Nat) : Int) from rfl, e, List.drop_left' ha, List.take_of_length_le (by rw [List.length_append]; omega)]
  rfl
theorem wi_table {rest : Str} (h : TL.tl row = [116, 97, 98, 108, 101] ++ ([32] ++ (TL.tl nm ++ ([32] ++ TL.tl rest)))) (hl : row.length ≤ 10000) (hf : 32 ∉ TL.tl nm) (hz : OkS nm) (k0 : nameB nm = false → X "NoRow" G) (k1 : nameB nm = true → Q (wsD ["table", nm, rest]) G) : (m_words_in [.str row] G).P Q X := by
  obtain ⟨xs, hs⟩ := head_table h
  have hrl : (TL.tl row).length ≤ 10000 := by rw [← TL.len_tl]; exact hl
  have hnl : nm.length ≤ 10000 := by
    rw [h] at hrl
    rw [TL.len_tl]
    simp only [List.length_append, List.length_cons] at hrl
    omega
  have hrow : row = mkW ([116, 97, 98, 108, 101, 32] ++ TL.tl (nm ++ " " ++ rest)) := TL.ext_tl (by
    rw [tl_mkW, h, tl_app, tl_app, show TL.tl (" " : Str) = [32] by decide +kernel]
    simp)
  have hcut : oSl false (.str row) (some 6) none G = .ok (.str (nm ++ " " ++ rest)) G := by
    show (if row.length ≤ sizeLine then Out.ok (D.str (cutS row (some 6) none)) G else .stuck) = _
    rw [if_pos (Nat.le_trans hl (by decide))]
    congr 2
    conv => lhs; rw [hrow]
    rw [cut_six rfl]
    exact TL.ext_tl (tl_mkW _)
  have hpart : oPart (.str (nm ++ " " ++ rest)) [.str " "] G = .ok (.tup [.str nm, .str " ", .str rest]) G := by
    unfold oPart
    dsimp only
    have hll : (nm ++ " " ++ rest).length ≤ sizeLine := by
      rw [TL.len_tl, tl_app, tl_app]
      rw [h] at hrl
      refine Nat.le_trans ?_ (show 10000 ≤ sizeLine by decide)
      rw [show TL.tl (" " : Str) = [32] by decide +kernel]
      simp only [List.length_append, List.length_cons] at hrl ⊢
      omega
    rw [if_pos ⟨sp_len0, hll⟩, TL.partition_app (s := 32) (S := []) (by decide +kernel) hf]
  generalize nm ++ " " ++ rest = mid at hcut hpart
  unfold m_words_in
  refine e_runF ?_
  unfold g_words_in
  repeat walk_at "u"
  refine e_ok (split_of hs hl) ?_
  repeat walk_at "u"
  refine e_ix (ws_at (i := 0) rfl) ?_
  repeat walk_at "u"
  refine e_eq eq_str2 ?_
  rw [decide_eq_true rfl]
  repeat walk_at "u"
  refine e_ok hcut ?_
  refine ⟨rfl, ?_⟩
  repeat walk_at "u"
  refine e_ok hpart ?_
  refine ⟨_, rfl, ?_⟩
  repeat walk_at "u"
  refine e_eq eq_str2 ?_
  rw [decide_eq_false (by decide)]
  repeat walk_at "u"
  refine e_ok (name_ok hz hnl) ?_
  cases hb : nameB nm with
  | false =>
    repeat walk_at "u"
    exact k0 hb
  | true =>
    repeat walk_at "u"
    exact k1 hb
end

/-! rows that are spoilt: each is refused -/
def Bad (row : Str) : Prop := ∀ G, m_words_in [.str row] G = .exn "NoRow" G
theorem bad_of {row : Str} (h : ∀ G, (m_words_in [.str row] G).P (fun _ _ => False) (fun c G' => c = "NoRow" ∧ G' = G)) : Bad row := fun G => by
  have key := h G
  cases q : m_words_in [.str row] G with
  | ok y G' => rw [q] at key; exact key.elim
  | exn c G' => rw [q] at key; obtain ⟨rfl, rfl⟩ := key; rfl
  | stuck => rw [q] at key; exact key.elim
def goodL : List (List Str) := [["cell", "abcdefgh", "0", "0", "1"], ["find", "abcdefgh", "1"], ["stair", "abcdefgh", "1"], ["walk", "abcdefgh", "1"], ["below", "abcdefgh", "1"], ["nth", "abcdefgh", "1"], ["drop", "abcdefgh"], ["show", "abcdefgh"], ["table", "abcdefgh", "1"]]
def joinW (ws : List Str) : Str := Txt.join " " ws
def Sp (ws : List Str) : Prop := Bad (joinW ws) ∧ Bad (joinW (ws.set 1 "")) ∧ Bad (joinW (ws.set 1 "abcdefghi"))
def Free (w : Str) : Prop := 32 ∉ TL.tl w ∧ OkS w ∧ w.length ≤ 100
theorem join_len {ws : List Str} (h : ∀ w ∈ ws, Free w) (h6 : ws.length ≤ 6) : (joinW ws).length ≤ 10000 := by
  unfold joinW
  rw [TL.len_tl, TL.join_eq, TL.tl_join]
  refine Nat.le_trans (joinL_len _ _) ?_
  refine Nat.le_trans (sum_le (k := 101) fun x hx => ?_) ?_
  · obtain ⟨p, hp, rfl⟩ := List.mem_map.mp hx
    obtain ⟨w, hw, rfl⟩ := List.mem_map.mp hp
    have := (h w hw).2.2
    rw [TL.len_tl] at this
    rw [show TL.tl (" " : Str) = [32] by decide +kernel]
    show (TL.tl w).length + 1 ≤ 101
    omega
  · rw [List.length_map, List.length_map]
    omega
theorem split_free {ws : List Str} (h : ∀ w ∈ ws, Free w) (h0 : ws ≠ []) : Txt.split (joinW ws) " " = ws :=
  TL.split_join (s := 32) (S := []) (by decide +kernel) (by decide +kernel) h0 fun p hp => (h p hp).1
def freeB (w : Str) : Bool := (TL.tl w).all (fun c => decide (c ≠ 32) && decide (c < 1114112)) && decide (w.length ≤ 100)
theorem free_of {w : Str} (h : freeB w = true) : Free w := by
  unfold freeB at h
  obtain ⟨h1, h2⟩ := Bool.and_eq_true_iff.mp h
  have h3 := List.all_eq_true.mp h1
  exact ⟨fun hm => by have := h3 _ hm; simp at this, fun c hc => by have := h3 c hc; simp at this; exact this.2, of_decide_eq_true h2⟩
theorem good_free : ∀ ws ∈ goodL, ∀ w ∈ ws, Free w := fun ws h w hw => free_of (by
  have : goodL.all (fun ws => ws.all freeB) = true := by decide +kernel
  exact List.all_eq_true.mp (List.all_eq_true.mp this ws h) w hw)
/-- a bad name -/
theorem bad_name {ws : List Str} (hg : ws ∈ goodL) {nm : Str} (hf : Free nm) (hn : nameB nm = false) : Bad (joinW (ws.set 1 nm)) := by
  have hfr : ∀ w ∈ ws.set 1 nm, Free w := fun w hw => by
    rcases List.mem_or_eq_of_mem_set hw with h | h
    · exact good_free ws hg w h
    · rw [h]; exact hf
  have h6 : (ws.set 1 nm).length ≤ 6 := by
    rw [List.length_set]
    have : goodL.all (fun ws => decide (ws.length ≤ 6)) = true := by decide +kernel
    exact of_decide_eq_true (List.all_eq_true.mp this ws hg)
  have hl := join_len hfr h6
  have hnl : nm.length ≤ 10000 := Nat.le_trans hf.2.2 (by decide)
  have hsp : ∀ {w0 : Str} {r : List Str}, ws.set 1 nm = w0 :: nm :: r → Txt.split (joinW (ws.set 1 nm)) " " = w0 :: nm :: r := fun e => by rw [split_free hfr (by rw [e]; exact List.cons_ne_nil _ _), e]
  have gen : ∀ {w0 : Str} {r : List Str} {f : Str}, ws.set 1 nm = w0 :: nm :: r → w0 ≠ "table" → w0 ≠ "looks" → tab_FORMS.lookup w0 = some f → f.length ≤ 100 → Bad (joinW (ws.set 1 nm)) := fun e h1 h2 h3 h4 => bad_of fun G => wi_badname (hsp e) hl h1 h2 hn hf.2.1 hnl h3 h4 ⟨rfl, rfl⟩
  unfold goodL at hg
  simp only [List.mem_cons, List.not_mem_nil, or_false] at hg
  rcases hg with rfl | rfl | rfl | rfl | rfl | rfl | rfl | rfl | rfl
  · exact gen (f := "ddx") rfl (by decide +kernel) (by decide +kernel) (by kernel_rfl) (by decide +kernel)
  · exact gen (f := "x") rfl (by decide +kernel) (by decide +kernel) (by kernel_rfl) (by decide +kernel)
  · exact gen (f := "x") rfl (by decide +kernel) (by decide +kernel) (by kernel_rfl) (by decide +kernel)
  · exact gen (f := "x") rfl (by decide +kernel) (by decide +kernel) (by kernel_rfl) (by decide +kernel)
  · exact gen (f := "x") rfl (by decide +kernel) (by decide +kernel) (by kernel_rfl) (by decide +kernel)
  · exact gen (f := "d") rfl (by decide +kernel) (by decide +kernel) (by kernel_rfl) (by decide +kernel)
  · exact gen (f := "") rfl (by decide +kernel) (by decide +kernel) (by kernel_rfl) (by decide +kernel)
  · exact gen (f := "") rfl (by decide +kernel) (by decide +kernel) (by kernel_rfl) (by decide +kernel)
  · refine bad_of fun G => wi_table (rest := "1") ?_ hl hf.1 hf.2.1 (fun _ => ⟨rfl, rfl⟩) (fun z => by rw [hn] at z; exact Bool.noConfusion z)
    show TL.tl (Txt.join " " ["table", nm, "1"]) = _
    rw [TL.join_eq, TL.tl_join]
    show TL.tl "table" ++ (TL.tl " " ++ (TL.tl nm ++ (TL.tl " " ++ TL.tl "1"))) = _
    rw [show TL.tl ("table" : Str) = [116, 97, 98, 108, 101] by decide +kernel, show TL.tl (" " : Str) = [32] by decide +kernel]
theorem lit_name {w : Str} (hn : w = "" ∨ w = "abcdefghi") : Free w ∧ nameB w = false := by
  rcases hn with rfl | rfl
  · exact ⟨free_of (by decide +kernel), by decide +kernel⟩
  · exact ⟨free_of (by decide +kernel), by decide +kernel⟩
theorem sp_name {ws : List Str} (hg : ws ∈ goodL) {nm : Str} (hf : Free nm) (hn : nameB nm = false) : Sp (ws.set 1 nm) := by
  refine ⟨bad_name hg hf hn, ?_, ?_⟩
  · rw [List.set_set]
    exact bad_name hg (lit_name (.inl rfl)).1 (lit_name (.inl rfl)).2
  · rw [List.set_set]
    exact bad_name hg (lit_name (.inr rfl)).1 (lit_name (.inr rfl)).2
/-- a bad first word -/
theorem bad_first {ws : List Str} (hfr : ∀ w ∈ ws, Free w) (h6 : ws.length ≤ 6) {w0 : Str} {r : List Str} (e : ws = w0 :: r) (h1 : w0 ≠ "table") (h2 : w0 ≠ "looks") (h3 : tab_FORMS.lookup w0 = none) : Bad (joinW ws) :=
  bad_of fun G => wi_unknown (by rw [split_free hfr (by rw [e]; exact List.cons_ne_nil _ _), e]) (join_len hfr h6) h1 h2 h3 ⟨rfl, rfl⟩
theorem sp_first {ws : List Str} (hg : ws ∈ goodL) {w0 : Str} (hf : Free w0) (h1 : w0 ≠ "table") (h2 : w0 ≠ "looks") (h3 : tab_FORMS.lookup w0 = none) : Sp (ws.set 0 w0) := by
  have hl : ws.length ≤ 6 ∧ ws ≠ [] := by
    have : goodL.all (fun ws => decide (ws.length ≤ 6) && !ws.isEmpty) = true := by decide +kernel
    have := List.all_eq_true.mp this ws hg
    obtain ⟨a, b⟩ := Bool.and_eq_true_iff.mp this
    refine ⟨of_decide_eq_true a, fun z => ?_⟩
    rw [z] at b
    cases b
  obtain ⟨x, r, rfl⟩ : ∃ x r, ws = x :: r := by
    cases ws with
    | nil => exact absurd rfl hl.2
    | cons x r => exact ⟨x, r, rfl⟩
  have hr : ∀ w ∈ r, Free w := fun w hw => good_free _ hg w (List.mem_cons_of_mem _ hw)
  have key : ∀ r2 : List Str, (∀ w ∈ r2, Free w) → r2.length ≤ 5 → Bad (joinW (w0 :: r2)) := fun r2 h hl2 => bad_first (fun w hw => by
    rcases List.mem_cons.mp hw with rfl | hw
    · exact hf
    · exact h w hw) (by rw [List.length_cons]; omega) rfl h1 h2 h3
  have hset : ∀ nm : Str, Free nm → ∀ w ∈ r.set 0 nm, Free w := fun nm hn w hw => by
    rcases List.mem_or_eq_of_mem_set hw with h | h
    · exact hr w h
    · rw [h]; exact hn
  have hl5 : r.length ≤ 5 := by have := hl.1; rw [List.length_cons] at this; omega
  exact ⟨key r hr hl5, key _ (hset _ (lit_name (.inl rfl)).1) (by rw [List.length_set]; exact hl5), key _ (hset _ (lit_name (.inr rfl)).1) (by rw [List.length_set]; exact hl5)⟩
def badsA : List Str := ["1000000000", "", "01", "00"]
def badsB : List Str := ["x", "+1", "1_", "1.0"]
def badsW : List Str := [mkW [49, 10], mkW [9, 49]]
def badsC : List Str := ["10x", "-0", "-01"]
def badsD : List Str := ["--1", "-", "1 1"]
def badsL : List Str := badsA ++ (badsB ++ (badsW ++ (badsC ++ badsD)))
def numRows : List Str := (goodL.take 6).flatMap fun ws => (List.range (ws.length - 2)).flatMap fun j => badsL.flatMap fun b => [joinW (ws.set (2 + j) b), joinW ((ws.set (2 + j) b).set 1 ""), joinW ((ws.set (2 + j) b).set 1 "abcdefghi")]
def exnG (c : Str) : Out D → Option GH
  | .exn e G => if e = c then some G else none
  | _ => none
theorem exnG_ok {c : Str} {o : Out D} {G : GH} (h : exnG c o = some G) : o = .exn c G := by
  unfold exnG at h
  split at h
  · rename_i e G'
    split at h
    · rename_i q
      cases h
      rw [q]
    · cases h
  · cases h
theorem num_rows (G : GH) : numRows.map (fun r => exnG "NoRow" (m_words_in [.str r] G)) = numRows.map fun _ => some G := by kernel_rfl
theorem num_bad {r : Str} (h : r ∈ numRows) : Bad r := fun G => exnG_ok (map_at (num_rows G) r h)
theorem sp_num {ws : List Str} (hg : ws ∈ goodL.take 6) {j : Nat} (hj : j < ws.length - 2) {b : Str} (hb : b ∈ badsL) : Sp (ws.set (2 + j) b) := by
  have key : ∀ r ∈ [joinW (ws.set (2 + j) b), joinW ((ws.set (2 + j) b).set 1 ""), joinW ((ws.set (2 + j) b).set 1 "abcdefghi")], Bad r := fun r hr =>
    num_bad (List.mem_flatMap.mpr ⟨ws, hg, List.mem_flatMap.mpr ⟨j, List.mem_range.mpr hj, List.mem_flatMap.mpr ⟨b, hb, hr⟩⟩⟩)
  exact ⟨key _ (by simp), key _ (by simp), key _ (by simp)⟩
/-- letters put in -/
def editW (a : List Nat) (k b c : Nat) : Str := mkW (a.take k ++ [c] ++ a.drop (k + b))
theorem edit_free {a : List Nat} {k b c : Nat} (ha : ∀ x ∈ a, x ≠ 32 ∧ x < 1114112) (hl : a.length ≤ 20) (hc : c ≠ 32 ∧ c < 1114112) : Free (editW a k b c) := by
  have hm : ∀ x ∈ TL.tl (editW a k b c), x ≠ 32 ∧ x < 1114112 := fun x hx => by
    have hx : x ∈ a.take k ++ [c] ++ a.drop (k + b) := hx
    rcases List.mem_append.mp hx with h | h
    · rcases List.mem_append.mp h with h | h
      · exact ha x (List.mem_of_mem_take h)
      · rw [List.mem_singleton.mp h]; exact hc
    · exact ha x (List.mem_of_mem_drop h)
  refine ⟨fun h => (hm 32 h).1 rfl, fun x hx => (hm x hx).2, ?_⟩
  rw [TL.len_tl]
  show (a.take k ++ [c] ++ a.drop (k + b)).length ≤ 100
  rw [List.length_append, List.length_append, List.length_take, List.length_drop, List.length_singleton]
  omega
theorem edit_odd {a : List Nat} {k b c : Nat} (hc : letB c = false) : nameB (editW a k b c) = false := by
  have h : (TL.tl (editW a k b c)).all letB = false := by
    show (a.take k ++ [c] ++ a.drop (k + b)).all letB = false
    rw [List.all_append, List.all_append, List.all_cons, hc, Bool.false_and, Bool.and_false, Bool.false_and]
  unfold nameB
  rw [h, Bool.and_false, Bool.and_false]
def looksC : List Nat := [108, 111, 111, 107, 115]
theorem edit_looks {a : List Nat} {k b c : Nat} (h : editW a k b c = "looks") : a.take k = looksC.take (a.take k).length ∧ a.drop (k + b) = looksC.drop ((a.take k).length + 1) := by
  have e : a.take k ++ [c] ++ a.drop (k + b) = looksC := by
    have : ("looks" : Str) = mkW looksC := by decide +kernel
    rw [this] at h
    exact mkW_inj h
  constructor
  · rw [← e, List.append_assoc, List.take_left' rfl]
  · rw [← e, show (a.take k).length + 1 = (a.take k ++ [c]).length by rw [List.length_append]; rfl, List.drop_left' rfl]
def firstsL : List Str := ["cell", "find", "stair", "walk", "below", "nth", "drop", "show", "table"]
theorem first_looks : (firstsL.all fun w => (List.range 6).all fun k => (List.range 2).all fun b => decide (k ≤ (TL.tl w).length → ¬ ((TL.tl w).take k = looksC.take ((TL.tl w).take k).length ∧ (TL.tl w).drop (k + b) = looksC.drop (((TL.tl w).take k).length + 1)))) = true := by decide +kernel
theorem forms_firsts : ∀ w : Str, w ∉ firstsL → tab_FORMS.lookup w = none := fun w h => by
  cases e : tab_FORMS.lookup w with
  | none => rfl
  | some f =>
    have := look_mem e
    exfalso
    refine h ?_
    have hk : tab_FORMS.all (fun p => firstsL.contains p.1) = true := by decide +kernel
    have := List.all_eq_true.mp hk _ this
    exact List.contains_iff_mem.mp this
theorem firsts_dbl : (firstsL.all fun w => let x := mkW (TL.tl w ++ TL.tl w); decide (x ≠ "table") && (decide (x ≠ "looks") && ((tab_FORMS.lookup x).isNone && freeB x))) = true := by decide +kernel

theorem e_nx {o : SOut} {rh : DEnv} {G : GH} {N : DEnv → GH → Prop} {R : D → GH → Prop} {X : Str → DEnv → GH → Prop} (h : o = .nx rh G) (k : N rh G) : o.P N R X := by rw [h]; exact k
def rowsD : D := .lst ((goodL.map joinW).map D.str)
def signsZ : Str := "!\"\\#$&'()*+,-./0123456789:;<=>?@ABCDEFGHIJKLMNOPQRSTUVWXYZ[]^_`{|}~\t\n"
def signsL : List Nat := TL.tl signsZ
/-- texts: a sign, cuts, sums -/
theorem ix_sign {z : Str} {j : Nat} {G : GH} (hl : z.length ≤ 10000) (hj : j < z.length) : ∃ c, c ∈ TL.tl z ∧ oIx (.str z) (.int (j : Nat)) G = .ok (.str (signS c)) G := by
  have hj2 : j < (TL.tl z).length := by rw [← TL.len_tl]; exact hj
  refine ⟨(TL.tl z)[j], List.getElem_mem hj2, ?_⟩
  unfold oIx
  dsimp only
  have ea : atI z.cps.toList (j : Nat) = some ((TL.tl z)[j]) := by
    rw [atI_int (by omega) (by have : z.cps.toList.length = (TL.tl z).length := rfl; omega)]
    show (TL.tl z)[j]? = _
    rw [List.getElem?_eq_getElem hj2]
  rw [if_pos (Nat.le_trans hl (by decide)), ea]
  rfl
theorem sl_take {a : List Nat} {k : Nat} {G : GH} (hl : a.length ≤ 10000) : oSl false (.str (mkW a)) none (some (k : Nat)) G = .ok (.str (mkW (a.take k))) G := by
  show (if (mkW a).length ≤ sizeLine then Out.ok (D.str (cutS (mkW a) none (some (k : Nat)))) G else .stuck) = _
  rw [if_pos (by rw [len_mkW]; exact Nat.le_trans hl (by decide))]
  congr 2
  unfold cutS
  rw [len_mkW]
  show (⟨((a.drop (HT.sIx a.length 0 none)).take (HT.sIx a.length a.length (some (k : Nat)) - HT.sIx a.length 0 none)).toArray⟩ : Str) = _
  rw [HT.sIx_none, HT.sIx_nat, List.drop_zero, Nat.sub_zero]
  unfold mkW
  congr 2
  rcases Nat.le_total k a.length with h | h
  · rw [Nat.min_eq_left h]
  · rw [Nat.min_eq_right h, List.take_of_length_le h, List.take_length]
theorem sl_drop {a : List Nat} {k : Nat} {G : GH} (hl : a.length ≤ 10000) : oSl false (.str (mkW a)) (some (k : Nat)) none G = .ok (.str (mkW (a.drop k))) G := by
  show (if (mkW a).length ≤ sizeLine then Out.ok (D.str (cutS (mkW a) (some (k : Nat)) none)) G else .stuck) = _
  rw [if_pos (by rw [len_mkW]; exact Nat.le_trans hl (by decide))]
  congr 2
  unfold cutS
  rw [len_mkW]
  show (⟨((a.drop (HT.sIx a.length 0 (some (k : Nat)))).take (HT.sIx a.length a.length none - HT.sIx a.length 0 (some (k : Nat)))).toArray⟩ : Str) = _
  rw [HT.sIx_none, HT.sIx_nat]
  unfold mkW
  congr 2
  rcases Nat.le_total k a.length with h | h
  · rw [Nat.min_eq_left h, List.take_of_length_le (by rw [List.length_drop]; omega)]
  · rw [Nat.min_eq_right h, List.drop_length, List.drop_eq_nil_of_le h, List.take_nil]
theorem add_mk {a b : List Nat} {G : GH} (h : a.length + b.length ≤ 10000) : oAdd false (.str (mkW a)) (.str (mkW b)) G = .ok (.str (mkW (a ++ b))) G := by
  rw [add_strs (by rw [len_mkW, len_mkW]; exact h)]
  congr 2
  exact TL.ext_tl (by rw [tl_app, tl_mkW, tl_mkW, tl_mkW])
theorem split_ofC {row : Str} {ws : List Str} {G : GH} (h : Txt.split row " " = ws) (hl : row.length ≤ 10000) : oSplit true (.str row) [.str " "] G = .ok (.loc G.length) (G ++ [.lst (ws.map D.str)]) := by
  unfold oSplit
  dsimp only
  rw [if_pos ⟨sp_len0, by show row.length + 2 ≤ 2 ^ 24; omega⟩, h]
  rfl
theorem join_ofC {ws : List Str} {G : GH} {k : Nat} (h : G[k]? = some (.lst (ws.map D.str))) (hw : ∀ w ∈ ws, w.length ≤ 200) (h6 : ws.length ≤ 6) : oJoin (.str " ") [.loc k] G = .ok (.str (joinW ws)) G :=
  oJoin_of (loc_lstO h) (Nat.le_trans (join_small (k := 200) hw) (by rw [sp_one]; omega))
def spB0 : S := sSeq (sSet 5 (b2 (oMod) (b2 (oDiv) (mVar 0) (mC (.int 27))) (mC (.int 9)))) (sSub (b2 (oAdd false) (b2 (oAdd false) (mSl (oSl false) (b2 oIx (mVar 2) (mC (.int 1))) (mNoPt) (b1 oPt (mVar 5))) (mVar 4)) (mSl (oSl false) (b2 oIx (mVar 2) (mC (.int 1))) (b1 oPt (b2 (oAdd false) (mVar 5) (b2 (oMod) (b2 (oDiv) (mVar 0) (mC (.int 243))) (mC (.int 2))))) (mNoPt))) (mVar 2) (mC (.int 1)) oSetL)
def spB1 : S := sSeq (sSet 5 (b2 (oMod) (b2 (oDiv) (mVar 0) (mC (.int 27))) (b2 (oAdd false) (b1 oLen (mCons (b2 oIx (mVar 2) (mC (.int 0))) (mNil))) (mC (.int 1))))) (sSeq (sSet 4 (b2 oIx (b2 (oAdd false) (mVar 4) (mC (.str "abcdefghijklmnopqrstuvwxyz"))) (b2 (oMod) (b2 (oDiv) (mVar 0) (mC (.int 500))) (mC (.int 27))))) (sSeq (sSub (b2 (oAdd false) (b2 (oAdd false) (mSl (oSl false) (b2 oIx (mVar 2) (mC (.int 0))) (mNoPt) (b1 oPt (mVar 5))) (mVar 4)) (mSl (oSl false) (b2 oIx (mVar 2) (mC (.int 0))) (b1 oPt (b2 (oAdd false) (mVar 5) (b2 (oMod) (b2 (oDiv) (mVar 0) (mC (.int 243))) (mC (.int 2))))) (mNoPt))) (mVar 2) (mC (.int 0)) oSetL) (sIf (toB (b2 (oIn false) (b2 oIx (mVar 2) (mC (.int 0))) (mLc false [8] (b1 oSrcL (mVar 1)) (tgName 8) (mYes) (b2 oIx (mMt "str" (oSplit false) (mVar 8) (mCons (mC (.str " ")) (mNil))) (mC (.int 0)))))) (sSub (b2 (oAdd false) (b2 oIx (mVar 2) (mC (.int 0))) (b2 oIx (mVar 2) (mC (.int 0)))) (mVar 2) (mC (.int 0)) oSetL) (sNil))))
def spB2 : S := sSeq (sSet 6 (b1 (oMk false) (mCons (mC (.str "1000000000")) (mCons (mC (.str "")) (mCons (mC (.str "01")) (mCons (mC (.str "00")) (mCons (mC (.str "x")) (mCons (mC (.str "+1")) (mCons (mC (.str "1_")) (mCons (mC (.str "1.0")) (mNil))))))))))) (sSeq (sSet 6 (b2 (oAdd false) (mVar 6) (b1 (oMk false) (mCons (mC (.str "1\n")) (mCons (mC (.str "\t1")) (mCons (mC (.str "10x")) (mCons (mC (.str "-0")) (mCons (mC (.str "-01")) (mCons (mC (.str "--1")) (mCons (mC (.str "-")) (mCons (mC (.str "1 1")) (mNil)))))))))))) (sSub (b2 oIx (mVar 6) (b2 (oMod) (b2 (oDiv) (mVar 0) (mC (.int 54))) (mC (.int 16)))) (mVar 2) (b2 (oAdd false) (mC (.int 2)) (b2 (oMod) (b2 (oDiv) (mVar 0) (mC (.int 18))) (b2 (oSub) (b1 oLen (mCons (mVar 2) (mNil))) (mC (.int 2))))) oSetL))
def spE : S := sSeq (sSet 7 (b2 (oMod) (b2 (oDiv) (mVar 0) (mC (.int 100000))) (mC (.int 8)))) (sSeq (sIf (toB (b2 oLt (mVar 7) (mC (.int 2)))) (sSub (b2 oIx (b1 (oMk false) (mCons (mC (.str "")) (mCons (mC (.str "abcdefghi")) (mNil)))) (mVar 7)) (mVar 2) (mC (.int 1)) oSetL) (sNil)) (sRet (mMt "str" oJoin (mC (.str " ")) (mCons (mVar 2) (mNil)))))
def spH (n : Nat) (G : GH) (rd : D) (ws : List Str) (a3 a4 a5 a6 : Option D) : DEnv × GH := ([some (.int (n : Nat)), some rd, some (.loc G.length), a3, a4, a5, a6, none, none], G ++ [.lst (ws.map D.str)])
def SpOk (ws : List Str) : Prop := Sp ws ∧ 2 ≤ ws.length ∧ ws.length ≤ 6 ∧ ∀ w ∈ ws, w.length ≤ 200
def SpN (n : Nat) (G : GH) (rd : D) : DEnv → GH → Prop := fun rh G' => ∃ ws a3 a4 a5 a6, (rh, G') = spH n G rd ws a3 a4 a5 a6 ∧ SpOk ws
/-- the end: perhaps another name, the words with blanks between -/
theorem spE_P {n : Nat} {G : GH} {rd : D} {rh : DEnv} {G' : GH} (hG : G.all (belC G.length) = true) (h : SpN n G rd rh G') {N : DEnv → GH → Prop} {R : D → GH → Prop} {X : Str → DEnv → GH → Prop} (k : ∀ row ws, Bad row → R (.str row) (G ++ [.lst ws])) : (spE rh G').P N R X := by
  obtain ⟨ws, a3, a4, a5, a6, e, ⟨s1, s2, s3⟩, h2, h6, hw⟩ := h
  obtain ⟨rfl, rfl⟩ := Prod.mk.inj e
  unfold spE
  repeat walk_at "u"
  have fin : ∀ {ws : List Str} {rh : DEnv}, Bad (joinW ws) → ws.length ≤ 6 → (∀ w ∈ ws, w.length ≤ 200) → rh[2]? = some (some (.loc G.length)) → (sRet (mMt "str" oJoin (mC (.str " ")) (mCons (mVar 2) (mNil))) rh (G ++ [.lst (ws.map D.str)])).P N R X := fun hb h6 hw hr =>
    e_ret (e_mt (e_mC ⟨rfl, e_cons (e_var hr (e_nil (e_ok (join_ofC snoc1_get hw h6) (k _ _ hb))))⟩))
  have hset : ∀ nm : Str, nm.length ≤ 200 → ∀ w ∈ ws.set 1 nm, w.length ≤ 200 := fun nm hn w hw' => by
    rcases List.mem_or_eq_of_mem_set hw' with h | h
    · exact hw w h
    · rw [h]; exact hn
  have hset2 : ∀ nm : Str, oSetL (.loc G.length) (.int 1) (.str nm) (G ++ [.lst (ws.map D.str)]) = .ok () (G ++ [.lst ((ws.set 1 nm).map D.str)]) := fun nm => by
    rw [show (1 : Int) = ((1 : Nat) : Int) from rfl, setL_of snoc1_get (by rw [List.length_map]; omega), snoc1_set, List.map_set]
  by_cases hlt : ((n : Nat) : Int) / 100000 % 8 < 2
  · rw [decide_eq_true hlt]
    have hv : ((n : Nat) : Int) / 100000 % 8 = 0 ∨ ((n : Nat) : Int) / 100000 % 8 = 1 := by omega
    rcases hv with e | e
    · rw [e]
      repeat walk_at "u"
      refine e_ok (hset2 _) ?_
      repeat walk_at "u"
      exact e_ok (join_ofC snoc1_get (hset _ (by decide +kernel)) (by rw [List.length_set]; exact h6)) (k _ _ s2)
    · rw [e]
      repeat walk_at "u"
      refine e_ok (hset2 _) ?_
      repeat walk_at "u"
      exact e_ok (join_ofC snoc1_get (hset _ (by decide +kernel)) (by rw [List.length_set]; exact h6)) (k _ _ s3)
  · rw [decide_eq_false hlt]
    refine e_iteF (by decide) (e_sNil ?_)
    exact fin s1 h6 hw rfl
/-- a name otherwise -/
theorem spB0_P {n : Nat} {G : GH} {rd : D} {ws : List Str} {ch : Nat} (hg : ws ∈ goodL) (hc : letB ch = false) (hc2 : ch ≠ 32 ∧ ch < 1114112) {R : D → GH → Prop} {X : Str → DEnv → GH → Prop} :
    (spB0 (spH n G rd ws (some (.str signsZ)) (some (.str (signS ch))) none none).1 (spH n G rd ws (some (.str signsZ)) (some (.str (signS ch))) none none).2).P (SpN n G rd) R X := by
  have e1 : ws[1]? = some (mkW [97, 98, 99, 100, 101, 102, 103, 104]) := by
    have : goodL.all (fun ws => decide (ws[1]? = some (mkW [97, 98, 99, 100, 101, 102, 103, 104]))) = true := by decide +kernel
    exact of_decide_eq_true (List.all_eq_true.mp this ws hg)
  have hlen : 2 ≤ ws.length ∧ ws.length ≤ 6 := by
    have : goodL.all (fun ws => decide (2 ≤ ws.length ∧ ws.length ≤ 6)) = true := by decide +kernel
    exact of_decide_eq_true (List.all_eq_true.mp this ws hg)
  have hfree := good_free ws hg
  have hix : oIx (.loc G.length) (.int 1) (G ++ [.lst (ws.map D.str)]) = .ok (.str (mkW [97, 98, 99, 100, 101, 102, 103, 104])) (G ++ [.lst (ws.map D.str)]) := loc_ix snoc1_get rfl (by rw [List.getElem?_map, e1]; rfl)
  unfold spB0 spH
  dsimp only
  repeat walk_at "u"
  refine e_ix hix ?_
  repeat walk_at "u"
  rw [show ((n : Nat) : Int) / 27 % 9 = ((n / 27 % 9 : Nat) : Int) by simp]
  generalize n / 27 % 9 = k
  refine e_ok (sl_take (by decide)) ?_
  repeat walk_at "u"
  rw [show signS ch = mkW [ch] from rfl]
  refine e_ok (add_mk (by rw [List.length_take]; simp; omega)) ?_
  repeat walk_at "u"
  refine e_ix hix ?_
  repeat walk_at "u"
  rw [show ((k : Nat) : Int) + ((n : Nat) : Int) / 243 % 2 = ((k + n / 243 % 2 : Nat) : Int) by simp]
  generalize n / 243 % 2 = b
  refine e_ok (sl_drop (by decide)) ?_
  refine e_ok (add_mk (by rw [List.length_append, List.length_take, List.length_drop]; simp; omega)) ?_
  repeat walk_at "u"
  rw [show (1 : Int) = ((1 : Nat) : Int) from rfl]
  refine e_ok (setL_of snoc1_get (by rw [List.length_map]; omega)) ?_
  rw [snoc1_set]
  have hfr : Free (editW [97, 98, 99, 100, 101, 102, 103, 104] k b ch) := edit_free (by decide) (by decide) hc2
  refine ⟨ws.set 1 (editW [97, 98, 99, 100, 101, 102, 103, 104] k b ch), _, _, _, _, Prod.ext rfl (by unfold spH; dsimp only; rw [List.map_set]; rfl), sp_name hg hfr (edit_odd hc), by rw [List.length_set]; exact hlen.1, by rw [List.length_set]; exact hlen.2, fun w hw => ?_⟩
  rcases List.mem_or_eq_of_mem_set hw with h | h
  · exact Nat.le_trans (hfree w h).2.2 (by decide)
  · rw [h]; exact Nat.le_trans hfr.2.2 (by decide)
/-- a number otherwise -/
theorem spB2_P {n : Nat} {G : GH} {rd : D} {ws : List Str} {o : Option D} (hg : ws ∈ goodL.take 6) {R : D → GH → Prop} {X : Str → DEnv → GH → Prop} :
    (spB2 (spH n G rd ws (some (.str signsZ)) o none none).1 (spH n G rd ws (some (.str signsZ)) o none none).2).P (SpN n G rd) R X := by
  have hg0 : ws ∈ goodL := List.mem_of_mem_take hg
  have hlen : 3 ≤ ws.length ∧ ws.length ≤ 6 := by
    have : (goodL.take 6).all (fun ws => decide (3 ≤ ws.length ∧ ws.length ≤ 6)) = true := by decide +kernel
    exact of_decide_eq_true (List.all_eq_true.mp this ws hg)
  have hfree := good_free ws hg0
  have hlenC : oLen [.loc G.length] (G ++ [.lst (ws.map D.str)]) = .ok (.int ((ws.length : Nat) : Int)) (G ++ [.lst (ws.map D.str)]) := by
    unfold oLen lstOf
    dsimp only
    rw [snoc1_get]
    dsimp only
    rw [List.length_map]
  unfold spB2 spH
  dsimp only
  refine e_seq (e_nx (rh := [some (.int (n : Nat)), some rd, some (.loc G.length), some (.str signsZ), o, none, some (.lst ((badsL.take 8).map D.str)), none, none]) (G := G ++ [.lst (ws.map D.str)]) (by kernel_rfl) ?_)
  refine e_seq (e_nx (rh := [some (.int (n : Nat)), some rd, some (.loc G.length), some (.str signsZ), o, none, some (.lst (badsL.map D.str)), none, none]) (G := G ++ [.lst (ws.map D.str)]) (by kernel_rfl) ?_)
  have hbl : badsL.length = 16 := by decide +kernel
  have hd : lstOf (G ++ [.lst (ws.map D.str)]) (.lst (badsL.map D.str)) = some (badsL.map D.str) := rfl
  revert hd
  generalize D.lst (badsL.map D.str) = bd
  intro hd
  repeat walk_at "u"
  rw [show ((n : Nat) : Int) / 54 % 16 = ((n / 54 % 16 : Nat) : Int) by simp]
  have hk : n / 54 % 16 < badsL.length := by rw [hbl]; omega
  revert hk
  generalize n / 54 % 16 = k
  intro hk
  refine e_ix (ix_nat hd (by rw [List.getElem?_map, List.getElem?_eq_getElem hk]; rfl)) ?_
  repeat walk_at "u"
  refine e_len hlenC ?_
  repeat walk_at "u"
  rw [show (2 : Int) + ((n : Nat) : Int) / 18 % ((ws.length : Nat) - 2) = ((2 + n / 18 % (ws.length - 2) : Nat) : Int) by
    rw [show ((ws.length : Nat) : Int) - 2 = ((ws.length - 2 : Nat) : Int) by omega]
    simp]
  have hj : n / 18 % (ws.length - 2) < ws.length - 2 := Nat.mod_lt _ (by omega)
  revert hj
  generalize n / 18 % (ws.length - 2) = j
  intro hj
  refine e_ok (setL_of snoc1_get (by rw [List.length_map]; omega)) ?_
  rw [snoc1_set]
  have hbm : badsL[k] ∈ badsL := List.getElem_mem hk
  refine ⟨ws.set (2 + j) badsL[k], _, _, _, _, Prod.ext rfl (by unfold spH; dsimp only; rw [List.map_set]), sp_num hg hj hbm, by rw [List.length_set]; omega, by rw [List.length_set]; exact hlen.2, fun w hw => ?_⟩
  rcases List.mem_or_eq_of_mem_set hw with h | h
  · exact Nat.le_trans (hfree w h).2.2 (by decide)
  · have : badsL.all (fun b => decide (b.length ≤ 200)) = true := by decide +kernel
    rw [h]
    exact of_decide_eq_true (List.all_eq_true.mp this _ hbm)
/-- the first word otherwise -/
theorem eq_tlW (z : Str) : z = mkW (TL.tl z) := TL.ext_tl (by rw [tl_mkW])
theorem edit_first {w : Str} (hw : w ∈ firstsL) {k b c : Nat} (hk : k ≤ (TL.tl w).length) (hb : b < 2) : editW (TL.tl w) k b c ≠ "looks" := fun h => by
  have h1 := List.all_eq_true.mp first_looks w hw
  have hl : firstsL.all (fun w => decide ((TL.tl w).length ≤ 5)) = true := by decide +kernel
  have h5 := of_decide_eq_true (List.all_eq_true.mp hl w hw)
  have h2 := List.all_eq_true.mp h1 k (List.mem_range.mpr (by omega))
  have h3 := of_decide_eq_true (List.all_eq_true.mp h2 b (List.mem_range.mpr hb)) hk
  exact h3 (edit_looks h)
theorem sp_edit {ws : List Str} (hg : ws ∈ goodL) {w : Str} (hw : w ∈ firstsL) {k b c : Nat} (hk : k ≤ (TL.tl w).length) (hb : b < 2) (hc : c ≠ 32 ∧ c < 1114112) (hn : editW (TL.tl w) k b c ∉ firstsL) : Free (editW (TL.tl w) k b c) ∧ Sp (ws.set 0 (editW (TL.tl w) k b c)) := by
  have hl : firstsL.all (fun w => (TL.tl w).all (fun x => decide (x ≠ 32 ∧ x < 1114112)) && decide ((TL.tl w).length ≤ 20)) = true := by decide +kernel
  obtain ⟨a1, a2⟩ := Bool.and_eq_true_iff.mp (List.all_eq_true.mp hl w hw)
  have hf := edit_free (a := TL.tl w) (k := k) (b := b) (c := c) (fun x hx => of_decide_eq_true (List.all_eq_true.mp a1 x hx)) (of_decide_eq_true a2) hc
  refine ⟨hf, sp_first hg hf (fun h => hn (by rw [h]; decide +kernel)) (edit_first hw hk hb) (forms_firsts _ hn)⟩
theorem sp_dbl {ws : List Str} (hg : ws ∈ goodL) {w : Str} (hw : w ∈ firstsL) : Free (mkW (TL.tl w ++ TL.tl w)) ∧ Sp (ws.set 0 (mkW (TL.tl w ++ TL.tl w))) := by
  have h := List.all_eq_true.mp firsts_dbl w hw
  dsimp only at h
  obtain ⟨h1, h⟩ := Bool.and_eq_true_iff.mp h
  obtain ⟨h2, h⟩ := Bool.and_eq_true_iff.mp h
  obtain ⟨h3, h4⟩ := Bool.and_eq_true_iff.mp h
  have hf := free_of h4
  exact ⟨hf, sp_first hg hf (of_decide_eq_true h1) (of_decide_eq_true h2) (Option.isNone_iff_eq_none.mp h3)⟩
theorem in_strs {x : Str} {L : List Str} {G : GH} : oIn false (.str x) (.lst (L.map D.str)) G = .ok (.bl (decide (x ∈ L))) G := by
  unfold oIn
  have e : mapO vOf (L.map D.str) = some (L.map V.str) := mapO_mapR fun _ _ => rfl
  show (match some (V.str x), mapO vOf (L.map D.str) with | some v, some vs => Out.ok (D.bl (if false = true then !inV v vs else inV v vs)) G | _, _ => .stuck) = _
  rw [e]
  dsimp only
  rw [if_neg (by decide)]
  congr 2
  unfold inV
  clear e
  induction L with
  | nil => rfl
  | cons a r ih =>
    rw [List.map_cons, List.any_cons, ih]
    by_cases h : a = x
    · subst h; simp [eqV]
    · have h2 : ¬ x = a := fun q => h q.symm
      simp [eqV, h, h2]
theorem firsts_P {rh : DEnv} {G : GH} {rd : D} {q : D → GH → Prop} {X : Str → GH → Prop} (h1 : rh[1]? = some (some rd)) (hr : lstOf G rd = some ((goodL.map joinW).map D.str)) (h9 : rh.length = 9) (k : q (.lst (firstsL.map D.str)) G) :
    (mLc false [8] (b1 oSrcL (mVar 1)) (tgName 8) (mYes) (b2 oIx (mMt "str" (oSplit false) (mVar 8) (mCons (mC (.str " ")) (mNil))) (mC (.int 0))) rh G).P q X := by
  refine lc_asL (d := rd) goodL (fun ws => .str (joinW ws)) (fun _ => true) (fun ws => .str (ws.getD 0 "")) (by unfold mVar; rw [h1]) (by rw [hr, List.map_map]; rfl) (by decide) (fun ws hws => ⟨_, rfl, rfl, fun _ => Out.P.eq ?_⟩) ?_
  · have hfree := good_free ws hws
    have hlen : ∃ x r, ws = x :: r ∧ ws.length ≤ 6 := by
      have : goodL.all (fun ws => decide (ws.length ≤ 6) && !ws.isEmpty) = true := by decide +kernel
      obtain ⟨a, b⟩ := Bool.and_eq_true_iff.mp (List.all_eq_true.mp this ws hws)
      cases ws with
      | nil => cases b
      | cons x r => exact ⟨x, r, rfl, of_decide_eq_true a⟩
    obtain ⟨x, r, e, h6⟩ := hlen
    refine e_b2 (e_mt (e_var (d := .str (joinW ws)) ?_ ⟨rfl, e_cons (e_mC (e_nil (e_ok (split_of (split_free hfree (by rw [e]; exact List.cons_ne_nil _ _)) (join_len hfree h6)) (e_mC (e_ok (b := .str (ws.getD 0 "")) (ix_nat (xs := ws.map D.str) (j := 0) rfl (by rw [e]; rfl)) ⟨rfl, rfl⟩))))) ⟩))
    rw [List.getElem?_set_self (by rw [wipeD_len]; omega)]
  · rw [filtT]
    refine e_mkF ?_
    exact k

theorem spB1_P {n : Nat} {G : GH} {rd : D} {ws : List Str} {ch : Nat} {o3 : Option D} (hg : ws ∈ goodL) (hr : ∀ G, lstOf G rd = some ((goodL.map joinW).map D.str)) (hc : ch ∈ signsL) {R : D → GH → Prop} {X : Str → DEnv → GH → Prop} :
    (spB1 (spH n G rd ws o3 (some (.str (signS ch))) none none).1 (spH n G rd ws o3 (some (.str (signS ch))) none none).2).P (SpN n G rd) R X := by
  have e1 : ∃ w ∈ firstsL, ws[0]? = some w := by
    have : goodL.all (fun ws => firstsL.any fun w => decide (ws[0]? = some w)) = true := by decide +kernel
    obtain ⟨w, hw, h⟩ := List.any_eq_true.mp (List.all_eq_true.mp this ws hg)
    exact ⟨w, hw, of_decide_eq_true h⟩
  obtain ⟨w, hw, e1⟩ := e1
  have hlen : 2 ≤ ws.length ∧ ws.length ≤ 6 := by
    have : goodL.all (fun ws => decide (2 ≤ ws.length ∧ ws.length ≤ 6)) = true := by decide +kernel
    exact of_decide_eq_true (List.all_eq_true.mp this ws hg)
  have hfree := good_free ws hg
  have hwf := hfree w (List.mem_of_getElem? e1)
  have hwl : (TL.tl w).length ≤ 5 := by
    have : firstsL.all (fun w => decide ((TL.tl w).length ≤ 5)) = true := by decide +kernel
    exact of_decide_eq_true (List.all_eq_true.mp this w hw)
  have hix : ∀ {ws : List Str} {w : Str}, ws[0]? = some w → oIx (.loc G.length) (.int 0) (G ++ [.lst (ws.map D.str)]) = .ok (.str w) (G ++ [.lst (ws.map D.str)]) := fun {ws w} h => loc_ix snoc1_get rfl (by rw [List.getElem?_map, h]; rfl)
  have hsum : ∃ z : Str, z.length = 27 ∧ (∀ c ∈ TL.tl z, c ≠ 32 ∧ c < 1114112) ∧ ∀ G, oAdd false (.str (signS ch)) (.str "abcdefghijklmnopqrstuvwxyz") G = .ok (.str z) G := by
    refine ⟨mkW ([ch] ++ [97, 98, 99, 100, 101, 102, 103, 104, 105, 106, 107, 108, 109, 110, 111, 112, 113, 114, 115, 116, 117, 118, 119, 120, 121, 122]), by rw [len_mkW]; rfl, fun c h => ?_, fun G => ?_⟩
    · have hs : signsL.all (fun c => decide (c ≠ 32 ∧ c < 1114112)) = true := by decide +kernel
      rcases List.mem_append.mp (show c ∈ [ch] ++ _ from h) with h | h
      · rw [List.mem_singleton.mp h]
        exact of_decide_eq_true (List.all_eq_true.mp hs ch hc)
      · have hL : [97, 98, 99, 100, 101, 102, 103, 104, 105, 106, 107, 108, 109, 110, 111, 112, 113, 114, 115, 116, 117, 118, 119, 120, 121, 122].all (fun c => decide (c ≠ 32 ∧ c < 1114112)) = true := by decide +kernel
        exact of_decide_eq_true (List.all_eq_true.mp hL c h)
    · rw [lets_mk]
      exact add_mk (by simp)
  obtain ⟨z, hz1, hz2, hz3⟩ := hsum
  revert hz3
  generalize signS ch = sg
  intro hz3
  have hl27 : ∀ j : Nat, j < 27 → ∀ G, ∃ c, (c ≠ 32 ∧ c < 1114112) ∧ oIx (.str z) (.int (j : Nat)) G = .ok (.str (mkW [c])) G := fun j hj G => by
    obtain ⟨c, h1, h2⟩ := ix_sign (z := z) (j := j) (G := G) (by omega) (by omega)
    exact ⟨c, hz2 c h1, h2⟩
  unfold spB1 spH
  dsimp only
  refine e_seq (P_midR (fun rh G' => ∃ k : Nat, k ≤ (TL.tl w).length ∧ rh = [some (.int (n : Nat)), some rd, some (.loc G.length), o3, some (.str sg), some (.int (k : Nat)), none, none, none] ∧ G' = G ++ [.lst (ws.map D.str)]) ?_ ?_)
  · refine e_set (e_b2 (e_b2 (e_var rfl (e_mC (e_div (cDiv_of (by omega) (by omega)) ?_)))))
    refine e_b2 (e_b1 (e_cons (e_b2 (e_var rfl (e_mC (e_ix (hix e1) (e_nil (e_len (len_str (by rw [TL.len_tl]; omega)) (e_mC (e_add (e_mod (by omega) ?_)))))))))))
    refine ⟨n / 27 % (w.length + 1), ?_, ?_, rfl⟩
    · have := Nat.mod_lt (n / 27) (show 0 < w.length + 1 by omega)
      rw [← TL.len_tl]
      omega
    · rw [show ((n : Nat) : Int) / 27 % ((w.length : Nat) + 1) = ((n / 27 % (w.length + 1) : Nat) : Int) by simp]
      rfl
  rintro rh G' ⟨k, hk, rfl, rfl⟩
  refine e_seq (P_midR (fun rh G' => ∃ c : Nat, (c ≠ 32 ∧ c < 1114112) ∧ rh = [some (.int (n : Nat)), some rd, some (.loc G.length), o3, some (.str (mkW [c])), some (.int (k : Nat)), none, none, none] ∧ G' = G ++ [.lst (ws.map D.str)]) ?_ ?_)
  · refine e_set (e_b2 (e_b2 (e_var rfl (e_mC (e_ok (hz3 _) ?_)))))
    refine e_b2 (e_b2 (e_var rfl (e_mC (e_div (cDiv_of (by omega) (by omega)) (e_mC (e_mod (by omega) ?_))))))
    rw [show ((n : Nat) : Int) / 500 % 27 = ((n / 500 % 27 : Nat) : Int) by simp]
    obtain ⟨c, h1, h2⟩ := hl27 (n / 500 % 27) (by omega) (G ++ [.lst (ws.map D.str)])
    exact e_ok h2 ⟨c, h1, rfl, rfl⟩
  rintro rh G' ⟨c, hc3, rfl, rfl⟩
  have hww := eq_tlW w
  have hixw : oIx (.loc G.length) (.int 0) (G ++ [.lst (ws.map D.str)]) = .ok (.str (mkW (TL.tl w))) (G ++ [.lst (ws.map D.str)]) := by rw [← hww]; exact hix e1
  obtain ⟨b, hb, hbe⟩ : ∃ b : Nat, b < 2 ∧ ((n : Nat) : Int) / 243 % 2 = (b : Nat) := ⟨n / 243 % 2, by omega, by simp⟩
  have hn : editW (TL.tl w) k b c ∉ firstsL → Free (editW (TL.tl w) k b c) ∧ Sp (ws.set 0 (editW (TL.tl w) k b c)) := sp_edit hg hw hk hb hc3
  have hset0 : ∀ {ws : List Str} {x : Str}, 2 ≤ ws.length → oSetL (.loc G.length) (.int 0) (.str x) (G ++ [.lst (ws.map D.str)]) = .ok () (G ++ [.lst ((ws.set 0 x).map D.str)]) := fun {ws x} h2 => by
    rw [show (0 : Int) = ((0 : Nat) : Int) from rfl, setL_of snoc1_get (by rw [List.length_map]; omega), snoc1_set, List.map_set]
  refine e_seq (P_midR (fun rh G' => rh = [some (.int (n : Nat)), some rd, some (.loc G.length), o3, some (.str (mkW [c])), some (.int (k : Nat)), none, none, none] ∧ G' = G ++ [.lst ((ws.set 0 (editW (TL.tl w) k b c)).map D.str)]) ?_ ?_)
  · repeat walk_at "u"
    refine e_ix hixw ?_
    repeat walk_at "u"
    refine e_ok (sl_take (by omega)) ?_
    repeat walk_at "u"
    refine e_ok (add_mk (by rw [List.length_take, List.length_singleton]; omega)) ?_
    repeat walk_at "u"
    refine e_ix hixw ?_
    repeat walk_at "u"
    rw [hbe]
    repeat walk_at "u"
    rw [show ((k : Nat) : Int) + (b : Nat) = ((k + b : Nat) : Int) by simp]
    refine e_ok (sl_drop (by omega)) ?_
    refine e_ok (add_mk (by rw [List.length_append, List.length_take, List.length_drop, List.length_singleton]; omega)) ?_
    repeat walk_at "u"
    refine e_ok (hset0 (x := editW (TL.tl w) k b c) hlen.1) ?_
    first | rfl | exact ⟨rfl, rfl⟩
  rintro rh G' ⟨rfl, rfl⟩
  have he0 : (ws.set 0 (editW (TL.tl w) k b c))[0]? = some (editW (TL.tl w) k b c) := by rw [List.getElem?_set_self (by omega)]
  have hSp : ∀ x : Str, Free x → Sp (ws.set 0 x) → SpOk (ws.set 0 x) := fun x hf hs => ⟨hs, by rw [List.length_set]; exact hlen.1, by rw [List.length_set]; exact hlen.2, fun v hv => by
    rcases List.mem_or_eq_of_mem_set hv with h | h
    · exact Nat.le_trans (hfree v h).2.2 (by decide)
    · rw [h]; exact Nat.le_trans hf.2.2 (by decide)⟩
  revert he0 hn
  generalize editW (TL.tl w) k b c = x
  intro hn he0
  refine e_if (e_toB (e_b2 (e_b2 (e_var rfl (e_mC (e_ix (hix he0) ?_))))))
  refine firsts_P rfl (hr _) rfl ?_
  refine e_ok in_strs (e_oB ?_)
  by_cases hin : x ∈ firstsL
  · rw [decide_eq_true hin]
    have hx := eq_tlW x
    obtain ⟨d1, d2⟩ := sp_dbl hg hin
    have hxl : (TL.tl x).length ≤ 5 := by
      have : firstsL.all (fun w => decide ((TL.tl w).length ≤ 5)) = true := by decide +kernel
      exact of_decide_eq_true (List.all_eq_true.mp this x hin)
    have hix2 : oIx (.loc G.length) (.int 0) (G ++ [.lst ((ws.set 0 x).map D.str)]) = .ok (.str (mkW (TL.tl x))) (G ++ [.lst ((ws.set 0 x).map D.str)]) := by rw [← hx]; exact hix he0
    refine e_iteT rfl ?_
    repeat walk_at "u"
    refine e_ix hix2 ?_
    repeat walk_at "u"
    refine e_ix hix2 ?_
    refine e_ok (add_mk (by omega)) ?_
    repeat walk_at "u"
    refine e_ok (hset0 (x := mkW (TL.tl x ++ TL.tl x)) (by rw [List.length_set]; exact hlen.1)) ?_
    rw [List.set_set]
    exact ⟨_, _, _, _, _, rfl, hSp _ d1 d2⟩
  · rw [decide_eq_false hin]
    obtain ⟨d1, d2⟩ := hn hin
    refine e_iteF (by decide) (e_sNil ?_)
    exact ⟨_, _, _, _, _, rfl, hSp _ d1 d2⟩
theorem spoilt_P {n : Nat} {G : GH} (hG : G.all (belC G.length) = true) : (m_law_spoilt [.int (n : Nat)] G).P (fun d G' => G' = G ∧ ∃ row, d = .str row ∧ Bad row) X0 := by
  unfold m_law_spoilt
  refine e_runF ?_
  unfold g_law_spoilt
  refine e_trunc ?_
  refine e_seq (e_nx (rh := [some (.int (n : Nat)), some (.lst (((goodL.take 3).map joinW).map D.str)), none, none, none, none, none, none, none]) (G := G) (by kernel_rfl) ?_)
  refine e_seq (e_nx (rh := [some (.int (n : Nat)), some (.lst (((goodL.take 6).map joinW).map D.str)), none, none, none, none, none, none, none]) (G := G) (by kernel_rfl) ?_)
  refine e_seq (e_nx (rh := [some (.int (n : Nat)), some rowsD, none, none, none, none, none, none, none]) (G := G) (by kernel_rfl) ?_)
  have hr : ∀ G, lstOf G rowsD = some ((goodL.map joinW).map D.str) := fun _ => rfl
  revert hr
  generalize rowsD = rd
  intro hr
  have hg9 : goodL.length = 9 := rfl
  obtain ⟨m, hm, hm2, hm3⟩ : ∃ m : Nat, (m = 9 ∨ m = 6) ∧ (n % 3 = 2 → m = 6) ∧ ∀ G, oIx (.lst [.int 9, .int 9, .int 6]) (.int (((n % 3 : Nat)) : Int)) G = .ok (.int (m : Nat)) G := by
    have : n % 3 = 0 ∨ n % 3 = 1 ∨ n % 3 = 2 := by omega
    rcases this with e | e | e <;> rw [e]
    · exact ⟨9, .inl rfl, fun z => by omega, fun G => by with_unfolding_all rfl⟩
    · exact ⟨9, .inl rfl, fun z => by omega, fun G => by with_unfolding_all rfl⟩
    · exact ⟨6, .inr rfl, fun _ => rfl, fun G => by with_unfolding_all rfl⟩
  obtain ⟨i, hi, hie⟩ : ∃ i : Nat, i < m ∧ ((n : Nat) : Int) / 3 % (m : Nat) = (i : Nat) := ⟨n / 3 % m, Nat.mod_lt _ (by omega), by simp⟩
  have hi9 : i < goodL.length := by omega
  have hg : goodL[i] ∈ goodL := List.getElem_mem hi9
  have hg6 : n % 3 = 2 → goodL[i] ∈ goodL.take 6 := fun z => by
    have : i < 6 := by have := hm2 z; omega
    exact List.mem_take_iff_getElem.mpr ⟨i, by rw [hg9]; omega, rfl⟩
  have hrow : ∀ G, oIx rd (.int (i : Nat)) G = .ok (.str (joinW goodL[i])) G := fun G => ix_nat (hr G) (by rw [List.getElem?_map, List.getElem?_map, List.getElem?_eq_getElem hi9]; rfl)
  revert hg hg6 hrow
  generalize goodL[i] = ws
  intro hg hg6 hrow
  have hfree := good_free ws hg
  have hlen : 2 ≤ ws.length ∧ ws.length ≤ 6 := by
    have : goodL.all (fun ws => decide (2 ≤ ws.length ∧ ws.length ≤ 6)) = true := by decide +kernel
    exact of_decide_eq_true (List.all_eq_true.mp this ws hg)
  refine e_seq (P_midR (fun rh G' => rh = [some (.int (n : Nat)), some rd, some (.loc G.length), none, none, none, none, none, none] ∧ G' = G ++ [.lst (ws.map D.str)]) ?_ ?_)
  · repeat walk_at "u"
    rw [show ((n : Nat) : Int) % 3 = ((n % 3 : Nat) : Int) by simp]
    refine e_ix (hm3 _) ?_
    refine e_mod (by omega) ?_
    rw [hie]
    refine e_ix (hrow _) ?_
    refine ⟨rfl, ?_⟩
    repeat walk_at "u"
    refine e_ok (split_ofC (split_free hfree (by intro z; rw [z] at hlen; exact absurd hlen.1 (by decide))) (join_len hfree hlen.2)) ?_
    first | rfl | exact ⟨rfl, rfl⟩
  rintro rh G' ⟨rfl, rfl⟩
  refine e_seq (e_nx (rh := [some (.int (n : Nat)), some rd, some (.loc G.length), some (.str signsZ), none, none, none, none, none]) (G := G ++ [.lst (ws.map D.str)]) rfl ?_)
  have hzl : 0 < signsZ.length ∧ signsZ.length ≤ 200 := by decide +kernel
  have hsg : ∀ j : Nat, j < signsZ.length → ∃ ch, ch ∈ signsL ∧ letB ch = false ∧ (ch ≠ 32 ∧ ch < 1114112) ∧ ∀ G, oIx (.str signsZ) (.int (j : Nat)) G = .ok (.str (signS ch)) G := fun j hj => by
    have ha : signsL.all (fun c => !letB c && decide (c ≠ 32 ∧ c < 1114112)) = true := by decide +kernel
    obtain ⟨ch, h1, h2⟩ := ix_sign (z := signsZ) (j := j) (G := []) (by omega) hj
    obtain ⟨a1, a2⟩ := Bool.and_eq_true_iff.mp (List.all_eq_true.mp ha ch h1)
    refine ⟨ch, h1, by simpa using a1, of_decide_eq_true a2, fun G => ?_⟩
    have : oIx (.str signsZ) (.int (j : Nat)) G = (oIx (.str signsZ) (.int (j : Nat)) []).bind fun d _ => .ok d G := by
      unfold oIx
      dsimp only
      split
      · split <;> rfl
      · rfl
    rw [this, h2]
    rfl
  revert hsg hzl
  generalize hzz : signsZ = z
  intro hzl hsg
  obtain ⟨j, hj, hje⟩ : ∃ j : Nat, j < z.length ∧ ((n : Nat) : Int) / 1000 % (z.length : Nat) = (j : Nat) := ⟨n / 1000 % z.length, Nat.mod_lt _ hzl.1, by simp⟩
  obtain ⟨ch, hc, hc1, hc2, hc3⟩ := hsg j hj
  refine e_seq (P_midR (fun rh G' => rh = [some (.int (n : Nat)), some rd, some (.loc G.length), some (.str z), some (.str (signS ch)), none, none, none, none] ∧ G' = G ++ [.lst (ws.map D.str)]) ?_ ?_)
  · repeat walk_at "u"
    refine e_len (len_str (by omega)) ?_
    refine e_mod (by omega) ?_
    rw [hje]
    refine e_ix (hc3 _) ?_
    first | rfl | exact ⟨rfl, rfl⟩
  rintro rh G' ⟨rfl, rfl⟩
  have fin : ∀ {rh : DEnv} {G' : GH}, SpN n G rd rh G' → (spE rh G').P (fun rh' G' => ∃ G2, truncG G.length G' = some G2 ∧ G2 = G ∧ ∃ row, D.non = .str row ∧ Bad row) (fun d G' => ∃ G2, truncG G.length G' = some G2 ∧ bel 8 G.length d = true ∧ G2 = G ∧ ∃ row, d = .str row ∧ Bad row) (fun c _ G' => ∃ G2, truncG G.length G' = some G2 ∧ X0 c G2) := fun h => spE_P hG h fun row ws hb => ⟨G, trunc_ok hG, rfl, rfl, row, rfl, hb⟩
  have cond : ∀ (k : Int) {rh : DEnv} {G' : GH} {q : Bool → GH → Prop} {X : Str → GH → Prop}, rh[0]? = some (some (.int (n : Nat))) → q (decide (((n : Nat) : Int) % 3 = k)) G' → (toB (b2 oEq (b2 oMod (mVar 0) (mC (.int 3))) (mC (.int k))) rh G').P q X := fun k {rh G' q X} h0 h => e_toB (e_b2 (e_b2 (e_var h0 (e_mC (e_mod (by decide) (e_mC (e_eqI (e_oB h))))))))
  have hn0 : ∀ {rh : DEnv} {G' : GH}, SpN n G rd rh G' → rh[0]? = some (some (.int (n : Nat))) := fun ⟨ws, a3, a4, a5, a6, e, _⟩ => by
    obtain ⟨rfl, rfl⟩ := Prod.mk.inj e
    rfl
  have h3 : n % 3 = 0 ∨ n % 3 = 1 ∨ n % 3 = 2 := by omega
  rcases h3 with h | h | h
  · refine e_seq (e_if (cond 0 rfl ?_))
    rw [decide_eq_true (by omega)]
    refine e_iteT rfl (P_midR (SpN n G rd) ?_ ?_)
    · subst hzz
      exact spB0_P (n := n) (G := G) (rd := rd) hg hc1 hc2
    intro rh G' hS
    refine e_seq (e_if (cond 1 (hn0 hS) ?_))
    rw [decide_eq_false (by omega)]
    refine e_iteF (by decide) (e_sNil ?_)
    refine e_seq (e_if (cond 2 (hn0 hS) ?_))
    rw [decide_eq_false (by omega)]
    refine e_iteF (by decide) (e_sNil ?_)
    exact fin hS
  · refine e_seq (e_if (cond 0 rfl ?_))
    rw [decide_eq_false (by omega)]
    refine e_iteF (by decide) (e_sNil ?_)
    refine e_seq (e_if (cond 1 rfl ?_))
    rw [decide_eq_true (by omega)]
    refine e_iteT rfl (P_midR (SpN n G rd) ?_ ?_)
    · exact spB1_P (n := n) (G := G) (rd := rd) (o3 := some (.str z)) hg hr hc
    intro rh G' hS
    refine e_seq (e_if (cond 2 (hn0 hS) ?_))
    rw [decide_eq_false (by omega)]
    refine e_iteF (by decide) (e_sNil ?_)
    exact fin hS
  · refine e_seq (e_if (cond 0 rfl ?_))
    rw [decide_eq_false (by omega)]
    refine e_iteF (by decide) (e_sNil ?_)
    refine e_seq (e_if (cond 1 rfl ?_))
    rw [decide_eq_false (by omega)]
    refine e_iteF (by decide) (e_sNil ?_)
    refine e_seq (e_if (cond 2 rfl ?_))
    rw [decide_eq_true (by omega)]
    refine e_iteT rfl (P_midR (SpN n G rd) ?_ ?_)
    · subst hzz
      exact spB2_P (n := n) (G := G) (rd := rd) (hg6 h)
    intro rh G' hS
    exact fin hS

/-! the law's last rows, and its heap on the way -/
theorem ne_emptyC {G : GH} {k : Nat} {zs : List D} (h : G[k]? = some (.lst zs)) : oNe (.loc k) (.lst []) G = .ok (.bl (decide (zs ≠ []))) G := by
  have tp : toP G 16 (.loc k) = (mapO (toP G 15) zs).map .list := by
    show (match G[k]? with | some (.lst xs) => (mapO (toP G 15) xs).map PyData.list | _ => none) = _
    rw [h]
  cases zs with
  | nil =>
    have e : oEq (.loc k) (.lst []) G = .ok (.bl true) G := oEq_same (p := .list []) (n := 1) (by rw [tp]; rfl) rfl LayL.nil.list
    rw [oNe_of e]; rfl
  | cons z zs =>
    have hl : oEq (.loc k) (.lst []) G = .stuck ∨ oEq (.loc k) (.lst []) G = .ok (.bl false) G := by
      unfold oEq
      dsimp only
      rw [tp]
      cases e : mapO (toP G 15) (z :: zs) with
      | none => exact .inl rfl
      | some ps =>
        obtain ⟨q, qs, _, _, rfl⟩ := mapO_cons e
        rw [show toP G 16 (.lst []) = some (.list []) from rfl]
        dsimp only [Option.map]
        split
        · exact .inr rfl
        · exact .inl rfl
    rcases hl with e | e
    · unfold oNe
      rw [e]
      dsimp only
      rw [lstOf_of (loc_lstO h)]
      rfl
    · rw [oNe_of e]; rfl
theorem cell37 {ns : List Int} {k : Nat} {G : GH} (hk : k ≤ 1000) : (m_law_cell [.ro (ns.map D.int), .int (k : Nat)] G).P (fun d G' => G' = G ∧ ∃ v, d = .int v) X0 := by
  unfold m_law_cell
  refine e_runF ?_
  unfold g_law_cell
  repeat walk_at "u"
  refine e_iteB (fun h => ?_) (fun h => ?_)
  · rw [List.length_map] at h
    repeat walk_at "u"
    have hk2 : k < ns.length := by omega
    refine e_ix (ix_nat (xs := ns.map D.int) rfl (ints_get (List.getElem?_eq_getElem hk2))) ?_
    exact ⟨rfl, _, rfl⟩
  · repeat walk_at "u"
    first | exact ⟨rfl, _, rfl⟩ | exact ⟨_, rfl⟩
abbrev kvs37 : List (Key × D) := [(.inr "a", tabA), (.inr "abcdefgh", tabH), (.inr "b", tabB)]
theorem desk0_at (k : Nat) : DeskAt (GX (HX k)) 0 1 kvs37 := ⟨rfl, rfl⟩
def Told (k : Nat) (row ans : Str) : Prop := m_Desk_say [.loc 0, .str row] (GX (HX k)) = .ok (.str ans) (GX (HX k))
theorem told_of_eq {k : Nat} {row ans kind name w : Str} {i : Int} {q : Nat} {T : List (List Int)} (hw : ∀ G, m_words_in [.str row] G = .ok (wsD [kind, name, w]) G) (h1 : kind ≠ "looks" ∧ kind ≠ "table" ∧ kind ≠ "drop" ∧ kind ≠ "cell") (hn : dlk kvs37 (.inr name) = some (tabD T)) (hi : intText? w = some i) (hl : w.length ≤ 640)
    (h : m_told_of [.str kind, tabD T, .lst [.int i]] (GX (HX k)) = .ok (.str ans) (GX (HX k))) : Told k row ans := by
  have hv : ival w = i := by unfold ival; rw [hi]; rfl
  refine Out.P.eq ?_
  refine say_told (desk0_at k) (hw _) h1.1 h1.2.1 h1.2.2.1 h1.2.2.2 hn (by show 1 ≤ 1000; decide) (fun z hz => ?_) ?_
  · rw [List.mem_singleton] at hz
    subst hz
    rw [hv]
    exact int_of hi hl
  · show (m_told_of [.str kind, tabD T, .lst [.int (ival w)]] _).P _ _
    rw [hv]
    exact e_ok h ⟨rfl, rfl⟩
theorem few_small {T : List (List Int)} (h : T.all (fun r => decide (r ≠ []) && (decide (r.length ≤ 6) && r.all fun i => decide (i.natAbs < 10 ^ 100))) = true) : Few T := fun r hr => by
  obtain ⟨h1, h2⟩ := Bool.and_eq_true_iff.mp (List.all_eq_true.mp h r hr)
  obtain ⟨h2, h3⟩ := Bool.and_eq_true_iff.mp h2
  exact ⟨of_decide_eq_true h1, of_decide_eq_true h2, fun i hi => of_decide_eq_true (List.all_eq_true.mp h3 i hi)⟩
theorem tA1 (k : Nat) : Told k "find a 2" "1:0" := told_of_eq (T := [[1, 3], [2, 5]]) (kind := "find") (name := "a") (w := "2") (i := 2) (q := 2) (fun G => by kernel_rfl) (by decide +kernel) (by kernel_rfl) (by kernel_rfl) (by decide +kernel) (by
  rw [told_find tabA_ok (gx_bel k), show cellsS (cellsT [[1, 3], [2, 5]] 2 2) = "1:0" by decide +kernel])
theorem tA2 (k : Nat) : Told k "find a 4" "none" := told_of_eq (T := [[1, 3], [2, 5]]) (kind := "find") (name := "a") (w := "4") (i := 4) (q := 2) (fun G => by kernel_rfl) (by decide +kernel) (by kernel_rfl) (by kernel_rfl) (by decide +kernel) (by
  rw [told_find tabA_ok (gx_bel k), show cellsS (cellsT [[1, 3], [2, 5]] 2 4) = "none" by decide +kernel])
theorem tA3 (k : Nat) : Told k "stair a 3" "1 1" := told_of_eq (T := [[1, 3], [2, 5]]) (kind := "stair") (name := "a") (w := "3") (i := 3) (q := 2) (fun G => by kernel_rfl) (by decide +kernel) (by kernel_rfl) (by kernel_rfl) (by decide +kernel) (by
  rw [told_stair tabA_ok, show rowS (lessT [[1, 3], [2, 5]] 3) = "1 1" by decide +kernel])
theorem tA4 (k : Nat) : Told k "walk a 2" "0:1 0:0 1:0" := told_of_eq (T := [[1, 3], [2, 5]]) (kind := "walk") (name := "a") (w := "2") (i := 2) (q := 2) (fun G => by kernel_rfl) (by decide +kernel) (by kernel_rfl) (by kernel_rfl) (by decide +kernel) (by
  rw [told_walk tabA_ok (gx_bel k), show cellsS (walkC [[1, 3], [2, 5]] 2 (([[1, 3], [2, 5]] : List (List Int)).length + 2) 0 2).1 = "0:1 0:0 1:0" by decide +kernel])
theorem tA5 (k : Nat) : Told k "below a 5" "3" := told_of_eq (T := [[1, 3], [2, 5]]) (kind := "below") (name := "a") (w := "5") (i := 5) (q := 2) (fun G => by kernel_rfl) (by decide +kernel) (by kernel_rfl) (by kernel_rfl) (by decide +kernel) (by
  rw [told_below tabA_ok]
  rfl)
theorem tA6 (k : Nat) : Told k "nth a 2" "3" := told_of_eq (T := [[1, 3], [2, 5]]) (kind := "nth") (name := "a") (w := "2") (i := 2) (q := 2) (fun G => by kernel_rfl) (by decide +kernel) (by kernel_rfl) (by kernel_rfl) (by decide +kernel) (by
  have h := told_nth (k := 2) tabA_ok (few_small (by decide +kernel)) (by decide) (gx_bel k)
  have ho : (ordT [[1, 3], [2, 5]]).getD 2 0 = 3 := by
    have hl : (ordT [[1, 3], [2, 5]]).length = 4 := (ord_perm _).length_eq
    obtain ⟨v, hv⟩ : ∃ v, (ordT [[1, 3], [2, 5]])[2]? = some v := ⟨_, List.getElem?_eq_getElem (by omega)⟩
    obtain ⟨a1, a2, a3⟩ := ord_less hv
    rw [List.getD_eq_getElem?_getD, hv]
    show v = 3
    simp at a3
    rcases a3 with rfl | rfl | rfl | rfl
    · exact absurd a2 (by decide)
    · rfl
    · exact absurd a2 (by decide)
    · exact absurd a1 (by decide)
  rw [ho] at h
  exact h)
theorem tH1 (k : Nat) : Told k "find abcdefgh 2" "none" := told_of_eq (T := [[1, 1, 1], [1, 1, 1]]) (kind := "find") (name := "abcdefgh") (w := "2") (i := 2) (q := 3) (fun G => by kernel_rfl) (by decide +kernel) (by kernel_rfl) (by kernel_rfl) (by decide +kernel) (by
  rw [told_find tabH_ok (gx_bel k), show cellsS (cellsT [[1, 1, 1], [1, 1, 1]] 3 2) = "none" by decide +kernel])
theorem tL (k : Nat) {row w ans : Str} {r n : Nat} (hr : sized r) (hw : ∀ G, m_words_in [.str row] G = .ok (wsD ["looks", w, w]) G) (hi : intText? w = some ((r : Nat) : Int)) (hl : w.length ≤ 640) (hn : need (gridL r r) = n) (hans : shS (n : Nat) = ans) (h1 : n ≤ 1000) : Told k row ans := by
  refine Out.P.eq ?_
  refine say_looks (hw _) (int_of hi hl) (int_of hi hl) (e_ok (fewest_ok hr hr (gx_bel k)) ⟨_, rfl, ?_, ?_, rfl⟩)
  · rw [hn]
    exact log_small (sh_few h1)
  · rw [hn, ← hans]
    rfl
theorem tL2 (k : Nat) : Told k "looks 2 2" "3" := tL k (r := 2) (n := 3) (w := "2") ⟨by decide, by decide⟩ (fun G => by kernel_rfl) (by kernel_rfl) (by decide +kernel) (by decide +kernel) (by decide +kernel) (by decide)
theorem tL1 (k : Nat) : Told k "looks 1 1" "1" := tL k (r := 1) (n := 1) (w := "1") ⟨by decide, by decide⟩ (fun G => by kernel_rfl) (by kernel_rfl) (by decide +kernel) (by decide +kernel) (by decide +kernel) (by decide)

/-! law k37 -/
abbrev dk37 : D := .dkf [("a", "1 3/2 5"), ("abcdefgh", "1 1 1/1 1 1"), ("b", "7")]
def Said (r : D) (due : Str) : Prop := OkS due ∧ ∀ k, m_law_said [.loc 0, r] (GX (HX k)) = .ok (.lst [.bl true, .str due]) (GX (HX k))
theorem every_Said {e : D} (he : e ∈ everyL) : ∃ r due, e = .tup [r, .str due] ∧ Said r due := by
  obtain ⟨r, due, rfl, h⟩ := every_said he
  refine ⟨r, due, rfl, ?_, h⟩
  have : everyL.all (fun e => match e with | .tup [_, .str due] => freeB due | _ => true) = true := by decide +kernel
  exact (free_of (List.all_eq_true.mp this _ he)).2.1
theorem bad_Said {row : Str} (h : Bad row) : Said (.str row) "row" := by
  refine ⟨(free_of (by decide +kernel)).2.1, fun k => said_of (c := "NoRow") (by decide +kernel) ?_⟩
  exact exn_P (say_bad (h _) ⟨rfl, rfl⟩)
theorem said_eq {due : Str} {G : GH} (h : OkS due) : oNe (.lst [.bl true, .str due]) (.lst [.bl true, .str due]) G = .ok (.bl false) G :=
  oNe_of (oEq_same (p := .list [.bool true, .str due]) (n := 3) rfl rfl (LayL.cons (Lay.bl true) (LayL.cons (lay_str h) LayL.nil)).list)
theorem hx_succ (k : Nat) : HX k ++ [T4] = HX (k + 1) := by
  unfold HX
  rw [List.replicate_succ']
theorem sort_abc : sortS [("a" : Str), "abcdefgh", "b"] = [("a" : Str), "abcdefgh", "b"] := by
  unfold sortS
  exact List.mergeSort_of_pairwise (by decide +kernel)
theorem names_abc (k : Nat) : m_Desk_namesC [.loc 0] (GX (HX k)) = .ok (.loc 9) (GX (HX k) ++ [.lst [.str "a", .str "abcdefgh", .str "b"]]) := by
  refine Out.P.eq ?_
  unfold m_Desk_namesC
  refine e_runF ?_
  unfold g_Desk_namesC
  repeat walk_at "u"
  refine e_fld (desk0_at k).ins look_tables ?_
  repeat walk_at "u"
  refine e_ok (b := D.loc 9) (G' := GX (HX k) ++ [.lst [.str "a", .str "abcdefgh", .str "b"]]) ?_ ⟨rfl, rfl⟩
  unfold oSortD
  dsimp only
  rw [(desk0_at k).dk]
  dsimp only
  rw [show mapO nameOf kvs37 = some [("a" : Str), "abcdefgh", "b"] from rfl]
  dsimp only
  rw [if_pos (by decide), sort_abc]
  rfl
theorem names_other (k : Nat) : m_Desk_names [.loc 2] (GX (HX k)) = .ok (.lst []) (GX (HX k)) := by
  refine Out.P.eq ?_
  unfold m_Desk_names
  refine e_runF ?_
  unfold g_Desk_names
  repeat walk_at "u"
  refine e_fld (k := 2) (fs := [("tables", .loc 3)]) rfl rfl ?_
  repeat walk_at "u"
  refine e_ok (b := D.lst []) (G' := GX (HX k)) ?_ ⟨rfl, rfl⟩
  unfold oSortD
  dsimp only
  rw [show (GX (HX k))[3]? = some (.dk []) from rfl]
  dsimp only
  rw [show mapO nameOf ([] : List (Key × D)) = some [] from rfl]
  dsimp only
  rw [if_pos (by decide), show sortS [] = [] by unfold sortS; simp]
  rfl
def rhI (ns : List Int) (o8 o9 o10 o11 o12 : Option D) : DEnv := [some (.ro (ns.map D.int)), some (.loc 0), some (.loc 2), some dk37, some (.str "b"), some (.loc 7), some (.loc 8), some .dct0, o8, o9, o10, o11, o12, none]
def InvL (ns : List Int) (k : Nat) (rh : DEnv) (G : GH) : Prop := G = GX (HX k) ∧ ∃ o8 o9 o10 o11 o12, rh = rhI ns o8 o9 o10 o11 o12
theorem e_keepO {n : Nat} {d : D} (h : bel 8 n d = true) : (some d).filter (bel 8 n) = some d := by
  show (if bel 8 n d = true then some d else none) = some d
  rw [if_pos h]
theorem ix_last {n : Nat} {G : GH} (h : G[7]? = some (.lst (HX (n + 1)))) : oIx (.loc 7) (.int (-1)) G = .ok T4 G := by
  unfold oIx lstOf
  dsimp only
  rw [h]
  dsimp only
  have : atI (HX (n + 1)) (-1) = some T4 := by
    unfold atI HX
    rw [List.length_replicate]
    have : L2.ixN (n + 1) (-1) = some n := by unfold L2.ixN; simp; omega
    rw [this]
    show (List.replicate (n + 1) T4)[n]? = _
    rw [List.getElem?_replicate, if_pos (by omega)]
  rw [this]
local macro_rules | `(tactic| walk_at "s") => `(tactic| with_reducible first | refine e_seq ?_ | refine e_set ?_ | refine e_b2 ?_ | refine e_b1 ?_ | refine e_mC ?_ | refine e_var rfl ?_ | refine e_cons ?_ | refine e_nil ?_ | refine e_call ?_ | refine e_toB ?_ | refine e_oB ?_ | refine e_if ?_ | refine e_ret ?_ | refine e_and ?_ | refine e_or ?_ | refine e_expr ?_ | refine e_not ?_ | refine ⟨rfl, ?_⟩ | refine e_sNil ?_)
def bodyS : S := sTrunc (sSeq (sSet 9 (mCall 2 m_law_cell (mCons (mVar 0) (mCons (mVar 8) (mNil))))) (sSeq (sAsg (b2 oIx (mVar 6) (b2 (oMod) (mVar 9) (b1 oLen (mCons (mVar 6) (mNil))))) (tgTup (tgCons (tgName 10) (tgCons (tgName 11) tgNil)) 2)) (sSeq (sIf (toB (b2 oEq (b2 (oMod) (b2 (oDiv) (mVar 9) (b1 oLen (mCons (mVar 6) (mNil)))) (mC (.int 3))) (mC (.int 1)))) (sPar 10 11 (mCons (mCall 1 m_law_spoilt (mCons (b2 (oDiv) (b1 oAbs (mCons (mVar 9) (mNil))) (b2 (oMul false) (mC (.int 3)) (b1 oLen (mCons (mVar 6) (mNil))))) (mNil))) (mCons (mC (.str "row")) mNil))) (sNil)) (sSeq (sIf (mOr (toB (b2 oNe (mCall 2 m_law_said (mCons (mVar 1) (mCons (mVar 10) (mNil)))) (b1 (oMk false) (mCons (mC (.bl true)) (mCons (mVar 11) (mNil)))))) (toB (b2 oNe (mMeth "Desk" "names" 1 m_Desk_names (mVar 2) mNil) (b1 (oMk false) (mNil))))) (sRet (mC (.bl false))) (sNil)) (sSeq (sSet 12 (mMeth "Desk" "names" 1 m_Desk_namesC (mVar 1) mNil)) (sSeq (sIf (toB (b2 oNe (mVar 12) (b1 (oMk false) (mCons (mC (.str "a")) (mCons (mC (.str "abcdefgh")) (mCons (mC (.str "b")) (mNil))))))) (sRet (mC (.bl false))) (sNil)) (sSeq (sFor (b1 oSrcKF (mVar 3)) (tgName 4) (sIf (toB (b2 oNe (mMeth "Desk" "say" 2 m_Desk_say (mVar 1) (mCons (b2 (oAdd false) (mC (.str "show ")) (mVar 4)) (mNil))) (b2 oDGetF (mVar 3) (mVar 4)))) (sRet (mC (.bl false))) (sNil))) (sSeq (sIf (mAnd (toB (b2 oNe (mVar 5) (b1 (oMk false) (mNil)))) (toB (b2 oNe (b2 oIx (mVar 5) (b1 oNeg (mC (.int 1)))) (b1 (oMk false) (mCons (mC (.str "a")) (mCons (mC (.str "abcdefgh")) (mCons (mC (.str "b")) (mCons (mC (.str "c")) (mNil))))))))) (sRet (mC (.bl false))) (sNil)) (sSeq (sExpr (mMt "list" oAppend (mVar 12) (mCons (mC (.str "c")) (mNil)))) (sFrz 12 (sExpr (mMt "list" oAppend (mVar 5) (mCons (mVar 12) (mNil))))))))))))))
theorem body_P {ns : List Int} {k : Nat} (hk : k < 64) {rh : DEnv} {G : GH} (hI : InvL ns k rh G) {R : D → GH → Prop} {X : Str → DEnv → GH → Prop} : (bodyS (rh.set 8 (some (.int (k : Nat)))) G).P (InvL ns (k + 1)) R X := by
  obtain ⟨rfl, o8, o9, o10, o11, o12, rfl⟩ := hI
  unfold bodyS
  refine e_trunc ?_
  refine e_seq (e_set (e_call (e_cons (e_var rfl (e_cons (e_var rfl (e_nil ⟨rfl, ?_⟩))))))) 
  refine (cell37 (ns := ns) (k := k) (by omega)).imp ?_ (fun _ _ z => z.elim)
  rintro d G' ⟨rfl, v, rfl⟩
  have hgl : (GX (HX k)).length = 9 := rfl
  obtain ⟨j, hj, hje⟩ : ∃ j : Nat, j < everyL.length ∧ v % 209 = (j : Nat) := ⟨(v % 209).toNat, by rw [every_len]; omega, by omega⟩
  obtain ⟨r, due, her, hsd⟩ := every_Said (List.getElem_mem hj)
  have hl : oLen [.loc 8] (GX (HX k)) = .ok (.int 209) (GX (HX k)) := by
    show Out.ok (D.int ((everyL.length : Nat) : Int)) (GX (HX k)) = _
    rw [every_len]
    rfl
  have hix : oIx (.loc 8) (.int (j : Nat)) (GX (HX k)) = .ok (.tup [r, .str due]) (GX (HX k)) := ix_nat (xs := everyL) rfl (by rw [List.getElem?_eq_getElem hj, her])
  refine e_seq (P_midR (fun rh G' => G' = GX (HX k) ∧ rh = [some (.ro (ns.map D.int)), some (.loc 0), some (.loc 2), some dk37, some (.str "b"), some (.loc 7), some (.loc 8), some .dct0, some (.int (k : Nat)), some (.int v), some r, some (.str due), o12, none]) ?_ ?_)
  · refine e_asg (e_b2 (e_var rfl (e_b2 (e_var rfl (e_b1 (e_cons (e_var rfl (e_nil (e_len hl (e_mod (by decide) ?_)))))))))) 
    rw [hje]
    refine e_ix hix ⟨_, rfl, rfl, rfl⟩
  rintro rh G' ⟨rfl, rfl⟩
  refine e_seq (P_midR (fun rh G' => G' = GX (HX k) ∧ ∃ r due, Said r due ∧ rh = [some (.ro (ns.map D.int)), some (.loc 0), some (.loc 2), some dk37, some (.str "b"), some (.loc 7), some (.loc 8), some .dct0, some (.int (k : Nat)), some (.int v), some r, some (.str due), o12, none]) ?_ ?_)
  · repeat walk_at "s"
    refine e_len hl ?_
    refine e_div (cDiv_of (by decide) (by decide)) ?_
    repeat walk_at "s"
    refine e_mod (by decide) ?_
    repeat walk_at "s"
    refine e_eqI ?_
    repeat walk_at "s"
    refine e_iteB (fun h => ?_) (fun h => ?_)
    · refine e_par ?_
      repeat walk_at "s"
      refine e_abs fun a ha => ?_
      repeat walk_at "s"
      refine e_len hl ?_
      refine e_mul (.inr (by decide)) ?_
      refine e_div (cDiv_of (by decide) (by decide)) ?_
      repeat walk_at "s"
      obtain ⟨m, rfl⟩ : ∃ m : Nat, a = (m : Nat) := ⟨a.toNat, by omega⟩
      rw [show ((m : Nat) : Int) / (3 * 209) = ((m / (3 * 209) : Nat) : Int) by simp]
      refine (spoilt_P (gx_bel k)).imp ?_ (fun _ _ z => z.elim)
      rintro d G' ⟨rfl, row, rfl, hbad⟩
      repeat walk_at "s"
      exact ⟨_, _, rfl, rfl, _, _, bad_Said hbad, rfl⟩
    · refine e_sNil ?_
      exact ⟨rfl, _, _, hsd, rfl⟩
  rintro rh G' ⟨rfl, r, due, ⟨hdo, hsd⟩, rfl⟩
  refine e_seq (P_midR (fun rh G' => G' = GX (HX k) ∧ rh = [some (.ro (ns.map D.int)), some (.loc 0), some (.loc 2), some dk37, some (.str "b"), some (.loc 7), some (.loc 8), some .dct0, some (.int (k : Nat)), some (.int v), some r, some (.str due), o12, none]) ?_ ?_)
  · repeat walk_at "s"
    refine e_ok (hsd k) ?_
    repeat walk_at "s"
    refine e_mk (cm := false) (d := D.lst [.bl true, .str due]) (G' := GX (HX k)) rfl ?_
    refine e_ok (said_eq hdo) ?_
    repeat walk_at "s"
    refine e_iteF (by decide) ?_
    repeat walk_at "s"
    refine e_meth ?_
    repeat walk_at "s"
    refine ⟨2, [("tables", .loc 3)], rfl, rfl, rfl, ?_⟩
    repeat walk_at "s"
    refine e_ok (names_other k) ?_
    repeat walk_at "s"
    refine e_mk (cm := false) (d := D.lst []) (G' := GX (HX k)) rfl ?_
    refine e_ok (b := D.bl false) (G' := GX (HX k)) (by with_unfolding_all rfl) ?_
    repeat walk_at "s"
    refine e_iteF (by decide) ?_
    repeat walk_at "s"
    first | rfl | exact ⟨rfl, rfl⟩
  rintro rh G' ⟨rfl, rfl⟩
  repeat walk_at "s"
  refine e_meth ?_
  repeat walk_at "s"
  refine ⟨0, [("tables", .loc 1)], rfl, rfl, rfl, ?_⟩
  repeat walk_at "s"
  refine e_ok (names_abc k) ?_
  refine e_seq (e_nx (rh := [some (.ro (ns.map D.int)), some (.loc 0), some (.loc 2), some dk37, some (.str "b"), some (.loc 7), some (.loc 8), some .dct0, some (.int (k : Nat)), some (.int v), some r, some (.str due), some (.loc 9), none]) (G := GX (HX k) ++ [.lst [.str "a", .str "abcdefgh", .str "b"]]) (by kernel_rfl) ?_)
  refine e_seq (e_nx (rh := [some (.ro (ns.map D.int)), some (.loc 0), some (.loc 2), some dk37, some (.str "b"), some (.loc 7), some (.loc 8), some .dct0, some (.int (k : Nat)), some (.int v), some r, some (.str due), some (.loc 9), none]) (G := GX (HX k) ++ [.lst [.str "a", .str "abcdefgh", .str "b"]]) (by kernel_rfl) ?_)
  refine e_seq (P_midR (fun rh G' => G' = GX (HX k) ++ [.lst [.str "a", .str "abcdefgh", .str "b"]] ∧ rh = [some (.ro (ns.map D.int)), some (.loc 0), some (.loc 2), some dk37, some (.str "b"), some (.loc 7), some (.loc 8), some .dct0, some (.int (k : Nat)), some (.int v), some r, some (.str due), some (.loc 9), none]) ?_ ?_)
  · repeat walk_at "s"
    refine e_mk (cm := false) (d := D.lst []) (G' := GX (HX k) ++ [.lst [.str "a", .str "abcdefgh", .str "b"]]) rfl ?_
    refine e_ok (ne_emptyC (k := 7) (zs := HX k) rfl) ?_
    repeat walk_at "s"
    cases k with
    | zero =>
      refine e_iteF (by decide) (e_iteF (by decide) ?_)
      repeat walk_at "s"
      first | rfl | exact ⟨rfl, rfl⟩
    | succ n =>
      have hne : HX (n + 1) ≠ [] := by unfold HX; simp
      refine e_iteT (decide_eq_true hne) ?_
      repeat walk_at "s"
      refine e_neg ?_
      refine e_ix (x := T4) ?_ ?_
      · exact ix_last (n := n) rfl
      · repeat walk_at "s"
        refine e_mk (cm := false) (d := T4) (G' := GX (HX (n + 1)) ++ [.lst [.str "a", .str "abcdefgh", .str "b"]]) rfl ?_
        refine e_ok (b := D.bl false) (G' := GX (HX (n + 1)) ++ [.lst [.str "a", .str "abcdefgh", .str "b"]]) (by with_unfolding_all rfl) ?_
        repeat walk_at "s"
        refine e_iteF (by decide) ?_
        repeat walk_at "s"
        first | rfl | exact ⟨rfl, rfl⟩
  rintro rh G' ⟨rfl, rfl⟩
  refine e_seq (e_nx (rh := [some (.ro (ns.map D.int)), some (.loc 0), some (.loc 2), some dk37, some (.str "b"), some (.loc 7), some (.loc 8), some .dct0, some (.int (k : Nat)), some (.int v), some r, some (.str due), some (.loc 9), none]) (G := GX (HX k) ++ [.lst [.str "a", .str "abcdefgh", .str "b", .str "c"]]) (by kernel_rfl) ?_)
  refine e_frz (k := 9) (xs := [.str "a", .str "abcdefgh", .str "b", .str "c"]) rfl rfl ?_
  refine e_nx (rh := [some (.ro (ns.map D.int)), some (.loc 0), some (.loc 2), some dk37, some (.str "b"), some (.loc 7), some (.loc 8), some .dct0, some (.int (k : Nat)), some (.int v), some r, some (.str due), some T4, none]) (G := GX (HX k ++ [T4]) ++ [.dead]) ?_ ?_
  · show (fromO (oAppend (.loc 7) [T4] (GX (HX k) ++ [.dead])) _ fun _ G' => SOut.nx _ G') = _
    have e : oAppend (.loc 7) [T4] (GX (HX k) ++ [.dead]) = .ok .non (GX (HX k ++ [T4]) ++ [.dead]) := by
      unfold oAppend
      dsimp only
      rw [show (GX (HX k) ++ [.dead])[7]? = some (.lst (HX k)) from rfl]
      dsimp only
      rw [if_pos (by unfold HX; rw [List.length_replicate]; show k < 2 ^ 24; omega)]
      rfl
    rw [e]
    rfl
  · rw [hx_succ]
    refine ⟨GX (HX (k + 1)), trunc_ok (gx_bel (k + 1)), rfl, ?_⟩
    refine ⟨(some (D.int (k : Nat))).filter (VL.bel 8 9), (some (D.int v)).filter (VL.bel 8 9), (some r).filter (VL.bel 8 9), (some (D.str due)).filter (VL.bel 8 9), (some T4).filter (VL.bel 8 9), ?_⟩
    unfold truncR rhI
    rw [hgl]
    simp only [List.map_cons, List.map_nil]
    rw [e_keepO (bel_ro)]
    rfl
def rows37 : List (Str × Str) := [("find a 2", "1:0"), ("find a 4", "none"), ("stair a 3", "1 1"), ("walk a 2", "0:1 0:0 1:0"), ("below a 5", "3"), ("nth a 2", "3"), ("looks 2 2", "3"), ("looks 1 1", "1"), ("find abcdefgh 2", "none")]
theorem rows_told (k : Nat) : ∀ q ∈ rows37, Told k q.1 q.2 := by
  intro q hq
  unfold rows37 at hq
  simp only [List.mem_cons, List.not_mem_nil, or_false] at hq
  rcases hq with rfl | rfl | rfl | rfl | rfl | rfl | rfl | rfl | rfl
  · exact tA1 k
  · exact tA2 k
  · exact tA3 k
  · exact tA4 k
  · exact tA5 k
  · exact tA6 k
  · exact tL2 k
  · exact tL1 k
  · exact tH1 k
theorem law_true : ∀ ns : List Int, ns.length ≤ 63 → ∃ G, m_law [.ro (ns.map D.int)] [] = .ok (.bl true) G := by
  intro ns hn
  have key : (m_law [.ro (ns.map D.int)] []).P (fun d _ => d = .bl true) X0 := by
    unfold m_law
    refine e_runF ?_
    unfold g_law
    refine e_trunc ?_
    generalize hq : D.ro (ns.map D.int) = q
    with_reducible refine e_seq (e_nx (rh := [some q, some (.loc 0), none, none, none, none, none, none, none, none, none, none, none, none]) (G := [.ins "Desk" [("tables", .loc 1)], .dk []]) (by kernel_rfl) ?_)
    with_reducible refine e_seq (e_nx (rh := [some q, some (.loc 0), some (.loc 2), none, none, none, none, none, none, none, none, none, none, none]) (G := [.ins "Desk" [("tables", .loc 1)], .dk [], .ins "Desk" [("tables", .loc 3)], .dk []]) (by kernel_rfl) ?_)
    with_reducible refine e_seq (e_nx (rh := [some q, some (.loc 0), some (.loc 2), some dk37, none, none, none, none, none, none, none, none, none, none]) (G := [.ins "Desk" [("tables", .loc 1)], .dk [], .ins "Desk" [("tables", .loc 3)], .dk []]) (by kernel_rfl) ?_)
    with_reducible refine e_seq (e_nx (rh := [some q, some (.loc 0), some (.loc 2), some dk37, some (.str "b"), none, none, none, none, none, none, none, none, none]) (G := [.ins "Desk" [("tables", .loc 1)], .dk kvs37, .ins "Desk" [("tables", .loc 3)], .dk [], .dead, .dead, .dead]) (by kernel_rfl) ?_)
    with_reducible refine e_seq (e_nx (rh := [some q, some (.loc 0), some (.loc 2), some dk37, some (.str "b"), some (.loc 7), none, none, none, none, none, none, none, none]) (G := [.ins "Desk" [("tables", .loc 1)], .dk kvs37, .ins "Desk" [("tables", .loc 3)], .dk [], .dead, .dead, .dead, .lst []]) (by kernel_rfl) ?_)
    with_reducible refine e_seq (e_nx (rh := [some q, some (.loc 0), some (.loc 2), some dk37, some (.str "b"), some (.loc 7), some (.loc 8), none, none, none, none, none, none, none]) (G := [.ins "Desk" [("tables", .loc 1)], .dk kvs37, .ins "Desk" [("tables", .loc 3)], .dk [], .dead, .dead, .dead, .lst [], .lst (noneL.map dRow ++ othersL)]) (by kernel_rfl) ?_)
    with_reducible refine e_seq (e_nx (rh := [some q, some (.loc 0), some (.loc 2), some dk37, some (.str "b"), some (.loc 7), some (.loc 8), some .dct0, none, none, none, none, none, none]) (G := GX (HX 0)) (by kernel_rfl) ?_)
    subst hq
    have hlen : oLen [.ro (ns.map D.int)] (GX (HX 0)) = .ok (.int ((ns.length : Nat) : Int)) (GX (HX 0)) := by
      show Out.ok (D.int (((ns.map D.int).length : Nat) : Int)) _ = _
      rw [List.length_map]
    with_reducible refine e_seq (P_midR (fun rh G' => ∃ k, k < 64 ∧ InvL ns k rh G') ?_ ?_)
    · refine e_for ?_
      repeat walk_at "s"
      refine e_len hlen ?_
      repeat walk_at "s"
      refine e_min2 ?_
      repeat walk_at "s"
      refine e_max2 ?_
      repeat walk_at "s"
      obtain ⟨m, hm, he⟩ : ∃ m : Nat, m < 64 ∧ (if (if 63 < ((ns.length : Nat) : Int) then 63 else ((ns.length : Nat) : Int)) > 24 then if 63 < ((ns.length : Nat) : Int) then 63 else ((ns.length : Nat) : Int) else 24) = (m : Nat) := by
        rw [if_neg (show ¬ (63 : Int) < ((ns.length : Nat) : Int) by omega)]
        by_cases h : ns.length > 24
        · exact ⟨ns.length, by omega, if_pos (by omega)⟩
        · exact ⟨24, by omega, if_neg (by omega)⟩
      rw [he]
      with_reducible refine e_rng1 (by omega) ?_
      rw [Int.toNat_natCast]
      with_reducible refine rng_P (InvL ns) ?_ ?_ ?_
      · intro i rh G' hi hI
        refine ⟨rh.set 8 (some (.int (i : Nat))), by rw [Int.zero_add]; rfl, ?_⟩
        exact body_P (by omega) hI
      · exact ⟨rfl, none, none, none, none, none, rfl⟩
      · intro rh G' hI
        exact ⟨m, hm, hI⟩
    rintro rh G' ⟨k, hk, rfl, o8, o9, o10, o11, o12, rfl⟩
    unfold rhI
    with_reducible refine e_seq (e_nx (rh := [some (.ro (ns.map D.int)), some (.loc 0), some (.loc 2), some dk37, some (.str "b"), some (.loc 7), some (.loc 8), some .dct0, o8, o9, o10, o11, o12, some (.lst (((rows37.take 5).map Prod.fst).map D.str))]) (G := GX (HX k)) (by kernel_rfl) ?_)
    with_reducible refine e_seq (e_nx (rh := [some (.ro (ns.map D.int)), some (.loc 0), some (.loc 2), some dk37, some (.str "b"), some (.loc 7), some (.loc 8), some .dct0, o8, o9, o10, o11, o12, some (.lst ((rows37.map Prod.fst).map D.str))]) (G := GX (HX k)) (by kernel_rfl) ?_)
    have hrl : lstOf (GX (HX k)) (.lst ((rows37.map Prod.fst).map D.str)) = some (rows37.map fun q => D.str q.1) := by
      show some ((rows37.map Prod.fst).map D.str) = _
      rw [List.map_map]
      rfl
    revert hrl
    generalize D.lst ((rows37.map Prod.fst).map D.str) = rl
    intro hrl
    with_reducible refine e_seq (e_set ?_)
    refine lc_asL (d := rl) rows37 (fun q => .str q.1) (fun _ => true) (fun q => .str q.2) rfl hrl (by decide) (fun q hq => ⟨_, rfl, rfl, fun _ => Out.P.eq ?_⟩) ?_
    · repeat walk_at "s"
      refine e_meth ?_
      repeat walk_at "s"
      refine ⟨0, [("tables", .loc 1)], rfl, rfl, rfl, ?_⟩
      repeat walk_at "s"
      refine e_ok (rows_told k q hq) ?_
      first | rfl | exact ⟨rfl, rfl⟩
    rw [filtT]
    refine e_ok (b := .loc 9) (G' := GX (HX k) ++ [.lst (rows37.map fun q => .str q.2)]) rfl ?_
    with_reducible refine e_ret ?_
    refine e_ok (b := .bl true) (G' := GX (HX k) ++ [.lst (rows37.map fun q => .str q.2)]) (by kernel_rfl) ?_
    exact ⟨[], rfl, rfl, rfl⟩
  obtain ⟨b, G, e, rfl⟩ := key.ok
  exact ⟨G, e⟩

end Lk37
namespace Lk37
theorem facts {P : Program} {w : World} {K : Frag} {h : Heap} {mg : MG} {f : Addr} (X : K.In h) (G : h.Ns mainGlobals mg) (hfa : mg ("law" : Str) = some (.ref f)) (c : VL.SaysF fa fn es ys ts w K) :
    ∃ fd : FuncData, (∀ (s : Shared) (v : Value), BindsTo s fd ⟨[v], []⟩ [("script", v)]) ∧ ∀ base : Heap, K.In base → base.Ns mainGlobals mg → FnOk P w K mg base (L2.CX P w) 46 f fd ["script"] (spD K mg 1 m_law) := by
  have T : Txt w K mg := VL.TxtF.of X G c fun c => ⟨h, X, G, c⟩
  obtain ⟨fd, Fn⟩ := T.t.def_ 46 (d := d_law) rfl
  have e := hfa.symm.trans (T.t.glo 101)
  cases e
  have b := FunD.bindsA (ps := ["script"]) Fn fun _ _ _ _ _ _ us hl => match us, hl with | [_], _ => rfl
  exact ⟨fd, fun s v => b s [v] rfl, fun base _ _ => fn_law T Fn⟩
end Lk37
open PySem PySem.W PySem.Calls PyProof.Rows
set_option maxRecDepth 100000 in
set_option maxHeartbeats 0 in
theorem PySem.Challenge.cw_stairseek_k37_rows_that_are_none_holds : PySem.Challenge.rw_stairseek_k37_rows_that_are_none.Holds := by
  w_on; o_law
  refine HandSHeadRun.head_any (r := OpenLaw.row PySem.Challenge.rw_stairseek_k37_rows_that_are_none) (q := view (OpenLaw.row PySem.Challenge.rw_stairseek_k37_rows_that_are_none).prog [69]) (H := Lk37.hk) (ob := Lk37.ob) (M := 30000) (loose := Lk37.loose) (d := HandSHeadRun.topDef (OpenLaw.row PySem.Challenge.rw_stairseek_k37_rows_that_are_none).prog 69) (kwd := []) Lk37.ob_eq
    (by kernel_rfl) (fun s => by kernel_rfl) Lk37.run (by kernel_rfl) (by kernel_rfl) (by kernel_rfl) (by rfl) (by first | assumption | decide +kernel) (by decide +kernel) ⟨rfl, rfl, rfl, rfl, rfl, by decide +kernel⟩ ?hw ?hc
  case hw => w_witness2
  case hc =>
    refine VL.walk_law (l := PySem.Challenge.rw_stairseek_k37_rows_that_are_none) (k := 46) (by rfl) (by kernel_rfl) ⟨rfl, by decide, by decide⟩ Lk37.law_true ?F
    intro w mg fa h Y G hmg0
    obtain ⟨K, KX, c⟩ := Y
    have hmg : mg ("law" : PySem.Str) = some (.ref fa) := by
      have e : (HandSHeadRun.topDef (OpenLaw.row PySem.Challenge.rw_stairseek_k37_rows_that_are_none).prog 69).name = ("law" : PySem.Str) := by kernel_rfl
      rw [← e]
      exact hmg0
    obtain ⟨fd, hb, hF⟩ := Lk37.facts (P := (PySem.Challenge.rw_stairseek_k37_rows_that_are_none).prog) (w := w) KX G hmg c
    exact ⟨K, fd, KX, hb, hF⟩

