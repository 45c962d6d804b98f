import PyProof.Rows.All
import PySem.Challenge.RW_hushsheets_k77_written_and_read
import HandS.ForMost
import HandS.Exc
import HandS.TryOnly
import HandS.ExcOwn
import HandS.WordsExc
import HandS.Wide
import HandS.TupAny
import HandS.TupMul
import HandS.IsInst
import HandS.SortInts
import HandS.Nested
import HandS.ExcInit
import KE.KSuper
import KE.KExcSuper
import HandS.ClsMeth
import HandS.FStr
import HandS.ExcField
import HandS.ExcIs
import HandS.Defaults
import PyProof.StrOps2
import HandS.Ends
import KE.RegKSuper
set_option Elab.async false
set_option linter.all false
set_option maxRecDepth 100000
set_option maxHeartbeats 2000000
namespace G3
open PySem PySem.Spec PyProof.Rows L2
inductive D where
  | non | bl (b : Bool) | int (i : Int) | str (x : Str) | ref (a : Addr)
  | tup (l : List D) | lst (l : List D) | rol (l : List D) | dct (ks : List Key) (l : List D) | obj (C : Addr) (ns : List Str) (l : List D)
inductive DO where
  | lst (l : List D) | dK (ks : List Key) (l : List D) | ins (C dx : Addr) (ns : List Str) (l : List D)
abbrev DH := Addr → Option DO
def dupd (n : DH) (a : Addr) (o : DO) : DH := fun b => if b = a then some o else n b
def ddel (n : DH) (a : Addr) : DH := fun b => if b = a then none else n b
theorem dupd_same {n : DH} {a : Addr} {o : DO} : dupd n a o a = some o := by unfold dupd; rw [if_pos rfl]
theorem dupd_ne {n : DH} {a b : Addr} {o : DO} (h : b ≠ a) : dupd n a o b = n b := by unfold dupd; rw [if_neg h]
theorem ddel_same {n : DH} {a : Addr} : ddel n a a = none := by unfold ddel; rw [if_pos rfl]
theorem ddel_ne {n : DH} {a b : Addr} (h : b ≠ a) : ddel n a b = n b := by unfold ddel; rw [if_neg h]
theorem dupd_dupd {n : DH} {a : Addr} {o u : DO} : dupd (dupd n a o) a u = dupd n a u := by
  funext b; unfold dupd; split <;> rfl
theorem ddel_dupd {n : DH} {a : Addr} {o : DO} (h : n a = none) : ddel (dupd n a o) a = n := by
  funext b; unfold ddel dupd
  by_cases e : b = a
  · rw [if_pos e, e, h]
  · rw [if_neg e, if_neg e]
section
variable (K : PySem.W.Frag) (H : Hp) (n : DH)
def FT (a : Addr) (vs : List V) : Prop := (n a = none ∧ H a = some (.tup vs)) ∨
    ∃ (o : Obj) (its : Array Value) (m : Nat), K.lookup a = some o ∧ o.cls = .type "tuple" ∧ o.data = .seq its m ∧ its.size ≤ sizeLine ∧ Vals vs its.toList
def FL (a : Addr) (vs : List V) : Prop := n a = none ∧ H a = some (.lst vs)
def FR (a : Addr) (vs : List V) : Prop := (n a = none ∧ Rd H a (.lst vs)) ∨
    ∃ (o : Obj) (its : Array Value) (m : Nat), K.lookup a = some o ∧ o.cls = .type "list" ∧ o.dict = none ∧ o.data = .seq its m ∧ its.size ≤ sizeLine ∧ Vals vs its.toList
mutual
def Rep : D → V → Prop
  | .non, v => v = .non
  | .bl b, v => v = .bl b
  | .int i, v => v = .int i
  | .str x, v => v = .str x
  | .ref a, v => v = .ref a
  | .tup l, v => ∃ a vs, v = .ref a ∧ FT K H n a vs ∧ RepL l vs
  | .lst l, v => ∃ a vs, v = .ref a ∧ FL H n a vs ∧ RepL l vs
  | .rol l, v => ∃ a vs, v = .ref a ∧ FR K H n a vs ∧ RepL l vs
  | .dct ks l, v => ∃ a vs, v = .ref a ∧ n a = none ∧ H a = some (.dK (ks.zip vs)) ∧ ks.length = vs.length ∧ RepL l vs
  | .obj C ns l, v => ∃ a dx vs, v = .ref a ∧ n a = none ∧ H a = some (.ins C dx (ns.zip vs)) ∧ ns.length = vs.length ∧ RepL l vs
def RepL : List D → List V → Prop
  | [], vs => vs = []
  | d :: ds, vs => ∃ v r, vs = v :: r ∧ Rep d v ∧ RepL ds r
end
end
def RepO (K : PySem.W.Frag) (H : Hp) (n : DH) (a : Addr) : DO → Prop
  | .lst l => ∃ vs, H a = some (.lst vs) ∧ RepL K H n l vs
  | .dK ks l => ∃ vs, H a = some (.dK (ks.zip vs)) ∧ ks.length = vs.length ∧ RepL K H n l vs
  | .ins C dx ns l => ∃ vs, H a = some (.ins C dx (ns.zip vs)) ∧ ns.length = vs.length ∧ RepL K H n l vs
def Ext (H : Hp) (n : DH) (H' : Hp) (n' : DH) : Prop := ∀ a o, n a = none → H a = some o → H' a = some o ∧ n' a = none
theorem Ext.refl {H : Hp} {n : DH} : Ext H n H n := fun _ _ h h' => ⟨h', h⟩
theorem Ext.trans {H1 H2 H3 : Hp} {n1 n2 n3 : DH} (a : Ext H1 n1 H2 n2) (b : Ext H2 n2 H3 n3) : Ext H1 n1 H3 n3 := fun x o h h' =>
  let ⟨e, m⟩ := a x o h h'
  b x o m e
section
variable {K : PySem.W.Frag} {H H' : Hp} {n n' : DH}
theorem FT.mono {a : Addr} {vs : List V} (h : FT K H n a vs) (e : Ext H n H' n') : FT K H' n' a vs := by
  rcases h with ⟨h1, h2⟩ | h
  · obtain ⟨a1, a2⟩ := e _ _ h1 h2
    exact .inl ⟨a2, a1⟩
  · exact .inr h
theorem FL.mono {a : Addr} {vs : List V} (h : FL H n a vs) (e : Ext H n H' n') : FL H' n' a vs := by
  obtain ⟨h1, h2⟩ := h
  obtain ⟨a1, a2⟩ := e _ _ h1 h2
  exact ⟨a2, a1⟩
theorem FR.mono {a : Addr} {vs : List V} (h : FR K H n a vs) (e : Ext H n H' n') : FR K H' n' a vs := by
  rcases h with ⟨h1, h2 | ⟨o, h2⟩⟩ | h
  · obtain ⟨a1, a2⟩ := e _ _ h1 h2
    exact .inl ⟨a2, .inl a1⟩
  · obtain ⟨a1, a2⟩ := e _ _ h1 h2
    exact .inl ⟨a2, .inr ⟨o, a1⟩⟩
  · exact .inr h
theorem FT.sq {a : Addr} {vs : List V} (h : FT K H n a vs) : SqT K H a vs := by
  rcases h with ⟨_, h⟩ | h
  · exact .inl (.inl h)
  · exact .inr h
theorem FR.sq {a : Addr} {vs : List V} (h : FR K H n a vs) : SqL K H a vs := by
  rcases h with ⟨_, h⟩ | h
  · exact .inl h
  · exact .inr h
theorem FL.sq {a : Addr} {vs : List V} (h : FL H n a vs) : SqL K H a vs := .inl (.inl h.2)
mutual
theorem Rep.mono (e : Ext H n H' n') : ∀ (d : D) (v : V), Rep K H n d v → Rep K H' n' d v
  | .non, _, h => h
  | .bl _, _, h => h
  | .int _, _, h => h
  | .str _, _, h => h
  | .ref _, _, h => h
  | .tup l, _, h => by
    obtain ⟨a, vs, rfl, f, r⟩ := h
    exact ⟨a, vs, rfl, f.mono e, RepL.mono e l vs r⟩
  | .lst l, _, h => by
    obtain ⟨a, vs, rfl, f, r⟩ := h
    exact ⟨a, vs, rfl, f.mono e, RepL.mono e l vs r⟩
  | .rol l, _, h => by
    obtain ⟨a, vs, rfl, f, r⟩ := h
    exact ⟨a, vs, rfl, f.mono e, RepL.mono e l vs r⟩
  | .dct ks l, _, h => by
    obtain ⟨a, vs, rfl, f, g, z, r⟩ := h
    obtain ⟨g', f'⟩ := e _ _ f g
    exact ⟨a, vs, rfl, f', g', z, RepL.mono e l vs r⟩
  | .obj C ns l, _, h => by
    obtain ⟨a, dx, vs, rfl, f, g, z, r⟩ := h
    obtain ⟨g', f'⟩ := e _ _ f g
    exact ⟨a, dx, vs, rfl, f', g', z, RepL.mono e l vs r⟩
theorem RepL.mono (e : Ext H n H' n') : ∀ (l : List D) (vs : List V), RepL K H n l vs → RepL K H' n' l vs
  | [], _, h => h
  | d :: ds, _, h => by
    obtain ⟨v, r, rfl, a, b⟩ := h
    exact ⟨v, r, rfl, Rep.mono e d v a, RepL.mono e ds r b⟩
end
theorem Rep.i {i : Int} : Rep K H n (.int i) (.int i) := rfl
theorem Rep.b {i : Bool} : Rep K H n (.bl i) (.bl i) := rfl
theorem Rep.s {i : Str} : Rep K H n (.str i) (.str i) := rfl
theorem Rep.no : Rep K H n .non .non := rfl
theorem Rep.rf {a : Addr} : Rep K H n (.ref a) (.ref a) := rfl
theorem Rep.t {a : Addr} {l : List D} {vs : List V} (f : FT K H n a vs) (q : RepL K H n l vs) : Rep K H n (.tup l) (.ref a) := ⟨a, vs, rfl, f, q⟩
theorem Rep.l {a : Addr} {l : List D} {vs : List V} (f : FL H n a vs) (q : RepL K H n l vs) : Rep K H n (.lst l) (.ref a) := ⟨a, vs, rfl, f, q⟩
theorem RepL.length : ∀ {l : List D} {vs : List V}, RepL K H n l vs → l.length = vs.length
  | [], _, h => by
    have h : _ = [] := h
    subst h
    rfl
  | d :: ds, _, h => by
    obtain ⟨v, r, rfl, a, b⟩ := h
    rw [List.length_cons, List.length_cons, RepL.length b]
theorem RepL.get : ∀ {l : List D} {vs : List V} {i : Nat} {d : D}, RepL K H n l vs → l[i]? = some d → ∃ v, vs[i]? = some v ∧ Rep K H n d v
  | [], _, _, _, _, h => by simp at h
  | d :: ds, _, 0, _, h, e => by
    obtain ⟨v, r, rfl, a, b⟩ := h
    simp at e
    subst e
    exact ⟨v, rfl, a⟩
  | d :: ds, _, i + 1, x, h, e => by
    obtain ⟨v, r, rfl, a, b⟩ := h
    obtain ⟨w, h1, h2⟩ := RepL.get (i := i) (d := x) b (by simpa using e)
    exact ⟨w, by simpa using h1, h2⟩
theorem RepL.get' : ∀ {l : List D} {vs : List V} {i : Nat} {v : V}, RepL K H n l vs → vs[i]? = some v → ∃ d, l[i]? = some d ∧ Rep K H n d v
  | [], _, _, _, h, e => by
    have h : _ = [] := h
    rw [h] at e
    simp at e
  | d :: ds, _, 0, _, h, e => by
    obtain ⟨v, r, rfl, a, b⟩ := h
    simp at e
    subst e
    exact ⟨d, rfl, a⟩
  | d :: ds, _, i + 1, x, h, e => by
    obtain ⟨v, r, rfl, a, b⟩ := h
    obtain ⟨w, h1, h2⟩ := RepL.get' (i := i) (v := x) b (by simpa using e)
    exact ⟨w, by simpa using h1, h2⟩
theorem RepL.append : ∀ {l m : List D} {vs ws : List V}, RepL K H n l vs → RepL K H n m ws → RepL K H n (l ++ m) (vs ++ ws)
  | [], _, _, _, h, q => by
    have h : _ = [] := h
    rw [h]
    exact q
  | d :: ds, _, _, _, h, q => by
    obtain ⟨v, r, rfl, a, b⟩ := h
    exact ⟨v, _, rfl, a, RepL.append b q⟩
theorem RepL.take : ∀ {l : List D} {vs : List V} (k : Nat), RepL K H n l vs → RepL K H n (l.take k) (vs.take k)
  | _, _, 0, _ => by rw [List.take_zero, List.take_zero]; exact (rfl : ([] : List V) = [])
  | [], _, k + 1, h => by
    have h : _ = [] := h
    rw [h]
    exact (rfl : ([] : List V) = [])
  | d :: ds, _, k + 1, h => by
    obtain ⟨v, r, rfl, a, b⟩ := h
    exact ⟨v, _, rfl, a, RepL.take k b⟩
theorem RepL.drop : ∀ {l : List D} {vs : List V} (k : Nat), RepL K H n l vs → RepL K H n (l.drop k) (vs.drop k)
  | _, _, 0, h => h
  | [], _, k + 1, h => by
    have h : _ = [] := h
    rw [h]
    exact (rfl : ([] : List V) = [])
  | d :: ds, _, k + 1, h => by
    obtain ⟨v, r, rfl, a, b⟩ := h
    exact RepL.drop k b
theorem RepL.set : ∀ {l : List D} {vs : List V} {d : D} {v : V} (k : Nat), RepL K H n l vs → Rep K H n d v → RepL K H n (l.set k d) (vs.set k v)
  | [], _, _, _, k, h, _ => by
    have h : _ = [] := h
    rw [h]
    exact (rfl : ([] : List V) = [])
  | d :: ds, _, _, _, 0, h, q => by
    obtain ⟨v, r, rfl, a, b⟩ := h
    exact ⟨_, _, rfl, q, b⟩
  | d :: ds, _, _, _, k + 1, h, q => by
    obtain ⟨v, r, rfl, a, b⟩ := h
    exact ⟨_, _, rfl, a, RepL.set k b q⟩
theorem RepL.erase : ∀ {l : List D} {vs : List V} (k : Nat), RepL K H n l vs → RepL K H n (l.eraseIdx k) (vs.eraseIdx k)
  | [], _, k, h => by
    have h : _ = [] := h
    rw [h]
    exact (rfl : ([] : List V) = [])
  | d :: ds, _, 0, h => by
    obtain ⟨v, r, rfl, a, b⟩ := h
    exact b
  | d :: ds, _, k + 1, h => by
    obtain ⟨v, r, rfl, a, b⟩ := h
    exact ⟨_, _, rfl, a, RepL.erase k b⟩
theorem RepL.one {d : D} {v : V} (h : Rep K H n d v) : RepL K H n [d] [v] := ⟨v, [], rfl, h, rfl⟩
theorem RepL.nil : RepL K H n [] [] := (rfl : ([] : List V) = [])
theorem RepL.cons {d : D} {v : V} {l : List D} {vs : List V} (h : Rep K H n d v) (q : RepL K H n l vs) : RepL K H n (d :: l) (v :: vs) := ⟨v, vs, rfl, h, q⟩
theorem RepL.reverse : ∀ {l : List D} {vs : List V}, RepL K H n l vs → RepL K H n l.reverse vs.reverse
  | [], _, h => by
    have h : _ = [] := h
    rw [h]
    exact (rfl : ([] : List V) = [])
  | d :: ds, _, h => by
    obtain ⟨v, r, rfl, a, b⟩ := h
    rw [List.reverse_cons, List.reverse_cons]
    exact (RepL.reverse b).append (RepL.one a)
theorem RepL.ints : ∀ {is : List Int} {vs : List V}, RepL K H n (is.map D.int) vs → vs = is.map V.int
  | [], _, h => h
  | i :: is, _, h => by
    obtain ⟨v, r, rfl, a, b⟩ := h
    have a : v = .int i := a
    rw [a, RepL.ints b]
    rfl
theorem RepL.of_ints : ∀ {is : List Int}, RepL K H n (is.map D.int) (is.map V.int)
  | [] => rfl
  | i :: is => ⟨_, _, rfl, rfl, RepL.of_ints⟩
theorem RepL.bls : ∀ {is : List Bool} {vs : List V}, RepL K H n (is.map D.bl) vs → vs = is.map V.bl
  | [], _, h => h
  | i :: is, _, h => by
    obtain ⟨v, r, rfl, a, b⟩ := h
    have a : v = .bl i := a
    rw [a, RepL.bls b]
    rfl
theorem RepL.strs : ∀ {is : List Str} {vs : List V}, RepL K H n (is.map D.str) vs → vs = is.map V.str
  | [], _, h => h
  | i :: is, _, h => by
    obtain ⟨v, r, rfl, a, b⟩ := h
    have a : v = .str i := a
    rw [a, RepL.strs b]
    rfl
theorem RepO.keep {a : Addr} {o : DO} (h : RepO K H n a o) (e : Ext H n H' n') (g : ∀ x, H a = some x → H' a = some x) : RepO K H' n' a o := by
  cases o with
  | lst l => obtain ⟨vs, p, r⟩ := h; exact ⟨vs, g _ p, RepL.mono e _ _ r⟩
  | dK ks l => obtain ⟨vs, p, z, r⟩ := h; exact ⟨vs, g _ p, z, RepL.mono e _ _ r⟩
  | ins C dx ns l => obtain ⟨vs, p, z, r⟩ := h; exact ⟨vs, g _ p, z, RepL.mono e _ _ r⟩
theorem RepO.there {a : Addr} {o : DO} (h : RepO K H n a o) : ∃ x, H a = some x := by
  cases o with
  | lst l => obtain ⟨vs, p, r⟩ := h; exact ⟨_, p⟩
  | dK ks l => obtain ⟨vs, p, z, r⟩ := h; exact ⟨_, p⟩
  | ins C dx ns l => obtain ⟨vs, p, z, r⟩ := h; exact ⟨_, p⟩
end
def HSat (K : PySem.W.Frag) (n : DH) (H : Hp) : Prop := ∀ a o, n a = some o → RepO K H n a o
abbrev Rho := List (Option D)
structure Sat (K : PySem.W.Frag) (Z : Hp × DH) (r : Rho) (n : DH) (s : L2.St) (H : Hp) : Prop where
  z : Ext Z.1 Z.2 H n
  len : r.length = s.length
  env : ∀ (i : Nat) (d : D), r[i]? = some (some d) → ∃ v, s[i]? = some (some v) ∧ Rep K H n d v
  own : HSat K n H
section
variable {K : PySem.W.Frag} {Z : Hp × DH} {H H' : Hp} {n n' : DH} {r : Rho} {s : L2.St}
theorem HSat.free {a : Addr} (h : HSat K n H) (e : H a = none) : n a = none := by
  cases q : n a with
  | none => rfl
  | some o =>
    obtain ⟨x, hx⟩ := (h a o q).there
    rw [e] at hx
    cases hx
theorem Sat.ext (S : Sat K Z r n s H) (e : Ext H n H' n') (o : HSat K n' H') : Sat K Z r n' s H' :=
  ⟨S.z.trans e, S.len, fun i d h => let ⟨v, h1, h2⟩ := S.env i d h; ⟨v, h1, Rep.mono e d v h2⟩, o⟩
theorem Sat.set (S : Sat K Z r n s H) {d : D} {v : V} (i : Nat) (h : Rep K H n d v) : Sat K Z (r.set i (some d)) n (s.set i (some v)) H := by
  refine ⟨S.z, by rw [List.length_set, List.length_set, S.len], fun j x e => ?_, S.own⟩
  by_cases hj : i = j
  · subst hj
    by_cases hl : i < r.length
    · rw [List.getElem?_set_self hl] at e
      cases e
      exact ⟨v, List.getElem?_set_self (by rw [← S.len]; exact hl), h⟩
    · rw [List.getElem?_eq_none_iff.mpr (by rw [List.length_set]; omega)] at e
      cases e
  · rw [List.getElem?_set_ne hj] at e ⊢
    exact S.env j x e
theorem Sat.unset (S : Sat K Z r n s H) (i : Nat) (x : Option V) : Sat K Z (r.set i none) n (s.set i x) H := by
  refine ⟨S.z, by rw [List.length_set, List.length_set, S.len], fun j d e => ?_, S.own⟩
  by_cases hj : i = j
  · subst hj
    by_cases hl : i < r.length
    · rw [List.getElem?_set_self hl] at e
      cases e
    · rw [List.getElem?_eq_none_iff.mpr (by rw [List.length_set]; omega)] at e
      cases e
  · rw [List.getElem?_set_ne hj] at e ⊢
    exact S.env j d e
theorem Ext.new {p : Addr} {o : HO} (h : H p = none) (hn : n p = none) : Ext H n (upd H p o) n := fun a u m e =>
  ⟨by rw [upd_ne (ne_of_none e h)]; exact e, m⟩
theorem Ext.newO {p : Addr} {o : HO} {u : DO} (h : H p = none) : Ext H n (upd H p o) (dupd n p u) := fun a x m e =>
  ⟨by rw [upd_ne (ne_of_none e h)]; exact e, by rw [dupd_ne (ne_of_none e h)]; exact m⟩
theorem Ext.wr {p : Addr} {o : HO} {u w : DO} (h : n p = some w) : Ext H n (upd H p o) (dupd n p u) := fun a x m e => by
  have ne : a ≠ p := fun z => by rw [z, h] at m; cases m
  exact ⟨by rw [upd_ne ne]; exact e, by rw [dupd_ne ne]; exact m⟩
theorem Ext.del {p : Addr} : Ext H n H (ddel n p) := fun a x m e => by
  refine ⟨e, ?_⟩
  unfold ddel
  split
  · rfl
  · exact m
theorem HSat.new {p : Addr} {o : HO} (S : HSat K n H) (h : H p = none) : HSat K n (upd H p o) := fun a u e =>
  (S a u e).keep (Ext.new h (S.free h)) fun x hx => by rw [upd_ne (ne_of_none hx h)]; exact hx
theorem HSat.newO {p : Addr} {o : HO} {u : DO} (S : HSat K n H) (h : H p = none) (q : RepO K (upd H p o) (dupd n p u) p u) : HSat K (dupd n p u) (upd H p o) := fun a x e => by
  by_cases ha : a = p
  · subst ha
    rw [dupd_same] at e
    cases e
    exact q
  · rw [dupd_ne ha] at e
    exact (S a x e).keep (Ext.newO h) fun y hy => by rw [upd_ne ha]; exact hy
theorem HSat.wr {p : Addr} {o : HO} {u w : DO} (S : HSat K n H) (h : n p = some w) (q : RepO K (upd H p o) (dupd n p u) p u) : HSat K (dupd n p u) (upd H p o) := fun a x e => by
  by_cases ha : a = p
  · subst ha
    rw [dupd_same] at e
    cases e
    exact q
  · rw [dupd_ne ha] at e
    exact (S a x e).keep (Ext.wr h) fun y hy => by rw [upd_ne ha]; exact hy
theorem HSat.del {p : Addr} (S : HSat K n H) : HSat K (ddel n p) H := fun a x e => by
  by_cases ha : a = p
  · subst ha
    rw [ddel_same] at e
    cases e
  · rw [ddel_ne ha] at e
    exact (S a x e).keep Ext.del fun y hy => hy
def Sub (n n' : DH) : Prop := ∀ a o, n a = some o → n' a = some o
theorem Sub.refl {n : DH} : Sub n n := fun _ _ h => h
theorem Sub.up {n : DH} {a : Addr} {o : DO} (h : n a = none) : Sub n (dupd n a o) := fun b x e => by
  rw [dupd_ne (fun z => by rw [z, h] at e; cases e)]
  exact e
theorem Sub.trans {n1 n2 n3 : DH} (a : Sub n1 n2) (b : Sub n2 n3) : Sub n1 n3 := fun x o h => b x o (a x o h)
theorem Sub.ext {n n' : DH} (h : Sub n n') : Ext H n' H n := fun a o m e => ⟨e, by
  cases q : n a with
  | none => rfl
  | some x => rw [h a x q] at m; cases m⟩
theorem Sat.wr {p : Addr} {o : HO} {u w : DO} (S : Sat K Z r n s H) (h : n p = some w) (q : RepO K (upd H p o) (dupd n p u) p u) : Sat K Z r (dupd n p u) s (upd H p o) := S.ext (Ext.wr h) (S.own.wr h q)
theorem Sat.newO {p : Addr} {o : HO} {u : DO} (S : Sat K Z r n s H) (h : H p = none) (q : RepO K (upd H p o) (dupd n p u) p u) : Sat K Z r (dupd n p u) s (upd H p o) := S.ext (Ext.newO h) (S.own.newO h q)
theorem Sat.new {p : Addr} {o : HO} (S : Sat K Z r n s H) (h : H p = none) : Sat K Z r n s (upd H p o) := S.ext (Ext.new h (S.own.free h)) (S.own.new h)
theorem Sat.del {p : Addr} (S : Sat K Z r n s H) : Sat K Z r (ddel n p) s H := S.ext Ext.del S.own.del
theorem HSat.sub (S : HSat K n' H) (h : Sub n n') : HSat K n H := fun a o e => (S a o (h a o e)).keep h.ext fun _ q => q
theorem Sat.sub (S : Sat K Z r n' s H) (h : Sub n n') : Sat K Z r n s H := S.ext h.ext (S.own.sub h)
theorem Sat.weak {r' : Rho} (S : Sat K Z r n s H) (hl : r'.length = r.length) (h : ∀ (i : Nat) (d : D), r'[i]? = some (some d) → r[i]? = some (some d)) : Sat K Z r' n s H :=
  ⟨S.z, hl.trans S.len, fun i d e => S.env i d (h i d e), S.own⟩
end
def tW (X : Cx) (e : Expr) : TE := fun s H R => ∀ (pins : List (Addr × Obj)) (st : Shared), Inv X pins s H st → wpAny (model X.prog X.w) X.A (eval e X.env) (EP X pins s R) X.xe st
def tWT (X : Cx) (e : Expr) : TT := fun s H R => ∀ (pins : List (Addr × Obj)) (st : Shared), Inv X pins s H st → wpAny (model X.prog X.w) X.A (isTrue e X.env (eval e X.env)) (TP X pins s R) X.xe st
def tWA (X : Cx) (es : List Expr) : TA := fun s H R => ∀ (pos : Pos) (pins : List (Addr × Obj)) (st : Shared), Inv X pins s H st → wpAny (model X.prog X.w) X.A (spliced (backTo pos (starEach es X.env))) (AP X pins s R) X.xe st
def tWS (X : Cx) (c : Stmt) : TS := fun E s H => ∀ (pins : List (Addr × Obj)) (st : Shared), Inv X pins s H st → wpAny (model X.prog X.w) X.A (exec c X.env) (SP X pins E) X.xe st
def tWSs (X : Cx) (c : List Stmt) : TS := fun E s H => ∀ (pins : List (Addr × Obj)) (st : Shared), Inv X pins s H st → wpAny (model X.prog X.w) X.A (execs c X.env) (SP X pins E) X.xe st
section
variable {X : Cx}
theorem pe_W {e : Expr} : PE X e (tW X e) := ⟨fun pins st _ _ _ I h => h pins st I⟩
theorem pt_W {e : Expr} : PT X e (tWT X e) := ⟨fun pins st _ _ _ I h => h pins st I⟩
theorem pa_W {es : List Expr} : PA X es (tWA X es) := ⟨fun pos pins st _ _ _ I h => h pos pins st I⟩
theorem ps_W {c : Stmt} : PS X c (tWS X c) := ⟨fun pins st _ _ _ I h => h pins st I⟩
theorem pss_W {c : List Stmt} : PSs X c (tWSs X c) := ⟨fun pins st _ _ _ I h => h pins st I⟩
end
def PoV (K : PySem.W.Frag) (Z : Hp × DH) (H : Hp) (n : DH) (r : Rho) (s : L2.St) (Q : D → DH → Prop) : VK := fun v H' => ∃ d n', Ext H n H' n' ∧ Sat K Z r n' s H' ∧ Rep K H' n' d v ∧ Q d n'
def PoT (K : PySem.W.Frag) (Z : Hp × DH) (H : Hp) (n : DH) (r : Rho) (s : L2.St) (Q : Bool → DH → Prop) : Bool → Hp → Prop := fun b H' => ∃ n', Ext H n H' n' ∧ Sat K Z r n' s H' ∧ Q b n'
def PoA (K : PySem.W.Frag) (Z : Hp × DH) (H : Hp) (n : DH) (r : Rho) (s : L2.St) (Q : List D → DH → Prop) : List V → Hp → Prop := fun vs H' => ∃ ds n', Ext H n H' n' ∧ Sat K Z r n' s H' ∧ RepL K H' n' ds vs ∧ Q ds n'
structure DEnds where
  nx : Rho → DH → Prop
  rt : D → DH → Prop
  bk : Rho → DH → Prop := fun _ _ => False
  ct : Rho → DH → Prop := fun _ _ => False
def PoS (K : PySem.W.Frag) (Z : Hp × DH) (H : Hp) (n : DH) (Q : Rho → DH → Prop) : L2.St → Hp → Prop := fun s' H' => ∃ r' n', Ext H n H' n' ∧ Sat K Z r' n' s' H' ∧ Q r' n'
def PoR (K : PySem.W.Frag) (Z : Hp × DH) (H : Hp) (n : DH) (Q : D → DH → Prop) : VK := fun v H' => ∃ d n', Ext H n H' n' ∧ Ext Z.1 Z.2 H' n' ∧ HSat K n' H' ∧ Rep K H' n' d v ∧ Q d n'
def DEnds.at (E : DEnds) (K : PySem.W.Frag) (Z : Hp × DH) (H : Hp) (n : DH) : Ends := { nx := PoS K Z H n E.nx, rt := PoR K Z H n E.rt, bk := PoS K Z H n E.bk, ct := PoS K Z H n E.ct }
def DE (X : Cx) (Z : Hp × DH) (e : Expr) (r : Rho) (n : DH) (Q : D → DH → Prop) : Prop := ∀ s H, Sat X.K Z r n s H → tW X e s H (PoV X.K Z H n r s Q)
def DT (X : Cx) (Z : Hp × DH) (e : Expr) (r : Rho) (n : DH) (Q : Bool → DH → Prop) : Prop := ∀ s H, Sat X.K Z r n s H → tWT X e s H (PoT X.K Z H n r s Q)
def DA (X : Cx) (Z : Hp × DH) (es : List Expr) (r : Rho) (n : DH) (Q : List D → DH → Prop) : Prop := ∀ s H, Sat X.K Z r n s H → tWA X es s H (PoA X.K Z H n r s Q)
def DS (X : Cx) (Z : Hp × DH) (c : Stmt) (r : Rho) (n : DH) (E : DEnds) : Prop := ∀ s H, Sat X.K Z r n s H → tWS X c (E.at X.K Z H n) s H
def DSs (X : Cx) (Z : Hp × DH) (c : List Stmt) (r : Rho) (n : DH) (E : DEnds) : Prop := ∀ s H, Sat X.K Z r n s H → tWSs X c (E.at X.K Z H n) s H
section
variable {X : Cx} {K : PySem.W.Frag} {Z : Hp × DH} {H H' : Hp} {n n' : DH} {r : Rho} {s : L2.St}
theorem PoV.mk {d : D} {v : V} {Q : D → DH → Prop} (S : Sat K Z r n s H) (h : Rep K H n d v) (q : Q d n) : PoV K Z H n r s Q v H := ⟨d, n, Ext.refl, S, h, q⟩
theorem PoV.up {v : V} {Q : D → DH → Prop} {H2 : Hp} (e : Ext H n H' n') (h : PoV K Z H' n' r s Q v H2) : PoV K Z H n r s Q v H2 := by
  obtain ⟨d, n2, e2, S, h, q⟩ := h
  exact ⟨d, n2, e.trans e2, S, h, q⟩
theorem PoT.up {v : Bool} {Q : Bool → DH → Prop} {H2 : Hp} (e : Ext H n H' n') (h : PoT K Z H' n' r s Q v H2) : PoT K Z H n r s Q v H2 := by
  obtain ⟨n2, e2, S, q⟩ := h
  exact ⟨n2, e.trans e2, S, q⟩
theorem PoA.up {v : List V} {Q : List D → DH → Prop} {H2 : Hp} (e : Ext H n H' n') (h : PoA K Z H' n' r s Q v H2) : PoA K Z H n r s Q v H2 := by
  obtain ⟨d, n2, e2, S, h, q⟩ := h
  exact ⟨d, n2, e.trans e2, S, h, q⟩
theorem PoS.up {s' : L2.St} {Q : Rho → DH → Prop} {H2 : Hp} (e : Ext H n H' n') (h : PoS K Z H' n' Q s' H2) : PoS K Z H n Q s' H2 := by
  obtain ⟨d, n2, e2, S, q⟩ := h
  exact ⟨d, n2, e.trans e2, S, q⟩
theorem PoR.up {v : V} {Q : D → DH → Prop} {H2 : Hp} (e : Ext H n H' n') (h : PoR K Z H' n' Q v H2) : PoR K Z H n Q v H2 := by
  obtain ⟨d, n2, e2, z, S, h, q⟩ := h
  exact ⟨d, n2, e.trans e2, z, S, h, q⟩
theorem PoV.new {p : Addr} {o : HO} {d : D} {Q : D → DH → Prop} (S : Sat K Z r n s H) (h : H p = none) (q : Q d n) (hr : Rep K (upd H p o) n d (.ref p)) : PoV K Z H n r s Q (.ref p) (upd H p o) :=
  ⟨d, n, Ext.new h (S.own.free h), S.ext (Ext.new h (S.own.free h)) (S.own.new h), hr, q⟩
theorem PoV.wrL {q : Addr} {o : DO} {d : D} {v : V} {l : List D} {ws : List V} {Q : D → DH → Prop} (S : Sat K Z r n s H) (hq : n q = some o) (rl : RepL K H n l ws) (rd : Rep K H n d v) (h : Q d (dupd n q (.lst l))) : PoV K Z H n r s Q v (upd H q (.lst ws)) :=
  ⟨d, dupd n q (.lst l), Ext.wr hq, S.wr hq ⟨_, upd_same, RepL.mono (Ext.wr hq) _ _ rl⟩, Rep.mono (Ext.wr hq) _ _ rd, h⟩
theorem PoV.newL {q : Addr} {l : List D} {ws : List V} {Q : D → DH → Prop} (S : Sat K Z r n s H) (hq : H q = none) (rl : RepL K H n l ws) (h : Q (.ref q) (dupd n q (.lst l))) : PoV K Z H n r s Q (.ref q) (upd H q (.lst ws)) :=
  ⟨.ref q, dupd n q (.lst l), Ext.newO hq, S.newO hq ⟨_, upd_same, RepL.mono (Ext.newO hq) _ _ rl⟩, Rep.rf, h⟩
theorem SP.mono {pins : List (Addr × Obj)} {E E' : Ends} {f : Flow} {st : Shared} (h : SP X pins E f st) (h1 : ∀ s H, E.nx s H → E'.nx s H) (h2 : ∀ v H, E.rt v H → E'.rt v H) (h3 : ∀ s H, E.bk s H → E'.bk s H) (h4 : ∀ s H, E.ct s H → E'.ct s H) : SP X pins E' f st := by
  cases f with
  | next => obtain ⟨a, b, c, d⟩ := h; exact ⟨a, b, c, h1 _ _ d⟩
  | brk => obtain ⟨a, b, c, d⟩ := h; exact ⟨a, b, c, h3 _ _ d⟩
  | cont => obtain ⟨a, b, c, d⟩ := h; exact ⟨a, b, c, h4 _ _ d⟩
  | ret u => obtain ⟨v, a, b, c, q, d⟩ := h; exact ⟨v, a, b, c, q, h2 _ _ d⟩
theorem tW_mono {e : Expr} {R R' : VK} (h : tW X e s H R) (k : ∀ v H', R v H' → R' v H') : tW X e s H R' := fun pins st I => thn (h pins st I) fun u s' ⟨v, H', I', rv, q⟩ => ⟨v, H', I', rv, k v H' q⟩
theorem tWT_mono {e : Expr} {R R' : Bool → Hp → Prop} (h : tWT X e s H R) (k : ∀ v H', R v H' → R' v H') : tWT X e s H R' := fun pins st I => thn (h pins st I) fun u s' ⟨H', I', q⟩ => ⟨H', I', k u H' q⟩
theorem tWA_mono {es : List Expr} {R R' : List V → Hp → Prop} (h : tWA X es s H R) (k : ∀ v H', R v H' → R' v H') : tWA X es s H R' := fun pos pins st I => thn (h pos pins st I) fun u s' ⟨v, H', I', rv, q⟩ => ⟨v, H', I', rv, k v H' q⟩
theorem tWS_mono {c : Stmt} {E E' : Ends} (h : tWS X c E s H) (h1 : ∀ s H, E.nx s H → E'.nx s H) (h2 : ∀ v H, E.rt v H → E'.rt v H) (h3 : ∀ s H, E.bk s H → E'.bk s H) (h4 : ∀ s H, E.ct s H → E'.ct s H) : tWS X c E' s H :=
  fun pins st I => thn (h pins st I) fun u s' q => SP.mono q h1 h2 h3 h4
theorem tWSs_mono {c : List Stmt} {E E' : Ends} (h : tWSs X c E s H) (h1 : ∀ s H, E.nx s H → E'.nx s H) (h2 : ∀ v H, E.rt v H → E'.rt v H) (h3 : ∀ s H, E.bk s H → E'.bk s H) (h4 : ∀ s H, E.ct s H → E'.ct s H) : tWSs X c E' s H :=
  fun pins st I => thn (h pins st I) fun u s' q => SP.mono q h1 h2 h3 h4
theorem DE.mk {e : Expr} {t : TE} {Q : D → DH → Prop} (h : PE X e t) (k : ∀ s H, Sat X.K Z r n s H → t s H (PoV X.K Z H n r s Q)) : DE X Z e r n Q := fun s H S pins st I => h.run pins st s H _ I (k s H S)
theorem DT.mk {e : Expr} {t : TT} {Q : Bool → DH → Prop} (h : PT X e t) (k : ∀ s H, Sat X.K Z r n s H → t s H (PoT X.K Z H n r s Q)) : DT X Z e r n Q := fun s H S pins st I => h.run pins st s H _ I (k s H S)
theorem DA.mk {es : List Expr} {t : TA} {Q : List D → DH → Prop} (h : PA X es t) (k : ∀ s H, Sat X.K Z r n s H → t s H (PoA X.K Z H n r s Q)) : DA X Z es r n Q := fun s H S pos pins st I => h.run pos pins st s H _ I (k s H S)
theorem DS.mk {c : Stmt} {t : TS} {E : DEnds} (h : PS X c t) (k : ∀ s H, Sat X.K Z r n s H → t (E.at X.K Z H n) s H) : DS X Z c r n E := fun s H S pins st I => h.run pins st s H _ I (k s H S)
theorem DSs.mk {c : List Stmt} {t : TS} {E : DEnds} (h : PSs X c t) (k : ∀ s H, Sat X.K Z r n s H → t (E.at X.K Z H n) s H) : DSs X Z c r n E := fun s H S pins st I => h.run pins st s H _ I (k s H S)
theorem DE.use {e : Expr} {Q : D → DH → Prop} {R : VK} (h : DE X Z e r n Q) (S : Sat X.K Z r n s H) (k : ∀ d n' v H', Ext H n H' n' → Sat X.K Z r n' s H' → Rep X.K H' n' d v → Q d n' → R v H') : tW X e s H R :=
  tW_mono (h s H S) fun v H' ⟨d, n', e, S', r', q⟩ => k d n' v H' e S' r' q
theorem DT.use {e : Expr} {Q : Bool → DH → Prop} {R : Bool → Hp → Prop} (h : DT X Z e r n Q) (S : Sat X.K Z r n s H) (k : ∀ b n' H', Ext H n H' n' → Sat X.K Z r n' s H' → Q b n' → R b H') : tWT X e s H R :=
  tWT_mono (h s H S) fun v H' ⟨n', e, S', q⟩ => k v n' H' e S' q
theorem DA.use {es : List Expr} {Q : List D → DH → Prop} {R : List V → Hp → Prop} (h : DA X Z es r n Q) (S : Sat X.K Z r n s H) (k : ∀ d n' v H', Ext H n H' n' → Sat X.K Z r n' s H' → RepL X.K H' n' d v → Q d n' → R v H') : tWA X es s H R :=
  tWA_mono (h s H S) fun v H' ⟨d, n', e, S', r', q⟩ => k d n' v H' e S' r' q
theorem DE.imp {e : Expr} {Q Q' : D → DH → Prop} (h : DE X Z e r n Q) (k : ∀ d n', Q d n' → Q' d n') : DE X Z e r n Q' := fun s H S => h.use S fun d n' v H' e S' r' q => ⟨d, n', e, S', r', k d n' q⟩
theorem DT.imp {e : Expr} {Q Q' : Bool → DH → Prop} (h : DT X Z e r n Q) (k : ∀ d n', Q d n' → Q' d n') : DT X Z e r n Q' := fun s H S => h.use S fun d n' H' e S' q => ⟨n', e, S', k d n' q⟩
theorem DA.imp {es : List Expr} {Q Q' : List D → DH → Prop} (h : DA X Z es r n Q) (k : ∀ d n', Q d n' → Q' d n') : DA X Z es r n Q' := fun s H S => h.use S fun d n' v H' e S' r' q => ⟨d, n', e, S', r', k d n' q⟩
theorem DSs.use {c : List Stmt} {E : DEnds} {E' : Ends} (h : DSs X Z c r n E) (S : Sat X.K Z r n s H) (h1 : ∀ s' H', PoS X.K Z H n E.nx s' H' → E'.nx s' H') (h2 : ∀ s' H', PoR X.K Z H n E.rt s' H' → E'.rt s' H') (h3 : ∀ s' H', PoS X.K Z H n E.bk s' H' → E'.bk s' H') (h4 : ∀ s' H', PoS X.K Z H n E.ct s' H' → E'.ct s' H') : tWSs X c E' s H :=
  tWSs_mono (h s H S) h1 h2 h3 h4
theorem DS.use {c : Stmt} {E : DEnds} {E' : Ends} (h : DS X Z c r n E) (S : Sat X.K Z r n s H) (h1 : ∀ s' H', PoS X.K Z H n E.nx s' H' → E'.nx s' H') (h2 : ∀ s' H', PoR X.K Z H n E.rt s' H' → E'.rt s' H') (h3 : ∀ s' H', PoS X.K Z H n E.bk s' H' → E'.bk s' H') (h4 : ∀ s' H', PoS X.K Z H n E.ct s' H' → E'.ct s' H') : tWS X c E' s H :=
  tWS_mono (h s H S) h1 h2 h3 h4
theorem DSs.imp {c : List Stmt} {E E' : DEnds} (h : DSs X Z c r n E) (h1 : ∀ s' H', E.nx s' H' → E'.nx s' H') (h2 : ∀ s' H', E.rt s' H' → E'.rt s' H') (h3 : ∀ s' H', E.bk s' H' → E'.bk s' H') (h4 : ∀ s' H', E.ct s' H' → E'.ct s' H') : DSs X Z c r n E' := fun s H S =>
  h.use S (fun _ _ ⟨a, b, c, d, q⟩ => ⟨a, b, c, d, h1 _ _ q⟩) (fun _ _ ⟨a, b, c, z, d, e, q⟩ => ⟨a, b, c, z, d, e, h2 _ _ q⟩) (fun _ _ ⟨a, b, c, d, q⟩ => ⟨a, b, c, d, h3 _ _ q⟩) (fun _ _ ⟨a, b, c, d, q⟩ => ⟨a, b, c, d, h4 _ _ q⟩)
theorem DE.fg {e : Expr} {Q : D → DH → Prop} (h : DE X Z e r n fun d m => ∃ m', Sub m' m ∧ Q d m') : DE X Z e r n Q := fun s H S => h.use S fun d m v H' e S' r' ⟨m', hs, q⟩ => ⟨d, m', e.trans hs.ext, S'.sub hs, Rep.mono hs.ext _ _ r', q⟩
abbrev PD (X : Cx) (Z : Hp × DH) (e : Expr) (r : Rho) (n : DH) (d : D) : Prop := DE X Z e r n fun x m => x = d ∧ m = n
abbrev PDT (X : Cx) (Z : Hp × DH) (e : Expr) (r : Rho) (n : DH) (b : Bool) : Prop := DT X Z e r n fun x m => x = b ∧ m = n
abbrev PDA (X : Cx) (Z : Hp × DH) (es : List Expr) (r : Rho) (n : DH) (ds : List D) : Prop := DA X Z es r n fun x m => x = ds ∧ m = n
theorem PD.to {X : Cx} {Z : Hp × DH} {e : Expr} {r : Rho} {n : DH} {d : D} {Q : D → DH → Prop} (h : PD X Z e r n d) (q : Q d n) : DE X Z e r n Q := h.imp fun _ _ ⟨e1, e2⟩ => by rw [e1, e2]; exact q
theorem PDT.to {X : Cx} {Z : Hp × DH} {e : Expr} {r : Rho} {n : DH} {d : Bool} {Q : Bool → DH → Prop} (h : PDT X Z e r n d) (q : Q d n) : DT X Z e r n Q := h.imp fun _ _ ⟨e1, e2⟩ => by rw [e1, e2]; exact q
theorem PDA.to {X : Cx} {Z : Hp × DH} {es : List Expr} {r : Rho} {n : DH} {d : List D} {Q : List D → DH → Prop} (h : PDA X Z es r n d) (q : Q d n) : DA X Z es r n Q := h.imp fun _ _ ⟨e1, e2⟩ => by rw [e1, e2]; exact q
end
end G3
set_option Elab.async false
set_option linter.all false
set_option maxRecDepth 100000
set_option maxHeartbeats 2000000
namespace G3
open PySem PySem.Spec PyProof.Rows L2
section
variable {X : Cx} {Z : Hp × DH} {r : Rho} {n : DH} {e a b c : Expr} {pos : Pos} {Q : D → DH → Prop} {QB : Bool → DH → Prop}
theorem de_v {x : Str} {d : D} (i : Nat) (hr : r[i]? = some (some d)) (q : Q d n) (hN : X.N[i]? = some x := by rfl) (hv : Vis X.env.scope x := by first | exact Or.inl rfl | exact Or.inr (Or.inl rfl) | exact Or.inr (Or.inr rfl)) (hd : (x == ("__debug__" : Str)) = false := by decide)
    (hcd : (x == ("__classdict__" : Str)) = false := by decide) : DE X Z (.Name x pos) r n Q :=
  DE.mk (pe_var hN hv hd hcd) fun s H S => let ⟨v, e1, rv⟩ := S.env i d hr; ⟨v, e1, PoV.mk S rv q⟩
theorem pd_v {x : Str} {d : D} (i : Nat) (hr : r[i]? = some (some d)) (hN : X.N[i]? = some x := by rfl) (hv : Vis X.env.scope x := by first | exact Or.inl rfl | exact Or.inr (Or.inl rfl) | exact Or.inr (Or.inr rfl)) (hd : (x == ("__debug__" : Str)) = false := by decide)
    (hcd : (x == ("__classdict__" : Str)) = false := by decide) : PD X Z (.Name x pos) r n d := de_v i hr ⟨rfl, rfl⟩ hN hv hd hcd
theorem pd_int {i : Int} {j} : PD X Z (.Constant (.int i) j pos) r n (.int i) := DE.mk pe_int fun s H S => PoV.mk S Rep.i ⟨rfl, rfl⟩
theorem pd_bl {i : Bool} {j} : PD X Z (.Constant (.bool i) j pos) r n (.bl i) := DE.mk pe_bl fun s H S => PoV.mk S Rep.b ⟨rfl, rfl⟩
theorem pd_non {j} : PD X Z (.Constant .none j pos) r n .non := DE.mk pe_non fun s H S => PoV.mk S Rep.no ⟨rfl, rfl⟩
theorem pd_str {i : Str} {j} : PD X Z (.Constant (.str i) j pos) r n (.str i) := DE.mk pe_str fun s H S => PoV.mk S Rep.s ⟨rfl, rfl⟩
theorem pd_gl {x : Str} {v : V} {u : Value} {d : D} (hm : X.mg x = some u) (rv : RelV v u) (hR : ∀ H n, Rep X.K H n d v) (hg : Gl X x := by rfl) (hd : (x == ("__debug__" : Str)) = false := by decide) : PD X Z (.Name x pos) r n d :=
  DE.mk (pe_glob hg hm rv hd) fun s H S => PoV.mk S (hR _ _) ⟨rfl, rfl⟩
abbrev FOp := D → D → DH → (D → DH → Prop) → Prop
def OpD (X : Cx) (Z : Hp × DH) (r : Rho) (rr : R2) (F : FOp) : Prop := ∀ (Q : D → DH → Prop) (x y : D) (k : DH) (s : L2.St) (H : Hp) (vx vy : V) (R : VK), F x y k Q → Sat X.K Z r k s H → Rep X.K H k x vx → Rep X.K H k y vy →
  (∀ v H', PoV X.K Z H k r s Q v H' → R v H') → rr vx vy H R
theorem two {rr : R2} {F : FOp} (hd : OpD X Z r rr F) (h : DE X Z a r n fun x m => DE X Z b r m fun y k => F x y k Q) {s : L2.St} {H : Hp} (S : Sat X.K Z r n s H) {R : VK} (hR : ∀ v H', PoV X.K Z H n r s Q v H' → R v H') :
    tOp rr (tW X a) (tW X b) s H R :=
  h.use S fun x m vx H1 e1 S1 R1 q1 => q1.use S1 fun y k vy H2 e2 S2 R2 q2 => hd Q x y k s H2 vx vy R q2 S2 (Rep.mono e2 _ _ R1) R2 fun v H' q => hR v H' (q.up (e1.trans e2))
theorem de_op {op : Operator} {rr : R2} {F : FOp} (ho : OpR X (binaryOp op) rr) (hd : OpD X Z r rr F) (h : DE X Z a r n fun x m => DE X Z b r m fun y k => F x y k Q) : DE X Z (.BinOp a op b pos) r n Q :=
  DE.mk (pe_op ho pe_W pe_W) fun s H S => two hd h S fun _ _ q => q
theorem de_cmp {op : CmpOp} {rr : R2} {F : FOp} (ho : OpR X (compareOp op) rr) (hd : OpD X Z r rr F) (hm : behindInMarks op b = false) (h : DE X Z a r n fun x m => DE X Z b r m fun y k => F x y k Q) : DE X Z (.Compare a [op] [b] pos) r n Q :=
  DE.mk (pe_cmpR ho pe_W pe_W hm) fun s H S => two hd h S fun _ _ q => q
abbrev BlP (QB : Bool → DH → Prop) : D → DH → Prop := fun d m => ∃ t, d = .bl t ∧ QB t m
theorem PoV.bl {K : PySem.W.Frag} {H H' : Hp} {s : L2.St} {v : V} (h : PoV K Z H n r s (BlP QB) v H') : ∃ k, v = .bl k ∧ PoT K Z H n r s QB k H' := by
  obtain ⟨d, n', e, S, rp, t, rfl, q⟩ := h
  exact ⟨t, rp, n', e, S, q⟩
theorem dt_cmp {op : CmpOp} {rr : R2} {F : FOp} (ho : OpR X (compareOp op) rr) (hd : OpD X Z r rr F) (hm : behindInMarks op b = false) (h : DE X Z a r n fun x m => DE X Z b r m fun y k => F x y k (BlP QB)) : DT X Z (.Compare a [op] [b] pos) r n QB :=
  DT.mk (pt_cmpR ho pe_W pe_W hm) fun s H S => two hd h S fun _ _ q => q.bl
theorem dt_val (h : DE X Z e r n (BlP QB)) (he : ∀ whole, isTrue e X.env whole = (do let v ← whole; standAt e.pos; holding [v] (truthy v)) := by intro _; rfl) : DT X Z e r n QB :=
  DT.mk (pt_val pe_W he) fun s H S => h.use S fun d m v H1 e1 S1 R1 q1 => PoV.bl ⟨d, m, e1, S1, R1, q1⟩
theorem de_index {rr : R2} {F : FOp} (ho : IxR X rr) (hd : OpD X Z r rr F) (h : DE X Z a r n fun x m => DE X Z b r m fun y k => F x y k Q) (hs : PlainIx b := by intro _ _; rfl) : DE X Z (.Subscript a b pos) r n Q :=
  DE.mk (pe_ix ho pe_W pe_W hs) fun s H S => two hd h S fun _ _ q => q
abbrev FI (g : Int → Int → D) : FOp := fun x y k Q => ∃ i j, x = .int i ∧ y = .int j ∧ Q (g i j) k
abbrev FIc (C : Int → Int → Prop) (g : Int → Int → D) : FOp := fun x y k Q => ∃ i j, x = .int i ∧ y = .int j ∧ C i j ∧ Q (g i j) k
theorem od_I0 {g : Int → Int → V} {g' : Int → Int → D} (hg : ∀ K H n i j, Rep K H n (g' i j) (g i j)) : OpD X Z r (rI0 g) (FI g') := fun Q x y k s H vx vy R ⟨i, j, ex, ey, q⟩ S rx ry hR => by
  subst ex; subst ey
  exact ⟨i, j, rx, ry, hR _ _ (PoV.mk S (hg _ _ _ _ _) q)⟩
theorem od_I {C : Int → Int → Prop} {g : Int → Int → V} {g' : Int → Int → D} (hg : ∀ K H n i j, Rep K H n (g' i j) (g i j)) : OpD X Z r (rI C g) (FIc C g') := fun Q x y k s H vx vy R ⟨i, j, ex, ey, hc, q⟩ S rx ry hR => by
  subst ex; subst ey
  exact ⟨i, j, rx, ry, hc, hR _ _ (PoV.mk S (hg _ _ _ _ _) q)⟩
theorem rp_int {g : Int → Int → Int} : ∀ K H n i j, Rep K H n (.int (g i j)) (.int (g i j)) := fun _ _ _ _ _ => rfl
theorem rp_bl {g : Int → Int → Bool} : ∀ K H n i j, Rep K H n (.bl (g i j)) (.bl (g i j)) := fun _ _ _ _ _ => rfl
theorem de_add (h : DE X Z a r n fun x m => DE X Z b r m fun y k => FI (fun i j => .int (i + j)) x y k Q) : DE X Z (.BinOp a .Add b pos) r n Q := de_op op_add (od_I0 fun _ _ _ _ _ => Rep.i) h
theorem de_sub (h : DE X Z a r n fun x m => DE X Z b r m fun y k => FI (fun i j => .int (i - j)) x y k Q) : DE X Z (.BinOp a .Sub b pos) r n Q := de_op op_sub (od_I0 fun _ _ _ _ _ => Rep.i) h
def CM (i j : Int) : Prop := CMul i j ∨ CMulW i j
theorem op_mulC : OpR X (binaryOp .Mult) (rI CM fun i j => .int (i * j)) := opI fun _ _ _ _ _ _ _ hc q => mul_int q (hc.elim (fun h => h.ok) fun h => h.ok)
theorem CM.rt {i j : Int} (h1 : -(2 ^ 64) < j) (h2 : j < 2 ^ 64) : CM i j := .inl (.inr ⟨h1, h2⟩)
theorem CM.lf {i j : Int} (h1 : -(2 ^ 64) < i) (h2 : i < 2 ^ 64) : CM i j := .inl (.inl ⟨h1, h2⟩)
theorem CDivW.s {i j : Int} (h1 : 0 < j) (h2 : j < 2 ^ 64) : CDivW i j := wide_div h1 (b := 64) (by omega) (by decide) (by decide)
theorem de_mul (h : DE X Z a r n fun x m => DE X Z b r m fun y k => FIc CM (fun i j => .int (i * j)) x y k Q) : DE X Z (.BinOp a .Mult b pos) r n Q := de_op op_mulC (od_I fun _ _ _ _ _ => Rep.i) h
theorem de_div (h : DE X Z a r n fun x m => DE X Z b r m fun y k => FIc CDivW (fun i j => .int (i / j)) x y k Q) : DE X Z (.BinOp a .FloorDiv b pos) r n Q := de_op op_fdivW (od_I fun _ _ _ _ _ => Rep.i) h
theorem de_mod (h : DE X Z a r n fun x m => DE X Z b r m fun y k => FIc (fun _ j => 0 < j) (fun i j => .int (i % j)) x y k Q) : DE X Z (.BinOp a .Mod b pos) r n Q := de_op op_mod (od_I fun _ _ _ _ _ => Rep.i) h
theorem de_pow (h : DE X Z a r n fun x m => DE X Z b r m fun y k => FIc CPow (fun i j => .int (i ^ j.toNat)) x y k Q) : DE X Z (.BinOp a .Pow b pos) r n Q := de_op op_pow (od_I fun _ _ _ _ _ => Rep.i) h
variable {i j : Int}
theorem pd_add (ha : PD X Z a r n (.int i)) (hb : PD X Z b r n (.int j)) : PD X Z (.BinOp a .Add b pos) r n (.int (i + j)) := de_add (ha.to (hb.to ⟨_, _, rfl, rfl, rfl, rfl⟩))
theorem pd_sub (ha : PD X Z a r n (.int i)) (hb : PD X Z b r n (.int j)) : PD X Z (.BinOp a .Sub b pos) r n (.int (i - j)) := de_sub (ha.to (hb.to ⟨_, _, rfl, rfl, rfl, rfl⟩))
theorem pd_mul (ha : PD X Z a r n (.int i)) (hb : PD X Z b r n (.int j)) (hc : CM i j) : PD X Z (.BinOp a .Mult b pos) r n (.int (i * j)) := de_mul (ha.to (hb.to ⟨_, _, rfl, rfl, hc, rfl, rfl⟩))
theorem pd_div (ha : PD X Z a r n (.int i)) (hb : PD X Z b r n (.int j)) (hc : CDivW i j) : PD X Z (.BinOp a .FloorDiv b pos) r n (.int (i / j)) := de_div (ha.to (hb.to ⟨_, _, rfl, rfl, hc, rfl, rfl⟩))
theorem pd_mod (ha : PD X Z a r n (.int i)) (hb : PD X Z b r n (.int j)) (hc : 0 < j) : PD X Z (.BinOp a .Mod b pos) r n (.int (i % j)) := de_mod (ha.to (hb.to ⟨_, _, rfl, rfl, hc, rfl, rfl⟩))
theorem pd_pow (ha : PD X Z a r n (.int i)) (hb : PD X Z b r n (.int j)) (hc : CPow i j) : PD X Z (.BinOp a .Pow b pos) r n (.int (i ^ j.toNat)) := de_pow (ha.to (hb.to ⟨_, _, rfl, rfl, hc, rfl, rfl⟩))
theorem dt_lt (h : DE X Z a r n fun x m => DE X Z b r m fun y k => FI (fun i j => .bl (decide (i < j))) x y k (BlP QB)) : DT X Z (.Compare a [.Lt] [b] pos) r n QB := dt_cmp op_lt (od_I0 fun _ _ _ _ _ => Rep.b) (nomark _) h
theorem dt_le (h : DE X Z a r n fun x m => DE X Z b r m fun y k => FI (fun i j => .bl (decide (i ≤ j))) x y k (BlP QB)) : DT X Z (.Compare a [.LtE] [b] pos) r n QB := dt_cmp op_le (od_I0 fun _ _ _ _ _ => Rep.b) (nomark _) h
theorem dt_gt (h : DE X Z a r n fun x m => DE X Z b r m fun y k => FI (fun i j => .bl (decide (j < i))) x y k (BlP QB)) : DT X Z (.Compare a [.Gt] [b] pos) r n QB := dt_cmp op_gt (od_I0 fun _ _ _ _ _ => Rep.b) (nomark _) h
theorem dt_ge (h : DE X Z a r n fun x m => DE X Z b r m fun y k => FI (fun i j => .bl (decide (j ≤ i))) x y k (BlP QB)) : DT X Z (.Compare a [.GtE] [b] pos) r n QB := dt_cmp op_ge (od_I0 fun _ _ _ _ _ => Rep.b) (nomark _) h
theorem pt_lt (ha : PD X Z a r n (.int i)) (hb : PD X Z b r n (.int j)) : PDT X Z (.Compare a [.Lt] [b] pos) r n (decide (i < j)) := dt_lt (ha.to (hb.to ⟨_, _, rfl, rfl, _, rfl, rfl, rfl⟩))
theorem pt_le (ha : PD X Z a r n (.int i)) (hb : PD X Z b r n (.int j)) : PDT X Z (.Compare a [.LtE] [b] pos) r n (decide (i ≤ j)) := dt_le (ha.to (hb.to ⟨_, _, rfl, rfl, _, rfl, rfl, rfl⟩))
theorem pt_gt (ha : PD X Z a r n (.int i)) (hb : PD X Z b r n (.int j)) : PDT X Z (.Compare a [.Gt] [b] pos) r n (decide (j < i)) := dt_gt (ha.to (hb.to ⟨_, _, rfl, rfl, _, rfl, rfl, rfl⟩))
theorem pt_ge (ha : PD X Z a r n (.int i)) (hb : PD X Z b r n (.int j)) : PDT X Z (.Compare a [.GtE] [b] pos) r n (decide (j ≤ i)) := dt_ge (ha.to (hb.to ⟨_, _, rfl, rfl, _, rfl, rfl, rfl⟩))
theorem de_lt (h : DE X Z a r n fun x m => DE X Z b r m fun y k => FI (fun i j => .bl (decide (i < j))) x y k Q) : DE X Z (.Compare a [.Lt] [b] pos) r n Q := de_cmp op_lt (od_I0 fun _ _ _ _ _ => Rep.b) (nomark _) h
theorem de_le (h : DE X Z a r n fun x m => DE X Z b r m fun y k => FI (fun i j => .bl (decide (i ≤ j))) x y k Q) : DE X Z (.Compare a [.LtE] [b] pos) r n Q := de_cmp op_le (od_I0 fun _ _ _ _ _ => Rep.b) (nomark _) h
theorem de_gt (h : DE X Z a r n fun x m => DE X Z b r m fun y k => FI (fun i j => .bl (decide (j < i))) x y k Q) : DE X Z (.Compare a [.Gt] [b] pos) r n Q := de_cmp op_gt (od_I0 fun _ _ _ _ _ => Rep.b) (nomark _) h
theorem de_ge (h : DE X Z a r n fun x m => DE X Z b r m fun y k => FI (fun i j => .bl (decide (j ≤ i))) x y k Q) : DE X Z (.Compare a [.GtE] [b] pos) r n Q := de_cmp op_ge (od_I0 fun _ _ _ _ _ => Rep.b) (nomark _) h
theorem pd_lt (ha : PD X Z a r n (.int i)) (hb : PD X Z b r n (.int j)) : PD X Z (.Compare a [.Lt] [b] pos) r n (.bl (decide (i < j))) := de_lt (ha.to (hb.to ⟨_, _, rfl, rfl, rfl, rfl⟩))
theorem pd_le (ha : PD X Z a r n (.int i)) (hb : PD X Z b r n (.int j)) : PD X Z (.Compare a [.LtE] [b] pos) r n (.bl (decide (i ≤ j))) := de_le (ha.to (hb.to ⟨_, _, rfl, rfl, rfl, rfl⟩))
theorem pd_gt (ha : PD X Z a r n (.int i)) (hb : PD X Z b r n (.int j)) : PD X Z (.Compare a [.Gt] [b] pos) r n (.bl (decide (j < i))) := de_gt (ha.to (hb.to ⟨_, _, rfl, rfl, rfl, rfl⟩))
theorem pd_ge (ha : PD X Z a r n (.int i)) (hb : PD X Z b r n (.int j)) : PD X Z (.Compare a [.GtE] [b] pos) r n (.bl (decide (j ≤ i))) := de_ge (ha.to (hb.to ⟨_, _, rfl, rfl, rfl, rfl⟩))
def dscal : D → D → Option Bool
  | .int i, .int j => some (decide (i = j))
  | .str x, .str y => some (decide (x = y))
  | .bl x, .bl y => some (decide (x = y))
  | .non, .non => some true
  | _, _ => none
theorem dscal_ok {K : PySem.W.Frag} {H : Hp} {n : DH} {x y : D} {vx vy : V} {t : Bool} (h : dscal x y = some t) (rx : Rep K H n x vx) (ry : Rep K H n y vy) : scal vx vy = true ∧ decide (vx = vy) = t := by
  cases x <;> cases y <;> simp only [dscal, reduceCtorEq, Option.some.injEq] at h <;> (cases rx; cases ry; subst h)
  · exact ⟨rfl, rfl⟩
  · refine ⟨rfl, ?_⟩; simp
  · refine ⟨rfl, ?_⟩; simp
  · refine ⟨rfl, ?_⟩; simp
abbrev FEq (g : Bool → Bool) : FOp := fun x y k Q => ∃ t, dscal x y = some t ∧ Q (.bl (g t)) k
theorem od_eq : OpD X Z r rEq (FEq id) := fun Q x y k s H vx vy R ⟨t, ht, q⟩ S rx ry hR => by
  obtain ⟨h1, h2⟩ := dscal_ok ht rx ry
  refine ⟨h1, ?_⟩
  rw [h2]
  exact hR _ _ (PoV.mk S Rep.b q)
theorem od_ne : OpD X Z r rNe (FEq not) := fun Q x y k s H vx vy R ⟨t, ht, q⟩ S rx ry hR => by
  obtain ⟨h1, h2⟩ := dscal_ok ht rx ry
  refine ⟨h1, ?_⟩
  rw [h2]
  exact hR _ _ (PoV.mk S Rep.b q)
theorem dt_eq (h : DE X Z a r n fun x m => DE X Z b r m fun y k => FEq id x y k (BlP QB)) : DT X Z (.Compare a [.Eq] [b] pos) r n QB := dt_cmp op_eq od_eq (nomark _) h
theorem dt_ne (h : DE X Z a r n fun x m => DE X Z b r m fun y k => FEq not x y k (BlP QB)) : DT X Z (.Compare a [.NotEq] [b] pos) r n QB := dt_cmp op_ne od_ne (nomark _) h
theorem de_eq (h : DE X Z a r n fun x m => DE X Z b r m fun y k => FEq id x y k Q) : DE X Z (.Compare a [.Eq] [b] pos) r n Q := de_cmp op_eq od_eq (nomark _) h
theorem de_ne (h : DE X Z a r n fun x m => DE X Z b r m fun y k => FEq not x y k Q) : DE X Z (.Compare a [.NotEq] [b] pos) r n Q := de_cmp op_ne od_ne (nomark _) h
variable {x y : D} {t : Bool}
theorem pt_eq (ha : PD X Z a r n x) (hb : PD X Z b r n y) (h : dscal x y = some t := by rfl) : PDT X Z (.Compare a [.Eq] [b] pos) r n t := dt_eq (ha.to (hb.to ⟨_, h, _, rfl, rfl, rfl⟩))
theorem pt_ne (ha : PD X Z a r n x) (hb : PD X Z b r n y) (h : dscal x y = some t := by rfl) : PDT X Z (.Compare a [.NotEq] [b] pos) r n (!t) := dt_ne (ha.to (hb.to ⟨_, h, _, rfl, rfl, rfl⟩))
theorem pd_eq (ha : PD X Z a r n x) (hb : PD X Z b r n y) (h : dscal x y = some t := by rfl) : PD X Z (.Compare a [.Eq] [b] pos) r n (.bl t) := de_eq (ha.to (hb.to ⟨_, h, rfl, rfl⟩))
theorem pd_ne (ha : PD X Z a r n x) (hb : PD X Z b r n y) (h : dscal x y = some t := by rfl) : PD X Z (.Compare a [.NotEq] [b] pos) r n (.bl (!t)) := de_ne (ha.to (hb.to ⟨_, h, rfl, rfl⟩))
def dnon : D → Bool
  | .non => true
  | _ => false
theorem dnon_ok {K : PySem.W.Frag} {H : Hp} {n : DH} {x : D} {vx : V} (rx : Rep K H n x vx) : decide (vx = V.non) = dnon x := by
  cases x with
  | non => cases rx; rfl
  | bl b => cases rx; rfl
  | int i => cases rx; rfl
  | str i => cases rx; rfl
  | ref i => cases rx; rfl
  | tup l => obtain ⟨a, vs, rfl, _⟩ := rx; rfl
  | lst l => obtain ⟨a, vs, rfl, _⟩ := rx; rfl
  | rol l => obtain ⟨a, vs, rfl, _⟩ := rx; rfl
  | dct ks l => obtain ⟨a, vs, rfl, _⟩ := rx; rfl
  | obj C ns l => obtain ⟨a, dx, vs, rfl, _⟩ := rx; rfl
abbrev FIs (g : Bool → Bool) : FOp := fun x y k Q => y = .non ∧ Q (.bl (g (dnon x))) k
theorem od_isN : OpD X Z r (fun x y H Q => y = .non ∧ Q (.bl (decide (x = .non))) H) (FIs id) := fun Q x y k s H vx vy R ⟨ey, q⟩ S rx ry hR => by
  subst ey
  refine ⟨ry, ?_⟩
  show R (.bl (decide (vx = V.non))) H
  rw [dnon_ok rx]
  exact hR _ _ (PoV.mk S Rep.b q)
theorem od_notN : OpD X Z r (fun x y H Q => y = .non ∧ Q (.bl (!decide (x = .non))) H) (FIs not) := fun Q x y k s H vx vy R ⟨ey, q⟩ S rx ry hR => by
  subst ey
  refine ⟨ry, ?_⟩
  show R (.bl (!decide (vx = V.non))) H
  rw [dnon_ok rx]
  exact hR _ _ (PoV.mk S Rep.b q)
theorem pt_isN {jj pp} (ha : PD X Z a r n x) : PDT X Z (.Compare a [.Is] [.Constant .none jj pp] pos) r n (dnon x) := dt_cmp op_isN od_isN (nomark _) (ha.to (pd_non.to ⟨rfl, _, rfl, rfl, rfl⟩))
theorem pt_notN {jj pp} (ha : PD X Z a r n x) : PDT X Z (.Compare a [.IsNot] [.Constant .none jj pp] pos) r n (!dnon x) := dt_cmp op_notN od_notN (nomark _) (ha.to (pd_non.to ⟨rfl, _, rfl, rfl, rfl⟩))
theorem pd_isN {jj pp} (ha : PD X Z a r n x) : PD X Z (.Compare a [.Is] [.Constant .none jj pp] pos) r n (.bl (dnon x)) := de_cmp op_isN od_isN (nomark _) (ha.to (pd_non.to ⟨rfl, rfl, rfl⟩))
theorem pd_notN {jj pp} (ha : PD X Z a r n x) : PD X Z (.Compare a [.IsNot] [.Constant .none jj pp] pos) r n (.bl (!dnon x)) := de_cmp op_notN od_notN (nomark _) (ha.to (pd_non.to ⟨rfl, rfl, rfl⟩))
theorem de_isN {jj pp} (ha : DE X Z a r n fun x m => Q (.bl (dnon x)) m) : DE X Z (.Compare a [.Is] [.Constant .none jj pp] pos) r n Q := de_cmp op_isN od_isN (nomark _) (ha.imp fun _ _ q => pd_non.to ⟨rfl, q⟩)
theorem de_notN {jj pp} (ha : DE X Z a r n fun x m => Q (.bl (!dnon x)) m) : DE X Z (.Compare a [.IsNot] [.Constant .none jj pp] pos) r n Q := de_cmp op_notN od_notN (nomark _) (ha.imp fun _ _ q => pd_non.to ⟨rfl, q⟩)
theorem dt_isN {jj pp} (ha : DE X Z a r n fun x m => QB (dnon x) m) : DT X Z (.Compare a [.Is] [.Constant .none jj pp] pos) r n QB := dt_cmp op_isN od_isN (nomark _) (ha.imp fun _ _ q => pd_non.to ⟨rfl, _, rfl, q⟩)
theorem dt_notN {jj pp} (ha : DE X Z a r n fun x m => QB (!dnon x) m) : DT X Z (.Compare a [.IsNot] [.Constant .none jj pp] pos) r n QB := dt_cmp op_notN od_notN (nomark _) (ha.imp fun _ _ q => pd_non.to ⟨rfl, _, rfl, q⟩)
def DW (X : Cx) (Z : Hp × DH) (e : Expr) (r : Rho) (n : DH) (Q : Bool → DH → Prop) : Prop := ∀ whole s H, Sat X.K Z r n s H → ∀ (pins : List (Addr × Obj)) (st : Shared), Inv X pins s H st → wpAny (model X.prog X.w) X.A (isTrue e X.env whole) (TP X pins s (PoT X.K Z H n r s Q)) X.xe st
theorem DW.dt (h : DW X Z e r n QB) : DT X Z e r n QB := fun s H S pins st I => h _ s H S pins st I
def tWW (X : Cx) (e : Expr) : TT := fun s H R => ∀ whole (pins : List (Addr × Obj)) (st : Shared), Inv X pins s H st → wpAny (model X.prog X.w) X.A (isTrue e X.env whole) (TP X pins s R) X.xe st
theorem pw_W : PW X e (tWW X e) := ⟨fun wh pins st _ _ _ I h => h wh pins st I⟩
theorem DW.mk {t : TT} (h : PW X e t) (k : ∀ s H, Sat X.K Z r n s H → t s H (PoT X.K Z H n r s QB)) : DW X Z e r n QB := fun wh s H S pins st I => h.run wh pins st s H _ I (k s H S)
theorem DW.use {s : L2.St} {H : Hp} {R : Bool → Hp → Prop} (h : DW X Z e r n QB) (S : Sat X.K Z r n s H) (k : ∀ b n' H', Ext H n H' n' → Sat X.K Z r n' s H' → QB b n' → R b H') : tWW X e s H R :=
  fun wh pins st I => thn (h wh s H S pins st I) fun u s' ⟨H', I', n', e, S', q⟩ => ⟨H', I', k u n' H' e S' q⟩
variable {rest : List Expr}
theorem dw_and1 (ha : DT X Z a r n QB) : DW X Z (.BoolOp .And [a] pos) r n QB := DW.mk (pw_and1 pt_W) fun s H S => ha.use S fun t m H1 e1 S1 q => ⟨m, e1, S1, q⟩
theorem dw_or1 (ha : DT X Z a r n QB) : DW X Z (.BoolOp .Or [a] pos) r n QB := DW.mk (pw_or1 pt_W) fun s H S => ha.use S fun t m H1 e1 S1 q => ⟨m, e1, S1, q⟩
theorem dw_and (h : DT X Z a r n fun t m => if t = true then DW X Z (.BoolOp .And (b :: rest) pos) r m QB else QB false m) : DW X Z (.BoolOp .And (a :: b :: rest) pos) r n QB :=
  DW.mk (pw_and pt_W pw_W) fun s H S => h.use S fun t m H1 e1 S1 q => by
    cases t with
    | true =>
      rw [if_pos rfl] at q ⊢
      exact q.use S1 fun u k H2 e2 S2 q2 => ⟨k, e1.trans e2, S2, q2⟩
    | false =>
      rw [if_neg Bool.false_ne_true] at q ⊢
      exact ⟨m, e1, S1, q⟩
theorem dw_or (h : DT X Z a r n fun t m => if t = true then QB true m else DW X Z (.BoolOp .Or (b :: rest) pos) r m QB) : DW X Z (.BoolOp .Or (a :: b :: rest) pos) r n QB :=
  DW.mk (pw_or pt_W pw_W) fun s H S => h.use S fun t m H1 e1 S1 q => by
    cases t with
    | false =>
      rw [if_neg Bool.false_ne_true] at q ⊢
      exact q.use S1 fun u k H2 e2 S2 q2 => ⟨k, e1.trans e2, S2, q2⟩
    | true =>
      rw [if_pos rfl] at q ⊢
      exact ⟨m, e1, S1, q⟩
theorem dt_not (h : DT X Z a r n fun t m => QB (!t) m) : DT X Z (.UnaryOp .Not a pos) r n QB := DT.mk (L2.pt_not pt_W) fun s H S => h.use S fun t m H1 e1 S1 q => ⟨m, e1, S1, q⟩
variable {u : Bool}
abbrev PDW (X : Cx) (Z : Hp × DH) (e : Expr) (r : Rho) (n : DH) (b : Bool) : Prop := DW X Z e r n fun x m => x = b ∧ m = n
theorem pw_a1 (ha : PDT X Z a r n t) : PDW X Z (.BoolOp .And [a] pos) r n t := dw_and1 ha
theorem pw_o1 (ha : PDT X Z a r n t) : PDW X Z (.BoolOp .Or [a] pos) r n t := dw_or1 ha
theorem pw_a (ha : PDT X Z a r n t) (hb : t = true → PDW X Z (.BoolOp .And (b :: rest) pos) r n u) : PDW X Z (.BoolOp .And (a :: b :: rest) pos) r n (t && u) := dw_and (ha.to (by
  cases t with
  | true => rw [if_pos rfl]; exact hb rfl
  | false => rw [if_neg Bool.false_ne_true]; exact ⟨rfl, rfl⟩))
theorem pw_o (ha : PDT X Z a r n t) (hb : t = false → PDW X Z (.BoolOp .Or (b :: rest) pos) r n u) : PDW X Z (.BoolOp .Or (a :: b :: rest) pos) r n (t || u) := dw_or (ha.to (by
  cases t with
  | false => rw [if_neg Bool.false_ne_true]; exact hb rfl
  | true => rw [if_pos rfl]; exact ⟨rfl, rfl⟩))
theorem pt_not (ha : PDT X Z a r n t) : PDT X Z (.UnaryOp .Not a pos) r n (!t) := dt_not (ha.to ⟨rfl, rfl⟩)
theorem pt_val (ha : PD X Z e r n (.bl t)) (he : ∀ whole, isTrue e X.env whole = (do let v ← whole; standAt e.pos; holding [v] (truthy v)) := by intro _; rfl) : PDT X Z e r n t := dt_val (ha.to ⟨_, rfl, rfl, rfl⟩) he
theorem de_one {op : BoolOp} (h : DE X Z a r n Q) : DE X Z (.BoolOp op [a] pos) r n Q := DE.mk (pe_one pe_W) fun s H S => h.use S fun d m v H1 e1 S1 R1 q => ⟨d, m, e1, S1, R1, q⟩
theorem de_and (h : DE X Z a r n fun x m => ∃ t, x = .bl t ∧ if t = true then DE X Z (.BoolOp .And (b :: rest) pos) r m Q else Q (.bl false) m) : DE X Z (.BoolOp .And (a :: b :: rest) pos) r n Q :=
  DE.mk (L2.pe_and pe_W pe_W) fun s H S => h.use S fun d m v H1 e1 S1 R1 ⟨t, ed, q⟩ => by
    subst ed
    refine ⟨t, R1, ?_⟩
    cases t with
    | true =>
      rw [if_pos rfl] at q ⊢
      exact q.use S1 fun d2 k v2 H2 e2 S2 R2 q2 => ⟨d2, k, e1.trans e2, S2, R2, q2⟩
    | false =>
      rw [if_neg Bool.false_ne_true] at q ⊢
      exact ⟨_, m, e1, S1, Rep.b, q⟩
theorem de_or (h : DE X Z a r n fun x m => ∃ t, x = .bl t ∧ if t = true then Q (.bl true) m else DE X Z (.BoolOp .Or (b :: rest) pos) r m Q) : DE X Z (.BoolOp .Or (a :: b :: rest) pos) r n Q :=
  DE.mk (L2.pe_or pe_W pe_W) fun s H S => h.use S fun d m v H1 e1 S1 R1 ⟨t, ed, q⟩ => by
    subst ed
    refine ⟨t, R1, ?_⟩
    cases t with
    | false =>
      rw [if_neg Bool.false_ne_true] at q ⊢
      exact q.use S1 fun d2 k v2 H2 e2 S2 R2 q2 => ⟨d2, k, e1.trans e2, S2, R2, q2⟩
    | true =>
      rw [if_pos rfl] at q ⊢
      exact ⟨_, m, e1, S1, Rep.b, q⟩
theorem de_not (h : DE X Z a r n fun x m => ∃ t, x = .bl t ∧ Q (.bl (!t)) m) : DE X Z (.UnaryOp .Not a pos) r n Q :=
  DE.mk (L2.pe_not pe_W) fun s H S => h.use S fun d m v H1 e1 S1 R1 ⟨t, ed, q⟩ => by
    subst ed
    exact ⟨t, R1, _, m, e1, S1, Rep.b, q⟩
theorem pd_and1 {op : BoolOp} (ha : PD X Z a r n x) : PD X Z (.BoolOp op [a] pos) r n x := de_one ha
theorem pd_and (ha : PD X Z a r n (.bl t)) (hb : t = true → PD X Z (.BoolOp .And (b :: rest) pos) r n (.bl u)) : PD X Z (.BoolOp .And (a :: b :: rest) pos) r n (.bl (t && u)) := de_and (ha.to ⟨_, rfl, by
  cases t with
  | true => rw [if_pos rfl]; exact hb rfl
  | false => rw [if_neg Bool.false_ne_true]; exact ⟨rfl, rfl⟩⟩)
theorem pd_or (ha : PD X Z a r n (.bl t)) (hb : t = false → PD X Z (.BoolOp .Or (b :: rest) pos) r n (.bl u)) : PD X Z (.BoolOp .Or (a :: b :: rest) pos) r n (.bl (t || u)) := de_or (ha.to ⟨_, rfl, by
  cases t with
  | false => rw [if_neg Bool.false_ne_true]; exact hb rfl
  | true => rw [if_pos rfl]; exact ⟨rfl, rfl⟩⟩)
theorem pd_not (ha : PD X Z a r n (.bl t)) : PD X Z (.UnaryOp .Not a pos) r n (.bl (!t)) := de_not (ha.to ⟨_, rfl, rfl, rfl⟩)
theorem de_if (h : DT X Z c r n fun t m => if t = true then DE X Z a r m Q else DE X Z b r m Q) : DE X Z (.IfExp c a b pos) r n Q :=
  DE.mk (pe_ifExp pt_W pe_W pe_W) fun s H S => h.use S fun t m H1 e1 S1 q => by
    cases t with
    | true =>
      rw [if_pos rfl] at q ⊢
      exact q.use S1 fun d2 k v2 H2 e2 S2 R2 q2 => ⟨d2, k, e1.trans e2, S2, R2, q2⟩
    | false =>
      rw [if_neg Bool.false_ne_true] at q ⊢
      exact q.use S1 fun d2 k v2 H2 e2 S2 R2 q2 => ⟨d2, k, e1.trans e2, S2, R2, q2⟩
theorem de_ifP (hc : PDT X Z c r n t) (h1 : t = true → DE X Z a r n Q) (h2 : t = false → DE X Z b r n Q) : DE X Z (.IfExp c a b pos) r n Q := de_if (hc.to (by
  cases t with
  | true => rw [if_pos rfl]; exact h1 rfl
  | false => rw [if_neg Bool.false_ne_true]; exact h2 rfl))
end
end G3
set_option Elab.async false
set_option linter.all false
set_option maxRecDepth 100000
set_option maxHeartbeats 2000000
namespace G3
open PySem PySem.Spec PyProof.Rows L2
theorem szk {k : Nat} (h : Nat.ble k 1000 = true) : k ≤ sizeLine := Nat.le_trans (Nat.le_of_ble_eq_true h) (by decide)
theorem sz5 {k : Nat} (h : k ≤ 100000) : k ≤ sizeLine := Nat.le_trans h (by decide)
section
variable {X : Cx} {Z : Hp × DH} {r : Rho} {n : DH} {e a b c : Expr} {es : List Expr} {pos p : Pos} {Q : D → DH → Prop} {QB : Bool → DH → Prop} {QA : List D → DH → Prop} {x y : D} {i j : Int} {l m : List D}
theorem da_nil (q : QA [] n) : DA X Z [] r n QA := DA.mk pa_nil fun s H S => ⟨[], n, Ext.refl, S, RepL.nil, q⟩
theorem da_cons (h : DE X Z e r n fun x m => DA X Z es r m fun xs k => QA (x :: xs) k) (hs : starEach (e :: es) X.env = (false, eval e X.env) :: starEach es X.env := by rfl) : DA X Z (e :: es) r n QA :=
  DA.mk (pa_cons pe_W pa_W hs) fun s H S => h.use S fun x m v H1 e1 S1 R1 q => q.use S1 fun xs k vs H2 e2 S2 R2 q2 => ⟨x :: xs, k, e1.trans e2, S2, RepL.cons (Rep.mono e2 _ _ R1) R2, q2⟩
theorem pa_n : PDA X Z [] r n [] := da_nil ⟨rfl, rfl⟩
theorem pa_c (h : PD X Z e r n x) (ht : PDA X Z es r n l) (hs : starEach (e :: es) X.env = (false, eval e X.env) :: starEach es X.env := by rfl) : PDA X Z (e :: es) r n (x :: l) := da_cons (h.to (ht.to ⟨rfl, rfl⟩)) hs
theorem de_tup {kk} (h : DA X Z es r n fun xs m => xs.length ≤ sizeLine ∧ Q (.tup xs) m) : DE X Z (.Tuple es kk pos) r n Q :=
  DE.mk (pe_tup pa_W) fun s H S => h.use S fun xs m vs H1 e1 S1 R1 q => ⟨by rw [← R1.length]; exact q.1, fun p hp => (PoV.new S1 hp q.2 (Rep.t (.inl ⟨S1.own.free hp, upd_same⟩) (RepL.mono (Ext.new hp (S1.own.free hp)) _ _ R1))).up e1⟩
theorem de_lst (h : DA X Z es r n fun xs m => xs.length ≤ sizeLine ∧ Q (.lst xs) m) : DE X Z (.List es pos) r n Q :=
  DE.mk (pe_lst pa_W) fun s H S => h.use S fun xs m vs H1 e1 S1 R1 q => ⟨by rw [← R1.length]; exact q.1, fun p hp => (PoV.new S1 hp q.2 (Rep.l ⟨S1.own.free hp, upd_same⟩ (RepL.mono (Ext.new hp (S1.own.free hp)) _ _ R1))).up e1⟩
theorem de_lstO (h : DA X Z es r n fun xs m => xs.length ≤ sizeLine ∧ ∀ p, m p = none → Q (.ref p) (dupd m p (.lst xs))) : DE X Z (.List es pos) r n Q :=
  DE.mk (pe_lst pa_W) fun s H S => h.use S fun xs m vs H1 e1 S1 R1 q => ⟨by rw [← R1.length]; exact q.1, fun p hp =>
    ⟨.ref p, dupd m p (.lst xs), e1.trans (Ext.newO hp), S1.newO hp ⟨vs, upd_same, RepL.mono (Ext.newO hp) _ _ R1⟩, Rep.rf, q.2 p (S1.own.free hp)⟩⟩
theorem pd_tup {kk} (h : PDA X Z es r n l) (hz : Nat.ble l.length 1000 = true := by rfl) : PD X Z (.Tuple es kk pos) r n (.tup l) := de_tup (h.to ⟨szk hz, rfl, rfl⟩)
theorem pd_lst (h : PDA X Z es r n l) (hz : Nat.ble l.length 1000 = true := by rfl) : PD X Z (.List es pos) r n (.lst l) := de_lst (h.to ⟨szk hz, rfl, rfl⟩)
def isSq : D → List D → Prop
  | .lst l, m => l = m
  | .rol l, m => l = m
  | .tup l, m => l = m
  | _, _ => False
theorem isSq.rep {K : PySem.W.Frag} {H : Hp} {v : V} (h : isSq x l) (rx : Rep K H n x v) : ∃ a vs, v = .ref a ∧ (SqL K H a vs ∨ SqT K H a vs) ∧ RepL K H n l vs := by
  cases x with
  | tup l' =>
    obtain ⟨a, vs, rfl, f, q⟩ := rx
    cases (show l' = l from h)
    exact ⟨a, vs, rfl, .inr f.sq, q⟩
  | lst l' =>
    obtain ⟨a, vs, rfl, f, q⟩ := rx
    cases (show l' = l from h)
    exact ⟨a, vs, rfl, .inl f.sq, q⟩
  | rol l' =>
    obtain ⟨a, vs, rfl, f, q⟩ := rx
    cases (show l' = l from h)
    exact ⟨a, vs, rfl, .inl f.sq, q⟩
  | _ => exact False.elim h
theorem atI_rep {K : PySem.W.Frag} {H : Hp} {vs : List V} (h : RepL K H n l vs) (e : atI l i = some x) : ∃ v, atI vs i = some v ∧ Rep K H n x v := by
  unfold atI at e ⊢
  rw [← h.length]
  cases q : ixN l.length i with
  | none => rw [q] at e; cases e
  | some k =>
    rw [q] at e
    exact h.get (i := k) e
theorem atI_of {α : Type} {xs : List α} {i : Int} {d : α} (h0 : 0 ≤ i) (h : xs[i.toNat]? = some d) : atI xs i = some d := by
  have hl := (List.getElem?_eq_some_iff.mp h).1
  unfold atI ixN
  rw [if_pos h0, if_pos (by omega)]
  exact h
theorem atI_ints {is : List Int} {i : Int} (h0 : 0 ≤ i) (h1 : i < is.length) : ∃ c, is[i.toNat]? = some c ∧ atI (is.map D.int) i = some (.int c) := by
  have hl : i.toNat < is.length := by omega
  refine ⟨is[i.toNat], List.getElem?_eq_getElem hl, atI_of h0 ?_⟩
  rw [List.getElem?_map, List.getElem?_eq_getElem hl]
  rfl
abbrev FIx : FOp := fun x y k Q => ∃ l i d, isSq x l ∧ y = .int i ∧ atI l i = some d ∧ Q d k
theorem od_ix : OpD X Z r (rIx X.K) FIx := fun Q x y k s H vx vy R ⟨l, i, d, h, ey, hd, q⟩ S rx ry hR => by
  subst ey
  obtain ⟨a, vs, rfl, f, rl⟩ := h.rep rx
  obtain ⟨v, hv, rv⟩ := atI_rep rl hd
  rcases f with f | f
  · exact .inl ⟨a, vs, i, v, rfl, ry, f, hv, hR _ _ (PoV.mk S rv q)⟩
  · exact .inr (.inl ⟨a, vs, i, v, rfl, ry, f, hv, hR _ _ (PoV.mk S rv q)⟩)
theorem de_ix (h : DE X Z a r n fun x m => DE X Z b r m fun y k => FIx x y k Q) (hs : PlainIx b := by intro _ _; rfl) : DE X Z (.Subscript a b pos) r n Q := de_index ix_seq od_ix h hs
theorem pd_ix (ha : PD X Z a r n x) (hb : PD X Z b r n (.int i)) (hx : isSq x l) (hd : atI l i = some y) (hs : PlainIx b := by intro _ _; rfl) : PD X Z (.Subscript a b pos) r n y := de_ix (ha.to (hb.to ⟨l, i, y, hx, rfl, hd, rfl, rfl⟩)) hs
abbrev FIo : FOp := fun x y k Q => ∃ a l i d, x = .ref a ∧ k a = some (.lst l) ∧ y = .int i ∧ atI l i = some d ∧ Q d k
theorem od_io : OpD X Z r (rIx X.K) FIo := fun Q x y k s H vx vy R ⟨a, l, i, d, ex, ha, ey, hd, q⟩ S rx ry hR => by
  subst ex; subst ey
  cases rx
  obtain ⟨vs, hp, rl⟩ := S.own a _ ha
  obtain ⟨v, hv, rv⟩ := atI_rep rl hd
  exact .inl ⟨a, vs, i, v, rfl, ry, SqL.of hp, hv, hR _ _ (PoV.mk S rv q)⟩
theorem de_ixo (h : DE X Z a r n fun x m => DE X Z b r m fun y k => FIo x y k Q) (hs : PlainIx b := by intro _ _; rfl) : DE X Z (.Subscript a b pos) r n Q := de_index ix_seq od_io h hs
theorem pd_ixo {q : Addr} (ha : PD X Z a r n (.ref q)) (hb : PD X Z b r n (.int i)) (hx : n q = some (.lst l)) (hd : atI l i = some y) (hs : PlainIx b := by intro _ _; rfl) : PD X Z (.Subscript a b pos) r n y := de_ixo (ha.to (hb.to ⟨q, l, i, y, rfl, hx, rfl, hd, rfl, rfl⟩)) hs
abbrev FIs1 : FOp := fun x y k Q => ∃ z i c, x = .str z ∧ y = .int i ∧ z.length ≤ sizeLine ∧ atI z.cps.toList i = some c ∧ Q (.str ⟨#[c]⟩) k
theorem od_is1 : OpD X Z r (rIx X.K) FIs1 := fun Q x y k s H vx vy R ⟨z, i, c, ex, ey, hz, hd, q⟩ S rx ry hR => by
  subst ex; subst ey
  exact .inr (.inr ⟨z, i, c, rx, ry, hz, hd, hR _ _ (PoV.mk S Rep.s q)⟩)
theorem de_ixs (h : DE X Z a r n fun x m => DE X Z b r m fun y k => FIs1 x y k Q) (hs : PlainIx b := by intro _ _; rfl) : DE X Z (.Subscript a b pos) r n Q := de_index ix_seq od_is1 h hs
theorem pd_ixs {z : Str} {cc : Nat} (ha : PD X Z a r n (.str z)) (hb : PD X Z b r n (.int i)) (hz : z.length ≤ sizeLine) (hd : atI z.cps.toList i = some cc) (hs : PlainIx b := by intro _ _; rfl) : PD X Z (.Subscript a b pos) r n (.str ⟨#[cc]⟩) :=
  de_ixs (ha.to (hb.to ⟨z, i, cc, rfl, rfl, hz, hd, rfl, rfl⟩)) hs
def cutA {α : Type} (xs : List α) (lo hi : Option Int) : List α := (xs.drop (HT.sIx xs.length 0 lo)).take (HT.sIx xs.length xs.length hi - HT.sIx xs.length 0 lo)
theorem RepL.cut {K : PySem.W.Frag} {H : Hp} {vs : List V} {lo hi : Option Int} (h : RepL K H n l vs) : RepL K H n (cutA l lo hi) (cutV vs lo hi) := by
  unfold cutA cutV
  rw [h.length]
  exact RepL.take _ (RepL.drop _ h)
def DP (X : Cx) (Z : Hp × DH) (e : Option Expr) (r : Rho) (n : DH) (o : Option Int) : Prop := match e, o with
  | none, none => True
  | some e, some i => PD X Z e r n (.int i)
  | _, _ => False
def tPo (X : Cx) : Option Expr → TO
  | none => tNoPart
  | some e => tPart (tW X e)
theorem po_W {e : Option Expr} : PO X e (tPo X e) := by
  cases e with
  | none => exact po_none
  | some e => exact po_some pe_W
theorem DP.use {e : Option Expr} {o : Option Int} {s : L2.St} {H : Hp} {R : Option Int → Hp → Prop} (h : DP X Z e r n o) (S : Sat X.K Z r n s H) (k : ∀ H', Ext H n H' n → Sat X.K Z r n s H' → R o H') : tPo X e s H R := by
  cases e with
  | none =>
    cases o with
    | none => exact k H Ext.refl S
    | some i => exact False.elim h
  | some e =>
    cases o with
    | none => exact False.elim h
    | some i =>
      refine DE.use (Q := fun x m => x = .int i ∧ m = n) h S fun d m v H1 e1 S1 R1 ⟨ed, em⟩ => ?_
      subst ed; subst em
      exact ⟨i, R1, k H1 e1 S1⟩
theorem dp_n : DP X Z none r n none := True.intro
theorem dp_s (h : PD X Z e r n (.int i)) : DP X Z (some e) r n (some i) := h
variable {lo hi : Option Expr} {p2 : Pos} {ol oh : Option Int}
theorem de_slice {rr : V → Option Int → Option Int → Hp → VK → Prop} (hr : SlR X rr) (ha : PD X Z a r n x) (h1 : DP X Z lo r n ol) (h2 : DP X Z hi r n oh) (hd : ∀ s H v R, Sat X.K Z r n s H → Rep X.K H n x v → (∀ v' H', PoV X.K Z H n r s Q v' H' → R v' H') → rr v ol oh H R) :
    DE X Z (.Subscript a (.Slice lo hi none p2) pos) r n Q :=
  DE.mk (pe_slice hr pe_W po_W po_W) fun s H S => DE.use ha S fun d m v H1 e1 S1 R1 ⟨ed, em⟩ => by
    subst ed; subst em
    exact h1.use S1 fun H2 e2 S2 => h2.use S2 fun H3 e3 S3 => hd s H3 v _ S3 (Rep.mono (e2.trans e3) _ _ R1) fun v' H' q => q.up (e1.trans (e2.trans e3))
theorem pd_slL (ha : PD X Z a r n x) (h1 : DP X Z lo r n ol) (h2 : DP X Z hi r n oh) (hx : x = .lst l ∨ x = .rol l) : PD X Z (.Subscript a (.Slice lo hi none p2) pos) r n (.lst (cutA l ol oh)) :=
  de_slice sl_list ha h1 h2 fun s H v R S rx hR => by
    have : ∃ a vs, v = .ref a ∧ SqL X.K H a vs ∧ RepL X.K H n l vs := by
      rcases hx with rfl | rfl
      · obtain ⟨a, vs, e, f, q⟩ := rx; exact ⟨a, vs, e, f.sq, q⟩
      · obtain ⟨a, vs, e, f, q⟩ := rx; exact ⟨a, vs, e, f.sq, q⟩
    obtain ⟨a, vs, rfl, f, q⟩ := this
    exact ⟨a, vs, rfl, f, fun p hp => hR _ _ (PoV.new S hp ⟨rfl, rfl⟩ (Rep.l ⟨S.own.free hp, upd_same⟩ (RepL.mono (Ext.new hp (S.own.free hp)) _ _ q.cut)))⟩
theorem sIx_whole {k : Nat} {lo hi : Option Int} (h : HT.sIx k 0 lo = 0 ∧ HT.sIx k k hi = k) {α : Type} {xs : List α} (hk : xs.length = k) : cutA xs lo hi = xs := by
  unfold cutA
  rw [hk, h.1, h.2, List.drop_zero, Nat.sub_zero, ← hk, List.take_length]
theorem pd_slT (ha : PD X Z a r n (.tup l)) (h1 : DP X Z lo r n ol) (h2 : DP X Z hi r n oh) : PD X Z (.Subscript a (.Slice lo hi none p2) pos) r n (.tup (cutA l ol oh)) :=
  de_slice sl_tupA ha h1 h2 fun s H v R S rx hR => by
    obtain ⟨a, vs, rfl, f, q⟩ := rx
    refine ⟨a, vs, rfl, f.sq, fun hw => hR _ _ ?_, fun _ p hp => hR _ _ (PoV.new S hp ⟨rfl, rfl⟩ (Rep.t (.inl ⟨S.own.free hp, upd_same⟩) (RepL.mono (Ext.new hp (S.own.free hp)) _ _ q.cut)))⟩
    refine PoV.mk S ?_ ⟨rfl, rfl⟩
    rw [sIx_whole hw q.length]
    exact Rep.t f q
theorem pd_slS {z : Str} (ha : PD X Z a r n (.str z)) (h1 : DP X Z lo r n ol) (h2 : DP X Z hi r n oh) (hz : z.length ≤ sizeLine) : PD X Z (.Subscript a (.Slice lo hi none p2) pos) r n (.str (cutS z ol oh)) :=
  de_slice sl_str ha h1 h2 fun s H v R S rx hR => ⟨z, rx, hz, hR _ _ (PoV.mk S Rep.s ⟨rfl, rfl⟩)⟩
theorem pd_slO {q : Addr} (ha : PD X Z a r n (.ref q)) (hq : n q = some (.lst l)) (h1 : DP X Z lo r n ol) (h2 : DP X Z hi r n oh) : PD X Z (.Subscript a (.Slice lo hi none p2) pos) r n (.lst (cutA l ol oh)) :=
  de_slice sl_list ha h1 h2 fun s H v R S rx hR => by
    cases rx
    obtain ⟨vs, hp, rl⟩ := S.own q _ hq
    exact ⟨q, vs, rfl, SqL.of hp, fun p hp => hR _ _ (PoV.new S hp ⟨rfl, rfl⟩ (Rep.l ⟨S.own.free hp, upd_same⟩ (RepL.mono (Ext.new hp (S.own.free hp)) _ _ rl.cut)))⟩
theorem de_slOO {q : Addr} (ha : PD X Z a r n (.ref q)) (hq : n q = some (.lst l)) (h1 : DP X Z lo r n ol) (h2 : DP X Z hi r n oh) (k : ∀ p, n p = none → Q (.ref p) (dupd n p (.lst (cutA l ol oh)))) : DE X Z (.Subscript a (.Slice lo hi none p2) pos) r n Q :=
  de_slice sl_list ha h1 h2 fun s H v R S rx hR => by
    cases rx
    obtain ⟨vs, hp, rl⟩ := S.own q _ hq
    exact ⟨q, vs, rfl, SqL.of hp, fun p hp => hR _ _ ⟨.ref p, dupd n p (.lst (cutA l ol oh)), Ext.newO hp, S.newO hp ⟨_, upd_same, RepL.mono (Ext.newO hp) _ _ rl.cut⟩, Rep.rf, k p (S.own.free hp)⟩⟩
theorem pd_addS {z w : Str} (ha : PD X Z a r n (.str z)) (hb : PD X Z b r n (.str w)) (hz : z.length + w.length ≤ sizeLine) : PD X Z (.BinOp a .Add b pos) r n (.str (z ++ w)) :=
  de_op (F := fun x y k Q => ∃ z w, x = .str z ∧ y = .str w ∧ z.length + w.length ≤ sizeLine ∧ Q (.str (z ++ w)) k) op_add_str (fun Q x y k s H vx vy R ⟨z, w, ex, ey, hz, q⟩ S rx ry hR => by
    subst ex; subst ey
    exact ⟨z, w, rx, ry, hz, hR _ _ (PoV.mk S Rep.s q)⟩) (ha.to (hb.to ⟨z, w, rfl, rfl, hz, rfl, rfl⟩))
abbrev FCat : FOp := fun x y k Q => ∃ l m, x = .lst l ∧ y = .lst m ∧ l.length + m.length ≤ sizeLine ∧ Q (.lst (l ++ m)) k
theorem od_cat : OpD X Z r rCat FCat := fun Q x y k s H vx vy R ⟨l, m, ex, ey, hz, q⟩ S rx ry hR => by
  subst ex; subst ey
  obtain ⟨a, vs, rfl, f, ql⟩ := rx
  obtain ⟨b, ws, rfl, g, qm⟩ := ry
  exact ⟨a, b, vs, ws, rfl, rfl, f.2, g.2, by rw [← ql.length, ← qm.length]; exact hz, fun p hp => hR _ _ (PoV.new S hp q (Rep.l ⟨S.own.free hp, upd_same⟩ (RepL.mono (Ext.new hp (S.own.free hp)) _ _ (ql.append qm))))⟩
theorem de_addL (h : DE X Z a r n fun x m => DE X Z b r m fun y k => FCat x y k Q) : DE X Z (.BinOp a .Add b pos) r n Q := de_op op_cat od_cat h
theorem pd_addL (ha : PD X Z a r n (.lst l)) (hb : PD X Z b r n (.lst m)) (hz : l.length + m.length ≤ sizeLine) : PD X Z (.BinOp a .Add b pos) r n (.lst (l ++ m)) := de_addL (ha.to (hb.to ⟨l, m, rfl, rfl, hz, rfl, rfl⟩))
abbrev FCatT : FOp := fun x y k Q => ∃ l m, x = .tup l ∧ y = .tup m ∧ l.length + m.length ≤ sizeLine ∧ Q (.tup (l ++ m)) k
theorem od_catT : OpD X Z r (rCatA X.K) FCatT := fun Q x y k s H vx vy R ⟨l, m, ex, ey, hz, q⟩ S rx ry hR => by
  subst ex; subst ey
  obtain ⟨a, vs, rfl, f, ql⟩ := rx
  obtain ⟨b, ws, rfl, g, qm⟩ := ry
  refine ⟨a, b, vs, ws, rfl, rfl, f.sq, g.sq, by rw [← ql.length, ← qm.length]; exact hz, fun h => ?_, fun _ h => ?_, fun _ _ p hp => hR _ _ (PoV.new S hp q (Rep.t (.inl ⟨S.own.free hp, upd_same⟩) (RepL.mono (Ext.new hp (S.own.free hp)) _ _ (ql.append qm))))⟩
  · have z : l = [] := List.eq_nil_of_length_eq_zero (by rw [ql.length, h]; rfl)
    subst z
    exact hR _ _ (PoV.mk S (Rep.t g qm) q)
  · have z : m = [] := List.eq_nil_of_length_eq_zero (by rw [qm.length, h]; rfl)
    subst z
    rw [List.append_nil] at q
    exact hR _ _ (PoV.mk S (Rep.t f ql) q)
theorem de_addT (h : DE X Z a r n fun x m => DE X Z b r m fun y k => FCatT x y k Q) : DE X Z (.BinOp a .Add b pos) r n Q := de_op op_catA od_catT h
theorem pd_addT (ha : PD X Z a r n (.tup l)) (hb : PD X Z b r n (.tup m)) (hz : l.length + m.length ≤ sizeLine) : PD X Z (.BinOp a .Add b pos) r n (.tup (l ++ m)) := de_addT (ha.to (hb.to ⟨l, m, rfl, rfl, hz, rfl, rfl⟩))
theorem RepL.flat {K : PySem.W.Frag} {H : Hp} {vs : List V} (h : RepL K H n l vs) : ∀ k : Nat, RepL K H n (List.replicate k l).flatten (List.replicate k vs).flatten
  | 0 => RepL.nil
  | k + 1 => by
    rw [List.replicate_succ, List.replicate_succ, List.flatten_cons, List.flatten_cons]
    exact h.append (RepL.flat h k)
theorem pd_mulL (ha : PD X Z a r n (.lst l)) (hb : PD X Z b r n (.int i)) (h1 : -(2 ^ 63) ≤ i) (h2 : i < 2 ^ 63) (hz : l.length * i.toNat ≤ sizeLine) : PD X Z (.BinOp a .Mult b pos) r n (.lst (List.replicate i.toNat l).flatten) :=
  de_op (F := fun x y k Q => ∃ l i, x = .lst l ∧ y = .int i ∧ -(2 ^ 63) ≤ i ∧ i < 2 ^ 63 ∧ l.length * i.toNat ≤ sizeLine ∧ Q (.lst (List.replicate i.toNat l).flatten) k) op_rep (fun Q x y k s H vx vy R ⟨l, i, ex, ey, h1, h2, hz, q⟩ S rx ry hR => by
    subst ex; subst ey
    obtain ⟨a, vs, rfl, f, ql⟩ := rx
    exact ⟨a, i, vs, rfl, ry, f.2, h1, h2, by rw [← ql.length]; exact hz, fun p hp => hR _ _ (PoV.new S hp q (Rep.l ⟨S.own.free hp, upd_same⟩ (RepL.mono (Ext.new hp (S.own.free hp)) _ _ (ql.flat _))))⟩) (ha.to (hb.to ⟨l, i, rfl, rfl, h1, h2, hz, rfl, rfl⟩))
def dflat : D → Bool
  | .non => true
  | .bl _ => true
  | .int _ => true
  | .str _ => true
  | _ => false
def deqv : D → D → Bool
  | .non, .non => true
  | .bl a, .bl b => a == b
  | .bl a, .int b => (if a then 1 else 0) == b
  | .int a, .bl b => a == (if b then 1 else 0)
  | .int a, .int b => a == b
  | .str a, .str b => decide (a = b)
  | _, _ => false
theorem dflat_v {K : PySem.W.Frag} {H : Hp} {v : V} (h : dflat x = true) (rx : Rep K H n x v) : flatV v = true := by
  cases x <;> simp only [dflat, reduceCtorEq] at h <;> (cases rx; rfl)
theorem deqv_v {K : PySem.W.Frag} {H : Hp} {v w : V} (hx : dflat x = true) (hy : dflat y = true) (rx : Rep K H n x v) (ry : Rep K H n y w) : eqV v w = deqv x y := by
  cases x <;> simp only [dflat, reduceCtorEq] at hx <;> cases y <;> simp only [dflat, reduceCtorEq] at hy <;> (cases rx; cases ry; rfl)
theorem RepL.flats {K : PySem.W.Frag} {H : Hp} : ∀ {l : List D} {vs : List V}, l.all dflat = true → RepL K H n l vs → vs.all flatV = true
  | [], _, _, h => by
    have h : _ = [] := h
    rw [h]
    rfl
  | d :: ds, _, hl, h => by
    obtain ⟨v, w, rfl, q1, q2⟩ := h
    rw [List.all_cons, Bool.and_eq_true] at hl ⊢
    exact ⟨dflat_v hl.1 q1, RepL.flats hl.2 q2⟩
theorem RepL.inV {K : PySem.W.Frag} {H : Hp} {v : V} (hx : dflat x = true) (rx : Rep K H n x v) : ∀ {l : List D} {vs : List V}, l.all dflat = true → RepL K H n l vs → inV v vs = l.any fun y => deqv y x
  | [], _, _, h => by
    have h : _ = [] := h
    rw [h]
    rfl
  | d :: ds, _, hl, h => by
    obtain ⟨w, ws, rfl, q1, q2⟩ := h
    rw [List.all_cons, Bool.and_eq_true] at hl
    have ih : L2.inV v ws = _ := RepL.inV hx rx hl.2 q2
    unfold L2.inV at ih ⊢
    rw [List.any_cons, List.any_cons, ih, deqv_v hl.1 hx q1 rx]
abbrev FIn (g : Bool → Bool) : FOp := fun x y k Q => ∃ l, isSq y l ∧ dflat x = true ∧ l.all dflat = true ∧ Q (.bl (g (l.any fun y => deqv y x))) k
theorem od_in : OpD X Z r (rIn X.K false) (FIn id) := fun Q x y k s H vx vy R ⟨l, h, hx, hl, q⟩ S rx ry hR => by
  obtain ⟨a, vs, rfl, f, rl⟩ := h.rep ry
  refine ⟨a, vs, rfl, f, dflat_v hx rx, RepL.flats hl rl, ?_⟩
  have e := RepL.inV hx rx hl rl
  rw [e]
  exact hR _ _ (PoV.mk S Rep.b q)
theorem od_nin : OpD X Z r (rIn X.K true) (FIn not) := fun Q x y k s H vx vy R ⟨l, h, hx, hl, q⟩ S rx ry hR => by
  obtain ⟨a, vs, rfl, f, rl⟩ := h.rep ry
  refine ⟨a, vs, rfl, f, dflat_v hx rx, RepL.flats hl rl, ?_⟩
  have e := RepL.inV hx rx hl rl
  rw [e]
  exact hR _ _ (PoV.mk S Rep.b q)
theorem pt_in (ha : PD X Z a r n x) (hb : PD X Z b r n y) (hy : isSq y l) (hx : dflat x = true) (hl : l.all dflat = true) (hm : behindInMarks .In b = false := by rfl) : PDT X Z (.Compare a [.In] [b] pos) r n (l.any fun y => deqv y x) :=
  dt_cmp op_in_seq od_in hm (ha.to (hb.to ⟨l, hy, hx, hl, _, rfl, rfl, rfl⟩))
theorem pt_nin (ha : PD X Z a r n x) (hb : PD X Z b r n y) (hy : isSq y l) (hx : dflat x = true) (hl : l.all dflat = true) (hm : behindInMarks .NotIn b = false := by rfl) : PDT X Z (.Compare a [.NotIn] [b] pos) r n (!l.any fun y => deqv y x) :=
  dt_cmp op_notIn_seq od_nin hm (ha.to (hb.to ⟨l, hy, hx, hl, _, rfl, rfl, rfl⟩))
theorem pd_in (ha : PD X Z a r n x) (hb : PD X Z b r n y) (hy : isSq y l) (hx : dflat x = true) (hl : l.all dflat = true) (hm : behindInMarks .In b = false := by rfl) : PD X Z (.Compare a [.In] [b] pos) r n (.bl (l.any fun y => deqv y x)) :=
  de_cmp op_in_seq od_in hm (ha.to (hb.to ⟨l, hy, hx, hl, rfl, rfl⟩))
theorem pt_inS {cc : Nat} {z : Str} (ha : PD X Z a r n (.str ⟨#[cc]⟩)) (hb : PD X Z b r n (.str z)) (hm : behindInMarks .In b = false := by rfl) : PDT X Z (.Compare a [.In] [b] pos) r n (decide (cc ∈ z.cps.toList)) :=
  dt_cmp (F := fun x y k Q => ∃ c z, x = .str ⟨#[c]⟩ ∧ y = .str z ∧ Q (.bl (decide (c ∈ z.cps.toList))) k) op_in_sign (fun Q x y k s H vx vy R ⟨c, z, ex, ey, q⟩ S rx ry hR => by
    subst ex; subst ey
    exact ⟨c, z, rx, ry, hR _ _ (PoV.mk S Rep.b q)⟩) hm (ha.to (hb.to ⟨cc, z, rfl, rfl, _, rfl, rfl, rfl⟩))
def CaD (X : Cx) (Z : Hp × DH) (r : Rho) (rr : List V → Hp → VK → Prop) (F : List D → DH → (D → DH → Prop) → Prop) : Prop := ∀ (Q : D → DH → Prop) (ds : List D) (k : DH) (s : L2.St) (H : Hp) (vs : List V) (R : VK), F ds k Q → Sat X.K Z r k s H → RepL X.K H k ds vs →
  (∀ v H', PoV X.K Z H k r s Q v H' → R v H') → rr vs H R
variable {rr : List V → Hp → VK → Prop} {F : List D → DH → (D → DH → Prop) → Prop} {f : Str} {id T : String}
theorem de_callB (hc : CallR X (.builtin id) rr) (hd : CaD X Z r rr F) (hm : X.mg f = none) (hv : bootBuiltins f = some (.builtin id)) (h : DA X Z (e :: es) r n fun ds m => F ds m Q) (hg : Gl X f := by rfl) (hn : f ≠ "__name__" := by decide) (hdb : (f == ("__debug__" : Str)) = false := by decide)
    (he : starEach (e :: es) X.env = (false, eval e X.env) :: starEach es X.env := by rfl) (hpl : (backTo pos (starEach es X.env)).any (·.1) = false := by rfl) : DE X Z (.Call (.Name f p) (e :: es) [] pos) r n Q :=
  DE.mk (pe_callB hc hg hm hv pa_W hn hdb he hpl) fun s H S => h.use S fun ds m vs H1 e1 S1 R1 q => hd Q ds m s H1 vs _ q S1 R1 fun v H' q => q.up e1
theorem de_callTy (hc : CallR X (.type T) rr) (hd : CaD X Z r rr F) (hm : X.mg f = none) (hv : bootBuiltins f = some (.type T)) (h : DA X Z (e :: es) r n fun ds m => F ds m Q) (hg : Gl X f := by rfl) (hn : f ≠ "__name__" := by decide) (hdb : (f == ("__debug__" : Str)) = false := by decide)
    (he : starEach (e :: es) X.env = (false, eval e X.env) :: starEach es X.env := by rfl) (hpl : (backTo pos (starEach es X.env)).any (·.1) = false := by rfl) : DE X Z (.Call (.Name f p) (e :: es) [] pos) r n Q :=
  DE.mk (pe_callTy hc hg hm hv pa_W hn hdb he hpl) fun s H S => h.use S fun ds m vs H1 e1 S1 R1 q => hd Q ds m s H1 vs _ q S1 R1 fun v H' q => q.up e1
end
end G3
set_option Elab.async false
set_option linter.all false
set_option maxRecDepth 100000
set_option maxHeartbeats 2000000
namespace G3
open PySem PySem.Spec PyProof.Rows L2
section
variable {X : Cx} {Z : Hp × DH} {r : Rho} {n : DH} {e o a b c : Expr} {es : List Expr} {pos p apos cpos : Pos} {Q : D → DH → Prop} {QB : Bool → DH → Prop} {QA : List D → DH → Prop} {x y : D} {i j : Int} {l m : List D} {f : Str} {id T : String}
abbrev FA := List D → DH → (D → DH → Prop) → Prop
theorem da_one (h : DE X Z e r n fun x m => QA [x] m) (hs : starEach (e :: []) X.env = (false, eval e X.env) :: starEach [] X.env := by rfl) : DA X Z [e] r n QA := da_cons (h.imp fun _ _ q => da_nil q) hs
inductive HasLen (n : DH) : D → Nat → Prop where
  | sq {d : D} {ds : List D} (h : isSq d ds) : HasLen n d ds.length
  | str {z : Str} (h : z.length ≤ sizeLine) : HasLen n (.str z) z.length
  | own {q : Addr} {ds : List D} (h : n q = some (.lst ds)) : HasLen n (.ref q) ds.length
abbrev FLen : FA := fun ds k Q => ∃ (x : D) (m : Nat), ds = [x] ∧ HasLen k x m ∧ Q (.int m) k
theorem ca_len : CaD X Z r (fun xs H Q => ∃ x n, xs = [x] ∧ LenV X.K x H n ∧ Q (.int n) H) FLen := fun Q ds k s H vs R ⟨x, m, e, h, q⟩ S rx hR => by
  subst e
  obtain ⟨v, vr, rfl, r1, r2⟩ := rx
  have r2 : vr = [] := r2
  subst r2
  refine ⟨v, m, rfl, ?_, hR _ _ (PoV.mk S Rep.i q)⟩
  cases h with
  | sq h =>
    obtain ⟨a, vs, rfl, g, rl⟩ := h.rep r1
    rcases g with g | g
    · exact .inl ⟨_, g, rl.length⟩
    · exact .inr ⟨_, g, rl.length⟩
  | str h =>
    have r1 : v = .str _ := r1
    subst r1
    exact ⟨h, rfl⟩
  | own h =>
    cases r1
    obtain ⟨ws, hp, rl⟩ := S.own _ _ h
    exact .inl ⟨_, SqL.of hp, rl.length⟩
theorem de_len (hm : X.mg "len" = none) (h : DE X Z e r n fun x k => ∃ m : Nat, HasLen k x m ∧ Q (.int m) k) (hg : Gl X "len" := by rfl) (hs : starEach (e :: []) X.env = (false, eval e X.env) :: starEach [] X.env := by rfl) (hpl : (backTo pos (starEach [] X.env)).any (·.1) = false := by rfl) : DE X Z (.Call (.Name "len" p) [e] [] pos) r n Q :=
  de_callB call_len ca_len hm PySem.boot_len (da_one (h.imp fun x k ⟨m, h, q⟩ => ⟨x, m, rfl, h, q⟩) hs) hg (by decide) (by decide) hs hpl
theorem pd_len {k : Nat} (hm : X.mg "len" = none) (h : PD X Z e r n x) (hx : HasLen n x k) (hg : Gl X "len" := by rfl) (hs : starEach (e :: []) X.env = (false, eval e X.env) :: starEach [] X.env := by rfl) (hpl : (backTo pos (starEach [] X.env)).any (·.1) = false := by rfl) : PD X Z (.Call (.Name "len" p) [e] [] pos) r n (.int k) :=
  de_len hm (h.to ⟨k, hx, rfl, rfl⟩) hg hs hpl
theorem de_int1 (hm : X.mg "int" = none) (h : DE X Z e r n fun x k => ∃ i, (x = .int i ∨ ∃ t : Bool, x = .bl t ∧ i = if t then 1 else 0) ∧ Q (.int i) k) (hg : Gl X "int" := by rfl) (hs : starEach (e :: []) X.env = (false, eval e X.env) :: starEach [] X.env := by rfl) (hpl : (backTo pos (starEach [] X.env)).any (·.1) = false := by rfl) : DE X Z (.Call (.Name "int" p) [e] [] pos) r n Q :=
  de_callTy (F := fun ds k Q => ∃ x i, ds = [x] ∧ (x = .int i ∨ ∃ t : Bool, x = .bl t ∧ i = if t then 1 else 0) ∧ Q (.int i) k) call_int1 (fun Q ds k s H vs R ⟨x, i, e, h, q⟩ S rx hR => by
    subst e
    obtain ⟨v, vr, rfl, r1, r2⟩ := rx
    have r2 : vr = [] := r2
    subst r2
    rcases h with rfl | ⟨t, rfl, rfl⟩
    · exact .inl ⟨i, by rw [show v = V.int i from r1], hR _ _ (PoV.mk S Rep.i q)⟩
    · exact .inr ⟨t, by rw [show v = V.bl t from r1], hR _ _ (PoV.mk S Rep.i q)⟩) hm (by decide +kernel) (da_one (h.imp fun x k ⟨i, h, q⟩ => ⟨x, i, rfl, h, q⟩) hs) hg (by decide) (by decide) hs hpl
theorem pd_int1 (hm : X.mg "int" = none) (h : PD X Z e r n (.int i)) (hg : Gl X "int" := by rfl) (hs : starEach (e :: []) X.env = (false, eval e X.env) :: starEach [] X.env := by rfl) (hpl : (backTo pos (starEach [] X.env)).any (·.1) = false := by rfl) : PD X Z (.Call (.Name "int" p) [e] [] pos) r n (.int i) :=
  de_int1 hm (h.to ⟨i, .inl rfl, rfl, rfl⟩) hg hs hpl
theorem pd_intB {t : Bool} (hm : X.mg "int" = none) (h : PD X Z e r n (.bl t)) (hg : Gl X "int" := by rfl) (hs : starEach (e :: []) X.env = (false, eval e X.env) :: starEach [] X.env := by rfl) (hpl : (backTo pos (starEach [] X.env)).any (·.1) = false := by rfl) : PD X Z (.Call (.Name "int" p) [e] [] pos) r n (.int (if t then 1 else 0)) :=
  de_int1 hm (h.to ⟨_, .inr ⟨t, rfl, rfl⟩, rfl, rfl⟩) hg hs hpl
theorem pd_intS {z : Str} (hm : X.mg "int" = none) (h : PD X Z e r n (.str z)) (hi : PySem.intText? z = some i) (hz : z.length ≤ 640) (hg : Gl X "int" := by rfl) (hs : starEach (e :: []) X.env = (false, eval e X.env) :: starEach [] X.env := by rfl) (hpl : (backTo pos (starEach [] X.env)).any (·.1) = false := by rfl) : PD X Z (.Call (.Name "int" p) [e] [] pos) r n (.int i) :=
  de_callTy (F := fun ds k Q => ds = [.str z] ∧ Q (.int i) k) call_int_str (fun Q ds k s H vs R ⟨e, q⟩ S rx hR => by
    subst e
    obtain ⟨v, vr, rfl, r1, r2⟩ := rx
    have r2 : vr = [] := r2
    subst r2
    exact ⟨z, i, by rw [show v = V.str z from r1], hi, hz, hR _ _ (PoV.mk S Rep.i q)⟩) hm (by decide +kernel) (da_one (h.to ⟨rfl, rfl, rfl⟩) hs) hg (by decide) (by decide) hs hpl
theorem pd_strI (hm : X.mg "str" = none) (h : PD X Z e r n (.int i)) (hi : i.natAbs.log2 < 1920) (hg : Gl X "str" := by rfl) (hs : starEach (e :: []) X.env = (false, eval e X.env) :: starEach [] X.env := by rfl) (hpl : (backTo pos (starEach [] X.env)).any (·.1) = false := by rfl) : PD X Z (.Call (.Name "str" p) [e] [] pos) r n (.str (toString i)) :=
  de_callTy (F := fun ds k Q => ds = [.int i] ∧ Q (.str (toString i)) k) call_str_int (fun Q ds k s H vs R ⟨e, q⟩ S rx hR => by
    subst e
    obtain ⟨v, vr, rfl, r1, r2⟩ := rx
    have r2 : vr = [] := r2
    subst r2
    exact ⟨i, by rw [show v = V.int i from r1], hi, hR _ _ (PoV.mk S Rep.s q)⟩) hm (by decide +kernel) (da_one (h.to ⟨rfl, rfl, rfl⟩) hs) hg (by decide) (by decide) hs hpl
inductive SqO (n : DH) : D → List D → Prop where
  | sq {d : D} {ds : List D} (h : isSq d ds) : SqO n d ds
  | own {q : Addr} {ds : List D} (h : n q = some (.lst ds)) : SqO n (.ref q) ds
theorem SqO.rep {s : L2.St} {H : Hp} {v : V} (h : SqO n x l) (S : Sat X.K Z r n s H) (rx : Rep X.K H n x v) : ∃ a vs, v = .ref a ∧ (SqL X.K H a vs ∨ SqT X.K H a vs) ∧ RepL X.K H n l vs := by
  cases h with
  | sq h => exact h.rep rx
  | own h =>
    cases rx
    obtain ⟨ws, hp, rl⟩ := S.own _ _ h
    exact ⟨_, ws, rfl, .inl (SqL.of hp), rl⟩
abbrev FTup : FA := fun ds k Q => ∃ x l, ds = [x] ∧ SqO k x l ∧ Q (.tup l) k
theorem ca_tup : CaD X Z r (fun xs H Q => ∃ p ys, xs = [.ref p] ∧ ((SqL X.K H p ys ∧ ∀ l, H l = none → Q (.ref l) (upd H l (.tup ys))) ∨ (SqT X.K H p ys ∧ Q (.ref p) H))) FTup := fun Q ds k s H vs R ⟨x, l, e, h, q⟩ S rx hR => by
  subst e
  obtain ⟨v, vr, rfl, r1, r2⟩ := rx
  have r2 : vr = [] := r2
  subst r2
  have new : ∀ {a ws}, SqL X.K H a ws → RepL X.K H k l ws → ∀ p, H p = none → R (.ref p) (upd H p (.tup ws)) := fun {a ws} _ rl p hp => hR _ _ (PoV.new S hp q (Rep.t (.inl ⟨S.own.free hp, upd_same⟩) (RepL.mono (Ext.new hp (S.own.free hp)) _ _ rl)))
  cases h with
  | own h =>
    cases r1
    obtain ⟨ws, hp, rl⟩ := S.own _ _ h
    exact ⟨_, ws, rfl, .inl ⟨SqL.of hp, new (SqL.of hp) rl⟩⟩
  | sq h =>
    cases x with
    | tup l' =>
      cases (show l' = l from h)
      obtain ⟨a, ws, rfl, g, rl⟩ := r1
      exact ⟨a, ws, rfl, .inr ⟨g.sq, hR _ _ (PoV.mk S (Rep.t g rl) q)⟩⟩
    | lst l' =>
      cases (show l' = l from h)
      obtain ⟨a, ws, rfl, g, rl⟩ := r1
      exact ⟨a, ws, rfl, .inl ⟨g.sq, new g.sq rl⟩⟩
    | rol l' =>
      cases (show l' = l from h)
      obtain ⟨a, ws, rfl, g, rl⟩ := r1
      exact ⟨a, ws, rfl, .inl ⟨g.sq, new g.sq rl⟩⟩
    | _ => exact False.elim h
theorem de_tuple (hm : X.mg "tuple" = none) (h : DE X Z e r n fun x k => ∃ l, SqO k x l ∧ Q (.tup l) k) (hg : Gl X "tuple" := by rfl) (hs : starEach (e :: []) X.env = (false, eval e X.env) :: starEach [] X.env := by rfl) (hpl : (backTo pos (starEach [] X.env)).any (·.1) = false := by rfl) : DE X Z (.Call (.Name "tuple" p) [e] [] pos) r n Q :=
  de_callTy call_tuple_of ca_tup hm (by decide +kernel) (da_one (h.imp fun x k ⟨l, h, q⟩ => ⟨x, l, rfl, h, q⟩) hs) hg (by decide) (by decide) hs hpl
theorem pd_tuple (hm : X.mg "tuple" = none) (h : PD X Z e r n x) (hx : SqO n x l) (hg : Gl X "tuple" := by rfl) (hs : starEach (e :: []) X.env = (false, eval e X.env) :: starEach [] X.env := by rfl) (hpl : (backTo pos (starEach [] X.env)).any (·.1) = false := by rfl) : PD X Z (.Call (.Name "tuple" p) [e] [] pos) r n (.tup l) :=
  de_tuple hm (h.to ⟨l, hx, rfl, rfl⟩) hg hs hpl
theorem de_listO (hm : X.mg "list" = none) (h : DE X Z e r n fun x k => ∃ l, SqO k x l ∧ ((Q (.lst l) k) ∨ ∀ p, k p = none → Q (.ref p) (dupd k p (.lst l)))) (hg : Gl X "list" := by rfl) (hs : starEach (e :: []) X.env = (false, eval e X.env) :: starEach [] X.env := by rfl) (hpl : (backTo pos (starEach [] X.env)).any (·.1) = false := by rfl) : DE X Z (.Call (.Name "list" p) [e] [] pos) r n Q :=
  de_callTy (F := fun ds k Q => ∃ x l, ds = [x] ∧ SqO k x l ∧ ((Q (.lst l) k) ∨ ∀ p, k p = none → Q (.ref p) (dupd k p (.lst l)))) call_list_of (fun Q ds k s H vs R ⟨x, l, e, h, q⟩ S rx hR => by
    subst e
    obtain ⟨v, vr, rfl, r1, r2⟩ := rx
    have r2 : vr = [] := r2
    subst r2
    obtain ⟨a, ws, rfl, g, rl⟩ := h.rep S r1
    refine ⟨a, ws, rfl, g, fun p hp => hR _ _ ?_⟩
    rcases q with q | q
    · exact PoV.new S hp q (Rep.l ⟨S.own.free hp, upd_same⟩ (RepL.mono (Ext.new hp (S.own.free hp)) _ _ rl))
    · exact ⟨.ref p, dupd k p (.lst l), Ext.newO hp, S.newO hp ⟨_, upd_same, RepL.mono (Ext.newO hp) _ _ rl⟩, Rep.rf, q p (S.own.free hp)⟩) hm (by decide +kernel) (da_one (h.imp fun x k ⟨l, h, q⟩ => ⟨x, l, rfl, h, q⟩) hs) hg (by decide) (by decide) hs hpl
theorem pd_list (hm : X.mg "list" = none) (h : PD X Z e r n x) (hx : SqO n x l) (hg : Gl X "list" := by rfl) (hs : starEach (e :: []) X.env = (false, eval e X.env) :: starEach [] X.env := by rfl) (hpl : (backTo pos (starEach [] X.env)).any (·.1) = false := by rfl) : PD X Z (.Call (.Name "list" p) [e] [] pos) r n (.lst l) :=
  de_listO hm (h.to ⟨l, hx, .inl ⟨rfl, rfl⟩⟩) hg hs hpl
theorem pd_sum {is : List Int} (hm : X.mg "sum" = none) (h : PD X Z e r n (.lst (is.map D.int))) (hc : X.calm = true := by rfl) (hg : Gl X "sum" := by rfl) (hs : starEach (e :: []) X.env = (false, eval e X.env) :: starEach [] X.env := by rfl) (hpl : (backTo pos (starEach [] X.env)).any (·.1) = false := by rfl) : PD X Z (.Call (.Name "sum" p) [e] [] pos) r n (.int is.sum) :=
  de_callB (F := fun ds k Q => ds = [.lst (is.map D.int)] ∧ Q (.int is.sum) k) (cr_sum hc) (fun Q ds k s H vs R ⟨e, q⟩ S rx hR => by
    subst e
    obtain ⟨v, vr, rfl, r1, r2⟩ := rx
    have r2 : vr = [] := r2
    subst r2
    obtain ⟨a, ws, rfl, g, rl⟩ := r1
    rw [rl.ints] at g
    exact ⟨a, is, rfl, g.sq, hR _ _ (PoV.mk S Rep.i q)⟩) hm (by decide +kernel) (da_one (h.to ⟨rfl, rfl, rfl⟩) hs) hg (by decide) (by decide) hs hpl
theorem pd_any {is : List Bool} (hm : X.mg "any" = none) (h : PD X Z e r n (.lst (is.map D.bl))) (hc : X.calm = true := by rfl) (hg : Gl X "any" := by rfl) (hs : starEach (e :: []) X.env = (false, eval e X.env) :: starEach [] X.env := by rfl) (hpl : (backTo pos (starEach [] X.env)).any (·.1) = false := by rfl) : PD X Z (.Call (.Name "any" p) [e] [] pos) r n (.bl (is.any _root_.id)) :=
  de_callB (F := fun ds k Q => ds = [.lst (is.map D.bl)] ∧ Q (.bl (is.any _root_.id)) k) (cr_any hc) (fun Q ds k s H vs R ⟨e, q⟩ S rx hR => by
    subst e
    obtain ⟨v, vr, rfl, r1, r2⟩ := rx
    have r2 : vr = [] := r2
    subst r2
    obtain ⟨a, ws, rfl, g, rl⟩ := r1
    rw [rl.bls] at g
    exact ⟨a, is, rfl, g.sq, hR _ _ (PoV.mk S Rep.b q)⟩) hm (by decide +kernel) (da_one (h.to ⟨rfl, rfl, rfl⟩) hs) hg (by decide) (by decide) hs hpl
theorem pd_all {is : List Bool} (hm : X.mg "all" = none) (h : PD X Z e r n (.lst (is.map D.bl))) (hc : X.calm = true := by rfl) (hg : Gl X "all" := by rfl) (hs : starEach (e :: []) X.env = (false, eval e X.env) :: starEach [] X.env := by rfl) (hpl : (backTo pos (starEach [] X.env)).any (·.1) = false := by rfl) : PD X Z (.Call (.Name "all" p) [e] [] pos) r n (.bl (is.all _root_.id)) :=
  de_callB (F := fun ds k Q => ds = [.lst (is.map D.bl)] ∧ Q (.bl (is.all _root_.id)) k) (cr_all hc) (fun Q ds k s H vs R ⟨e, q⟩ S rx hR => by
    subst e
    obtain ⟨v, vr, rfl, r1, r2⟩ := rx
    have r2 : vr = [] := r2
    subst r2
    obtain ⟨a, ws, rfl, g, rl⟩ := r1
    rw [rl.bls] at g
    exact ⟨a, is, rfl, g.sq, hR _ _ (PoV.mk S Rep.b q)⟩) hm (by decide +kernel) (da_one (h.to ⟨rfl, rfl, rfl⟩) hs) hg (by decide) (by decide) hs hpl
theorem pd_max2 (hm : X.mg "max" = none) (ha : PD X Z a r n (.int i)) (hb : PD X Z b r n (.int j)) (hc : X.calm = true := by rfl) (hg : Gl X "max" := by rfl) (hs : starEach (a :: [b]) X.env = (false, eval a X.env) :: starEach [b] X.env := by rfl) (hs2 : starEach (b :: []) X.env = (false, eval b X.env) :: starEach [] X.env := by rfl) (hpl : (backTo pos (starEach [b] X.env)).any (·.1) = false := by rfl) :
    PD X Z (.Call (.Name "max" p) [a, b] [] pos) r n (.int (if j > i then j else i)) :=
  de_callB (F := fun ds k Q => ds = [.int i, .int j] ∧ Q (.int (if j > i then j else i)) k) (call_max2 hc) (fun Q ds k s H vs R ⟨e, q⟩ S rx hR => by
    subst e
    obtain ⟨v, vr, rfl, r1, w, wr, rfl, r2, r3⟩ := rx
    have r3 : wr = [] := r3
    subst r3
    exact ⟨i, j, by rw [show v = V.int i from r1, show w = V.int j from r2], hR _ _ (PoV.mk S Rep.i q)⟩) hm (by decide +kernel) (da_cons (ha.to (da_cons (hb.to (da_nil ⟨rfl, rfl, rfl⟩)) hs2)) hs) hg (by decide) (by decide) hs hpl
theorem pd_min2 (hm : X.mg "min" = none) (ha : PD X Z a r n (.int i)) (hb : PD X Z b r n (.int j)) (hc : X.calm = true := by rfl) (hg : Gl X "min" := by rfl) (hs : starEach (a :: [b]) X.env = (false, eval a X.env) :: starEach [b] X.env := by rfl) (hs2 : starEach (b :: []) X.env = (false, eval b X.env) :: starEach [] X.env := by rfl) (hpl : (backTo pos (starEach [b] X.env)).any (·.1) = false := by rfl) :
    PD X Z (.Call (.Name "min" p) [a, b] [] pos) r n (.int (if j < i then j else i)) :=
  de_callB (F := fun ds k Q => ds = [.int i, .int j] ∧ Q (.int (if j < i then j else i)) k) (call_min2 hc) (fun Q ds k s H vs R ⟨e, q⟩ S rx hR => by
    subst e
    obtain ⟨v, vr, rfl, r1, w, wr, rfl, r2, r3⟩ := rx
    have r3 : wr = [] := r3
    subst r3
    exact ⟨i, j, by rw [show v = V.int i from r1, show w = V.int j from r2], hR _ _ (PoV.mk S Rep.i q)⟩) hm (by decide +kernel) (da_cons (ha.to (da_cons (hb.to (da_nil ⟨rfl, rfl, rfl⟩)) hs2)) hs) hg (by decide) (by decide) hs hpl
def dty : D → String
  | .non => "NoneType"
  | .bl _ => "bool"
  | .int _ => "int"
  | .str _ => "str"
  | .tup _ => "tuple"
  | .lst _ => "list"
  | .rol _ => "list"
  | .dct _ _ => "dict"
  | _ => ""
theorem dty_tyx {K : PySem.W.Frag} {H : Hp} {v : V} (hx : dty x ≠ "") (rx : Rep K H n x v) : TyX K H v (.type (dty x)) := by
  cases x with
  | non => cases rx; exact .base .non
  | bl b => cases rx; exact .base (.bl b)
  | int i => cases rx; exact .base (.int i)
  | str z => cases rx; exact .base (.str z)
  | tup l =>
    obtain ⟨a, vs, rfl, g, _⟩ := rx
    rcases g with ⟨_, g⟩ | ⟨o, its, k, g, gc, _⟩
    · exact .base (.tup g)
    · exact .kTuple g gc
  | lst l =>
    obtain ⟨a, vs, rfl, g, _⟩ := rx
    exact .base (.lst g.2)
  | rol l =>
    obtain ⟨a, vs, rfl, g, _⟩ := rx
    rcases g with ⟨_, g | ⟨o, g⟩⟩ | ⟨o, its, k, g, gc, _⟩
    · exact .base (.lst g)
    · exact .base (.frz g)
    · exact .kList g gc
  | dct ks l =>
    obtain ⟨a, vs, rfl, _, g, _⟩ := rx
    exact .base (.dK g)
  | ref a => exact absurd rfl hx
  | obj C ns l => exact absurd rfl hx
theorem de_isi {t : Str} {q : Pos} (hm : X.mg "isinstance" = none) (ht : X.mg t = none) (hT : bootBuiltins t = some (.type T)) (h : DE X Z e r n fun x k => dty x ≠ "" ∧ ∃ w, kitB (dty x) T = some w ∧ Q (.bl w) k) (hg : Gl X "isinstance" := by rfl) (hgt : Gl X t := by rfl) (hn : t ≠ "__name__" := by decide) (hd : (t == ("__debug__" : Str)) = false := by decide)
    (hs : starEach (e :: [Expr.Name t q]) X.env = (false, eval e X.env) :: starEach [Expr.Name t q] X.env := by rfl) (hs2 : starEach (Expr.Name t q :: []) X.env = (false, eval (Expr.Name t q) X.env) :: starEach [] X.env := by rfl) (hpl : (backTo pos (starEach [Expr.Name t q] X.env)).any (·.1) = false := by rfl) :
    DE X Z (.Call (.Name "isinstance" p) [e, .Name t q] [] pos) r n Q :=
  DE.mk (pe_callB call_isi hg hm (by decide +kernel) (pa_cons pe_W (pa_cons (pe_bltn (v := .ty T) hgt ht hT rfl hn hd) pa_nil hs2) hs) (by decide) (by decide) hs hpl) fun s H S => h.use S fun x k v H1 e1 S1 R1 ⟨hx, w, hw, q⟩ =>
    ⟨v, .ty T, _, _, w, rfl, ClsV.ty T, dty_tyx hx R1, kit_ty hw, PoV.up e1 (PoV.mk S1 Rep.b q)⟩
theorem pd_isi {t : Str} {w : Bool} {q : Pos} (hm : X.mg "isinstance" = none) (ht : X.mg t = none) (hT : bootBuiltins t = some (.type T)) (h : PD X Z e r n x) (hx : dty x ≠ "") (hw : kitB (dty x) T = some w) (hg : Gl X "isinstance" := by rfl) (hgt : Gl X t := by rfl) (hn : t ≠ "__name__" := by decide) (hd : (t == ("__debug__" : Str)) = false := by decide)
    (hs : starEach (e :: [Expr.Name t q]) X.env = (false, eval e X.env) :: starEach [Expr.Name t q] X.env := by rfl) (hs2 : starEach (Expr.Name t q :: []) X.env = (false, eval (Expr.Name t q) X.env) :: starEach [] X.env := by rfl) (hpl : (backTo pos (starEach [Expr.Name t q] X.env)).any (·.1) = false := by rfl) :
    PD X Z (.Call (.Name "isinstance" p) [e, .Name t q] [] pos) r n (.bl w) := de_isi hm ht hT (h.to ⟨hx, w, hw, rfl, rfl⟩) hg hgt hn hd hs hs2 hpl
theorem de_bm {rr : V → List V → Hp → VK → Prop} {name : Str} (pa : PlainAttrs T) (slot : Slot T name id) (hty : typeOf (.builtin id) = pure (.type "method_descriptor")) (hm : MtR X id rr)
    (h : DE X Z o r n fun x m => (∀ s H v, Sat X.K Z r m s H → Rep X.K H m x v → tyV X.K T v H) ∧ DA X Z (e :: es) r m fun ds k => ∀ s H v vs R, Sat X.K Z r k s H → (Rep X.K H k x v) → RepL X.K H k ds vs → (∀ v' H', PoV X.K Z H k r s Q v' H' → R v' H') → rr v vs H R)
    (hbase : attributeBase o name X.env (eval o X.env) = eval o X.env := by rfl)
    (hfew : ((backTo cpos (starEach (e :: es) X.env)).all (fun x => !x.1) && (backToKw cpos (keywordEach [] X.env)).all (fun x => x.1.isSome)
      && decide ((e :: es).length + ([] : List Keyword).length + (if ([] : List Keyword).isEmpty then 0 else 1) < 30)) = true := by rfl)
    (hline : (apos.endLine == cpos.line) = true := by rfl) (hs : starEach (e :: es) X.env = (false, eval e X.env) :: starEach es X.env := by rfl) (hplain : (backTo cpos (starEach es X.env)).any (·.1) = false := by rfl) :
    DE X Z (.Call (.Attribute o name apos) (e :: es) [] cpos) r n Q :=
  DE.mk (pe_bm pa slot hty hm pe_W pa_W hbase hfew hline hs hplain) fun s H S => h.use S fun x m v H1 e1 S1 R1 ⟨ty, q⟩ => ⟨ty s H1 v S1 R1, q.use S1 fun ds k vs H2 e2 S2 R2 q2 => q2 s H2 v vs _ S2 (Rep.mono e2 _ _ R1) R2 fun v' H' q3 => q3.up (e1.trans e2)⟩
theorem de_bm0 {rr : V → List V → Hp → VK → Prop} {name : Str} (pa : PlainAttrs T) (slot : Slot T name id) (hty : typeOf (.builtin id) = pure (.type "method_descriptor")) (hm : MtR X id rr)
    (h : DE X Z o r n fun x k => ∀ s H v R, Sat X.K Z r k s H → Rep X.K H k x v → (∀ v' H', PoV X.K Z H k r s Q v' H' → R v' H') → tyV X.K T v H ∧ rr v [] H R)
    (hbase : attributeBase o name X.env (eval o X.env) = eval o X.env := by rfl) (hline : (apos.endLine == cpos.line) = true := by rfl) : DE X Z (.Call (.Attribute o name apos) [] [] cpos) r n Q :=
  DE.mk (pe_bm0 pa slot hty hm pe_W hbase hline) fun s H S => h.use S fun x k v H1 e1 S1 R1 q => q s H1 v _ S1 R1 fun v' H' q3 => q3.up e1
theorem tyO {q : Addr} (hq : n q = some (.lst l)) : ∀ s H v, Sat X.K Z r n s H → Rep X.K H n (.ref q) v → tyV X.K "list" v H := fun s H v S rx => by
  cases rx
  obtain ⟨ws, hp, rl⟩ := S.own _ _ hq
  exact .inl ⟨rfl, ws, SqL.of hp⟩
theorem de_append {q : Addr} (ho : PD X Z o r n (.ref q)) (hq0 : n q = some (.lst l)) (h : DE X Z e r n fun x k => ∃ l', k q = some (.lst l') ∧ l'.length < sizeLine ∧ Q .non (dupd k q (.lst (l' ++ [x]))))
    (hbase : attributeBase o "append" X.env (eval o X.env) = eval o X.env := by rfl)
    (hfew : ((backTo cpos (starEach (e :: []) X.env)).all (fun x => !x.1) && (backToKw cpos (keywordEach [] X.env)).all (fun x => x.1.isSome)
      && decide ((e :: []).length + ([] : List Keyword).length + (if ([] : List Keyword).isEmpty then 0 else 1) < 30)) = true := by rfl)
    (hline : (apos.endLine == cpos.line) = true := by rfl) (hs : starEach (e :: []) X.env = (false, eval e X.env) :: starEach [] X.env := by rfl) (hplain : (backTo cpos (starEach [] X.env)).any (·.1) = false := by rfl) :
    DE X Z (.Call (.Attribute o "append" apos) [e] [] cpos) r n Q :=
  de_bm PySem.F.plainAttrs_list PySem.F.slot_list_append PySem.F.type_list_append mt_append (ho.to ⟨tyO hq0, da_cons (h.imp fun x k ⟨l', hq, hz, q⟩ => da_nil fun s H v vs R S rx rl hR => by
    cases rx
    obtain ⟨v, vr, rfl, r1, r2⟩ := rl
    have r2 : vr = [] := r2
    subst r2
    obtain ⟨ws, hp, rw'⟩ := S.own _ _ hq
    exact ⟨_, ws, v, rfl, rfl, hp, by rw [← rw'.length]; exact hz, hR _ _ (PoV.wrL S hq (rw'.append (RepL.one r1)) Rep.no q)⟩) hs⟩) hbase hfew hline hs hplain
theorem de_popAt {q : Addr} (ho : PD X Z o r n (.ref q)) (hq0 : n q = some (.lst l)) (h : DE X Z e r n fun x k => ∃ l' i d, x = .int i ∧ k q = some (.lst l') ∧ 0 ≤ i ∧ i < 2 ^ 63 ∧ l'[i.toNat]? = some d ∧ Q d (dupd k q (.lst (l'.eraseIdx i.toNat))))
    (hbase : attributeBase o "pop" X.env (eval o X.env) = eval o X.env := by rfl)
    (hfew : ((backTo cpos (starEach (e :: []) X.env)).all (fun x => !x.1) && (backToKw cpos (keywordEach [] X.env)).all (fun x => x.1.isSome)
      && decide ((e :: []).length + ([] : List Keyword).length + (if ([] : List Keyword).isEmpty then 0 else 1) < 30)) = true := by rfl)
    (hline : (apos.endLine == cpos.line) = true := by rfl) (hs : starEach (e :: []) X.env = (false, eval e X.env) :: starEach [] X.env := by rfl) (hplain : (backTo cpos (starEach [] X.env)).any (·.1) = false := by rfl) :
    DE X Z (.Call (.Attribute o "pop" apos) [e] [] cpos) r n Q :=
  de_bm PySem.F.plainAttrs_list PySem.F.slot_list_pop PySem.F.type_list_pop mt_popAt (ho.to ⟨tyO hq0, da_cons (h.imp fun x k ⟨l', i, d, ex, hq, h0, h63, hd, q⟩ => da_nil fun s H v vs R S rx rl hR => by
    subst ex
    cases rx
    obtain ⟨v, vr, rfl, r1, r2⟩ := rl
    have r2 : vr = [] := r2
    subst r2
    have r1 : v = .int i := r1
    subst r1
    obtain ⟨ws, hp, rw'⟩ := S.own _ _ hq
    obtain ⟨w, hw, rw2⟩ := rw'.get hd
    have hlt : i.toNat < ws.length := (List.getElem?_eq_some_iff.mp hw).1
    have hix : seqIndex? i ws.length = some i.toNat := (ixN_seq (by
      unfold ixN
      rw [if_pos h0, if_pos (by omega)])).1
    exact ⟨_, ws, i, i.toNat, w, rfl, rfl, hp, by omega, h63, hix, hw, hR _ _ (PoV.wrL S hq (rw'.erase _) rw2 q)⟩) hs⟩) hbase hfew hline hs hplain
theorem pd_join {z : Str} {zs : List Str} (ho : PD X Z o r n (.str z)) (he : PD X Z e r n x) (hx : x = .lst (zs.map D.str) ∨ x = .tup (zs.map D.str)) (hz : (zs.map (·.length)).sum + zs.length * z.length ≤ 16777216)
    (hs : starEach [e] X.env = [(false, eval e X.env)] := by rfl) (hbase : attributeBase o "join" X.env (eval o X.env) = eval o X.env := by rfl) (hline : (apos.endLine == cpos.line) = true := by rfl) :
    PD X Z (.Call (.Attribute o "join" apos) [e] [] cpos) r n (.str (Txt.join z zs)) :=
  DE.mk (pe_join pe_W pe_W hs hbase hline) fun s H S => DE.use ho S fun d m v H1 e1 S1 R1 ⟨ed, em⟩ => by
    subst ed; subst em
    cases R1
    refine ⟨⟨_, rfl⟩, DE.use he S1 fun d m v H2 e2 S2 R2 ⟨ed, em⟩ => ?_⟩
    subst ed; subst em
    rcases hx with rfl | rfl
    · obtain ⟨a, ws, rfl, g, rl⟩ := R2
      rw [rl.strs] at g
      exact ⟨z, a, zs, rfl, rfl, .inl g.sq, hz, PoV.up (e1.trans e2) (PoV.mk S2 Rep.s ⟨rfl, rfl⟩)⟩
    · obtain ⟨a, ws, rfl, g, rl⟩ := R2
      rw [rl.strs] at g
      exact ⟨z, a, zs, rfl, rfl, .inr g.sq, hz, PoV.up (e1.trans e2) (PoV.mk S2 Rep.s ⟨rfl, rfl⟩)⟩
end
end G3
set_option Elab.async false
set_option linter.all false
set_option maxRecDepth 100000
set_option maxHeartbeats 2000000
namespace G3
open PySem PySem.Spec PyProof.Rows L2
theorem PoS.mk {K : PySem.W.Frag} {Z : Hp × DH} {H : Hp} {n : DH} {r : Rho} {s : L2.St} {Q : Rho → DH → Prop} (S : Sat K Z r n s H) (q : Q r n) : PoS K Z H n Q s H := ⟨r, n, Ext.refl, S, q⟩
theorem PoR.mk {K : PySem.W.Frag} {Z : Hp × DH} {H : Hp} {n : DH} {r : Rho} {s : L2.St} {d : D} {v : V} {Q : D → DH → Prop} (S : Sat K Z r n s H) (h : Rep K H n d v) (q : Q d n) : PoR K Z H n Q v H := ⟨d, n, Ext.refl, S.z, S.own, h, q⟩
def tWG (X : Cx) (tg : Expr) : TG := fun v s H R => ∀ (pins : List (Addr × Obj)) (st : Shared) (u : Value), Inv X pins s H st → RelV v u → wpAny (model X.prog X.w) X.A (assign tg X.env u) (fun _ s' => ∃ σ' H', Inv X pins σ' H' s' ∧ R σ' H') X.xe st
def tWGs (X : Cx) (ts : List Expr) : TGs := fun vs s H R => ∀ (pins : List (Addr × Obj)) (st : Shared) (us : List Value), Inv X pins s H st → Vals vs us → wpAny (model X.prog X.w) X.A (assignInOrder ((assignEach ts X.env).map (·.2)) us) (fun _ s' => ∃ σ' H', Inv X pins σ' H' s' ∧ R σ' H') X.xe st
section
variable {X : Cx} {tg e : Expr} {ts : List Expr} {pos : Pos}
theorem pg_W : PG X tg (tWG X tg) := ⟨fun pins st _ _ v u _ I rv h => h pins st u I rv⟩
theorem pgs_W : PGs X ts (tWGs X ts) := ⟨fun pins st _ _ v u _ I rv h => h pins st u I rv⟩
def Tch (vs : List Nat) (s s' : L2.St) : Prop := s'.length = s.length ∧ ∀ j, j ∉ vs → s'[j]? = s[j]?
def PDG (X : Cx) (tg : Expr) (vs : List Nat) (d : D) (r r' : Rho) : Prop := ∀ Z n s H v, Sat X.K Z r n s H → Rep X.K H n d v → tWG X tg v s H fun s' H' => H' = H ∧ Sat X.K Z r' n s' H ∧ Tch vs s s'
def PDGs (X : Cx) (ts : List Expr) (vs : List Nat) (ds : List D) (r r' : Rho) : Prop := ∀ Z n s H v, Sat X.K Z r n s H → RepL X.K H n ds v → tWGs X ts v s H fun s' H' => H' = H ∧ Sat X.K Z r' n s' H ∧ Tch vs s s'
theorem PDG.mk {t : TG} {vs : List Nat} {d : D} {r r' : Rho} (h : PG X tg t) (k : ∀ Z n s H v, Sat X.K Z r n s H → Rep X.K H n d v → t v s H fun s' H' => H' = H ∧ Sat X.K Z r' n s' H ∧ Tch vs s s') : PDG X tg vs d r r' :=
  fun Z n s H v S rv pins st u I rel => h.run pins st s H v u _ I rel (k Z n s H v S rv)
theorem PDGs.mk {t : TGs} {vs : List Nat} {d : List D} {r r' : Rho} (h : PGs X ts t) (k : ∀ Z n s H v, Sat X.K Z r n s H → RepL X.K H n d v → t v s H fun s' H' => H' = H ∧ Sat X.K Z r' n s' H ∧ Tch vs s s') : PDGs X ts vs d r r' :=
  fun Z n s H v S rv pins st u I rel => h.run pins st s H v u _ I rel (k Z n s H v S rv)
theorem tWG_mono {s : L2.St} {H : Hp} {v : V} {R R' : L2.St → Hp → Prop} (h : tWG X tg v s H R) (k : ∀ s' H', R s' H' → R' s' H') : tWG X tg v s H R' := fun pins st u I rel => thn (h pins st u I rel) fun _ s' ⟨a, b, c, d⟩ => ⟨a, b, c, k a b d⟩
theorem tWGs_mono {s : L2.St} {H : Hp} {v : List V} {R R' : L2.St → Hp → Prop} (h : tWGs X ts v s H R) (k : ∀ s' H', R s' H' → R' s' H') : tWGs X ts v s H R' := fun pins st u I rel => thn (h pins st u I rel) fun _ s' ⟨a, b, c, d⟩ => ⟨a, b, c, k a b d⟩
theorem dg_v {x : Str} {d : D} {r : Rho} (i : Nat) (hN : X.N.Nodup) (hi : X.N[i]? = some x := by rfl) (hx : Loc X.env.scope x := by first | exact .inl rfl | exact .inr rfl) (hf : X.fn x = true ∨ X.env.scope.names.lookup x = some .local := by first | exact .inl rfl | exact .inr rfl) : PDG X (.Name x pos) [i] d r (r.set i (some d)) :=
  PDG.mk (pg_name hN hi hx hf) fun Z n s H v S rv => ⟨rfl, S.set i rv, by rw [List.length_set], fun j hj => List.getElem?_set_ne fun z => hj (by rw [z]; exact List.mem_singleton.mpr rfl)⟩
theorem dg_n {r : Rho} : PDGs X [] [] [] r r := PDGs.mk pgs_nil fun Z n s H v S rv => ⟨rv, rfl, S, rfl, fun _ _ => rfl⟩
theorem dg_c {vs ws : List Nat} {d : D} {ds : List D} {r r1 r2 : Rho} (h : PDG X e vs d r r1) (k : PDGs X ts ws ds r1 r2) (hs : (assignEach (e :: ts) X.env).map (·.2) = assign e X.env :: (assignEach ts X.env).map (·.2) := by rfl) : PDGs X (e :: ts) (vs ++ ws) (d :: ds) r r2 :=
  PDGs.mk (pgs_cons pg_W pgs_W hs) fun Z n s H v S ⟨x, xs, ev, q1, q2⟩ => ⟨x, xs, ev, tWG_mono (h Z n s H x S q1) fun s' H' ⟨eh, S', t⟩ => by
    subst eh
    refine tWGs_mono (k Z n s' _ xs S' q2) fun s'' H'' ⟨eh, S'', t2⟩ => ⟨eh, S'', t2.1.trans t.1, fun j hj => ?_⟩
    exact (t2.2 j fun z => hj (List.mem_append_right _ z)).trans (t.2 j fun z => hj (List.mem_append_left _ z))⟩
theorem dg_tup {kk} {vs : List Nat} {ds : List D} {r r' : Rho} (hc : X.calm = true) (h : PDGs X ts vs ds r r') (hn : (assignEach ts X.env).length = ds.length := by rfl) (hst : (assignEach ts X.env).findIdx? (·.1) = none := by rfl) : PDG X (.Tuple ts kk pos) vs (.tup ds) r r' :=
  PDG.mk (pg_tup hc pgs_W hn hst) fun Z n s H v S ⟨a, ws, ev, g, q⟩ => ⟨a, ws, ev, g.sq, q.length.symm, h Z n s H ws S q⟩
theorem dg_lst {kk} {vs : List Nat} {ds : List D} {r r' : Rho} (hc : X.calm = true) (h : PDGs X ts vs ds r r') (hn : (assignEach ts X.env).length = ds.length := by rfl) (hst : (assignEach ts X.env).findIdx? (·.1) = none := by rfl) : PDG X (.Tuple ts kk pos) vs (.lst ds) r r' :=
  PDG.mk (pg_lst hc pgs_W hn hst) fun Z n s H v S ⟨a, ws, ev, g, q⟩ => ⟨a, ws, ev, g.sq, q.length.symm, h Z n s H ws S q⟩
end
def tWI (X : Cx) (tg iter : Expr) : TI := fun s H R => ∀ (pins : List (Addr × Obj)) (st : Shared), Inv X pins s H st → wpAny (model X.prog X.w) X.A (eval iter X.env) (fun v s1 => wpAny (model X.prog X.w) X.A (pyIter v) (PIE X pins s tg R) X.xe s1) X.xe st
def Walk (K : PySem.W.Frag) (J : It) (H1 : Hp) (n1 : DH) (l : List D) : Prop := ∀ i H' n', Ext H1 n1 H' n' → HSat K n' H' →
  (∀ d, l[i]? = some d → J.go i H' ∧ ∀ v H'', J.yld i H' v H'' → Same H' H'' ∧ Rep K H'' n' d v) ∧ (l.length ≤ i → J.stop i H')
def DI (X : Cx) (Z : Hp × DH) (tg iter : Expr) (r : Rho) (n : DH) (Q : List D → DH → Prop) : Prop :=
  ∀ s H, Sat X.K Z r n s H → tWI X tg iter s H fun J H1 => ∃ l n1, Ext H n H1 n1 ∧ Sat X.K Z r n1 s H1 ∧ Walk X.K J H1 n1 l ∧ Q l n1
section
variable {X : Cx} {Z : Hp × DH} {r : Rho} {n : DH} {e o a b c tg iter : Expr} {es : List Expr} {pos p : Pos} {x y : D} {i j : Int} {l m : List D} {QI : List D → DH → Prop}
theorem pi_W : PI X tg iter (tWI X tg iter) := ⟨fun pins st _ _ _ I h => h pins st I⟩
theorem DI.mk {wi : TI} (h : PI X tg iter wi) (k : ∀ s H, Sat X.K Z r n s H → wi s H fun J H1 => ∃ l n1, Ext H n H1 n1 ∧ Sat X.K Z r n1 s H1 ∧ Walk X.K J H1 n1 l ∧ QI l n1) : DI X Z tg iter r n QI := fun s H S pins st I => h.run pins st s H _ I (k s H S)
theorem DI.imp {QJ : List D → DH → Prop} (h : DI X Z tg iter r n QI) (k : ∀ l m, QI l m → QJ l m) : DI X Z tg iter r n QJ := fun s H S pins st I => thn (h s H S pins st I) fun v s1 h1 => thn h1 fun u s2 ⟨it, fp, tn, J, H2, e1, e2, e3, e4, e5, l', n1, x1, S1, wk, q⟩ => ⟨it, fp, tn, J, H2, e1, e2, e3, e4, e5, l', n1, x1, S1, wk, k _ _ q⟩
theorem same_refl (H : Hp) : Same H H := fun _ _ h => h
theorem walk_list {K : PySem.W.Frag} {H : Hp} {a : Addr} {vs : List V} (h : ∀ H' n', Ext H n H' n' → SqL K H' a vs) (q : RepL K H n l vs) : Walk K (Itl K a) H n l := fun i H' n' e hs =>
  ⟨fun d hd => by
    obtain ⟨v, hv, rv⟩ := q.get hd
    exact ⟨⟨vs, v, h _ _ e, hv⟩, fun w H'' ⟨eh, f⟩ => by
      subst eh
      cases hv.symm.trans (f vs (h _ _ e))
      exact ⟨same_refl _, Rep.mono e _ _ rv⟩⟩, fun hi => ⟨vs, h _ _ e, by rw [← q.length]; exact hi⟩⟩
theorem walk_tup {K : PySem.W.Frag} {H : Hp} {a : Addr} {vs : List V} (h : ∀ H' n', Ext H n H' n' → SqT K H' a vs) (q : RepL K H n l vs) : Walk K (Itt K a) H n l := fun i H' n' e hs =>
  ⟨fun d hd => by
    obtain ⟨v, hv, rv⟩ := q.get hd
    exact ⟨⟨vs, v, h _ _ e, hv⟩, fun w H'' ⟨eh, f⟩ => by
      subst eh
      cases hv.symm.trans (f vs (h _ _ e))
      exact ⟨same_refl _, Rep.mono e _ _ rv⟩⟩, fun hi => ⟨vs, h _ _ e, by rw [← q.length]; exact hi⟩⟩
theorem di_lst (h : DE X Z iter r n fun x m => ∃ l, (x = .lst l ∨ x = .rol l) ∧ QI l m) : DI X Z tg iter r n QI :=
  DI.mk (pi_list pe_W) fun s H S => h.use S fun d m v H1 e1 S1 R1 ⟨l, hx, q⟩ => by
    have : ∃ a vs, v = .ref a ∧ (∀ H' n', Ext H1 m H' n' → SqL X.K H' a vs) ∧ RepL X.K H1 m l vs := by
      rcases hx with rfl | rfl
      · obtain ⟨a, vs, e, f, q⟩ := R1; exact ⟨a, vs, e, fun _ _ x => (f.mono x).sq, q⟩
      · obtain ⟨a, vs, e, f, q⟩ := R1; exact ⟨a, vs, e, fun _ _ x => (f.mono x).sq, q⟩
    obtain ⟨a, vs, rfl, f, rl⟩ := this
    exact ⟨a, rfl, ⟨vs, f _ _ Ext.refl⟩, l, m, e1, S1, walk_list f rl, q⟩
theorem di_tup (h : DE X Z iter r n fun x m => ∃ l, x = .tup l ∧ QI l m) : DI X Z tg iter r n QI :=
  DI.mk (pi_tup pe_W) fun s H S => h.use S fun d m v H1 e1 S1 R1 ⟨l, hx, q⟩ => by
    subst hx
    obtain ⟨a, vs, rfl, f, rl⟩ := R1
    exact ⟨a, rfl, ⟨vs, f.sq⟩, l, m, e1, S1, walk_tup (fun _ _ x => (f.mono x).sq) rl, q⟩
def dints (lo : Int) (k : Nat) : List D := (List.range k).map fun i => D.int (lo + (i : Nat))
theorem dints_len (lo : Int) (k : Nat) : (dints lo k).length = k := by unfold dints; rw [List.length_map, List.length_range]
theorem dints_get {lo : Int} {k i : Nat} {d : D} (h : (dints lo k)[i]? = some d) : i < k ∧ d = .int (lo + (i : Nat)) := by
  have h1 : i < k := by
    have := (List.getElem?_eq_some_iff.mp h).1
    rw [dints_len] at this
    exact this
  unfold dints at h
  rw [List.getElem?_map, List.getElem?_range h1] at h
  exact ⟨h1, (Option.some.inj h).symm⟩
theorem walk_range {K : PySem.W.Frag} {H : Hp} {lo : Int} {k : Nat} : Walk K (Itr lo k) H n (dints lo k) := fun i H' n' e hs =>
  ⟨fun d hd => by
    obtain ⟨h1, rfl⟩ := dints_get hd
    exact ⟨h1, fun w H'' ⟨eh, ew⟩ => by
      subst eh; subst ew
      exact ⟨same_refl _, Rep.i⟩⟩, fun hi => by rw [dints_len] at hi; exact hi⟩
theorem di_range1 (hm : X.mg "range" = none) (h : DE X Z a r n fun x m => ∃ j, x = .int j ∧ -(2 ^ 62) ≤ j ∧ j < 2 ^ 62 ∧ QI (dints 0 j.toNat) m) (hg : Gl X "range" := by rfl) (hs : starEach [a] X.env = [(false, eval a X.env)] := by rfl) (hs' : starEach (a :: []) X.env = (false, eval a X.env) :: starEach [] X.env := by rfl) : DI X Z tg (.Call (.Name "range" p) [a] [] pos) r n QI :=
  DI.mk (pi_range1 hg hm pa_W hs) fun s H S => (da_one (QA := fun ds m => ∃ j, ds = [.int j] ∧ -(2 ^ 62) ≤ j ∧ j < 2 ^ 62 ∧ QI (dints 0 j.toNat) m) (h.imp fun x m ⟨j, ex, q⟩ => ⟨j, by rw [ex], q⟩) hs').use S fun ds m vs H1 e1 S1 R1 ⟨j, ed, h1, h2, q⟩ => by
    subst ed
    obtain ⟨v, vr, rfl, r1, r2⟩ := R1
    have r2 : vr = [] := r2
    subst r2
    exact ⟨j, by rw [show v = V.int j from r1], h1, h2, _, m, e1, S1, walk_range, q⟩
theorem di_range2 (hm : X.mg "range" = none) (h : DE X Z a r n fun x m => DE X Z b r m fun y k => ∃ i j, x = .int i ∧ y = .int j ∧ (-(2 ^ 62) ≤ i ∧ i < 2 ^ 62 ∧ -(2 ^ 62) ≤ j ∧ j < 2 ^ 62) ∧ QI (dints i (j - i).toNat) k) (hg : Gl X "range" := by rfl) (hs : starEach [a, b] X.env = [(false, eval a X.env), (false, eval b X.env)] := by rfl) (hs2 : starEach [b] X.env = [(false, eval b X.env)] := by rfl)
    (hs' : starEach (a :: [b]) X.env = (false, eval a X.env) :: starEach [b] X.env := by rfl) (hs'' : starEach (b :: []) X.env = (false, eval b X.env) :: starEach [] X.env := by rfl) : DI X Z tg (.Call (.Name "range" p) [a, b] [] pos) r n QI :=
  DI.mk (pi_range2 hg hm pa_W hs hs2) fun s H S => (da_cons (QA := fun ds m => ∃ i j, ds = [.int i, .int j] ∧ (-(2 ^ 62) ≤ i ∧ i < 2 ^ 62 ∧ -(2 ^ 62) ≤ j ∧ j < 2 ^ 62) ∧ QI (dints i (j - i).toNat) m) (h.imp fun x m q => da_cons (q.imp fun y k ⟨i, j, ex, ey, q⟩ => da_nil ⟨i, j, by rw [ex, ey], q⟩) hs'') hs').use S fun ds m vs H1 e1 S1 R1 ⟨i, j, ed, h1, q⟩ => by
    subst ed
    obtain ⟨v, vr, rfl, r1, w, wr, rfl, r2, r3⟩ := R1
    have r3 : wr = [] := r3
    subst r3
    exact ⟨i, j, by rw [show v = V.int i from r1, show w = V.int j from r2], h1, _, m, e1, S1, walk_range, q⟩
def dsigns (z : Str) : List D := z.cps.toList.map fun c => D.str ⟨#[c]⟩
theorem di_str (h : DE X Z iter r n fun x m => ∃ z, x = .str z ∧ QI (dsigns z) m) : DI X Z tg iter r n QI :=
  DI.mk (pi_str pe_W) fun s H S => h.use S fun d m v H1 e1 S1 R1 ⟨z, hx, q⟩ => by
    subst hx
    refine ⟨z, R1, _, m, e1, S1, fun i H' n' e hs => ⟨fun d hd => ?_, fun hi => ?_⟩, q⟩
    · unfold dsigns at hd
      rw [List.getElem?_map] at hd
      cases q : z.cps.toList[i]? with
      | none => rw [q] at hd; cases hd
      | some cc =>
        rw [q] at hd
        have hi : i < z.cps.size := by
          have := (List.getElem?_eq_some_iff.mp q).1
          simpa using this
        refine ⟨hi, fun w H'' ⟨eh, c', hc', ew⟩ => ?_⟩
        subst eh; subst ew
        have : c' = cc := by
          rw [Array.getElem?_toList] at q
          exact Option.some.inj (hc'.symm.trans q)
        subst this
        cases hd
        exact ⟨same_refl _, Rep.s⟩
    · unfold dsigns at hi
      rw [List.length_map] at hi
      exact (by simpa using hi : z.cps.size ≤ i)
theorem di_enum {elts : List Expr} {kk : Nat} {tpos : Pos} (hm : X.mg "enumerate" = none) (h : DE X Z a r n fun x m => ∃ l, (x = .lst l ∨ x = .rol l) ∧ QI ((l.zipIdx).map fun q => D.tup [.int (q.2 : Nat), q.1]) m) (hg : Gl X "enumerate" := by rfl) (hs : starEach [a] X.env = [(false, eval a X.env)] := by rfl) (hs' : starEach (a :: []) X.env = (false, eval a X.env) :: starEach [] X.env := by rfl) :
    DI X Z (.Tuple elts kk tpos) (.Call (.Name "enumerate" p) [a] [] pos) r n QI :=
  DI.mk (pi_enum hg hm pa_W hs) fun s H S => (da_one (QA := fun ds m => ∃ x l, ds = [x] ∧ (x = .lst l ∨ x = .rol l) ∧ QI ((l.zipIdx).map fun q => D.tup [.int (q.2 : Nat), q.1]) m) (h.imp fun x m ⟨l, q⟩ => ⟨x, l, rfl, q⟩) hs').use S fun ds m vs H1 e1 S1 R1 ⟨x, l, ed, hx, q⟩ => by
    subst ed
    obtain ⟨v, vr, rfl, r1, r2⟩ := R1
    have r2 : vr = [] := r2
    subst r2
    have : ∃ a vs, v = .ref a ∧ (∀ H' n', Ext H1 m H' n' → SqL X.K H' a vs) ∧ RepL X.K H1 m l vs := by
      rcases hx with rfl | rfl
      · obtain ⟨a, vs, e, f, q⟩ := r1; exact ⟨a, vs, e, fun _ _ x => (f.mono x).sq, q⟩
      · obtain ⟨a, vs, e, f, q⟩ := r1; exact ⟨a, vs, e, fun _ _ x => (f.mono x).sq, q⟩
    obtain ⟨a, vs, rfl, f, rl⟩ := this
    refine ⟨a, vs, rfl, f _ _ Ext.refl, _, m, e1, S1, fun i H' n' e hs => ⟨fun d hd => ?_, fun hi => ?_⟩, q⟩
    · rw [List.getElem?_map, List.getElem?_zipIdx] at hd
      cases ql : l[i]? with
      | none => rw [ql] at hd; cases hd
      | some y =>
        rw [ql] at hd
        cases hd
        obtain ⟨w, hw, rw'⟩ := rl.get ql
        refine ⟨⟨vs, w, f _ _ e, hw⟩, fun u H'' ⟨T, x1, ev, hT, eh, g⟩ => ?_⟩
        subst ev; subst eh
        cases hw.symm.trans (g vs (f _ _ e))
        have fr := hs.free hT
        refine ⟨fun b o hb => by rw [upd_ne (ne_of_none hb hT)]; exact hb, Rep.t (.inl ⟨fr, upd_same⟩) ?_⟩
        have ei : (0 + i : Nat) = i := by omega
        rw [ei]
        exact RepL.cons Rep.i (RepL.one (Rep.mono (e.trans (Ext.new hT fr)) _ _ rw'))
    · rw [List.length_map, List.length_zipIdx] at hi
      exact ⟨vs, f _ _ e, by rw [← rl.length]; exact hi⟩
theorem di_zip {elts : List Expr} {kk : Nat} {tpos : Pos} (hm : X.mg "zip" = none) (h : DE X Z a r n fun x k => DE X Z b r k fun y k => ∃ l m, (x = .lst l ∨ x = .rol l) ∧ (y = .lst m ∨ y = .rol m) ∧ QI ((l.zip m).map fun q => D.tup [q.1, q.2]) k) (hg : Gl X "zip" := by rfl) (hs : starEach [a, b] X.env = (false, eval a X.env) :: starEach [b] X.env := by rfl) (hs2 : starEach (b :: []) X.env = (false, eval b X.env) :: starEach [] X.env := by rfl) (hpl : (backTo pos (starEach [b] X.env)).any (·.1) = false := by rfl) :
    DI X Z (.Tuple elts kk tpos) (.Call (.Name "zip" p) [a, b] [] pos) r n QI :=
  DI.mk (pi_zip hg hm pa_W hs hpl) fun s H S => (da_cons (QA := fun ds k => ∃ x y l m, ds = [x, y] ∧ (x = .lst l ∨ x = .rol l) ∧ (y = .lst m ∨ y = .rol m) ∧ QI ((l.zip m).map fun q => D.tup [q.1, q.2]) k) (h.imp fun x k q => da_cons (q.imp fun y k ⟨l, m, q⟩ => da_nil ⟨x, y, l, m, rfl, q⟩) hs2) hs).use S fun ds k vs H1 e1 S1 R1 ⟨x, y, l, m, ed, hx, hy, q⟩ => by
    subst ed
    obtain ⟨v, vr, rfl, r1, w, wr, rfl, r2, r3⟩ := R1
    have r3 : wr = [] := r3
    subst r3
    have get : ∀ {x : D} {l : List D} {v : V}, (x = .lst l ∨ x = .rol l) → Rep X.K H1 k x v → ∃ a vs, v = .ref a ∧ (∀ H' n', Ext H1 k H' n' → SqL X.K H' a vs) ∧ RepL X.K H1 k l vs := fun {x l v} hx r1 => by
      rcases hx with rfl | rfl
      · obtain ⟨a, vs, e, f, q⟩ := r1; exact ⟨a, vs, e, fun _ _ x => (f.mono x).sq, q⟩
      · obtain ⟨a, vs, e, f, q⟩ := r1; exact ⟨a, vs, e, fun _ _ x => (f.mono x).sq, q⟩
    obtain ⟨a, vs, rfl, f, rl⟩ := get hx r1
    obtain ⟨b, ws, rfl, g, rm⟩ := get hy r2
    refine ⟨a, b, vs, ws, rfl, f _ _ Ext.refl, g _ _ Ext.refl, _, k, e1, S1, fun i H' n' e hs => ⟨fun d hd => ?_, fun hi => ?_⟩, q⟩
    · rw [List.getElem?_map] at hd
      cases ql : (l.zip m)[i]? with
      | none => rw [ql] at hd; cases hd
      | some y =>
        rw [ql] at hd
        cases hd
        obtain ⟨q1, q2⟩ := List.getElem?_zip_eq_some.mp ql
        obtain ⟨w1, hw1, rw1⟩ := rl.get q1
        obtain ⟨w2, hw2, rw2⟩ := rm.get q2
        refine ⟨⟨vs, ws, w1, w2, f _ _ e, g _ _ e, hw1, hw2⟩, fun u H'' ⟨T, x1, x2, ev, hT, eh, g1, g2⟩ => ?_⟩
        subst ev; subst eh
        cases hw1.symm.trans (g1 vs (f _ _ e))
        cases hw2.symm.trans (g2 ws (g _ _ e))
        have fr := hs.free hT
        refine ⟨fun b o hb => by rw [upd_ne (ne_of_none hb hT)]; exact hb, Rep.t (.inl ⟨fr, upd_same⟩) ?_⟩
        exact RepL.cons (Rep.mono (e.trans (Ext.new hT fr)) _ _ rw1) (RepL.one (Rep.mono (e.trans (Ext.new hT fr)) _ _ rw2))
    · rw [List.length_map, List.length_zip] at hi
      refine ⟨vs, ws, f _ _ e, g _ _ e, ?_⟩
      rw [← rl.length, ← rm.length]
      omega
variable {E : DEnds} {body : List Stmt}
theorem ds_forD (hp : PassesOwn (model X.prog X.w) X.A X.env X.xe) (hc : X.calm = true) (hi : DI X Z tg iter r n fun l m => ∃ I : Nat → Rho → DH → Prop, I 0 r m ∧
      (∀ i d r' m, l[i]? = some d → I i r' m → ∃ r2 vs, PDG X tg vs d r' r2 ∧ DSs X Z body r2 m { nx := I (i + 1), ct := I (i + 1), bk := E.nx, rt := E.rt }) ∧ (∀ r' m, I l.length r' m → E.nx r' m))
    (hf : ∀ x, foldedSetIterable iter X.env x = pure x := by intro _; rfl) : DS X Z (.For tg iter body [] pos) r n E :=
  DS.mk (ps_for hp hc pi_W pg_W pss_W hf) fun s H S pins st I0 => by
    refine thn (hi s H S pins st I0) fun v s1 h1 => thn h1 fun u s2 ⟨it, fp, tn, J, H2, e1, e2, e3, e4, e5, l', n1, x1, S1, wk, I, i0, hs, he⟩ => ⟨it, fp, tn, J, H2, e1, e2, e3, e4, e5, ?_⟩
    refine ⟨fun i m σ H3 => i + m = l'.length ∧ ∃ r3 n3, Ext H2 n1 H3 n3 ∧ Sat X.K Z r3 n3 σ H3 ∧ I i r3 n3, ⟨l'.length, by omega, r, n1, Ext.refl, S1, i0⟩, fun i m σ H3 ⟨em, r3, n3, x3, S3, i3⟩ => ?_⟩
    obtain ⟨w1, w2⟩ := wk i H3 n3 x3 S3.own
    by_cases hlt : i < l'.length
    · obtain ⟨d, hd⟩ : ∃ d, l'[i]? = some d := ⟨_, List.getElem?_eq_getElem hlt⟩
      obtain ⟨go, yl⟩ := w1 d hd
      refine .inr ⟨go, fun σ' H' => ∃ r4 n4, Ext H2 n1 H' n4 ∧ Sat X.K Z r4 n4 σ' H' ∧ I (i + 1) r4 n4, fun σ' H' q => ⟨m - 1, by omega, by omega, q⟩, fun w H4 hy => ?_⟩
      obtain ⟨sm, rd⟩ := yl w H4 hy
      have x4 : Ext H3 n3 H4 n3 := fun a o h h' => ⟨sm a o h', h⟩
      have S4 : Sat X.K Z r3 n3 σ H4 := S3.ext x4 fun a o h => (S3.own a o h).keep x4 fun y hy => sm a y hy
      obtain ⟨r2, vs, pd, hb⟩ := hs i d r3 n3 hd i3
      refine tWG_mono (pd Z n3 σ H4 w S4 rd) fun σ2 H5 ⟨eh, S5, _⟩ => ?_
      subst eh
      have up : ∀ {σ' H'}, PoS X.K Z H5 n3 (I (i + 1)) σ' H' → ∃ r4 n4, Ext H2 n1 H' n4 ∧ Sat X.K Z r4 n4 σ' H' ∧ I (i + 1) r4 n4 := fun {σ' H'} ⟨r4, n4, y1, y2, y3⟩ => ⟨r4, n4, x3.trans (x4.trans y1), y2, y3⟩
      have xx : Ext H n H5 n3 := x1.trans (x3.trans x4)
      exact hb.use S5 (fun _ _ q => up q) (fun _ _ q => q.up xx) (fun _ _ q => q.up xx) (fun _ _ q => up q)
    · have ei : i = l'.length := by omega
      refine .inl ⟨w2 (by omega), r3, n3, x1.trans x3, S3, he r3 n3 (ei ▸ i3)⟩
theorem ds_for (I : Nat → Rho → DH → Prop) (hp : PassesOwn (model X.prog X.w) X.A X.env X.xe) (hc : X.calm = true) (hi : DI X Z tg iter r n fun l' m => l' = l ∧ I 0 r m)
    (hs : ∀ i d r' m, l[i]? = some d → I i r' m → ∃ r2 vs, PDG X tg vs d r' r2 ∧ DSs X Z body r2 m { nx := I (i + 1), ct := I (i + 1), bk := E.nx, rt := E.rt }) (he : ∀ r' m, I l.length r' m → E.nx r' m)
    (hf : ∀ x, foldedSetIterable iter X.env x = pure x := by intro _; rfl) : DS X Z (.For tg iter body [] pos) r n E :=
  ds_forD hp hc (DI.imp hi fun l' m ⟨e, h⟩ => ⟨I, h, by rw [e]; exact hs, by rw [e]; exact he⟩) hf
theorem ds_while (I : Nat → Rho → DH → Prop) (k0 : Nat) (hp : PassesOwn (model X.prog X.w) X.A X.env X.xe) (h0 : I k0 r n)
    (hs : ∀ k r' m, I k r' m → DT X Z c r' m fun t m1 => if t = true then DSs X Z body r' m1 { nx := fun r2 m2 => ∃ k', k' < k ∧ I k' r2 m2, ct := fun r2 m2 => ∃ k', k' < k ∧ I k' r2 m2, bk := E.nx, rt := E.rt } else E.nx r' m1) :
    DS X Z (.While c body [] pos) r n E :=
  DS.mk (ps_while hp pt_W pss_W) fun s H S => by
    refine ⟨fun k σ H3 => ∃ r3 n3, Ext H n H3 n3 ∧ Sat X.K Z r3 n3 σ H3 ∧ I k r3 n3, ⟨k0, r, n, Ext.refl, S, h0⟩, fun k σ H3 ⟨r3, n3, x3, S3, i3⟩ => ?_⟩
    refine (hs k r3 n3 i3).use S3 fun t m1 H4 x4 S4 q => ?_
    cases t with
    | true =>
      rw [if_pos rfl] at q ⊢
      have up : ∀ {σ' H'}, PoS X.K Z H4 m1 (fun r2 m2 => ∃ k', k' < k ∧ I k' r2 m2) σ' H' → ∃ k', k' < k ∧ ∃ r3 n3, Ext H n H' n3 ∧ Sat X.K Z r3 n3 σ' H' ∧ I k' r3 n3 := fun {σ' H'} ⟨r4, n4, y1, y2, k', hk, y3⟩ => ⟨k', hk, r4, n4, x3.trans (x4.trans y1), y2, y3⟩
      exact ⟨fun σ' H' => ∃ k', k' < k ∧ ∃ r3 n3, Ext H n H' n3 ∧ Sat X.K Z r3 n3 σ' H' ∧ I k' r3 n3, fun σ' H' q => q,
        q.use S4 (fun _ _ q => up q) (fun _ _ q => q.up (x3.trans x4)) (fun _ _ q => q.up (x3.trans x4)) (fun _ _ q => up q)⟩
    | false =>
      rw [if_neg Bool.false_ne_true] at q ⊢
      exact ⟨r3, m1, x3.trans x4, S4, q⟩
theorem ds_whileP (I : Nat → Rho → DH → Prop) (k0 : Nat) (hp : PassesOwn (model X.prog X.w) X.A X.env X.xe) (h0 : I k0 r n)
    (hs : ∀ k r' m, I k r' m → ∃ t, PDT X Z c r' m t ∧ (t = true → DSs X Z body r' m { nx := fun r2 m2 => ∃ k', k' < k ∧ I k' r2 m2, ct := fun r2 m2 => ∃ k', k' < k ∧ I k' r2 m2, bk := E.nx, rt := E.rt }) ∧ (t = false → E.nx r' m)) :
    DS X Z (.While c body [] pos) r n E := ds_while I k0 hp h0 fun k r' m hI => by
  obtain ⟨t, ht, h1, h2⟩ := hs k r' m hI
  refine ht.to ?_
  cases t with
  | true => rw [if_pos rfl]; exact h1 rfl
  | false => rw [if_neg Bool.false_ne_true]; exact h2 rfl
variable {st : Stmt} {sts : List Stmt}
theorem dss_nil (h : E.nx r n) : DSs X Z [] r n E := DSs.mk pss_nil fun s H S => PoS.mk S h
theorem dss_cons (h : DS X Z st r n { E with nx := fun r' m => DSs X Z sts r' m E }) : DSs X Z (st :: sts) r n E :=
  DSs.mk (pss_cons ps_W pss_W) fun s H S => h.use S (fun s' H' ⟨r', m, x, S', q⟩ => q.use S' (fun _ _ q => q.up x) (fun _ _ q => q.up x) (fun _ _ q => q.up x) (fun _ _ q => q.up x)) (fun _ _ q => q) (fun _ _ q => q) (fun _ _ q => q)
theorem dss_cut (J : Rho → DH → Prop) (h : DS X Z st r n { E with nx := J }) (k : ∀ r' m, J r' m → DSs X Z sts r' m E) : DSs X Z (st :: sts) r n E :=
  DSs.mk (pss_cons ps_W pss_W) fun s H S => h.use S (fun s' H' ⟨r', m, x, S', q⟩ => (k r' m q).use S' (fun _ _ q => q.up x) (fun _ _ q => q.up x) (fun _ _ q => q.up x) (fun _ _ q => q.up x)) (fun _ _ q => q) (fun _ _ q => q) (fun _ _ q => q)
theorem dss_one (h : DS X Z st r n E) : DSs X Z [st] r n E := DSs.mk (pss_one ps_W) fun s H S => h s H S
theorem ds_pass (h : E.nx r n) : DS X Z (.Pass pos) r n E := DS.mk ps_pass fun s H S => PoS.mk S h
theorem ds_break (h : E.bk r n) : DS X Z (.Break pos) r n E := DS.mk ps_break fun s H S => PoS.mk S h
theorem ds_continue (h : E.ct r n) : DS X Z (.Continue pos) r n E := DS.mk ps_continue fun s H S => PoS.mk S h
theorem ds_doc {x : Str} {jj p2} (h : E.nx r n) : DS X Z (.Expr (.Constant (.str x) jj p2) pos) r n E := DS.mk ps_doc fun s H S => PoS.mk S h
theorem ds_expr (h : DE X Z e r n fun _ m => E.nx r m) (hs : swapsWith e none pos.line X.env = pure false := by rfl) : DS X Z (.Expr e pos) r n E :=
  DS.mk (ps_expr pe_W hs) fun s H S => h.use S fun d m v H1 x1 S1 R1 q => ⟨r, m, x1, S1, q⟩
theorem ds_ret (h : DE X Z e r n E.rt) : DS X Z (.Return (some e) pos) r n E :=
  DS.mk (ps_ret pe_W) fun s H S => h.use S fun d m v H1 x1 S1 R1 q => ⟨d, m, x1, S1.z, S1.own, R1, q⟩
theorem ds_retN (h : E.rt .non n) : DS X Z (.Return none pos) r n E := DS.mk ps_retN fun s H S => PoR.mk S Rep.no h
theorem ds_if {A B : List Stmt} (h : DT X Z c r n fun t m => if t = true then DSs X Z A r m E else DSs X Z B r m E) : DS X Z (.If c A B pos) r n E :=
  DS.mk (ps_if pt_W pss_W pss_W) fun s H S => h.use S fun t m H1 x1 S1 q => by
    cases t with
    | true =>
      rw [if_pos rfl] at q ⊢
      exact q.use S1 (fun _ _ q => q.up x1) (fun _ _ q => q.up x1) (fun _ _ q => q.up x1) (fun _ _ q => q.up x1)
    | false =>
      rw [if_neg Bool.false_ne_true] at q ⊢
      exact q.use S1 (fun _ _ q => q.up x1) (fun _ _ q => q.up x1) (fun _ _ q => q.up x1) (fun _ _ q => q.up x1)
theorem ds_ifP {A B : List Stmt} {t : Bool} (hc : PDT X Z c r n t) (h1 : t = true → DSs X Z A r n E) (h2 : t = false → DSs X Z B r n E) : DS X Z (.If c A B pos) r n E := ds_if (hc.to (by
  cases t with
  | true => rw [if_pos rfl]; exact h1 rfl
  | false => rw [if_neg Bool.false_ne_true]; exact h2 rfl))
theorem ds_set {x : Str} {p' : Pos} (i : Nat) (hN : X.N.Nodup) (h : DE X Z e r n fun d m => E.nx (r.set i (some d)) m) (hi : X.N[i]? = some x := by rfl) (hx : Loc X.env.scope x := by first | exact .inl rfl | exact .inr rfl) (hs : swapsWith e (some (.Name x p')) pos.line X.env = pure false := by rfl) (hf : X.fn x = true ∨ X.env.scope.names.lookup x = some .local := by first | exact .inl rfl | exact .inr rfl) :
    DS X Z (.Assign [.Name x p'] e pos) r n E :=
  DS.mk (ps_set hN hi hx pe_W hs hf) fun s H S => h.use S fun d m v H1 x1 S1 R1 q => ⟨_, m, x1, S1.set i R1, q⟩
theorem ds_asg {vs : List Nat} {r2 : Rho} (h : DE X Z e r n fun d m => ∃ vs r2, PDG X tg vs d r r2 ∧ E.nx r2 m) (hs : swapsWithSole [tg] e pos.line X.env = pure false := by rfl) (hw : swappedStores [tg] e X.env = pure none := by rfl)
    (h1 : (assignEach [tg] X.env).map (·.2) = [assign tg X.env] := by rfl) : DS X Z (.Assign [tg] e pos) r n E :=
  DS.mk (ps_asg pe_W pg_W hs hw h1) fun s H S => h.use S fun d m v H1 x1 S1 R1 ⟨vs, r2, pd, q⟩ => tWG_mono (pd Z m s H1 v S1 R1) fun s' H' ⟨eh, S', _⟩ => by
    subst eh
    exact ⟨r2, m, x1, S', q⟩
theorem ds_par {x y : Str} {px py pt kt k2 pt2} (i j : Nat) (hc : X.calm = true) (hN : X.N.Nodup) (h : DA X Z [a, b] r n fun ds m => ∃ d1 d2, ds = [d1, d2] ∧ E.nx ((r.set i (some d1)).set j (some d2)) m) (hi : X.N[i]? = some x := by rfl) (hj : X.N[j]? = some y := by rfl) (hij : i ≠ j := by decide)
    (hx : X.env.scope.names.lookup x = some .local := by rfl) (hy : X.env.scope.names.lookup y = some .local := by rfl)
    (hw : swappedStores [.Tuple [.Name x px, .Name y py] kt pt] (.Tuple [a, b] k2 pt2) X.env = pure (some [x, y]) := by rfl)
    (hs : swapsWithSole [.Tuple [.Name x px, .Name y py] kt pt] (.Tuple [a, b] k2 pt2) pos.line X.env = pure false := by rfl) :
    DS X Z (.Assign [.Tuple [.Name x px, .Name y py] kt pt] (.Tuple [a, b] k2 pt2) pos) r n E :=
  DS.mk (L2.ps_par hc hN hi hj hij hx hy pa_W hw hs) fun s H S => h.use S fun ds m vs H1 x1 S1 R1 ⟨d1, d2, ed, q⟩ => by
    subst ed
    obtain ⟨v, vr, rfl, r1, w, wr, rfl, r2, r3⟩ := R1
    have r3 : wr = [] := r3
    subst r3
    exact ⟨v, w, rfl, _, m, x1, (S1.set i r1).set j r2, q⟩
theorem ds_aug {x : Str} {p' : Pos} {op : Operator} {ti : TIp} {F : FOp} {d0 : D} (i : Nat) (hN : X.N.Nodup) (ho : PIp X op ti) (hd : OpD X Z r ti F) (h0 : r[i]? = some (some d0)) (h : DE X Z e r n fun d m => F d0 d m fun z k => E.nx (r.set i (some z)) k) (hi : X.N[i]? = some x := by rfl) (hx : Loc X.env.scope x := by first | exact .inl rfl | exact .inr rfl) (hf : X.fn x = true ∨ X.env.scope.names.lookup x = some .local := by first | exact .inl rfl | exact .inr rfl) :
    DS X Z (.AugAssign (.Name x p') op e pos) r n E :=
  DS.mk (ps_aug hN hi hx pe_W ho hf) fun s H S => by
    obtain ⟨v0, e0, r0⟩ := S.env i d0 h0
    refine ⟨v0, e0, h.use S fun d m v H1 x1 S1 R1 q => ?_⟩
    refine hd _ d0 d m s H1 v0 v _ q S1 (Rep.mono x1 _ _ r0) R1 fun z H2 ⟨dz, k, x2, S2, rz, q2⟩ => ?_
    exact ⟨_, k, x1.trans x2, S2.set i rz, q2⟩
theorem od_ipI {g : Int → Int → Int} : OpD X Z r (ipI g) (FI fun i j => .int (g i j)) := fun Q x y k s H vx vy R ⟨i, j, ex, ey, q⟩ S rx ry hR => by
  subst ex; subst ey
  exact ⟨i, j, rx, ry, hR _ _ (PoV.mk S Rep.i q)⟩
theorem ds_inc {x : Str} {p' : Pos} {u : Int} (i : Nat) (hN : X.N.Nodup) (h0 : r[i]? = some (some (.int u))) (h : DE X Z e r n fun d m => ∃ v, d = .int v ∧ E.nx (r.set i (some (.int (u + v)))) m) (hi : X.N[i]? = some x := by rfl) (hx : Loc X.env.scope x := by first | exact .inl rfl | exact .inr rfl) (hf : X.fn x = true ∨ X.env.scope.names.lookup x = some .local := by first | exact .inl rfl | exact .inr rfl) :
    DS X Z (.AugAssign (.Name x p') .Add e pos) r n E := ds_aug i hN ip_add od_ipI h0 (h.imp fun d m ⟨v, ed, q⟩ => ⟨u, v, rfl, ed, q⟩) hi hx hf
theorem ds_dec {x : Str} {p' : Pos} {u : Int} (i : Nat) (hN : X.N.Nodup) (h0 : r[i]? = some (some (.int u))) (h : DE X Z e r n fun d m => ∃ v, d = .int v ∧ E.nx (r.set i (some (.int (u - v)))) m) (hi : X.N[i]? = some x := by rfl) (hx : Loc X.env.scope x := by first | exact .inl rfl | exact .inr rfl) (hf : X.fn x = true ∨ X.env.scope.names.lookup x = some .local := by first | exact .inl rfl | exact .inr rfl) :
    DS X Z (.AugAssign (.Name x p') .Sub e pos) r n E := ds_aug i hN ip_sub od_ipI h0 (h.imp fun d m ⟨v, ed, q⟩ => ⟨u, v, rfl, ed, q⟩) hi hx hf
theorem ds_put (h : DE X Z e r n fun d m => DE X Z o r m fun x m1 => DE X Z a r m1 fun y k => ∃ q l i j, x = .ref q ∧ k q = some (.lst l) ∧ y = .int i ∧ ixN l.length i = some j ∧ E.nx r (dupd k q (.lst (l.set j d)))) (hsw : swapsWithSole [.Subscript o a p] e pos.line X.env = pure false := by rfl) (hw : swappedStores [.Subscript o a p] e X.env = pure none := by rfl)
    (h1 : (assignEach [.Subscript o a p] X.env).map (·.2) = [assign (.Subscript o a p) X.env] := by rfl)
    (ha : ∀ v, assign (.Subscript o a p) X.env v = (do
      let ov ← holding [v] (eval o X.env)
      let iv ← holding [v, ov] (eval a X.env)
      standAt p
      holding [v, ov, iv] (setItem ov iv v)
      release [v, ov, iv] []) := by intro _; rfl) : DS X Z (.Assign [.Subscript o a p] e pos) r n E :=
  DS.mk (ps_asg pe_W (pg_sub pe_W pe_W set_list ha) hsw hw h1) fun s H S => h.use S fun d m v H1 x1 S1 R1 h => h.use S1 fun x m1 w H2 x2 S2 R2 h => h.use S2 fun y k u H3 x3 S3 R3 ⟨q, l, i, j, ex, hq, ey, hj, hE⟩ => by
    subst ex; subst ey
    cases R2
    obtain ⟨ws, hp, rw'⟩ := S3.own _ _ hq
    refine ⟨q, ws, i, j, rfl, R3, hp, by rw [← rw'.length]; exact hj, r, dupd k q (.lst (l.set j d)), ((x1.trans x2).trans x3).trans (Ext.wr hq), S3.wr hq ⟨_, upd_same, RepL.mono (Ext.wr hq) _ _ (rw'.set j (Rep.mono (x2.trans x3) _ _ R1))⟩, hE⟩
end
end G3
set_option Elab.async false
set_option linter.all false
set_option maxRecDepth 100000
set_option maxHeartbeats 2000000
namespace G3
open PySem PySem.Spec PyProof.Rows L2
def rwipe (r : Rho) : List Nat → Rho
  | [] => r
  | v :: vs => (rwipe r vs).set v none
theorem rwipe_sat {K : PySem.W.Frag} {Z : Hp × DH} {r : Rho} {n : DH} {s : L2.St} {H : Hp} (S : Sat K Z r n s H) : ∀ vs, Sat K Z (rwipe r vs) n (wipe s vs) H
  | [] => S
  | v :: vs => (rwipe_sat S vs).unset v none
theorem wipe_in : ∀ {vs : List Nat} {j : Nat} (s : L2.St), j ∈ vs → (wipe s vs)[j]? = if j < s.length then some none else none
  | v :: vs, j, s, h => by
    show ((wipe s vs).set v none)[j]? = _
    by_cases e : v = j
    · subst e
      rw [List.getElem?_set]
      rw [if_pos rfl, wipe_length]
    · rw [List.getElem?_set_ne e]
      rcases List.mem_cons.mp h with z | z
      · exact absurd z.symm e
      · exact wipe_in s z
theorem wipe_notin : ∀ {vs : List Nat} {j : Nat} (s : L2.St), j ∉ vs → (wipe s vs)[j]? = s[j]?
  | [], j, s, _ => rfl
  | v :: vs, j, s, h => by
    show ((wipe s vs).set v none)[j]? = _
    rw [List.getElem?_set_ne (fun e => h (by rw [e]; exact List.mem_cons_self))]
    exact wipe_notin s fun z => h (List.mem_cons_of_mem _ z)
theorem wipe_tch {vs ws : List Nat} {s s' : L2.St} (t : Tch ws (wipe s vs) s') (hw : ∀ j ∈ ws, j ∈ vs) : wipe s' vs = wipe s vs := by
  refine List.ext_getElem? fun j => ?_
  by_cases hj : j ∈ vs
  · rw [wipe_in s' hj, wipe_in s hj, t.1, wipe_length]
  · rw [wipe_notin s' hj, t.2 j fun z => hj (hw j z)]
section
variable {X : Cx} {Z : Hp × DH} {r : Rho} {n : DH} {e elt tg iter : Expr} {ifs : List Expr} {scope : Scope} {own : List (Str × Nat)} {pos : Pos} {x y : D} {i j : Int} {l m : List D} {Q : D → DH → Prop}
def DTs (Y : Cx) (Z : Hp × DH) (ifs : List Expr) (r : Rho) (n : DH) (b : Bool) : Prop := match ifs with
  | [] => b = true
  | [c] => PDT Y Z c r n b
  | _ => False
abbrev blk1 (X : Cx) (scope : Scope) (st : Shared) (H0 : Hp) (C : Addr) (cl : List (Str × Addr)) (fp : List Addr) : Cx := X.blk st H0 scope (compEnvC scope cl C X.env) fp
def tEl (X : Cx) (scope : Scope) (e : Expr) : TE := fun s H R => ∀ st H0 C cl fp, tW (blk1 X scope st H0 C cl fp) e s H R
def tTg (X : Cx) (scope : Scope) (e : Expr) : TG := fun v s H R => ∀ st H0 C cl fp, tWG (blk1 X scope st H0 C cl fp) e v s H R
def tIf (X : Cx) (scope : Scope) (ifs : List Expr) : TT := fun s H R => match ifs with
  | [] => R true H
  | [c] => ∀ st H0 C cl fp, tWT (blk1 X scope st H0 C cl fp) c s H R
  | _ => False
theorem pts_W (ifs : List Expr) : ∀ st H0 C cl fp, PTs (blk1 X scope st H0 C cl fp) ifs (tIf X scope ifs) := fun st H0 C cl fp => by
  match ifs with
  | [] => exact pts_nil
  | [c] => exact pts_one ⟨fun pins s σ H Q I h => h st H0 C cl fp pins s I⟩
  | _ :: _ :: _ => exact ⟨fun pins s σ H Q I h => False.elim h⟩
theorem de_lcD (hc : X.calm = true) (hN : X.N.Nodup) (ok : BlkOk X.N X.env.scope scope own)
    (hi : DI X Z tg iter r n fun l m => ∃ I : Nat → List D → DH → Prop, I 0 [] m ∧ l.length ≤ sizeLine ∧
    (∀ i d acc m L, l[i]? = some d → acc.length ≤ i → I i acc m → m L = none → ∃ r2 vs b, (∀ j ∈ vs, j ∈ own.map (·.2)) ∧ (∀ st H0 C cl fp, PDG (blk1 X scope st H0 C cl fp) tg vs d (rwipe r (own.map (·.2))) r2) ∧
      (∀ st H0 C cl fp, DTs (blk1 X scope st H0 C cl fp) Z ifs r2 (dupd m L (.lst acc)) b) ∧ (b = false → I (i + 1) acc m) ∧
      (b = true → ∀ st H0 C cl fp, DE (blk1 X scope st H0 C cl fp) Z elt r2 (dupd m L (.lst acc)) fun y m' => m' L = some (.lst acc) ∧ I (i + 1) (acc ++ [y]) (ddel m' L))) ∧
    (∀ acc m, I l.length acc m → acc.length ≤ l.length → Q (.lst acc) m ∨ ∀ L, m L = none → Q (.ref L) (dupd m L (.lst acc))))
    (hf : ∀ x, foldedSetIterable iter X.env x = pure x := by intro _; rfl) : DE X Z (.ListComp elt [⟨tg, iter, ifs, 0⟩] scope pos) r n Q := by
  refine DE.mk (pe_lc (wi := tWI X tg iter) (g := tTg X scope tg) (tt := tIf X scope ifs) (te := tEl X scope elt) hc hN pi_W ok (fun st H0 C cl fp => ⟨fun pins s σ H v u R I rv h => h st H0 C cl fp pins s u I rv⟩) (pts_W ifs) (fun st H0 C cl fp => ⟨fun pins s σ H R I h => h st H0 C cl fp pins s I⟩) hf) fun s H S pins st0 I0 => ?_
  refine thn (hi s H S pins st0 I0) fun v s1 h1 => thn h1 fun u s2 ⟨it, fp, tn, J, H2, e1, e2, e3, e4, e5, l', n1, x1, S1, wk, I, i0, hl, hs, he⟩ => ⟨it, fp, tn, J, H2, e1, e2, e3, e4, e5, fun L hL => ?_⟩
  have fL := S1.own.free hL
  refine ⟨fun i k H3 => i + k = l'.length ∧ ∃ m acc, m L = none ∧ Ext H2 n1 H3 (dupd m L (.lst acc)) ∧ HSat X.K (dupd m L (.lst acc)) H3 ∧ acc.length ≤ i ∧ I i acc m,
    ⟨l'.length, by omega, n1, [], fL, Ext.newO hL, S1.own.newO hL ⟨[], upd_same, RepL.nil⟩, Nat.le_refl _, i0⟩, fun i k H3 ⟨em, m, acc, mL, x3, hs3, al, i3⟩ => ?_⟩
  obtain ⟨w1, w2⟩ := wk i H3 _ x3 hs3
  by_cases hlt : i < l'.length
  · obtain ⟨d, hd⟩ : ∃ d, l'[i]? = some d := ⟨_, List.getElem?_eq_getElem hlt⟩
    obtain ⟨go, yl⟩ := w1 d hd
    refine .inr ⟨go, fun H' => ∃ m acc, m L = none ∧ Ext H2 n1 H' (dupd m L (.lst acc)) ∧ HSat X.K (dupd m L (.lst acc)) H' ∧ acc.length ≤ i + 1 ∧ I (i + 1) acc m, fun H' q => ⟨k - 1, by omega, by omega, q⟩, fun w H4 hy => ?_⟩
    obtain ⟨sm, rd⟩ := yl w H4 hy
    have x4 : Ext H3 (dupd m L (.lst acc)) H4 (dupd m L (.lst acc)) := fun a o h h' => ⟨sm a o h', h⟩
    have S4 : Sat X.K Z r (dupd m L (.lst acc)) s H4 := S1.ext (x3.trans x4) fun a o h => (hs3 a o h).keep x4 fun y hy => sm a y hy
    obtain ⟨r2, vs, b, hv, pd, ht, hn, hb⟩ := hs i d acc m L hd al i3 mL
    intro st H0 C cl fp'
    refine tWG_mono (pd st H0 C cl fp' Z _ (wipe s (own.map (·.2))) H4 w (rwipe_sat S4 _) rd) fun s2 H5 ⟨eh, S5, tc⟩ => ?_
    subst eh
    refine ⟨wipe_tch tc hv, ?_⟩
    have body : ∀ H6, Ext H5 (dupd m L (.lst acc)) H6 (dupd m L (.lst acc)) → Sat X.K Z r2 (dupd m L (.lst acc)) s2 H6 → (if b = true then tEl X scope elt s2 H6 fun y H7 => ∃ acc', H7 L = some (.lst acc') ∧ acc'.length < sizeLine ∧ (∃ m acc, m L = none ∧ Ext H2 n1 (upd H7 L (.lst (acc' ++ [y]))) (dupd m L (.lst acc)) ∧ HSat X.K (dupd m L (.lst acc)) (upd H7 L (.lst (acc' ++ [y]))) ∧ acc.length ≤ i + 1 ∧ I (i + 1) acc m) else
        (∃ m acc, m L = none ∧ Ext H2 n1 H6 (dupd m L (.lst acc)) ∧ HSat X.K (dupd m L (.lst acc)) H6 ∧ acc.length ≤ i + 1 ∧ I (i + 1) acc m)) := fun H6 x6 S6 => by
      cases b with
      | false =>
        rw [if_neg Bool.false_ne_true]
        exact ⟨m, acc, mL, (x3.trans x4).trans x6, S6.own, Nat.le_succ_of_le al, hn rfl⟩
      | true =>
        rw [if_pos rfl]
        intro st H0 C cl fp''
        refine (hb rfl st H0 C cl fp'').use S6 fun y m' vy H7 x7 S7 ry ⟨hL7, i7⟩ => ?_
        obtain ⟨ws, hp, rl⟩ := S7.own L _ hL7
        have ef : dupd (ddel m' L) L (.lst (acc ++ [y])) = dupd m' L (.lst (acc ++ [y])) := by
          funext b
          unfold dupd ddel
          by_cases hb : b = L
          · rw [if_pos hb, if_pos hb]
          · rw [if_neg hb, if_neg hb, if_neg hb]
        refine ⟨ws, hp, by rw [← rl.length]; omega, ddel m' L, acc ++ [y], ddel_same, ?_, ?_, by rw [List.length_append]; show acc.length + 1 ≤ i + 1; omega, i7⟩
        · rw [ef]
          exact (((x3.trans x4).trans x6).trans x7).trans (Ext.wr hL7)
        · rw [ef]
          exact S7.own.wr hL7 ⟨_, upd_same, RepL.mono (Ext.wr hL7) _ _ (rl.append (RepL.one ry))⟩
    match ifs, ht with
    | [], ht =>
      have hb' : b = true := ht st H0 C cl fp'
      subst hb'
      exact body H5 Ext.refl S5
    | [c], ht =>
      intro st H0 C cl fp''
      refine (show DT (blk1 X scope st H0 C cl fp'') Z c r2 _ _ from ht st H0 C cl fp'').use S5 fun t m' H6 x6 S6 ⟨et, em⟩ => ?_
      subst et; subst em
      exact body H6 x6 S6
    | _ :: _ :: _, ht => exact False.elim (ht st H0 C cl fp')
  · have ei : i = l'.length := by omega
    subst ei
    refine .inl ⟨w2 (Nat.le_refl _), ?_⟩
    have S3 : Sat X.K Z r (dupd m L (.lst acc)) s H3 := S1.ext x3 hs3
    rcases he acc m i3 al with q | q
    · obtain ⟨ws, hp, rl⟩ := hs3 L _ dupd_same
      have ed : ddel (dupd m L (.lst acc)) L = m := ddel_dupd mL
      have S3' : Sat X.K Z r m s H3 := by
        have := S3.del (p := L)
        rw [ed] at this
        exact this
      have x3' : Ext H2 n1 H3 m := by
        have := x3.trans (Ext.del (H := H3) (n := dupd m L (.lst acc)) (p := L))
        rw [ed] at this
        exact this
      have rl' : RepL X.K H3 m acc ws := by
        have := RepL.mono (Ext.del (H := H3) (n := dupd m L (.lst acc)) (p := L)) _ _ rl
        rw [ed] at this
        exact this
      exact ⟨.lst acc, m, x1.trans x3', S3', Rep.l ⟨mL, hp⟩ rl', q⟩
    · exact ⟨.ref L, dupd m L (.lst acc), x1.trans x3, S3, Rep.rf, q L mL⟩
theorem de_lc (I : Nat → List D → DH → Prop) (hc : X.calm = true) (hN : X.N.Nodup) (ok : BlkOk X.N X.env.scope scope own)
    (hi : DI X Z tg iter r n fun l' m => l' = l ∧ I 0 [] m) (hl : l.length ≤ sizeLine)
    (hs : ∀ i d acc m L, l[i]? = some d → acc.length ≤ i → I i acc m → m L = none → ∃ r2 vs b, (∀ j ∈ vs, j ∈ own.map (·.2)) ∧ (∀ st H0 C cl fp, PDG (blk1 X scope st H0 C cl fp) tg vs d (rwipe r (own.map (·.2))) r2) ∧
      (∀ st H0 C cl fp, DTs (blk1 X scope st H0 C cl fp) Z ifs r2 (dupd m L (.lst acc)) b) ∧ (b = false → I (i + 1) acc m) ∧
      (b = true → ∀ st H0 C cl fp, DE (blk1 X scope st H0 C cl fp) Z elt r2 (dupd m L (.lst acc)) fun y m' => m' L = some (.lst acc) ∧ I (i + 1) (acc ++ [y]) (ddel m' L)))
    (he : ∀ acc m, I l.length acc m → acc.length ≤ l.length → Q (.lst acc) m ∨ ∀ L, m L = none → Q (.ref L) (dupd m L (.lst acc)))
    (hf : ∀ x, foldedSetIterable iter X.env x = pure x := by intro _; rfl) : DE X Z (.ListComp elt [⟨tg, iter, ifs, 0⟩] scope pos) r n Q :=
  de_lcD hc hN ok (DI.imp hi fun l' m ⟨e, h⟩ => ⟨I, h, by rw [e]; exact hl, by rw [e]; exact hs, by rw [e]; exact he⟩) hf
theorem pd_lc (f : D → D) (p : D → Bool) (hc : X.calm = true) (hN : X.N.Nodup) (ok : BlkOk X.N X.env.scope scope own)
    (hi : DI X Z tg iter r n fun l' m => l' = l ∧ m = n) (hl : l.length ≤ sizeLine)
    (hs : ∀ (i : Nat) d m, l[i]? = some d → Sub n m → ∃ r2 vs, (∀ j ∈ vs, j ∈ own.map (·.2)) ∧ (∀ st H0 C cl fp, PDG (blk1 X scope st H0 C cl fp) tg vs d (rwipe r (own.map (·.2))) r2) ∧
      (∀ st H0 C cl fp, DTs (blk1 X scope st H0 C cl fp) Z ifs r2 m (p d)) ∧
      (p d = true → ∀ st H0 C cl fp, PD (blk1 X scope st H0 C cl fp) Z elt r2 m (f d)))
    (hf : ∀ x, foldedSetIterable iter X.env x = pure x := by intro _; rfl) : PD X Z (.ListComp elt [⟨tg, iter, ifs, 0⟩] scope pos) r n (.lst ((l.filter p).map f)) := by
  refine de_lc (I := fun i acc m => m = n ∧ acc = ((l.take i).filter p).map f) hc hN ok (fun s H S => ?_) hl (fun i d acc m L hd al ⟨em, ea⟩ mL => ?_) (fun acc m ⟨em, ea⟩ _ => ?_) hf
  · intro pins st I
    refine thn (hi s H S pins st I) fun v s1 h1 => thn h1 fun u s2 ⟨it, fp, tn, J, H2, e1, e2, e3, e4, e5, l', n1, x1, S1, wk, el, en⟩ => ⟨it, fp, tn, J, H2, e1, e2, e3, e4, e5, l', n1, x1, S1, wk, el, en, ?_⟩
    simp
  · subst em
    obtain ⟨r2, vs, h1, h2, h3, h4⟩ := hs i d (dupd m L (.lst acc)) hd (Sub.up mL)
    have et : ((l.take (i + 1)).filter p).map f = acc ++ ([d].filter p).map f := by
      rw [ea, List.take_add_one, hd, List.filter_append, List.map_append]
      rfl
    refine ⟨r2, vs, p d, h1, h2, h3, fun hp => ⟨rfl, ?_⟩, fun hp st H0 C cl fp => ?_⟩
    · rw [et, List.filter_cons_of_neg (by rw [hp]; exact Bool.false_ne_true)]
      simp
    · refine DE.imp (h4 hp st H0 C cl fp) fun y m' ⟨ey, em⟩ => ?_
      subst ey; subst em
      refine ⟨dupd_same, ddel_dupd mL, ?_⟩
      rw [et, List.filter_cons_of_pos hp]
      rfl
  · refine .inl ⟨?_, em⟩
    rw [ea, List.take_length]
abbrev DSp := List D → DH → (D → DH → Prop) → Prop
def spOf (K : PySem.W.Frag) (sp : DSp) : Sp := fun vs H Q _ => ∃ ds n Q0, HSat K n H ∧ RepL K H n ds vs ∧ sp ds n Q0 ∧ ∀ d n' v H', Q0 d n' → Ext H n H' n' → HSat K n' H' → Rep K H' n' d v → Q v H'
def rstart (N : List Str) (ds : List D) : Rho := ds.map some ++ List.replicate (N.length - ds.length) none
theorem start_sat {K : PySem.W.Frag} {H : Hp} {N : List Str} {ds : List D} {vs : List V} (hs : HSat K n H) (rl : RepL K H n ds vs) : Sat K (H, n) (rstart N ds) n (L2.start N vs) H := by
  refine ⟨Ext.refl, ?_, fun i d e => ?_, hs⟩
  · unfold rstart L2.start
    rw [List.length_append, List.length_append, List.length_map, List.length_map, List.length_replicate, List.length_replicate, rl.length]
  · unfold rstart at e
    unfold L2.start
    by_cases hi : i < ds.length
    · rw [List.getElem?_append_left (by rw [List.length_map]; exact hi), List.getElem?_map] at e
      rw [List.getElem?_append_left (by rw [List.length_map, ← rl.length]; exact hi), List.getElem?_map]
      cases q : ds[i]? with
      | none => rw [q] at e; cases e
      | some x =>
        rw [q] at e
        cases e
        obtain ⟨v, hv, rv⟩ := rl.get q
        exact ⟨v, by rw [hv]; rfl, rv⟩
    · rw [List.getElem?_append_right (by rw [List.length_map]; omega), List.getElem?_replicate] at e
      split at e <;> cases e
variable {P : Program} {w : World} {K : PySem.W.Frag} {mg : Str → Option Value} {base : Heap}
theorem def_ok {x qual : Str} {st : Stmt} {f : Addr} {fd : FuncData} {N ps : List Str} {k : Nat} {sp : DSp} (F : Fun K x qual st f fd) (S : FnScope N ps (defScope st)) (len : ∀ ds n Q, sp ds n Q → ds.length = ps.length)
    (hbody : ∀ (cdv : Value) (A : Around) (outer : List Env) (s : Shared) (H : Hp) (E : XK) (ds : List D) (n : DH) (Q : D → DH → Prop), Room k (A.deeper (envOfC qual (defScope st) s.heap.objs.size f cdv)) → sp ds n Q →
      DSs (cxOf CX0 P w K mg base N qual (defScope st) f cdv A outer s H E).nox (H, n) (defBody st) (rstart N ds) n { nx := fun _ m => Q .non m, rt := Q }) : FnOk P w K mg base CX0 (k + 1) f fd ps (spOf K sp) :=
  F.ok S (fun vs H Q E ⟨ds, n, Q0, _, rl, h, _⟩ => by rw [← rl.length]; exact len ds n Q0 h) fun cdv A outer s H vs Q E hr ⟨ds, n, Q0, hs, rl, h, q⟩ =>
    ⟨_, pss_W, (hbody cdv A outer s H E ds n Q0 hr h).use (start_sat hs rl) (fun s' H' ⟨r', m, x, S', q0⟩ => q .non m .non H' q0 x S'.own Rep.no) (fun v H' ⟨d, m, x, _, hs', rv, q0⟩ => q d m v H' q0 x hs' rv) (fun _ _ ⟨_, _, _, _, q⟩ => q.elim) (fun _ _ ⟨_, _, _, _, q⟩ => q.elim)⟩
structure DCal (P : Program) (w : World) (K : PySem.W.Frag) (mg : Str → Option Value) (base : Heap) (k : Nat) (x : Str) (sp : DSp) : Prop where
  ex : ∃ f fd ps, FnOk P w K mg base CX0 k f fd ps (spOf K sp) ∧ mg x = some (.ref f) ∧ PySem.W.keepIn K (.ref f) = true ∧ Binds K fd ps []
theorem DCal.imp {k : Nat} {x : Str} {sp sp' : DSp} (C : DCal P w K mg base k x sp) (h : ∀ ds n Q, sp' ds n Q → sp ds n Q) : DCal P w K mg base k x sp' := by
  obtain ⟨f, fd, ps, F, a, b, c⟩ := C.ex
  exact ⟨f, fd, ps, F.imp fun vs H Q E ⟨ds, n, Q0, h1, h2, h3, h4⟩ => ⟨ds, n, Q0, h1, h2, h _ _ _ h3, h4⟩, a, b, c⟩
theorem DCal.mono {j k : Nat} {x : Str} {sp : DSp} (C : DCal P w K mg base j x sp) (h : j ≤ k) : DCal P w K mg base k x sp := by
  obtain ⟨f, fd, ps, F, a, b, c⟩ := C.ex
  exact ⟨f, fd, ps, F.mono h, a, b, c⟩
variable {es : List Expr} {p : Pos} {x : Str} {k : Nat} {sp : DSp}
theorem de_call (C : DCal X.prog X.w X.K X.mg X.base k x sp) (hr : Room k X.A) (h : DA X Z (e :: es) r n fun ds m => sp ds m Q) (hg : Gl X x := by rfl) (hdb : (x == ("__debug__" : Str)) = false := by decide) (he : starEach (e :: es) X.env = (false, eval e X.env) :: starEach es X.env := by rfl) (hpl : (backTo pos (starEach es X.env)).any (·.1) = false := by rfl) :
    DE X Z (.Call (.Name x p) (e :: es) [] pos) r n Q := by
  obtain ⟨f, fd, ps, F, hm, hk, hb⟩ := C.ex
  refine DE.mk (pe_call F hr hg hm hk hb .nil pass0 pa_W hdb he hpl) fun s H S => h.use S fun ds m vs H1 x1 S1 R1 q => ?_
  rw [List.append_nil]
  exact ⟨ds, m, Q, S1.own, R1, q, fun d n' v H' q x2 hs rv => ⟨d, n', x1.trans x2, S1.ext x2 hs, rv, q⟩⟩
theorem de_call0 (C : DCal X.prog X.w X.K X.mg X.base k x sp) (hr : Room k X.A) (h : sp [] n Q) (hg : Gl X x := by rfl) (hdb : (x == ("__debug__" : Str)) = false := by decide) : DE X Z (.Call (.Name x p) [] [] pos) r n Q := by
  obtain ⟨f, fd, ps, F, hm, hk, hb⟩ := C.ex
  refine DE.mk (pe_call0 F hr hg hm hk hb .nil pass0 hdb) fun s H S => ?_
  exact ⟨[], n, Q, S.own, RepL.nil, h, fun d n' v H' q x2 hs rv => ⟨d, n', x2, S.ext x2 hs, rv, q⟩⟩
abbrev spF (F : List D → D → Prop) : DSp := fun ds n Q => ∃ d, F ds d ∧ Q d n
theorem pd_call {F : List D → D → Prop} {ds : List D} {d : D} (C : DCal X.prog X.w X.K X.mg X.base k x (spF F)) (hr : Room k X.A) (h : PDA X Z (e :: es) r n ds) (hF : F ds d) (hg : Gl X x := by rfl) (hdb : (x == ("__debug__" : Str)) = false := by decide) (he : starEach (e :: es) X.env = (false, eval e X.env) :: starEach es X.env := by rfl) (hpl : (backTo pos (starEach es X.env)).any (·.1) = false := by rfl) :
    PD X Z (.Call (.Name x p) (e :: es) [] pos) r n d := de_call C hr (h.to ⟨d, hF, rfl, rfl⟩) hg hdb he hpl
end
end G3
set_option Elab.async false
set_option linter.all false
set_option maxRecDepth 100000
set_option maxHeartbeats 2000000
namespace L2
open PySem PySem.Spec PyProof.Rows
structure SupTxt (P : Program) (K : PySem.W.Frag) (f cda cc D : Addr) (fd : FuncData) (slf : Str) : Prop where
  fn : ∃ (oc : Value) (od : Option Addr) (sl : Array (Option Value)), K.lookup f = some ⟨oc, od, .func fd, sl⟩
  par : ∃ ar : Arg, (fd.params.posonlyargs ++ fd.params.args).head? = some ar ∧ ar.arg = slf
  code : ∃ (c : Value) (cd : Option Addr) (vs : Array Value) (sl : Array (Option Value)) (file : Str) (tf : Tok), K.lookup cda = some ⟨c, cd, .fields vs, sl⟩ ∧ vs[2]? = some (.str file tf) ∧ ((P.main.file : Str) == file) = true
  cell : ∃ (c : Value) (cd : Option Addr) (sl : Array (Option Value)), K.lookup cc = some ⟨c, cd, .cell (some (.ref D)), sl⟩
  cls : ∃ cd, PySem.W.clsIn K D = some cd
  top : (P.main.scope.names.lookup ("super" : Str)).isSome = false
section
variable {P : Program} {w : World} {X : Cx} {pins : List (Addr × Obj)} {σ : L2.St} {H : Hp} {s : Shared} {E : Value → Shared → Prop}
theorem boot_super : bootBuiltins "super" = some (.type "super") := PyProof.Rows.Boot.«super»
theorem sup_node {f cda cc D : Addr} {fd : FuncData} {slf attr : Str} {fb : List Stmt} {x C : Addr} {ox : Obj} {odx : Option Obj} {i0 : Nat} {p0 p1 : Pos} {whole : Sem Value} {Q : Value → Shared → Prop} (T : SupTxt X.prog X.K f cda cc D fd slf) (I : Inv X pins σ H s)
    (hfn : X.env.func = some f) (hco : X.env.code = .ref cda) (hcl : X.env.cells.lookup ("__class__" : Str) = some cc) (hks : X.env.kindOf "super" = some .globalImplicit) (hkc : X.env.kindOf "__class__" = some .free) (hka : X.env.kindOf slf = some .local) (hi0 : X.N[i0]? = some slf) (hx : σ[i0]? = some (some (.ref x)))
    (hmg : X.mg "super" = none) (J : PySem.W.InstAt s.heap x ox C odx) (hsub : PySem.W.mroIn X.K C (.ref D) = some true) (hat : (attr == ("__class__" : Str)) = false)
    (h : ∀ so h', h'.get? so = some (PySem.W.ks_superObj D x C) → (∀ b o, s.heap.get? b = some o → h'.get? b = some o) → s.heap.objs.size ≤ so → Q (.ref so) { s with heap := h' }) :
    PySem.wpAt (model X.prog X.w) X.A (.func fb X.env) (attributeBase (.Call (.Name "super" p0) [] [] p1) attr X.env whole) Q E s := by
  obtain ⟨oc, od, osl, hf⟩ := T.fn
  obtain ⟨ar, hp, har⟩ := T.par
  obtain ⟨ccl, cdd, vs, ccs, file, tf, hcode, hvs, hfile⟩ := T.code
  obtain ⟨cl, cld, csl, hcell⟩ := T.cell
  obtain ⟨cdD, hD⟩ := T.cls
  have X0 : X.K.In s.heap := I.kIn
  have ok := I.ok
  obtain ⟨m, hn, hl⟩ := I.loc
  have hself : m slf = some (.ref x) := by
    obtain ⟨u, ru, lk⟩ := hl i0 slf (.ref x) hi0 hx (.inl hka)
    obtain rfl : u = Value.ref x := ru
    rcases lk with ⟨_, e⟩ | ⟨e | e, _⟩
    · exact e
    · rw [hka] at e; cases e
    · rw [hka] at e; cases e
  have hld := @ld_blt X (fun _ _ => False) pins s σ H "super" (.type "super")
  obtain ⟨mb, b1, b2⟩ := ok.mod.blt
  have hg : s.heap.Ns mainGlobals X.mg := ok.mod.glob.keeps I.bk
  have hb : s.heap.Ns builtinsNs mb := b1.keeps I.bk
  have hkind := ok.kind
  have hgl := ok.glob
  have hbl := ok.blt
  obtain ⟨hh, g, d, t, os⟩ := s
  obtain ⟨oD, hD1, hD2⟩ : ∃ oD, hh.get? D = some oD ∧ oD.data = .cls cdD := by
    unfold PySem.W.clsIn at hD
    split at hD
    · rename_i c d cd' sl ho
      cases hD
      exact ⟨_, X0 _ _ ho, rfl⟩
    · cases hD
  refine PySem.ks_wpAt_super_base (env := X.env) hks hkc hat hfn (X0 _ _ hf) rfl hp hco (X0 _ _ hcode) rfl hvs hfile T.top ?_
  refine PySem.W.ks_loadName_global hkind hks (Calls.loadGlobal_builtin (env := X.env) (by rw [hgl]; exact hg) hmg (by rw [hbl]; exact hb) ((b2 _ (by decide)).trans boot_super) ⟨rfl, ?_⟩)
  refine wpAny_loadName_free hkind hkc hcl ⟨_, X0 _ _ hcell, rfl⟩ ?_
  rw [har]
  refine wpAny_loadName_local hkind hka hn hself ?_
  refine ks_wpAny_isType_cls hD1 hD2 ⟨rfl, ?_⟩
  refine ks_wpAny_call_super hD1 hD2 J.at_ J.cls (fun c e => ?_) (PySem.W.looks_mroIn X0 hsub) (fun h' e k => ?_)
  · have := J.no
    unfold PySem.W.notCls at this
    rw [e] at this
    exact Bool.noConfusion this
  · exact h _ _ e k (Nat.le_refl _)
variable {f cda cc D : Addr} {fd : FuncData} {slf : Str} {fb : List Stmt} {x C : Addr} {i0 : Nat} {p0 p1 apos pos : Pos} {e : Expr} {es : List Expr} {ta : TA}
theorem at_supE {R : Hp → Prop} {pl : Sem Bool} (T : SupTxt X.prog X.K f cda cc D fd slf) (I : Inv X pins σ H s)
    (hfn : X.env.func = some f) (hco : X.env.code = .ref cda) (hcl : X.env.cells.lookup ("__class__" : Str) = some cc) (hks : X.env.kindOf "super" = some .globalImplicit) (hkc : X.env.kindOf "__class__" = some .free) (hka : X.env.kindOf slf = some .local) (hi0 : X.N[i0]? = some slf) (hx : σ[i0]? = some (some (.ref x)))
    (hmg : X.mg "super" = none) (TC : OexC X.K C) (ex : H x = some (exo x C none)) (hsub : PySem.W.mroIn X.K C (.ref D) = some true) (hth : PySem.W.nsIn X.K cStatics "thirdparty.any" = some none)
    (hm : PySem.W.ks_superIn X.K C D "__init__" = some (some (.builtin "ValueError.__init__"))) (hB : PySem.W.subIn X.K (.ref C) (.type "ValueError") = some true)
    (ha : PA X (e :: es) ta) (h : ta σ H fun vs H1 => vs.length ≤ 1000 ∧ H1 x = some (exo x C none) ∧ R H1)
    (he : starEach (e :: es) X.env = (false, eval e X.env) :: starEach es X.env := by rfl) (hpl : (backTo pos (starEach es X.env)).any (·.1) = false := by rfl)
    (hev : eval (.Call (.Attribute (.Call (.Name "super" p0) [] [] p1) "__init__" apos) (e :: es) [] pos) X.env = (do
      let ov ← attributeBase (.Call (.Name "super" p0) [] [] p1) "__init__" X.env (eval (.Call (.Name "super" p0) [] [] p1) X.env)
      standAt apos.atName
      let (f, first) ← holding [ov] (getMethod ov "__init__" pl)
      callWith pos f first (backTo pos (starEach (e :: es) X.env)) []) := by rfl) :
    PySem.wpAt (model X.prog X.w) X.A (.func fb X.env) (eval (.Call (.Attribute (.Call (.Name "super" p0) [] [] p1) "__init__" apos) (e :: es) [] pos) X.env) (fun _ s' => ∃ H', Inv X pins σ H' s' ∧ R H') X.xe s := by
  obtain ⟨t1, ho⟩ := exo_at I.hok ex
  refine PySem.ks_wpAt_MethodCall (sup_node T I hfn hco hcl hks hkc hka hi0 hx hmg (C := C) (odx := none) ⟨ho, rfl, rfl, True.intro⟩ hsub (by decide) fun so h' eso k hsz => ?_) hev
  have I1 : Inv X pins σ H { s with heap := h' } := I.kept (t' := s.toks) k
  have X1 : X.K.In h' := I1.kIn
  have J1 : PySem.W.InstAt h' x _ C none := ⟨k _ _ ho, rfl, rfl, True.intro⟩
  have hI : PySem.W.Looks (model X.prog X.w) h' (isInstance (.ref x) (.type "ValueError")) true := J1.type.andThen (PySem.W.looks_subIn X1 hB)
  obtain ⟨nm, q, N, bs, bm, sn, sub, ab, col, dd, k0, k1, k2, k3, k5, hC, hbm⟩ := TC.cls
  cases hc : PySem.W.clsIn X.K C with
  | none => unfold PySem.W.ks_superIn at hm; rw [hc] at hm; cases hm
  | some cd =>
    unfold PySem.W.ks_superIn at hm
    rw [hc] at hm
    refine PySem.W.kxs_getMethod PySem.W.kxs_ValueError eso (PySem.W.looks_opaque X1 hth) (l₀ := cd.mro) ?_ rfl X1 hm hI (PySem.W.ks_ne X1 J1 hc) (by decide) ?_
    · exact fun A Q E s k q => wpAny_bind ((PySem.W.looks_clsIn X1 hc) A _ E s k (wpAny_pure q))
    · have I2 := ClX.pin_new (o := PySem.W.kxs_mw "ValueError.__init__" x) (t' := s.toks + 1) I1 (fun _ _ z => Heap.get?_push_of_some _ z) (Nat.le_refl _) (Heap.get?_push_size h' rfl) (fun v z => nomatch z)
      show wpAny _ _ (callWith pos (.ref h'.objs.size) [] (backTo pos (starEach (e :: es) X.env)) []) _ _ _
      rw [he]
      refine PySem.W.kxs_callWith (i := "ValueError.__init__") (x := x) (by show (false || (backTo pos (starEach es X.env)).any (·.1)) = false; rw [hpl] <;> rfl) (Calls.evalArgs_plain ?_)
      have hA := ha.run pos _ _ σ H _ I2 h
      rw [he] at hA
      refine thn hA fun us s3 ⟨vs, H3, I3, r3, hl, ex3, hR⟩ => ?_
      have hu := ClX.pin_at I3
      refine ⟨hu, ?_⟩
      have I4 := ClX.unpin I3
      obtain ⟨t3, ho3⟩ := exo_at I4.hok ex3
      have hlen : us.length ≤ sizeLine := by
        rw [← Paired.length r3, sizeLine_eq]
        omega
      have hC3 := I4.kIn _ _ hC
      obtain ⟨hh, g, d, tk, os⟩ := s3
      refine wpAny_call (codeAny_of_tree ?_)
      show wpAny _ X.A.in1 (callAny (.ref h'.objs.size) ⟨us, []⟩) _ _ _
      simp only [callAny]
      refine wpAny_bind (wpAny_load hu ?_)
      simp only [PySem.W.kxs_mw, show (Value.type "method-wrapper" == Value.type "method" || Value.type "method-wrapper" == Value.type "builtin_function_or_method" || Value.type "method-wrapper" == Value.type "method-wrapper") = true by decide, if_true]
      refine PySem.W.KFB.if_so (by decide) ?_
      refine wpAny_bind (PySem.W.check_bound_init F.excBase_ValueError.toExcCallFacts hC3 ho3 rfl ?_)
      refine wpAny_bind (wpAny_pure (wpAny_pure ?_))
      refine ⟨plainId_quiet F.excBase_ValueError.init.plain _, codeAny_builtin F.excBase_ValueError.initEntry ?_⟩
      refine PySem.W.exc_init_tree (cls := .ref C) (t0 := t3) (dv := none) (c2 := .none) (c3 := .none) (b4 := .bool false) ho3 hlen fun h5 k5 e5 t5 => ?_
      have J := I4.write (t' := tk) (x := x) (e := x) (o := exo x C none) (by rw [ex3]; exact True.intro) (.inl rfl) k5 ⟨_, e5⟩ (exo_ok e5)
      have eu : upd H3 x (exo x C none) = H3 := by
        funext b
        by_cases hb : b = x
        · rw [hb, upd_same, ex3]
        · rw [upd_ne hb]
      rw [eu] at J
      exact ⟨H3, J, hR⟩
end
end L2
set_option Elab.async false
set_option linter.all false
set_option maxRecDepth 100000
set_option maxHeartbeats 2000000
namespace L2
open PySem PySem.Spec PyProof.Rows NdefX
section
variable {CX : CXT} {P : Program} {w : World} {K : PySem.W.Frag} {mg : Str → Option Value} {base : Heap} {N ps : List Str} {F : NF} {f cc D : Addr} {k : Nat} {sp : Sp}
theorem cells_super {A : Around} {outer : List Env} {s : Shared} {H : Hp} (e0 : Env0 P w K mg base A outer s H) {c : Value} {cd : Option Addr} {sl : Array (Option Value)} (hc : K.lookup cc = some ⟨c, cd, .cell (some (.ref D)), sl⟩) :
    CellsAt [(("__class__" : Str), cc)] ["__class__"] [some (.ref D)] s.heap H := by
  have hb := e0.bs cc _ (e0.mod.kin cc _ hc)
  have one : ∀ {y : Str} {c' : Addr}, List.lookup y [(("__class__" : Str), cc)] = some c' → y = ("__class__" : Str) ∧ c' = cc := fun {y c'} e => by
    rw [List.lookup_cons] at e
    by_cases h : (y == ("__class__" : Str)) = true
    · rw [h] at e
      exact ⟨by simpa using h, (Option.some.inj e).symm⟩
    · rw [Bool.eq_false_iff.mpr h] at e
      cases e
  refine ⟨rfl, fun y c' e => ?_, fun x y c' e1 e2 => ?_, fun i y e => ?_⟩
  · obtain ⟨_, rfl⟩ := one e
    exact ⟨hb.2, _, _, hb.1, rfl⟩
  · rw [(one e1).1, (one e2).1]
  · match i, e with
    | 0, e =>
      cases e
      refine ⟨cc, by rw [List.lookup_cons]; simp, fun v hv => ?_⟩
      cases hv
      exact ⟨.ref D, rfl, _, hb.1, rfl⟩
    | i + 1, e => simp at e
theorem fn_ofS {oc kV doc pm ct : Value} {od an : Option Addr} {osl : Array (Option Value)} {c : Value} {cd : Option Addr} {sl : Array (Option Value)}
    (lk : K.lookup f = some ⟨oc, od, .func (PySem.W.fnX F.name F.qual F.params F.body F.scope F.cl .none kV doc pm an (.ref F.c) ct), osl⟩) (hcd : PySem.W.codeIn K (.ref F.c) F.qual = true) (hcl : F.cl = [(("__class__" : Str), cc)]) (hc : K.lookup cc = some ⟨c, cd, .cell (some (.ref D)), sl⟩)
    (S : NScope N ps ["__class__"] F.scope) (len : ∀ vs H Q E, sp vs H Q E → vs.length = ps.length)
    (hbody : ∀ (A : Around) (outer : List Env) (s : Shared) (H : Hp) (vs : List V) (Q : VK) (E : XK), Room k (A.deeper (envF F f s.heap.objs.size)) → sp vs H Q E → ∀ st, Inv (ncx CX P w K mg base N F f A outer s H E) [] (startF N vs [some (.ref D)]) H st →
      PySem.wpAt (model P w) (A.deeper (envF F f s.heap.objs.size)) (.func F.body (envF F f s.heap.objs.size)) (execs F.body (envF F f s.heap.objs.size)) (SP (ncx CX P w K mg base N F f A outer s H E) [] { nx := fun _ H' => Q .non H', rt := Q }) (ncx CX P w K mg base N F f A outer s H E).xe st) :
    FnOk P w K mg base CX (k + 1) f (PySem.W.fnX F.name F.qual F.params F.body F.scope F.cl .none kV doc pm an (.ref F.c) ct) ps sp := by
  refine ⟨len, fun A outer s H args us vs Q E hr e0 hb r hsp => ?_⟩
  have hl := len _ _ _ _ hsp
  have KX : K.In s.heap := e0.mod.kin.keeps fun b o e => (e0.bs b o e).1
  have lim : s.heap.NoLimit := e0.mod.nolimit.keeps fun b o e => (e0.bs b o e).1
  refine PySem.ks_codeAny_call_defAt hr.depth (KX _ _ lk) rfl lim (PySem.W.codeRec_of KX hcd) rfl hb S.nocell (fun ⟨n, v⟩ hy => S.par n (List.of_mem_zip hy).1) (fun h₁ hns kp => ?_) S.co S.gen S.kind
  have C : CellsAt F.cl ["__class__"] [some (.ref D)] s.heap H := by rw [hcl]; exact cells_super e0 hc
  have I : Inv (ncx CX P w K mg base N F f A outer s H E) [] (startF N vs [some (.ref D)]) H { s with heap := h₁, toks := s.toks + (ps.zip us).length } := inv_startN S hr.hd e0 hl r C hns kp
  refine PySem.ks_wpAt_mono (hbody A outer s H vs Q E (hr.deeper _) hsp _ I) (fun fl s' hs => ?_) fun e s' hs => hs
  have fin : ∀ {σ' : L2.St} {H' : Hp} {v : V} {u : Value}, Inv (ncx CX P w K mg base N F f A outer s H E) [] σ' H' s' → L2.RelV v u → Q v H' → CE outer P w H s Q u s' :=
    fun {σ' H' v u} J rv q => ⟨v, H', J.os, J.bare, J.base, J.hok, rv, q⟩
  cases fl with
  | ret u =>
    obtain ⟨v, σ', H', J, rv, q⟩ := hs
    exact fin J rv q
  | next =>
    obtain ⟨σ', H', J, q⟩ := hs
    exact fin (v := V.non) (u := Value.none) J rfl q
  | brk =>
    obtain ⟨_, _, _, q⟩ := hs
    exact False.elim q
  | cont =>
    obtain ⟨_, _, _, q⟩ := hs
    exact False.elim q
end
end L2
set_option Elab.async false
set_option linter.all false
set_option maxRecDepth 100000
set_option maxHeartbeats 2000000
namespace G3
open PySem PySem.Spec PyProof.Rows L2
abbrev XP := Value → List (Str × D) → DH → Prop
abbrev XR := Value → List (Str × D) → Rho → DH → Prop
def RepX (K : PySem.W.Frag) (H : Hp) (n : DH) (fs : List (Str × D)) : Option Addr → Prop
  | none => fs = []
  | some a => ∃ vs : List (Str × V), H a = some (.xd vs) ∧ n a = none ∧ vs.map (·.1) = fs.map (·.1) ∧ RepL K H n (fs.map (·.2)) (vs.map (·.2))
theorem RepX.mono {K : PySem.W.Frag} {H H' : Hp} {n n' : DH} {fs : List (Str × D)} {d : Option Addr} (e : Ext H n H' n') (h : RepX K H n fs d) : RepX K H' n' fs d := by
  cases d with
  | none => exact h
  | some a =>
    obtain ⟨vs, h1, h2, h3, h4⟩ := h
    obtain ⟨e1, e2⟩ := e _ _ h2 h1
    exact ⟨vs, e1, e2, h3, RepL.mono e _ _ h4⟩
theorem lookup_rep {K : PySem.W.Frag} {H : Hp} {n : DH} {f : Str} {x : D} : ∀ {fs : List (Str × D)} {vs : List (Str × V)}, vs.map (·.1) = fs.map (·.1) → RepL K H n (fs.map (·.2)) (vs.map (·.2)) → fs.lookup f = some x → ∃ v, vs.lookup f = some v ∧ Rep K H n x v
  | [], vs, _, _, h => by cases h
  | (g, d) :: fs, [], e, _, _ => by cases e
  | (g, d) :: fs, (g', v) :: vs, e, r, h => by
    obtain ⟨w, ws, e1, r1, r2⟩ := r
    rw [List.map_cons] at e1
    injection e1 with e1 e2
    subst e1; subst e2
    rw [List.map_cons, List.map_cons] at e
    injection e with e3 e4
    have e3 : g' = g := e3
    subst e3
    rw [List.lookup_cons] at h ⊢
    by_cases hf : (f == g') = true
    · rw [hf] at h ⊢
      cases h
      exact ⟨v, rfl, r1⟩
    · rw [Bool.eq_false_iff.mpr hf] at h ⊢
      exact lookup_rep e4 r2 h
def WD (K : PySem.W.Frag) (Z : Hp × DH) (EX : XR) : WX := fun cls dd σ H => ∃ fs r n, EX cls fs r n ∧ Sat K Z r n σ H ∧ RepX K H n fs dd
abbrev XS (EX : XR) : XR := fun cls fs r m => ∃ m2, Sub m2 m ∧ EX cls fs r m2
abbrev TakesD (X : Cx) (Z : Hp × DH) (EX : XR) : Prop := Takes X (WD X.K Z EX)
abbrev DSpX := List D → DH → (D → DH → Prop) → XP → Prop
def spOfX (K : PySem.W.Frag) (sp : DSpX) : Sp := fun vs H Q E => ∃ ds n Q0 E0, HSat K n H ∧ RepL K H n ds vs ∧ sp ds n Q0 E0 ∧ (∀ d n' v H', Q0 d n' → Ext H n H' n' → HSat K n' H' → Rep K H' n' d v → Q v H') ∧
  ∀ cls fs dd n' H', E0 cls fs n' → Ext H n H' n' → HSat K n' H' → RepX K H' n' fs dd → E cls dd H'
section
variable {P : Program} {w : World} {K : PySem.W.Frag} {mg : Str → Option Value} {base : Heap} {X : Cx} {Z : Hp × DH} {r : Rho} {n : DH} {e : Expr} {es : List Expr} {p pos pos' : Pos} {Q : D → DH → Prop} {E : DEnds} {EX : XR}
theorem def_okX {x qual : Str} {st : Stmt} {f : Addr} {fd : FuncData} {N ps : List Str} {k : Nat} {sp : DSpX} (F : Fun K x qual st f fd) (S : FnScope N ps (defScope st)) (len : ∀ ds n Q E, sp ds n Q E → ds.length = ps.length)
    (hbody : ∀ (cdv : Value) (A : Around) (outer : List Env) (s : Shared) (H : Hp) (E : XK) (ds : List D) (n : DH) (Q : D → DH → Prop) (EX : XP), Room k (A.deeper (envOfC qual (defScope st) s.heap.objs.size f cdv)) → sp ds n Q EX →
      TakesD (cxOf (L2.CX P w) P w K mg base N qual (defScope st) f cdv A outer s H E) (H, n) (fun cls fs _ m => EX cls fs m) → PassesOwn (model P w) (cxOf (L2.CX P w) P w K mg base N qual (defScope st) f cdv A outer s H E).A (cxOf (L2.CX P w) P w K mg base N qual (defScope st) f cdv A outer s H E).env (cxOf (L2.CX P w) P w K mg base N qual (defScope st) f cdv A outer s H E).xe →
      DSs (cxOf (L2.CX P w) P w K mg base N qual (defScope st) f cdv A outer s H E) (H, n) (defBody st) (rstart N ds) n { nx := fun _ m => Q .non m, rt := Q }) : FnOk P w K mg base (L2.CX P w) (k + 1) f fd ps (spOfX K sp) :=
  F.okX S (fun vs H Q E ⟨ds, n, Q0, E0, _, rl, h, _⟩ => by rw [← rl.length]; exact len ds n Q0 E0 h) fun cdv A outer s H vs Q E hr ⟨ds, n, Q0, E0, hs, rl, h, q, qe⟩ => by
    refine ⟨_, pss_W, (hbody cdv A outer s H E ds n Q0 E0 hr h ?_ ?_).use (start_sat hs rl) (fun s' H' ⟨r', m, x, S', q0⟩ => q .non m .non H' q0 x S'.own Rep.no) (fun v H' ⟨d, m, x, _, hs', rv, q0⟩ => q d m v H' q0 x hs' rv) (fun _ _ ⟨_, _, _, _, q⟩ => q.elim) (fun _ _ ⟨_, _, _, _, q⟩ => q.elim)⟩
    · exact (takes_of rfl rfl rfl rfl).imp fun cls dd σ H' ⟨fs, r', m, h0, S', rx⟩ => qe cls fs dd m H' h0 S'.z S'.own rx
    · exact passes_of rfl
structure DCalX (P : Program) (w : World) (K : PySem.W.Frag) (mg : Str → Option Value) (base : Heap) (k : Nat) (x : Str) (sp : DSpX) : Prop where
  ex : ∃ f fd ps, FnOk P w K mg base (L2.CX P w) k f fd ps (spOfX K sp) ∧ mg x = some (.ref f) ∧ PySem.W.keepIn K (.ref f) = true ∧ Binds K fd ps []
theorem DCalX.mono {j k : Nat} {x : Str} {sp : DSpX} (C : DCalX P w K mg base j x sp) (h : j ≤ k) : DCalX P w K mg base k x sp := by
  obtain ⟨f, fd, ps, F, a, b, c⟩ := C.ex
  exact ⟨f, fd, ps, F.mono h, a, b, c⟩
variable {x : Str} {k : Nat} {sp : DSpX}
theorem de_callX (C : DCalX X.prog X.w X.K X.mg X.base k x sp) (tk : TakesD X Z EX) (hr : Room k X.A) (h : DA X Z (e :: es) r n fun ds m => sp ds m Q fun cls fs m' => XS EX cls fs r m') (hg : Gl X x := by rfl) (hdb : (x == ("__debug__" : Str)) = false := by decide) (he : starEach (e :: es) X.env = (false, eval e X.env) :: starEach es X.env := by rfl) (hpl : (backTo pos (starEach es X.env)).any (·.1) = false := by rfl) :
    DE X Z (.Call (.Name x p) (e :: es) [] pos) r n Q := by
  obtain ⟨f, fd, ps, F, hm, hk, hb⟩ := C.ex
  refine DE.mk (pe_callS (E := WE (WD X.K Z EX)) F hr hg hm hk hb (fun σ => passAt tk σ) pa_W hdb he hpl) fun s H S => h.use S fun ds m vs H1 x1 S1 R1 q => ?_
  exact ⟨ds, m, Q, _, S1.own, R1, q, fun d n' v H' q x2 hs rv => ⟨d, n', x1.trans x2, S1.ext x2 hs, rv, q⟩, fun cls fs dd n' H' ⟨n2, sb, q⟩ x2 hs rx => ⟨fs, r, n2, q, (S1.ext x2 hs).sub sb, rx.mono sb.ext⟩⟩
theorem ds_try_as {x nm : Str} {c : Value} {i : Nat} {body suite : List Stmt} {b0 : Stmt} {np pos'' : Pos} (EXb : XR) (hs : X.stack = X.env :: X.outer) (hf : X.env.frame = some X.env.locals) (hN : X.N.Nodup) (hi : X.N[i]? = some nm) (hln : X.env.kindOf nm = some .local) (hc : Names X x c) (tk : TakesD X Z EX)
    (hb : ∀ (pn : List (Addr × Obj)) (xe : Value → Shared → Prop) (Z' : Hp × DH), TakesD (X.tr pn xe) Z' EXb → PassesOwn (model X.prog X.w) X.A X.env xe → DSs (X.tr pn xe) Z' body r n E)
    (hx : ∀ cls fs r' m, EXb cls fs r' m → ∃ b, PySem.W.exmOne X.K cls c = some b ∧ (b = true → ∀ (a : Addr) (oe : Obj) (d : Option Addr) (pn : List (Addr × Obj)) (H : Hp), Zc cls d oe → (∃ vs, oe.data = .fields vs) → RepX X.K H m fs d →
      DSs (X.suite a ((a, oe) :: pn)) (H, m) (b0 :: suite) (r'.set i (some (.ref a))) m { nx := fun r2 m2 => E.nx (r2.set i none) m2, rt := E.rt, bk := fun r2 m2 => E.bk (r2.set i none) m2, ct := fun r2 m2 => E.ct (r2.set i none) m2 }) ∧ (b = false → EX cls fs r' m)) :
    DS X Z (.Try body [.ExceptHandler (some (.Name x np)) (some nm) (b0 :: suite) pos''] [] [] pos) r n E := by
  refine DS.mk (ps_try_as (tb := fun W D σ H => ∀ pn xe, Takes (X.tr pn xe) W → PassesOwn (model X.prog X.w) X.A X.env xe → tWSs (X.tr pn xe) body D σ H) (ts := fun a cls d D σ H => ∀ oe pn, Zc cls d oe → (∃ vs, oe.data = .fields vs) → tWSs (X.suite a ((a, oe) :: pn)) (b0 :: suite) D σ H)
    hs hf hN hi hln hc tk (fun W pn xe tw po => ⟨fun pins s σ H D I h => h pn xe tw po pins s I⟩) (fun a oe cls d pn hz hfl => ⟨fun pins s σ H D I h => h oe pn hz hfl pins s I⟩)) fun s H S pn xe tw po => ?_
  have S0 : Sat X.K (H, n) r n s H := ⟨Ext.refl, S.len, S.env, S.own⟩
  have back : ∀ {r2 m2 s2 H2}, Sat X.K (H, n) r2 m2 s2 H2 → Sat X.K Z r2 m2 s2 H2 := fun {r2 m2 s2 H2} T => ⟨S.z.trans T.z, T.len, T.env, T.own⟩
  refine (hb pn xe (H, n) (tw.imp fun cls d0 σ H' h => ?_) po).use S0 (fun _ _ ⟨r2, m2, x2, S2, q⟩ => ⟨r2, m2, x2, back S2, q⟩) (fun _ _ ⟨d, m2, x2, z, hs2, rv, q⟩ => ⟨d, m2, x2, S.z.trans x2, hs2, rv, q⟩) (fun _ _ ⟨r2, m2, x2, S2, q⟩ => ⟨r2, m2, x2, back S2, q⟩) (fun _ _ ⟨r2, m2, x2, S2, q⟩ => ⟨r2, m2, x2, back S2, q⟩)
  obtain ⟨fs, r', m, h0, S', rx⟩ := h
  obtain ⟨b, hb1, hb2, hb3⟩ := hx cls fs r' m h0
  refine ⟨b, hb1, fun hbt a ha oe pn' hz hfl => ?_, fun hbf => ⟨fs, r', m, hb3 hbf, back S', rx⟩⟩
  have x0 : Ext H n H' m := S'.z
  have S2 : Sat X.K (H', m) (r'.set i (some (.ref a))) m (σ.set i (some (.ref a))) H' := by
    have S3 : Sat X.K (H', m) r' m σ H' := ⟨Ext.refl, S'.len, S'.env, S'.own⟩
    exact S3.set i Rep.rf
  have back2 : ∀ {r2 m2 s2 H2}, Sat X.K (H', m) r2 m2 s2 H2 → Sat X.K Z r2 m2 s2 H2 := fun {r2 m2 s2 H2} T => ⟨(S.z.trans x0).trans T.z, T.len, T.env, T.own⟩
  refine (hb2 hbt a oe d0 pn' H' hz hfl rx).use S2 (fun s2 H2 ⟨r2, m2, x2, T2, q⟩ => ?_) (fun _ _ ⟨d, m2, x2, z, hs2, rv, q⟩ => ⟨d, m2, x0.trans x2, (S.z.trans x0).trans x2, hs2, rv, q⟩) (fun s2 H2 ⟨r2, m2, x2, T2, q⟩ => ?_) (fun s2 H2 ⟨r2, m2, x2, T2, q⟩ => ?_)
  · exact ⟨_, m2, x0.trans x2, (back2 T2).unset i none, q⟩
  · exact ⟨_, m2, x0.trans x2, (back2 T2).unset i none, q⟩
  · exact ⟨_, m2, x0.trans x2, (back2 T2).unset i none, q⟩
end
end G3
set_option Elab.async false
set_option linter.all false
set_option maxRecDepth 100000
set_option maxHeartbeats 2000000
namespace PySem.W
open PySem PySem.Spec PySem.Calls PyProof.Rows
section
variable {prog : Program} {w : World} {A : Around} {E : Value → Shared → Prop} {s : Shared} {K : Frag} {x D : Addr} {ox : Obj} {od : Option Obj}
theorem g3_findObj_data {C : Addr} {name : Str} {a g : Value} (hc : (clsIn K C).isSome = true) (ha : findIn K (.ref C) name = some (some a)) (hg : specialIn K a "__get__" = some (some g)) (ht : takesIn K a = some true) : findObj K C od name = some (.bind g a) := by
  obtain ⟨cd, hc⟩ := Option.isSome_iff_exists.mp hc
  unfold findObj
  rw [hc, Option.bind_some, ha, Option.bind_some]
  simp [hg, ht]
theorem g3_classE {Q : Option Value → Shared → Prop} (hga : findIn K (.ref D) "__getattribute__" = some (some (.builtin "BaseException.__getattribute__"))) (hgt : findIn K (.ref D) "__getattr__" = some none) (hsub : subIn K (.ref D) (.type "BaseException") = some true)
    (hdct : hasDictIn K D = true) (ha : findIn K (.ref D) "__class__" = some (some (.builtin "object.__class__")))
    (hn : specialIn K (.builtin "object.__class__") "__get__" = some (some (.builtin "getset_descriptor.__get__"))) (htk : takesIn K (.builtin "object.__class__") = some true) (hm : mroIn K D (.type "object") = some true)
    (X : K.In s.heap) (I : InstAt s.heap x ox D od) (h : Q (some (.ref D)) { s with toks := s.toks + 1 }) : wpAny (model prog w) A (getAttr? (.ref x) "__class__") Q E s := by
  have hf : findObj K D od "__class__" = some (.bind (.builtin "getset_descriptor.__get__") (.builtin "object.__class__")) := g3_findObj_data (by obtain ⟨cd, hc, _⟩ := any_some hdct; rw [hc]; rfl) ha hn htk
  obtain ⟨hp, g, d, t, os⟩ := s
  have L0 := I.type (M := model prog w)
  have L1 := looks_findIn (M := model prog w) X hga
  have L2 := looks_findIn (M := model prog w) X hgt
  have L3 := looks_find (M := model prog w) X I hf
  have sub : Looks (model prog w) hp (isInstance (.ref x) (.type "BaseException")) true := L0.andThen (looks_subIn X hsub)
  have hx0 : (false && onTheHeap (Value.builtin "BaseException.__getattribute__")) = false := rfl
  have hx2 : (Value.builtin "BaseException.__getattribute__" == Value.builtin "object.__getattribute__") = false := by decide +kernel
  have hx1 : (onTheHeap (Value.ref D) && Value.builtin "BaseException.__getattribute__" == Value.builtin "object.__getattribute__") = false := by rw [hx2]; rfl
  unfold getAttr? getAttrBy? getAttrBy
  refine wpAny_bind (wpAny_mkText (wpAny_bind (wpAny_attempt (wpAny_holding (wpAny_bind (L0.at (wpAny_bind (L1.at ?_))))))))
  show wpAny _ _ (if (onTheHeap (Value.ref D) && Value.builtin "BaseException.__getattribute__" == Value.builtin "object.__getattribute__") = true then _ else _) _ _ _
  rw [hx1, if_neg Bool.false_ne_true]
  unfold getAttrByItsOwn hookBefore
  refine wpAny_bind ?_
  rw [if_pos (show onTheHeap (Value.ref D) = true from rfl)]
  refine L2.at ?_
  refine wpAny_bind (wpAny_attempt (wpAny_holding ?_))
  unfold callGetattribute
  rw [hx0, if_neg Bool.false_ne_true]
  unfold boundAndCalled
  rw [PySem.F.excAttr_ValueError.ga.bind (.ref x)]
  refine wpAny_bind (wpAny_pure ?_)
  show wpAny _ _ (call (.builtin "BaseException.__getattribute__") [.ref x, .str "__class__" t]) _ _ _
  refine wpAny_call (codeAny_call_builtin PySem.F.excAttr_ValueError.ga.plain PySem.F.entry_bexc_ga ?_)
  refine @check_slot (model prog w) _ _ ⟨hp, g, d, t + 1, os⟩ "BaseException.__getattribute__" "BaseException" "__getattribute__" (.ref x) [.str "__class__" t] [] _ (by decide +kernel) (by decide +kernel) sub (PySem.F.args_bexc_ga (.ref x) (.str "__class__" t)) ?_
  unfold Builtin.«object.__getattribute__»
  refine wpAny_bind (wpAny_of_eq (a := ((Value.ref x : Value), [Value.str "__class__" t])) (by first | rfl | (simp only [slotArgs]; rfl)) ?_)
  refine wpAny_bind (wpAny_pure (wpAny_bind (L0.at (wpAny_bind (L3.at ?_)))))
  show wpAny _ _ (holding [Value.builtin "object.__class__"] (call (.builtin "getset_descriptor.__get__") [.builtin "object.__class__", .ref x, .ref D]) >>= ret) _ _ _
  refine wpAny_bind (wpAny_holding (wpAny_call (class_get (s := ⟨hp, g, d, t + 1, os⟩) (ox := ox) (od := od) X I hm ?_)))
  refine wpAny_pure ?_
  show wpAny _ _ (handedOut (.ref D)) _ _ _
  rw [handedOut_of (v := .ref D) rfl]
  first
    | exact wpAny_pure (wpAny_pure h)
    | exact wpAny_pure h
    | exact wpAny_pure (wpAny_bind (wpAny_pure (wpAny_pure h)))
theorem g3_kitx_exc (hga : findIn K (.ref D) "__getattribute__" = some (some (.builtin "BaseException.__getattribute__"))) (hgt : findIn K (.ref D) "__getattr__" = some none) (hsub : subIn K (.ref D) (.type "BaseException") = some true) (hdct : hasDictIn K D = true) (ha : findIn K (.ref D) "__class__" = some (some (.builtin "object.__class__")))
    (hn : specialIn K (.builtin "object.__class__") "__get__" = some (some (.builtin "getset_descriptor.__get__"))) (htk : takesIn K (.builtin "object.__class__") = some true) (hm : mroIn K D (.type "object") = some true) :
    KitX K (.ref x) (.ref D) (fun h => ∃ od, InstAt h x ox D od) where
  ty := fun _ _ _ ⟨_, I⟩ => I.type
  it := fun _ _ X _ => by
    obtain ⟨cdD, hcD, _⟩ := any_some hdct
    unfold clsIn at hcD
    split at hcD
    · rename_i c' d' cd' sl' ho
      intro A' Q' E' s' k q
      unfold isType loadHead
      exact wpAny_bind (wpAny_loadPart (k _ _ (X _ _ ho)) (wpAny_pure q))
    · cases hcD
  ne := fun h tp dd its n sl X htp => by
    obtain ⟨cdD, hcD, _⟩ := any_some hdct
    refine Bool.eq_false_iff.mpr fun q => ?_
    have e : D = tp := Value.ref.inj (beq_iff_eq.mp q)
    subst e
    unfold clsIn at hcD
    split at hcD
    · rename_i c' d' cd' sl' ho
      have z := (X _ _ ho).symm.trans htp
      cases z
    · cases hcD
  ca := fun X ⟨_, I⟩ k => g3_classE hga hgt hsub hdct ha hn htk hm X I k
end
end PySem.W
namespace G3
open PySem PySem.Spec PyProof.Rows L2
section
variable {P : Program} {w : World} {K : PySem.W.Frag} {mg : Str → Option Value} {base : Heap} {X : Cx} {Z : Hp × DH} {r : Rho} {n : DH} {e : Expr} {es : List Expr} {p pos pos' : Pos} {Q : D → DH → Prop} {E : DEnds} {EX : XR} {x : Str}
theorem pd_glI {i : Int} (h : ∃ t, X.mg x = some (.int i t)) (hg : Gl X x := by rfl) (hd : (x == ("__debug__" : Str)) = false := by decide) : PD X Z (.Name x pos) r n (.int i) := by
  obtain ⟨t, h⟩ := h
  exact pd_gl (v := .int i) h ⟨t, rfl⟩ (fun _ _ => Rep.i) hg hd
theorem pd_glS {i : Str} (h : ∃ t, X.mg x = some (.str i t)) (hg : Gl X x := by rfl) (hd : (x == ("__debug__" : Str)) = false := by decide) : PD X Z (.Name x pos) r n (.str i) := by
  obtain ⟨t, h⟩ := h
  exact pd_gl (v := .str i) h ⟨t, rfl⟩ (fun _ _ => Rep.s) hg hd
def spInit (C : Addr) (fld : Str) : Sp := fun vs H Q _ => ∃ (a : Addr) (i : Nat), vs = [.ref a, .int i] ∧ H a = some (exo a C none) ∧ i < 10 ^ 9 ∧ ∀ d, H d = none → d ≠ a → Q .non (upd (upd H d (exd d [(fld, .int i)])) a (exo a C (some d)))
theorem ds_raiseI {C fI : Addr} {fd : FuncData} {ps : List Str} {fld : Str} (hc : X.calm = true) (tk : TakesD X Z EX) (T : OexC X.K C) (iC : PySem.W.findIn X.K (.ref C) "__init__" = some (some (.ref fI))) (tI : PySem.W.typeIn X.K (.ref fI) = some (.type "function"))
    (F1 : FnOk X.prog X.w X.K X.mg X.base CX0 1 fI fd ps (spInit C fld)) (hr : Room 2 X.A) (hb : Binds X.K fd ps []) (hm : X.mg x = some (.ref C)) (h : DE X Z e r n fun d m => ∃ i : Nat, d = .int i ∧ i < 10 ^ 9 ∧ XS EX (.ref C) [(fld, .int i)] r m) (hg : Gl X x := by rfl)
    (hdb : (x == ("__debug__" : Str)) = false := by decide) (he : starEach (e :: []) X.env = (false, eval e X.env) :: starEach [] X.env := by rfl) (hpl : (backTo pos (starEach [] X.env)).any (·.1) = false := by rfl) :
    DS X Z (.Raise (some (.Call (.Name x p) [e] [] pos)) none pos') r n E :=
  DS.mk (ps_raise hc tk (pmk_oex T iC tI F1 hr hb .nil pass0 hg hm (pa_cons pe_W pa_nil he) hdb he hpl)) fun s H S => h.use S fun d m v H1 x1 S1 R1 ⟨i, ed, hi, m2, sb, q⟩ => by
    subst ed
    refine ⟨Nat.le_of_ble_eq_true rfl, fun a ha => ?_⟩
    rw [show v = V.int i from R1]
    refine ⟨a, i, rfl, upd_same, hi, fun d hd hne => ⟨rfl, d, [(fld, .int i)], upd_same, ?_, ?_, ?_⟩⟩
    · rw [upd_ne hne, upd_same]
    · rw [upd_ne hne] at hd
      exact hd
    · have hd1 : H1 d = none := by rw [upd_ne hne] at hd; exact hd
      have eH : upd (del (upd (upd (upd H1 a (exo a C none)) d (exd d [(fld, .int i)])) a (exo a C (some d))) a) d (.xd [(fld, .int i)]) = upd H1 d (.xd [(fld, .int i)]) := by
        funext b
        by_cases h1 : b = d
        · rw [h1, upd_same, upd_same]
        · rw [upd_ne h1, upd_ne h1]
          by_cases h2 : b = a
          · rw [h2, del_same, ha]
          · rw [del_ne h2, upd_ne h2, upd_ne h1, upd_ne h2]
      rw [eH]
      exact ⟨_, r, m2, q, (S1.new hd1).sub sb, _, upd_same, (S1.own.sub sb).free hd1, rfl, RepL.one Rep.i⟩
variable {a C : Addr} {oe : Obj} {d : Option Addr} {pn : List (Addr × Obj)} {H0 : Hp} {m0 : DH} {fs : List (Str × D)} {y : D} {f : Str}
theorem pd_xf (T : XfC X.K C) (hno : PySem.W.findIn X.K (.ref C) f = some none) (hz : Zc (.ref C) d oe) (hf : ∃ vs, oe.data = .fields vs) (rx : RepX X.K H0 m0 fs d) (hd : d ≠ none) (he : PD (X.suite a ((a, oe) :: pn)) (H0, m0) e r n (.ref a)) (hl : fs.lookup f = some y) (hb : attributeBase e f X.env (eval e X.env) = eval e X.env := by rfl) :
    PD (X.suite a ((a, oe) :: pn)) (H0, m0) (.Attribute e f pos) r n y :=
  DE.mk (pe_xf T hno hz hf pe_W hb) fun s H S => DE.use he S fun x m v H1 x1 S1 R1 ⟨ex, em⟩ => by
    subst ex; subst em
    cases R1
    have rx1 := rx.mono (S1.z : Ext H0 m0 H1 m)
    cases d with
    | none => exact absurd rfl hd
    | some dd =>
      obtain ⟨vs, h1, h2, h3, h4⟩ := rx1
      obtain ⟨v, hv, rv⟩ := lookup_rep h3 h4 hl
      exact ⟨rfl, rfl, dd, vs, v, rfl, h1, hv, y, m, x1, S1, rv, rfl, rfl⟩
theorem pd_isX {c : Expr} {cv : Value} {vc : V} {b : Bool} (T : ExcC X.K C) (hz : Zc (.ref C) d oe) (hf : ∃ vs, oe.data = .fields vs) (rx : RepX X.K H0 m0 fs d) (hm : X.mg "isinstance" = none) (he : PD (X.suite a ((a, oe) :: pn)) (H0, m0) e r n (.ref a)) (hc : PE (X.suite a ((a, oe) :: pn)) c (tC vc)) (hcv : ∀ u, RelV vc u → u = cv) (hk : PySem.W.kitOne X.K (.ref C) cv = some b)
    (hg : Gl X "isinstance" := by rfl) (hs : starEach (e :: [c]) X.env = (false, eval e X.env) :: starEach [c] X.env := by rfl) (hs2 : starEach (c :: []) X.env = (false, eval c X.env) :: starEach [] X.env := by rfl) (hpl : (backTo pos (starEach [c] X.env)).any (·.1) = false := by rfl) :
    PD (X.suite a ((a, oe) :: pn)) (H0, m0) (.Call (.Name "isinstance" p) [e, c] [] pos) r n (.bl b) := by
  intro s H S pins st I
  have S0 := S
  obtain ⟨vs, hv⟩ := hf
  have hc1 : ∀ (pins : List (Addr × Obj)) (s1 : Shared) (H1 : Hp) (m1 : DH) (xs : List V) (us : List Value) (R : VK), Inv (X.suite a ((a, oe) :: pn)) pins s H1 s1 → Ext H0 m0 H1 m1 → Vals xs us → xs = [.ref a, vc] → R (.bl b) H1 → wpAny (model X.prog X.w) (X.suite a ((a, oe) :: pn)).A (call (.builtin "isinstance") us) (EP (X.suite a ((a, oe) :: pn)) pins s R) (X.suite a ((a, oe) :: pn)).xe s1 := by
    intro pins s1 H1 m1 xs us R I1 x1 rl exs q
    subst exs
    cases rl with
    | cons r0 rr =>
      cases rr with
      | cons rt rr =>
        cases rr
        cases r0
        have ec := hcv _ rt
        subst ec
        obtain ⟨hget, _⟩ := I1.pin (a, oe) (List.mem_append.mpr (.inl List.mem_cons_self))
        have rx1 := rx.mono x1
        have J : ∃ od, PySem.W.InstAt s1.heap a oe C od := by
          obtain ⟨oc, od, oda, osl⟩ := oe
          obtain ⟨h1, h2⟩ := hz
          dsimp only at h1 h2 hv
          subst h1 h2 hv
          cases od with
          | none => exact ⟨none, hget, rfl, rfl, trivial⟩
          | some dd =>
            obtain ⟨ws, e1, e2, _⟩ := rx1
            obtain ⟨mA, ⟨o, es, ep, ho, _⟩, _⟩ := (show ObjOk X.prog X.w H1 s1.heap dd (.xd ws) from I1.hok dd _ e1)
            exact ⟨some o, hget, rfl, rfl, ho⟩
        exact PySem.W.kia_one (PySem.W.g3_kitx_exc T.hg T.hk T.hs T.hd T.ha T.hn T.ht T.hm) I1.kIn J hk (fun z => nomatch z) fun tk => ⟨.bl b, H1, I1.kept (t' := tk) fun _ _ z => z, rfl, q⟩
  refine wpAny_Call_Name_kw (ld_blt I hg hm (by decide +kernel : bootBuiltins "isinstance" = some (.builtin "isinstance")) ?_ (by decide) (by decide))
  have hA : PA (X.suite a ((a, oe) :: pn)) [e, c] (tCons (tW (X.suite a ((a, oe) :: pn)) e) (tCons (tC vc) tNil)) := pa_cons pe_W (pa_cons hc pa_nil hs2) hs
  refine PyProof.Rows.callWith_builtin1 (thn (hA.run pos pins st s H (fun vs H1 => ∃ m1, Ext H n H1 m1 ∧ Sat X.K (H0, m0) r m1 s H1 ∧ m1 = n ∧ vs = [.ref a, vc]) I ?_) fun us s1 ⟨ws, H1, I1, r1, m1, x1, S1, em, ew⟩ => ?_) hs hpl
  · exact DE.use he S fun x m v H1 x1 S1 R1 ⟨ex, em⟩ => by
      subst ex
      cases R1
      exact ⟨m, x1, S1, em, rfl⟩
  · refine hc1 pins s1 H1 m1 ws us _ I1 S1.z r1 ew ?_
    exact ⟨.bl b, m1, x1, S1, Rep.b, rfl, em⟩
end
end G3
set_option Elab.async false
set_option linter.all false
set_option maxRecDepth 100000
set_option maxHeartbeats 4000000
namespace G3
open PySem PySem.Spec PyProof.Rows L2
theorem tuple_mul1 (l : Addr) (items : Array Value) (n : Nat) (dd : Option Addr) (sl : Array (Option Value)) (u : Tok) :
    Meets (Builtin.«tuple.__mul__» ⟨[.ref l, .int 1 u], []⟩) (fun _ R s => s.heap.get? l = some { cls := .type "tuple", dict := dd, data := .seq items n, slots := sl } ∧ R (.ok (.ret (Value.ref l))) s) :=
  .of_wp fun prog w A R s h => by
    obtain ⟨hp, g, d, tk, os⟩ := s
    obtain ⟨hl, h⟩ := h
    have f1 := AutoSeq1.idx_int
    wp_walk using wpAny_loadPart' hl
    repeat (first
      | (refine wpAny_ite_false (by decide) ?_; wp_walk using wpAny_loadPart' hl)
      | (refine wpAny_ite_true (by simp) ?_; wp_walk using wpAny_loadPart' hl))
    exact ⟨_, rfl, h⟩
section
variable {X : Cx} {Z : Hp × DH} {r : Rho} {n : DH} {e a b c : Expr} {es : List Expr} {pos p : Pos} {Q : D → DH → Prop} {x y : D} {i j : Int} {l m : List D}
theorem op_rep1 : OpR X (binaryOp .Mult) (fun x y H Q => ∃ l xs, x = .ref l ∧ y = .int 1 ∧ SqT X.K H l xs ∧ Q (.ref l) H) := by
  intro pins s σ H x y v u Q I rx ry h
  obtain ⟨l, xs, rfl, rfl, hT, q⟩ := h
  cases rx
  obtain ⟨t, rfl⟩ := ry
  obtain ⟨its, r, ⟨⟨cls, dd, data, sl⟩, ho, hc, n, hd⟩, hs⟩ := I.tuple hT
  simp only at hc hd
  subst hc hd
  refine wpAny_binaryOp_repeat_ref (T := "tuple") (U := "int") (by decide) ⟨_, ho, rfl⟩ (fun s' => typeIs_int s' 1 t) noFill_tuple_mul F.fills_int_mul F.slot_int_rmul repeat_tuple F.slot_int_index.lookup
    (call_meets F.slot_int_rmul (typeIs_int s 1 t) F.entry_int_rmul (F.args_int_rmul_2 _ _) (int_rmul_tuple 1 t l its.toArray n dd sl)
      ⟨ho, rfl, ⟨_, ho, rfl⟩, call_meets F.slot_tuple_mul ⟨_, ho, rfl⟩ F.entry_tuple_mul (F.args_tuple_mul_2 _ _) (tuple_mul1 l its.toArray n dd sl t) ⟨ho, ?_⟩⟩)
  exact ⟨.ref l, H, I, rfl, q⟩
abbrev FMulT : FOp := fun x y k Q => ∃ l i, x = .tup l ∧ y = .int i ∧ l ≠ [] ∧ 1 ≤ i ∧ i ≤ 1000 ∧ l.length ≤ 1000 ∧ Q (.tup (List.replicate i.toNat l).flatten) k
theorem op_repT' : OpR X (binaryOp .Mult) (fun x y H Q => ∃ l k xs, x = .ref l ∧ y = .int k ∧ SqT X.K H l xs ∧ xs ≠ [] ∧ 1 ≤ k ∧ k ≤ 1000 ∧ xs.length ≤ 1000 ∧ (k = 1 → Q (.ref l) H) ∧ ∀ p, H p = none → Q (.ref p) (upd H p (.tup (List.replicate k.toNat xs).flatten))) := by
  intro pins s σ H x y v u Q I rx ry h
  obtain ⟨l, k, xs, rfl, rfl, hT, hne, h1, h2, hz, q1, q⟩ := h
  by_cases hk : k = 1
  · subst hk
    exact op_rep1 pins s σ H _ _ v u Q I rx ry ⟨l, xs, rfl, rfl, hT, q1 rfl⟩
  · exact op_repT pins s σ H _ _ v u Q I rx ry ⟨l, k, xs, rfl, rfl, hT, hne, by omega, h2, hz, q⟩
theorem od_mulT : OpD X Z r (fun x y H Q => ∃ l k xs, x = .ref l ∧ y = .int k ∧ SqT X.K H l xs ∧ xs ≠ [] ∧ 1 ≤ k ∧ k ≤ 1000 ∧ xs.length ≤ 1000 ∧ (k = 1 → Q (.ref l) H) ∧ ∀ p, H p = none → Q (.ref p) (upd H p (.tup (List.replicate k.toNat xs).flatten))) FMulT := fun Q x y k s H vx vy R ⟨l, i, ex, ey, hne, h1, h2, hz, q⟩ S rx ry hR => by
  subst ex; subst ey
  obtain ⟨a, vs, rfl, f, ql⟩ := rx
  refine ⟨a, i, vs, rfl, ry, f.sq, fun e => hne (List.eq_nil_of_length_eq_zero (by rw [ql.length, e]; rfl)), h1, h2, by rw [← ql.length]; exact hz, fun e => ?_, fun p hp => hR _ _ (PoV.new S hp q (Rep.t (.inl ⟨S.own.free hp, upd_same⟩) (RepL.mono (Ext.new hp (S.own.free hp)) _ _ (ql.flat _))))⟩
  subst e
  have e1 : (List.replicate (Int.toNat 1) l).flatten = l := by simp
  rw [e1] at q
  exact hR _ _ (PoV.mk S (Rep.t f ql) q)
theorem de_mulT (h : DE X Z a r n fun x m => DE X Z b r m fun y k => FMulT x y k Q) : DE X Z (.BinOp a .Mult b pos) r n Q := de_op op_repT' od_mulT h
theorem foldl_cps (z : Array Nat) : ∀ (k : Nat) (acc : Array Nat), ((List.replicate k z).foldl (· ++ ·) acc).size = acc.size + z.size * k
  | 0, acc => rfl
  | k + 1, acc => by
    rw [List.replicate_succ, List.foldl_cons, foldl_cps z k (acc ++ z), Array.size_append, Nat.mul_succ]
    omega
theorem op_mulS : OpR X (binaryOp .Mult) (fun x y H Q => ∃ z i, x = .str z ∧ y = .int i ∧ -1000 ≤ i ∧ i ≤ 1000 ∧ z.length ≤ 1000 ∧ ∀ o : Str, o.length = z.length * i.toNat → Q (.str o) H) := by
  intro pins s σ H x y v u Q I rx ry h
  obtain ⟨z, i, rfl, rfl, h1, h2, hz, q⟩ := h
  obtain ⟨t, rfl⟩ := rx
  obtain ⟨t', rfl⟩ := ry
  have hm : z.length * i.toNat ≤ 1000 * 1000 := Nat.mul_le_mul hz (by omega)
  refine P.mul_str (by rw [decide_eq_false (by omega), decide_eq_false (by omega)]; rfl) (fun h3 _ => ?_) (fun h3 _ => ?_) ?_
  · have : (1000 : Int) ≤ (2 ^ 63 - 1) / i := by
      rw [Int.le_ediv_iff_mul_le (by omega)]
      omega
    omega
  · unfold Builtin.Str.tooLong
    exact decide_eq_false (Nat.not_lt.mpr (Nat.le_trans hm (by decide)))
  · by_cases h3 : i < 1
    · rw [if_pos h3]
      have e : i.toNat = 0 := by omega
      have := q Str.empty (by rw [e]; rfl)
      exact ⟨by decide, ⟨.str Str.empty, H, I.tok _, ⟨_, rfl⟩, this⟩⟩
    · rw [if_neg h3]
      by_cases h4 : (i == 1 || z.length == 0) = true
      · rw [if_pos h4]
        have := q z (by
          rw [Bool.or_eq_true, beq_iff_eq, beq_iff_eq] at h4
          rcases h4 with h4 | h4
          · rw [h4]; exact (Nat.mul_one _).symm
          · rw [h4, Nat.zero_mul])
        exact ⟨.str z, H, I, ⟨_, rfl⟩, this⟩
      · rw [if_neg h4]
        have hs : (⟨(List.replicate i.toNat z.cps).foldl (· ++ ·) #[]⟩ : Str).length = z.length * i.toNat := by
          show ((List.replicate i.toNat z.cps).foldl (· ++ ·) #[]).size = z.cps.size * i.toNat
          rw [foldl_cps]
          exact Nat.zero_add _
        have := q _ hs
        exact ⟨by rw [hs]; exact Nat.le_trans hm (by decide), ⟨.str _, H, I.tok _, ⟨_, rfl⟩, this⟩⟩
abbrev FMulS : FOp := fun x y k Q => ∃ z i, x = .str z ∧ y = .int i ∧ -1000 ≤ i ∧ i ≤ 1000 ∧ z.length ≤ 1000 ∧ ∀ o : Str, o.length = z.length * i.toNat → Q (.str o) k
theorem od_mulS : OpD X Z r (fun x y H Q => ∃ z i, x = .str z ∧ y = .int i ∧ -1000 ≤ i ∧ i ≤ 1000 ∧ z.length ≤ 1000 ∧ ∀ o : Str, o.length = z.length * i.toNat → Q (.str o) H) FMulS := fun Q x y k s H vx vy R ⟨z, i, ex, ey, h1, h2, hz, q⟩ S rx ry hR => by
  subst ex; subst ey
  exact ⟨z, i, rx, ry, h1, h2, hz, fun o ho => hR _ _ (PoV.mk S Rep.s (q o ho))⟩
theorem de_mulS (h : DE X Z a r n fun x m => DE X Z b r m fun y k => FMulS x y k Q) : DE X Z (.BinOp a .Mult b pos) r n Q := de_op op_mulS od_mulS h
theorem de_neg (h : DE X Z a r n fun x m => ∃ i, x = .int i ∧ Q (.int (-i)) m) : DE X Z (.UnaryOp .USub a pos) r n Q :=
  DE.mk (pe_un un_neg pe_W) fun s H S => h.use S fun x m v H1 x1 S1 R1 ⟨i, ex, q⟩ => by
    subst ex
    exact ⟨i, R1, _, m, x1, S1, Rep.i, q⟩
theorem pd_neg (ha : PD X Z a r n (.int i)) : PD X Z (.UnaryOp .USub a pos) r n (.int (-i)) := de_neg (ha.to ⟨i, rfl, rfl, rfl⟩)
inductive PJD (X : Cx) (Z : Hp × DH) (r : Rho) (n : DH) : List Expr → Str → Str → Prop where
  | nil {acc : Str} : PJD X Z r n [] acc acc
  | lit {acc out z : Str} {es : List Expr} {jj p2} (hz : (acc ++ z).length ≤ sizeLine) (h : PJD X Z r n es (acc ++ z) out) : PJD X Z r n (.Constant (.str z) jj p2 :: es) acc out
  | fld {acc out z : Str} {es : List Expr} {e : Expr} {x : D} {p2} (he : PD X Z e r n x) (hx : (x = .str z ∧ z.length ≤ sizeLine) ∨ ∃ i : Int, x = .int i ∧ i.natAbs.log2 < 1920 ∧ z = toString i) (hz : (acc ++ z).length ≤ sizeLine) (h : PJD X Z r n es (acc ++ z) out) : PJD X Z r n (.FormattedValue e (-1) none p2 :: es) acc out
theorem PJD.run {es : List Expr} {acc out : Str} (h : PJD X Z r n es acc out) : ∃ ts, PJ X es ts ∧ ∀ s H R, Sat X.K Z r n s H → (∀ H', Ext H n H' n → Sat X.K Z r n s H' → R out H') → tJs ts acc s H R := by
  induction h with
  | nil => exact ⟨[], .nil, fun s H R S k => k H Ext.refl S⟩
  | lit hz _ ih =>
    obtain ⟨ts, h1, h2⟩ := ih
    exact ⟨_, .cons pe_str h1, fun s H R S k => ⟨_, rfl, hz, h2 s H R S k⟩⟩
  | fld he hx hz _ ih =>
    obtain ⟨ts, h1, h2⟩ := ih
    refine ⟨_, .cons (pe_fmt pe_W) h1, fun s H R S k => ?_⟩
    refine DE.use he S fun x m v H1 x1 S1 R1 ⟨ex, em⟩ => ?_
    subst ex; subst em
    have done := h2 s H1 R S1 fun H' x2 S2 => k H' (x1.trans x2) S2
    rcases hx with ⟨e, hl⟩ | ⟨i, e, hl, ez⟩
    · subst e
      exact .inl ⟨_, R1, hl, _, rfl, hz, done⟩
    · subst e; subst ez
      exact .inr ⟨i, R1, hl, _, rfl, hz, done⟩
theorem pd_fstr {v1 v2 : Expr} {rest : List Expr} {out : Str} (h : PJD X Z r n (v1 :: v2 :: rest) Str.empty out) : PD X Z (.JoinedStr (v1 :: v2 :: rest) pos) r n (.str out) := by
  obtain ⟨ts, h1, h2⟩ := h.run
  exact DE.mk (pe_joined h1) fun s H S => h2 s H _ S fun H' x S' => ⟨_, n, x, S', Rep.s, rfl, rfl⟩
def tWK (X : Cx) (kws : List Keyword) : TA := fun s H R => ∀ (pos : Pos) (pins : List (Addr × Obj)) (st : Shared), Inv X pins s H st → wpAny (model X.prog X.w) X.A (evalAll ((backToKw pos (keywordEach kws X.env)).map (·.2))) (AP X pins s R) X.xe st
theorem pk_W {kws : List Keyword} : PK X kws (tWK X kws) := ⟨fun pos pins s σ H Q I h => h pos pins s I⟩
def DKw (X : Cx) (Z : Hp × DH) (kws : List Keyword) (r : Rho) (n : DH) (QA : List D → DH → Prop) : Prop := ∀ s H, Sat X.K Z r n s H → tWK X kws s H fun vs H' => ∃ ds m, Ext H n H' m ∧ Sat X.K Z r m s H' ∧ RepL X.K H' m ds vs ∧ QA ds m
theorem DKw.mk {kws : List Keyword} {t : TA} {QA : List D → DH → Prop} (h : PK X kws t) (k : ∀ s H, Sat X.K Z r n s H → t s H fun vs H' => ∃ ds m, Ext H n H' m ∧ Sat X.K Z r m s H' ∧ RepL X.K H' m ds vs ∧ QA ds m) : DKw X Z kws r n QA := fun s H S pos pins st I => h.run pos pins st s H _ I (k s H S)
theorem DKw.use {kws : List Keyword} {QA : List D → DH → Prop} {s : L2.St} {H : Hp} {R : List V → Hp → Prop} (h : DKw X Z kws r n QA) (S : Sat X.K Z r n s H) (k : ∀ ds m vs H', Ext H n H' m → Sat X.K Z r m s H' → RepL X.K H' m ds vs → QA ds m → R vs H') : tWK X kws s H R :=
  fun pos pins st I => thn (h s H S pos pins st I) fun us s' ⟨vs, H', I', rv, ds, m, e, S', R', q⟩ => ⟨vs, H', I', rv, k ds m vs H' e S' R' q⟩
theorem dk_nil {QA : List D → DH → Prop} (q : QA [] n) : DKw X Z [] r n QA := DKw.mk pk_nil fun s H S => ⟨[], n, Ext.refl, S, RepL.nil, q⟩
theorem dk_cons {QA : List D → DH → Prop} {nm : Option Str} {kp : Pos} {kws : List Keyword} (h : DE X Z e r n fun x m => DKw X Z kws r m fun xs k => QA (x :: xs) k) : DKw X Z (⟨nm, e, kp⟩ :: kws) r n QA :=
  DKw.mk (pk_cons pe_W pk_W) fun s H S => h.use S fun x m v H1 e1 S1 R1 q => q.use S1 fun xs k vs H2 e2 S2 R2 q2 => ⟨x :: xs, k, e1.trans e2, S2, RepL.cons (Rep.mono e2 _ _ R1) R2, q2⟩
def KB0 (K : PySem.W.Frag) (fd : FuncData) (ks : List Str) : Prop := ∀ (s : Shared) (ws : List Value), K.In s.heap → ws.length = ks.length → BindsTo s fd ⟨[], ks.zip ws⟩ (ks.zip ws)
theorem pe_callKw {CX : CXT} {k : Nat} {f : Addr} {fd : FuncData} {ks : List Str} {sp : Sp} {E : XK} {x : Str} {kws : List Keyword} {tk : TA} (F : FnOk X.prog X.w X.K X.mg X.base CX k f fd ks sp) (hr : Room k X.A) (hg : Gl X x) (hm : X.mg x = some (.ref f)) (hk : PySem.W.keepIn X.K (.ref f) = true) (hb : KB0 X.K fd ks) (hx : Passes CX X E)
    (hkw : PK X kws tk) (hall : (backToKw pos (keywordEach kws X.env)).all (·.1.isSome) = true := by rfl) (hks : (backToKw pos (keywordEach kws X.env)).filterMap (·.1) = ks := by rfl)
    (hdb : (x == ("__debug__" : Str)) = false := by decide) (hpl : ((backTo pos (starEach [] X.env)).any (·.1) || (backToKw pos (keywordEach kws X.env)).any (·.1.isNone)) = false := by rfl) :
    PE X (.Call (.Name x p) [] kws pos) (fun σ H Q => tk σ H fun zs H2 => sp zs H2 Q E) := by
  refine ⟨fun pins s σ H Q I h => ?_⟩
  refine wpAny_Call_Name_kw (ld_glob I hg hm ?_ hdb)
  refine PySem.W.callWith_KW0 (h₀ := X.base) I.ok.mod.kin hk hall (thn (hkw.run pos pins s σ H _ I h) fun ws s2 ⟨zs, H2, I2, rz, q2⟩ => ⟨I2.kIn, ?_⟩) hpl
  rw [hks]
  have hl : ws.length = ks.length := by rw [← rz.length]; exact F.len _ _ _ _ q2
  refine wpAny_call (codeAny_mono (F.run X.A X.stack s2 H2 ⟨[], ks.zip ws⟩ ws zs Q E hr I2.env0 (hb s2 ws I2.kIn hl) rz q2) fun r s' hq => ?_)
  cases r with
  | error e => exact hx pins σ H2 s2 e s' I2 hq
  | ok fl =>
    cases fl with
    | ret u => exact I2.after hq
    | next => exact False.elim hq
    | brk => exact False.elim hq
    | cont => exact False.elim hq
theorem passX0 : Passes (L2.CX X.prog X.w) X E0 := fun _ _ _ _ _ _ _ ⟨_, _, _, _, _, _, _, _, _, _, _, _, h⟩ => h.elim
structure DCalK (P : Program) (w : World) (K : PySem.W.Frag) (mg : Str → Option Value) (base : Heap) (k : Nat) (x : Str) (ks : List Str) (sp : DSp) : Prop where
  ex : ∃ f fd, FnOk P w K mg base CX0 k f fd ks (spOf K sp) ∧ mg x = some (.ref f) ∧ PySem.W.keepIn K (.ref f) = true ∧ KB0 K fd ks
structure DCalXK (P : Program) (w : World) (K : PySem.W.Frag) (mg : Str → Option Value) (base : Heap) (k : Nat) (x : Str) (ks : List Str) (sp : DSpX) : Prop where
  ex : ∃ f fd, FnOk P w K mg base (L2.CX P w) k f fd ks (spOfX K sp) ∧ mg x = some (.ref f) ∧ PySem.W.keepIn K (.ref f) = true ∧ KB0 K fd ks
variable {k : Nat} {f : Str} {kws : List Keyword} {ks : List Str}
theorem de_callKw {sp : DSp} (C : DCalK X.prog X.w X.K X.mg X.base k f ks sp) (hr : Room k X.A) (h : DKw X Z kws r n fun ds m => sp ds m Q) (hg : Gl X f := by rfl) (hdb : (f == ("__debug__" : Str)) = false := by decide)
    (hall : (backToKw pos (keywordEach kws X.env)).all (·.1.isSome) = true := by rfl) (hks : (backToKw pos (keywordEach kws X.env)).filterMap (·.1) = ks := by rfl)
    (hpl : ((backTo pos (starEach [] X.env)).any (·.1) || (backToKw pos (keywordEach kws X.env)).any (·.1.isNone)) = false := by rfl) : DE X Z (.Call (.Name f p) [] kws pos) r n Q := by
  obtain ⟨f, fd, F, hm, hk, hb⟩ := C.ex
  refine DE.mk (pe_callKw F hr hg hm hk hb pass0 pk_W hall hks hdb hpl) fun s H S => h.use S fun ds m vs H1 x1 S1 R1 q => ?_
  exact ⟨ds, m, Q, S1.own, R1, q, fun d n' v H' q x2 hs rv => ⟨d, n', x1.trans x2, S1.ext x2 hs, rv, q⟩⟩
theorem de_callXKw0 {sp : DSpX} (C : DCalXK X.prog X.w X.K X.mg X.base k f ks sp) (hr : Room k X.A) (h : DKw X Z kws r n fun ds m => sp ds m Q fun _ _ _ => False) (hg : Gl X f := by rfl) (hdb : (f == ("__debug__" : Str)) = false := by decide)
    (hall : (backToKw pos (keywordEach kws X.env)).all (·.1.isSome) = true := by rfl) (hks : (backToKw pos (keywordEach kws X.env)).filterMap (·.1) = ks := by rfl)
    (hpl : ((backTo pos (starEach [] X.env)).any (·.1) || (backToKw pos (keywordEach kws X.env)).any (·.1.isNone)) = false := by rfl) : DE X Z (.Call (.Name f p) [] kws pos) r n Q := by
  obtain ⟨f, fd, F, hm, hk, hb⟩ := C.ex
  refine DE.mk (pe_callKw F hr hg hm hk hb passX0 pk_W hall hks hdb hpl) fun s H S => h.use S fun ds m vs H1 x1 S1 R1 q => ?_
  exact ⟨ds, m, Q, _, S1.own, R1, q, fun d n' v H' q x2 hs rv => ⟨d, n', x1.trans x2, S1.ext x2 hs, rv, q⟩, fun _ _ _ _ _ h _ _ _ => h.elim⟩
theorem de_callX0 {sp : DSpX} (C : DCalX X.prog X.w X.K X.mg X.base k f sp) (hr : Room k X.A) (h : DA X Z (e :: es) r n fun ds m => sp ds m Q fun _ _ _ => False) (hg : Gl X f := by rfl) (hdb : (f == ("__debug__" : Str)) = false := by decide) (he : starEach (e :: es) X.env = (false, eval e X.env) :: starEach es X.env := by rfl) (hpl : (backTo pos (starEach es X.env)).any (·.1) = false := by rfl) :
    DE X Z (.Call (.Name f p) (e :: es) [] pos) r n Q := by
  obtain ⟨f, fd, ps, F, hm, hk, hb⟩ := C.ex
  refine DE.mk (pe_call F hr hg hm hk hb .nil passX0 pa_W hdb he hpl) fun s H S => h.use S fun ds m vs H1 x1 S1 R1 q => ?_
  rw [List.append_nil]
  exact ⟨ds, m, Q, _, S1.own, R1, q, fun d n' v H' q x2 hs rv => ⟨d, n', x1.trans x2, S1.ext x2 hs, rv, q⟩, fun _ _ _ _ _ h _ _ _ => h.elim⟩
theorem KB0.of {K : PySem.W.Frag} {x qual : Str} {st : Stmt} {f : Addr} {fd : FuncData} {ks : List Str} (F : Fun K x qual st f fd)
    (h : ∀ (kV doc pm : Value) (an : Option Addr) (cdv ct : Value) (ws : List Value), ws.length = ks.length → bindArgs (PySem.W.fnOf x qual (defArgs st) (defBody st) (defScope st) .none kV doc pm an cdv ct) ⟨[], ks.zip ws⟩ = pure (ks.zip ws)) : KB0 K fd ks := by
  obtain ⟨oc, od, kV, doc, pm, an, cdv, ct, osl, rfl, lk, hcd⟩ := F.ex
  exact fun s ws _ hl => .of_eq (h kV doc pm an cdv ct ws hl)
end
end G3
set_option Elab.async false
set_option linter.all false
set_option maxRecDepth 100000
set_option maxHeartbeats 2000000
namespace M7
open PySem G3
def isDig (c : Nat) : Bool := decide (48 ≤ c) && decide (c ≤ 57)
def numMore : List Nat → List Nat → Nat
  | _, [] => 0
  | fig, c :: r => if (isDig c && (decide (fig ≠ [48]) && decide (fig.length < 9))) = true then 1 + numMore (fig ++ [c]) r else 0
def numVal (fig : List Nat) : D := .int ((NumText.digitsVal fig : Nat) : Int)
inductive Out where
  | err (q : Nat) | ok (v : D) (s : List Nat) (p : Nat)
def loop (rv : List Nat → Nat → Out) : Nat → List D → List Nat → Nat → Out
  | 0, _, _, p => .err p
  | f + 1, acc, s, p => match rv s p with
    | .err q => .err q
    | .ok v s' p' => match s' with
      | [] => .err p'
      | c :: r => if c = 41 then .ok (.tup (acc ++ [v])) r (p' + 1) else if c = 32 then loop rv f (acc ++ [v]) r (p' + 1) else .err p'
def readV : Nat → List Nat → Nat → Out
  | _, [], p => .err p
  | 0, c :: r, p => if isDig c = true then .ok (numVal (c :: r.take (numMore [c] r))) (r.drop (numMore [c] r)) (p + 1 + numMore [c] r) else .err p
  | k + 1, c :: r, p => if isDig c = true then .ok (numVal (c :: r.take (numMore [c] r))) (r.drop (numMore [c] r)) (p + 1 + numMore [c] r)
    else if c = 40 then (if r.head? = some 41 then .ok (.tup []) r.tail (p + 2) else loop (readV k) (r.length + 1) [] r (p + 1)) else .err p
theorem readV_dig {k c r p} (h : isDig c = true) : readV k (c :: r) p = .ok (numVal (c :: r.take (numMore [c] r))) (r.drop (numMore [c] r)) (p + 1 + numMore [c] r) := by
  cases k <;> (unfold readV; rw [if_pos h])
theorem readV_bad {k c r p} (h : isDig c = false) (h2 : c ≠ 40 ∨ k = 0) : readV k (c :: r) p = .err p := by
  cases k with
  | zero => unfold readV; rw [if_neg (by rw [h]; exact Bool.false_ne_true)]
  | succ k =>
    unfold readV
    rw [if_neg (by rw [h]; exact Bool.false_ne_true), if_neg (by rcases h2 with h2 | h2; exact h2; cases h2)]
theorem isDig40 : isDig 40 = false := rfl
theorem isDig41 : isDig 41 = false := rfl
theorem isDig32 : isDig 32 = false := rfl
theorem numMore_le : ∀ (r fig : List Nat), numMore fig r ≤ r.length
  | [], _ => Nat.le_refl _
  | c :: r, fig => by
    unfold numMore
    split
    · have := numMore_le r (fig ++ [c])
      rw [List.length_cons]
      omega
    · exact Nat.zero_le _
theorem loop_len {rv : List Nat → Nat → Out} (h : ∀ {s p v s' p'}, rv s p = .ok v s' p' → s'.length < s.length ∧ p' + s'.length = p + s.length) : ∀ (f : Nat) (acc : List D) (s : List Nat) (p : Nat) {v : D} {s' : List Nat} {p' : Nat}, loop rv f acc s p = .ok v s' p' → s'.length < s.length ∧ p' + s'.length = p + s.length
  | 0, acc, s, p, v, s', p', e => by unfold loop at e; cases e
  | f + 1, acc, s, p, v, s', p', e => by
    unfold loop at e
    cases hrv : rv s p with
    | err q => rw [hrv] at e; cases e
    | ok v1 s1 p1 =>
      rw [hrv] at e
      have h1 := h hrv
      cases s1 with
      | nil => cases e
      | cons c r =>
        dsimp only at e
        rw [List.length_cons] at h1
        by_cases e41 : c = 41
        · rw [if_pos e41] at e
          cases e
          omega
        · rw [if_neg e41] at e
          by_cases e32 : c = 32
          · rw [if_pos e32] at e
            have := loop_len h f _ _ _ e
            omega
          · rw [if_neg e32] at e
            cases e
theorem readV_len : ∀ (k : Nat) (s : List Nat) (p : Nat) {v : D} {s' : List Nat} {p' : Nat}, readV k s p = .ok v s' p' → s'.length < s.length ∧ p' + s'.length = p + s.length
  | k, [], p, v, s', p', e => by cases k <;> (unfold readV at e; cases e)
  | k, c :: r, p, v, s', p', e => by
    by_cases hd : isDig c = true
    · rw [readV_dig hd] at e
      cases e
      have := numMore_le r [c]
      rw [List.length_drop, List.length_cons]
      omega
    · have hd : isDig c = false := by simpa using hd
      cases k with
      | zero => rw [readV_bad hd (.inr rfl)] at e; cases e
      | succ k =>
        by_cases h40 : c = 40
        · subst h40
          unfold readV at e
          rw [if_neg (by rw [hd]; exact Bool.false_ne_true), if_pos rfl] at e
          by_cases h41 : r.head? = some 41
          · rw [if_pos h41] at e
            cases e
            cases r with
            | nil => cases h41
            | cons c r' => rw [List.tail_cons, List.length_cons, List.length_cons]; omega
          · rw [if_neg h41] at e
            have := loop_len (fun {s p v s' p'} h => readV_len k s p h) _ _ _ _ e
            rw [List.length_cons]
            omega
        · rw [readV_bad hd (.inl h40)] at e; cases e
def put : List (List D) → D → List (List D)
  | [], _ => []
  | l :: ls, v => (l ++ [v]) :: ls
theorem put_len (s : List (List D)) (v : D) : (put s v).length = s.length := by cases s <;> rfl
abbrev MS := List (List D) × Nat × List Nat
def md (s : List (List D)) : Nat := if s.length > 1 then 2 else 3
def flush (st : MS) : MS := if st.2.2 = [] then st else (put st.1 (numVal st.2.2), md st.1, [])
def mact (st : MS) (c : Nat) : Option MS :=
  if (isDig c && decide (st.2.1 < 2)) = true then some (st.1, st.2.1, [c])
  else if (decide (c = 40) && (decide (st.2.1 < 2) && decide (st.1.length < 21))) = true then some ([] :: st.1, 1, st.2.2)
  else if (decide (c = 41) && (decide (st.2.1 = 1) || decide (st.2.1 = 2))) = true then some (put st.1.tail (.tup (st.1.headD [])), md st.1.tail, st.2.2)
  else if (decide (c = 32) && decide (st.2.1 = 2)) = true then some (st.1, 0, st.2.2)
  else none
def mstep (st : MS) (c : Nat) : Option MS :=
  if (isDig c && (!(decide (st.2.2 = []) || decide (st.2.2 = [48])) && decide (st.2.2.length < 9))) = true then some (st.1, st.2.1, st.2.2 ++ [c]) else mact (flush st) c
inductive Res where
  | err (q : Nat) | ok (v : D)
def mend (st : MS) (p : Nat) : Res := if (flush st).2.1 = 3 then .ok (((flush st).1.headD []).headD .non) else .err p
def runM : MS → List Nat → Nat → Res
  | st, [], p => mend st p
  | st, c :: s, p => match mstep st c with
    | none => .err p
    | some st' => runM st' s (p + 1)
theorem flush_nil {s m} : flush (s, m, []) = (s, m, []) := rfl
theorem flush_fig {s m fig} (h : fig ≠ []) : flush (s, m, fig) = (put s (numVal fig), md s, []) := if_neg h
theorem mstep_nil {s m c} : mstep (s, m, []) c = mact (s, m, []) c := by
  unfold mstep
  simp [flush_nil]
theorem run_num {s m} : ∀ (r fig : List Nat) (p : Nat), fig ≠ [] → runM (s, m, fig) r p = runM (put s (numVal (fig ++ r.take (numMore fig r))), md s, []) (r.drop (numMore fig r)) (p + numMore fig r)
  | [], fig, p, h => by
    unfold numMore
    rw [List.take_nil, List.append_nil]
    show mend _ _ = mend _ _
    unfold mend
    rw [flush_fig h]
    rfl
  | c :: r, fig, p, h => by
    unfold numMore
    by_cases hc : (isDig c && (decide (fig ≠ [48]) && decide (fig.length < 9))) = true
    · rw [if_pos hc]
      have hs : mstep (s, m, fig) c = some (s, m, fig ++ [c]) := by
        unfold mstep
        rw [if_pos]
        simp only [Bool.and_eq_true, decide_eq_true_eq, Bool.not_eq_true', Bool.or_eq_false_iff, decide_eq_false_iff_not] at hc ⊢
        exact ⟨hc.1, ⟨h, hc.2.1⟩, hc.2.2⟩
      show (match mstep (s, m, fig) c with | none => Res.err p | some st' => runM st' r (p + 1)) = _
      rw [hs]
      show runM (s, m, fig ++ [c]) r (p + 1) = _
      rw [run_num r (fig ++ [c]) (p + 1) (by simp)]
      have e1 : (c :: r).take (1 + numMore (fig ++ [c]) r) = c :: r.take (numMore (fig ++ [c]) r) := by rw [Nat.add_comm]; rfl
      have e2 : (c :: r).drop (1 + numMore (fig ++ [c]) r) = r.drop (numMore (fig ++ [c]) r) := by rw [Nat.add_comm]; rfl
      rw [e1, e2, List.append_assoc, Nat.add_assoc]
      rfl
    · rw [if_neg hc]
      have hs : mstep (s, m, fig) c = mstep (put s (numVal fig), md s, []) c := by
        rw [mstep_nil]
        unfold mstep
        rw [if_neg, flush_fig h]
        simp only [Bool.and_eq_true, decide_eq_true_eq, Bool.not_eq_true', Bool.or_eq_false_iff, decide_eq_false_iff_not] at hc ⊢
        exact fun z => hc ⟨z.1, z.2.1.2, z.2.2⟩
      show (match mstep (s, m, fig) c with | none => Res.err p | some st' => runM st' r (p + 1)) = runM (put s (numVal (fig ++ [])), md s, []) (c :: r) (p + 0)
      rw [hs, List.append_nil]
      rfl
theorem eqv : ∀ (k : Nat) (s : List Nat) (p : Nat) (stk : List (List D)) (m : Nat), m < 2 → stk ≠ [] → stk.length + k = 21 → (m = 1 → s.head? ≠ some 41) →
    runM (stk, m, []) s p = match readV k s p with
      | .err q => .err q
      | .ok v s' p' => runM (put stk v, md stk, []) s' p' := by
  intro k
  induction k with
  | zero =>
    intro s p stk m hm hne hk h1
    cases s with
    | nil =>
      show mend _ _ = _
      unfold mend
      rw [flush_nil, if_neg (by show m ≠ 3; omega)]
      rfl
    | cons c r =>
      show (match mstep (stk, m, []) c with | none => Res.err p | some st' => runM st' r (p + 1)) = _
      rw [mstep_nil]
      by_cases hd : isDig c = true
      · rw [readV_dig hd]
        have : mact (stk, m, []) c = some (stk, m, [c]) := by
          unfold mact
          rw [if_pos (by rw [hd]; simpa using hm)]
        rw [this]
        show runM (stk, m, [c]) r (p + 1) = _
        rw [run_num r [c] (p + 1) (by simp)]
        rfl
      · have hd : isDig c = false := by simpa using hd
        rw [readV_bad hd (.inr rfl)]
        have : mact (stk, m, []) c = none := by
          unfold mact
          rw [if_neg (by rw [hd]; simp), if_neg (by simp only [Bool.and_eq_true, decide_eq_true_eq]; omega), if_neg, if_neg]
          · simp only [Bool.and_eq_true, decide_eq_true_eq]; omega
          · simp only [Bool.and_eq_true, Bool.or_eq_true, decide_eq_true_eq]
            rintro ⟨z, z2 | z2⟩
            · exact h1 z2 (by rw [z]; rfl)
            · omega
        rw [this]
  | succ k ih =>
    intro s p stk m hm hne hk h1
    cases s with
    | nil =>
      show mend _ _ = _
      unfold mend
      rw [flush_nil, if_neg (by show m ≠ 3; omega)]
      rfl
    | cons c r =>
      show (match mstep (stk, m, []) c with | none => Res.err p | some st' => runM st' r (p + 1)) = _
      rw [mstep_nil]
      by_cases hd : isDig c = true
      · rw [readV_dig hd]
        have : mact (stk, m, []) c = some (stk, m, [c]) := by
          unfold mact
          rw [if_pos (by rw [hd]; simpa using hm)]
        rw [this]
        show runM (stk, m, [c]) r (p + 1) = _
        rw [run_num r [c] (p + 1) (by simp)]
        rfl
      · have hd : isDig c = false := by simpa using hd
        by_cases h40 : c = 40
        · subst h40
          have hm40 : mact (stk, m, []) 40 = some ([] :: stk, 1, []) := by
            unfold mact
            rw [if_neg (by rw [hd]; simp), if_pos (by simp only [Bool.and_eq_true, decide_eq_true_eq, true_and]; exact ⟨hm, by omega⟩)]
          rw [hm40]
          show runM ([] :: stk, 1, []) r (p + 1) = _
          unfold readV
          rw [if_neg (by rw [hd]; exact Bool.false_ne_true), if_pos rfl]
          have close : ∀ (acc : List D) (r' : List Nat) (q m' : Nat), (m' = 1 ∨ m' = 2) → runM (acc :: stk, m', []) (41 :: r') q = runM (put stk (.tup acc), md stk, []) r' (q + 1) := fun acc r' q m' hm' => by
            show (match mstep (acc :: stk, m', []) 41 with | none => Res.err q | some st' => runM st' r' (q + 1)) = _
            rw [mstep_nil]
            have : mact (acc :: stk, m', []) 41 = some (put stk (.tup acc), md stk, []) := by
              unfold mact
              rw [if_neg (by rw [isDig41]; simp), if_neg (by simp), if_pos (by simp only [Bool.and_eq_true, Bool.or_eq_true, decide_eq_true_eq]; exact ⟨trivial, hm'⟩)]
              rfl
            rw [this]
          by_cases h41 : r.head? = some 41
          · rw [if_pos h41]
            cases r with
            | nil => cases h41
            | cons c r' =>
              cases h41
              exact close [] r' (p + 1) 1 (.inl rfl)
          · rw [if_neg h41]
            have lp : ∀ (f : Nat) (acc : List D) (s : List Nat) (q m' : Nat), s.length < f → m' < 2 → (m' = 1 → s.head? ≠ some 41) → runM (acc :: stk, m', []) s q = match loop (readV k) f acc s q with
                | .err q => .err q
                | .ok v s' p' => runM (put stk v, md stk, []) s' p' := by
              intro f
              induction f with
              | zero => intro acc s q m' hf; omega
              | succ f ihf =>
                intro acc s q m' hf hm' h1'
                rw [ih s q (acc :: stk) m' hm' (by simp) (by rw [List.length_cons]; omega) h1']
                unfold loop
                cases hrv : readV k s q with
                | err q' => rfl
                | ok v s1 p1 =>
                  have hmd : md (acc :: stk) = 2 := by
                    unfold md
                    rw [if_pos (by rw [List.length_cons]; have := List.length_pos_iff.mpr hne; omega)]
                  show runM (put (acc :: stk) v, md (acc :: stk), []) s1 p1 = _
                  rw [hmd]
                  show runM ((acc ++ [v]) :: stk, 2, []) s1 p1 = _
                  cases s1 with
                  | nil => rfl
                  | cons c r1 =>
                    by_cases e41 : c = 41
                    · subst e41
                      rw [close (acc ++ [v]) r1 p1 2 (.inr rfl)]
                      rfl
                    · by_cases e32 : c = 32
                      · subst e32
                        show (match mstep ((acc ++ [v]) :: stk, 2, []) 32 with | none => Res.err p1 | some st' => runM st' r1 (p1 + 1)) = _
                        rw [mstep_nil]
                        have : mact ((acc ++ [v]) :: stk, 2, []) 32 = some ((acc ++ [v]) :: stk, 0, []) := by
                          unfold mact
                          rw [if_neg (by rw [isDig32]; simp), if_neg (by simp), if_neg (by simp), if_pos (by simp)]
                        rw [this]
                        show runM ((acc ++ [v]) :: stk, 0, []) r1 (p1 + 1) = _
                        have hl : r1.length < f := by
                          have := (readV_len k s q hrv).1
                          rw [List.length_cons] at this
                          omega
                        rw [ihf (acc ++ [v]) r1 (p1 + 1) 0 hl (by decide) (fun z => by cases z)]
                        dsimp only
                        rw [if_neg (by decide : ¬ (32 : Nat) = 41), if_pos rfl]
                      · show (match mstep ((acc ++ [v]) :: stk, 2, []) c with | none => Res.err p1 | some st' => runM st' r1 (p1 + 1)) = _
                        rw [mstep_nil]
                        have : mact ((acc ++ [v]) :: stk, 2, []) c = none := by
                          unfold mact
                          rw [if_neg (by simp), if_neg (by simp), if_neg (by simp [e41]), if_neg (by simp [e32])]
                        rw [this]
                        show _ = (match (if c = 41 then _ else if c = 32 then _ else Out.err p1 : Out) with | .err q => Res.err q | .ok v s' p' => _)
                        rw [if_neg e41, if_neg e32]
            exact lp (r.length + 1) [] r (p + 1) 1 (Nat.lt_succ_self _) (by decide) (fun _ => h41)
        · rw [readV_bad hd (.inl h40)]
          have : mact (stk, m, []) c = none := by
            unfold mact
            rw [if_neg (by rw [hd]; simp), if_neg (by simp only [Bool.and_eq_true, decide_eq_true_eq]; omega), if_neg, if_neg]
            · simp only [Bool.and_eq_true, decide_eq_true_eq]; omega
            · simp only [Bool.and_eq_true, Bool.or_eq_true, decide_eq_true_eq]
              rintro ⟨z, z2 | z2⟩
              · exact h1 z2 (by rw [z]; rfl)
              · omega
          rw [this]
theorem loop_suf {rv : List Nat → Nat → Out} (h : ∀ {s p v s' p'}, rv s p = .ok v s' p' → s' <:+ s) : ∀ (f : Nat) (acc : List D) (s : List Nat) (p : Nat) {v : D} {s' : List Nat} {p' : Nat}, loop rv f acc s p = .ok v s' p' → s' <:+ s
  | 0, acc, s, p, v, s', p', e => by unfold loop at e; cases e
  | f + 1, acc, s, p, v, s', p', e => by
    unfold loop at e
    cases hrv : rv s p with
    | err q => rw [hrv] at e; cases e
    | ok v1 s1 p1 =>
      rw [hrv] at e
      have h1 := h hrv
      cases s1 with
      | nil => cases e
      | cons c r =>
        dsimp only at e
        have h2 : r <:+ s := (List.suffix_cons c r).trans h1
        by_cases e41 : c = 41
        · rw [if_pos e41] at e
          cases e
          exact h2
        · rw [if_neg e41] at e
          by_cases e32 : c = 32
          · rw [if_pos e32] at e
            exact (loop_suf h f _ _ _ e).trans h2
          · rw [if_neg e32] at e
            cases e
theorem readV_suf : ∀ (k : Nat) (s : List Nat) (p : Nat) {v : D} {s' : List Nat} {p' : Nat}, readV k s p = .ok v s' p' → s' <:+ s
  | k, [], p, v, s', p', e => by cases k <;> (unfold readV at e; cases e)
  | k, c :: r, p, v, s', p', e => by
    by_cases hd : isDig c = true
    · rw [readV_dig hd] at e
      cases e
      exact (List.drop_suffix _ _).trans (List.suffix_cons c r)
    · have hd : isDig c = false := by simpa using hd
      cases k with
      | zero => rw [readV_bad hd (.inr rfl)] at e; cases e
      | succ k =>
        by_cases h40 : c = 40
        · subst h40
          unfold readV at e
          rw [if_neg (by rw [hd]; exact Bool.false_ne_true), if_pos rfl] at e
          by_cases h41 : r.head? = some 41
          · rw [if_pos h41] at e
            cases e
            cases r with
            | nil => cases h41
            | cons c r' => exact (List.suffix_cons c r').trans (List.suffix_cons 40 _)
          · rw [if_neg h41] at e
            exact (loop_suf (fun {s p v s' p'} h => readV_suf k s p h) _ _ _ _ e).trans (List.suffix_cons 40 r)
        · rw [readV_bad hd (.inl h40)] at e; cases e
theorem readV_drop {k : Nat} {t : List Nat} {p : Nat} {v : D} {s' : List Nat} {p' : Nat} (hp : p ≤ t.length) (h : readV k (t.drop p) p = .ok v s' p') : s' = t.drop p' ∧ p < p' ∧ p' ≤ t.length := by
  obtain ⟨h1, h2⟩ := readV_len k _ p h
  have h3 := (readV_suf k _ p h).trans (List.drop_suffix p t)
  rw [List.length_drop] at h1 h2
  have h4 := List.suffix_iff_eq_drop.mp h3
  have e : t.length - s'.length = p' := by omega
  rw [e] at h4
  exact ⟨h4, by omega, by omega⟩
def lawRead (t : List Nat) : Res := runM ([[]], 0, []) t 0
def proRead (t : List Nat) : Res := match readV 20 t 0 with
  | .err q => .err q
  | .ok v s' p' => if s' = [] then .ok v else .err p'
theorem same_read (t : List Nat) : lawRead t = proRead t := by
  unfold lawRead proRead
  rw [eqv 20 t 0 [[]] 0 (by decide) (by simp) rfl (fun z => by cases z)]
  cases h : readV 20 t 0 with
  | err q => rfl
  | ok v s' p' =>
    show runM ([[v]], 3, []) s' p' = if s' = [] then Res.ok v else Res.err p'
    cases s' with
    | nil => rfl
    | cons c r =>
      rw [if_neg (by simp)]
      show (match mstep ([[v]], 3, []) c with | none => Res.err p' | some st' => runM st' r (p' + 1)) = _
      rw [mstep_nil]
      have : mact ([[v]], 3, []) c = none := by
        unfold mact
        rw [if_neg (by simp), if_neg (by simp), if_neg (by simp), if_neg (by simp)]
      rw [this]
mutual
def wr : D → List Nat
  | .int i => TL.numL i.toNat
  | .tup l => 40 :: wrs l
  | _ => []
def wrs : List D → List Nat
  | [] => [41]
  | d :: ds => wr d ++ wrsT ds
def wrsT : List D → List Nat
  | [] => [41]
  | d :: ds => 32 :: (wr d ++ wrsT ds)
end
mutual
def Nv : Nat → D → Prop
  | _, .int i => 0 ≤ i ∧ i < 10 ^ 9
  | k, .tup l => ∃ k', k = k' + 1 ∧ Nvs k' l
  | _, _ => False
def Nvs : Nat → List D → Prop
  | _, [] => True
  | k, d :: ds => Nv k d ∧ Nvs k ds
end
theorem numMore_all : ∀ (ds fig s : List Nat), fig ≠ [] → (∀ c ∈ ds, isDig c = true) → fig.length + ds.length ≤ 9 → (ds ≠ [] → fig ≠ [48]) → (∀ c, s.head? = some c → isDig c = false) → numMore fig (ds ++ s) = ds.length
  | [], fig, s, _, _, _, _, hs => by
    cases s with
    | nil => rfl
    | cons c r =>
      show numMore fig (c :: r) = 0
      unfold numMore
      rw [if_neg (by rw [hs c rfl]; simp)]
  | d :: ds, fig, s, hf, hd, hl, h48, hs => by
    show numMore fig (d :: (ds ++ s)) = _
    unfold numMore
    rw [List.length_cons] at hl ⊢
    rw [if_pos (by rw [hd d (List.mem_cons_self)]; simp only [Bool.true_and, Bool.and_eq_true, decide_eq_true_eq]; exact ⟨h48 (by simp), by omega⟩)]
    rw [numMore_all ds (fig ++ [d]) s (by simp) (fun c hc => hd c (List.mem_cons_of_mem _ hc)) (by rw [List.length_append]; show fig.length + 1 + _ ≤ 9; omega) (fun _ z => by
      have := congrArg List.length z
      rw [List.length_append] at this
      have h2 : 0 < fig.length := List.length_pos_iff.mpr hf
      have : fig.length + 1 = 1 := this
      omega) hs]
    omega
theorem numL_dig {n c : Nat} (h : c ∈ TL.numL n) : isDig c = true := by
  have := TL.numL_digits n c h
  unfold isDig
  simp only [Bool.and_eq_true, decide_eq_true_eq]
  exact this
theorem numL_head (n : Nat) : 0 < n → (TL.numL n).head? ≠ some 48 := by
  induction n using Nat.strongRecOn with
  | _ n ih =>
    intro h
    by_cases hn : n < 10
    · rw [TL.numL_lt hn]
      intro z
      have : 48 + n = 48 := Option.some.inj z
      omega
    · rw [TL.numL_step (by omega)]
      have h1 := ih (n / 10) (by omega) (by omega)
      have h2 := TL.numL_ne (n / 10)
      cases hq : TL.numL (n / 10) with
      | nil => exact absurd hq h2
      | cons a b => rw [hq] at h1; exact h1
theorem wr_num {i : Int} (h0 : 0 ≤ i) (h1 : i < 10 ^ 9) : ∃ c ds, wr (.int i) = c :: ds ∧ isDig c = true ∧ ∀ s, (∀ c, s.head? = some c → isDig c = false) → numMore [c] (ds ++ s) = ds.length := by
  have hw : wr (.int i) = TL.numL i.toNat := rfl
  have hne := TL.numL_ne i.toNat
  have hlen : (TL.numL i.toNat).length ≤ 9 := TL.numL_len (by decide) (by omega)
  rw [hw]
  cases hq : TL.numL i.toNat with
  | nil => exact absurd hq hne
  | cons c ds =>
    have hdig : ∀ x ∈ c :: ds, isDig x = true := fun x hx => numL_dig (by rw [hq]; exact hx)
    refine ⟨c, ds, rfl, hdig c List.mem_cons_self, fun s hs => numMore_all ds [c] s (by simp) (fun x hx => hdig x (List.mem_cons_of_mem _ hx)) (by rw [hq, List.length_cons] at hlen; show 1 + ds.length ≤ 9; omega) (fun hds z => ?_) hs⟩
    have hc : c = 48 := List.head_eq_of_cons_eq z
    by_cases hi : 0 < i.toNat
    · exact numL_head _ hi (by rw [hq, hc]; rfl)
    · have : i.toNat = 0 := by omega
      rw [this] at hq
      have : [48] = c :: ds := hq
      injection this with _ e
      exact hds e.symm
theorem wr_first {k : Nat} {d : D} (h : Nv k d) : ∃ c t, wr d = c :: t ∧ (isDig c = true ∨ c = 40) := by
  cases d with
  | int i =>
    obtain ⟨c, ds, e, hd, _⟩ := wr_num h.1 h.2
    exact ⟨c, ds, e, .inl hd⟩
  | tup l => exact ⟨40, wrs l, rfl, .inr rfl⟩
  | _ => exact False.elim h
mutual
theorem readV_wr : ∀ (d : D) (k : Nat) (s : List Nat) (p : Nat), Nv k d → (∀ c, s.head? = some c → isDig c = false) → readV k (wr d ++ s) p = .ok d s (p + (wr d).length)
  | .int i, k, s, p, h, hs => by
    obtain ⟨c, ds, e, hd, hm⟩ := wr_num h.1 h.2
    have hv : TL.numL i.toNat = c :: ds := e
    rw [e, List.cons_append, readV_dig hd, hm s hs]
    have e1 : (ds ++ s).take ds.length = ds := by rw [List.take_append_of_le_length (Nat.le_refl _), List.take_length]
    have e2 : (ds ++ s).drop ds.length = s := List.drop_left
    rw [e1, e2, List.length_cons]
    have e3 : numVal (c :: ds) = .int i := by
      unfold numVal
      rw [← hv, TL.numL_val]
      congr 1
      have := h.1
      omega
    rw [e3]
    congr 1
    omega
  | .tup l, k, s, p, h, hs => by
    obtain ⟨k', rfl, hl⟩ := h
    show readV (k' + 1) (40 :: (wrs l ++ s)) p = _
    unfold readV
    rw [if_neg (by decide), if_pos rfl]
    cases l with
    | nil => rfl
    | cons d ds =>
      obtain ⟨c, t, e, hc⟩ := wr_first hl.1
      have h41 : (wrs (d :: ds) ++ s).head? ≠ some 41 := by
        show (wr d ++ wrsT ds ++ s).head? ≠ some 41
        rw [e]
        intro z
        have : c = 41 := Option.some.inj z
        subst this
        rcases hc with hc | hc
        · cases hc
        · cases hc
      rw [if_neg h41, loop_wr (d :: ds) k' [] _ s (p + 1) hl (by simp) (Nat.lt_succ_self _)]
      congr 1
      show p + 1 + (wrs (d :: ds)).length = p + (40 :: wrs (d :: ds)).length
      rw [List.length_cons]
      omega
  | .non, _, _, _, h, _ => False.elim h
  | .bl _, _, _, _, h, _ => False.elim h
  | .str _, _, _, _, h, _ => False.elim h
  | .ref _, _, _, _, h, _ => False.elim h
  | .lst _, _, _, _, h, _ => False.elim h
  | .rol _, _, _, _, h, _ => False.elim h
  | .dct _ _, _, _, _, h, _ => False.elim h
  | .obj _ _ _, _, _, _, h, _ => False.elim h
theorem loop_wr : ∀ (l : List D) (k : Nat) (acc : List D) (f : Nat) (s : List Nat) (p : Nat), Nvs k l → l ≠ [] → (wrs l ++ s).length < f → loop (readV k) f acc (wrs l ++ s) p = .ok (.tup (acc ++ l)) s (p + (wrs l).length)
  | [], _, _, _, _, _, _, hl, _ => absurd rfl hl
  | d :: ds, k, acc, 0, s, p, h, _, hf => by omega
  | d :: ds, k, acc, f + 1, s, p, h, _, hf => by
    have hcat : wrs (d :: ds) ++ s = wr d ++ (wrsT ds ++ s) := by
      show wr d ++ wrsT ds ++ s = _
      rw [List.append_assoc]
    have hlen : (wrs (d :: ds)).length = (wr d).length + (wrsT ds).length := by
      show (wr d ++ wrsT ds).length = _
      rw [List.length_append]
    rw [hcat] at hf ⊢
    have hnx : ∀ c, (wrsT ds ++ s).head? = some c → isDig c = false := fun c hc => by
      cases ds with
      | nil =>
        have : (41 : Nat) = c := Option.some.inj hc
        rw [← this]
        rfl
      | cons d2 ds2 =>
        have : (32 : Nat) = c := Option.some.inj hc
        rw [← this]
        rfl
    unfold loop
    rw [readV_wr d k _ p h.1 hnx]
    dsimp only
    cases ds with
    | nil =>
      show (if (41 : Nat) = 41 then Out.ok (.tup (acc ++ [d])) s (p + (wr d).length + 1) else _) = _
      rw [if_pos rfl, hlen]
      rfl
    | cons d2 ds2 =>
      show (if (32 : Nat) = 41 then _ else if (32 : Nat) = 32 then loop (readV k) f (acc ++ [d]) (wrs (d2 :: ds2) ++ s) (p + (wr d).length + 1) else _) = _
      rw [if_neg (by decide), if_pos rfl]
      have hlen2 : (wrsT (d2 :: ds2)).length = (wrs (d2 :: ds2)).length + 1 := rfl
      rw [loop_wr (d2 :: ds2) k (acc ++ [d]) f s (p + (wr d).length + 1) h.2 (by simp) (by
        have : (wrsT (d2 :: ds2) ++ s).length = (wrs (d2 :: ds2) ++ s).length + 1 := rfl
        rw [List.length_append, this] at hf
        omega)]
      rw [hlen, hlen2, List.append_assoc]
      congr 1
      omega
end
theorem pro_wr {d : D} (h : Nv 20 d) : proRead (wr d) = .ok d := by
  unfold proRead
  have := readV_wr d 20 [] 0 h (fun c hc => by cases hc)
  rw [List.append_nil] at this
  rw [this]
  rfl
end M7
set_option Elab.async false
set_option linter.all false
set_option maxRecDepth 100000
set_option maxHeartbeats 2000000
namespace K7
open PySem PySem.Spec PyProof.Rows L2 NdefX G3
def topS (i : Nat) : Stmt := PySem.Challenge.pw_hushsheets_k77_written_and_read.main.body.getD i (.Pass ⟨0, 0, 0, 0⟩)
abbrev s_init : Stmt := inClass (topS 2) 0
theorem sc_init : NScope ["self", "at", "__class__"] ["self", "at"] ["__class__"] (defScope s_init) := nscope_by (by decide +kernel)
section
variable {P : Program} {w : World} {K : PySem.W.Frag} {mg : Str → Option Value} {base : Heap}
structure InitTxt (P : Program) (K : PySem.W.Frag) (mg : Str → Option Value) (C fI cda cc : Addr) (fd : FuncData) : Prop where
  lk : ∃ (oc kV doc pm ct : Value) (od an : Option Addr) (osl : Array (Option Value)), K.lookup fI = some ⟨oc, od, .func fd, osl⟩ ∧ fd = PySem.W.fnX "__init__" "BadText.__init__" (defArgs s_init) (defBody s_init) (defScope s_init) [(("__class__" : Str), cc)] .none kV doc pm an (.ref cda) ct
  cd : PySem.W.codeIn K (.ref cda) "BadText.__init__" = true
  st : SupTxt P K fI cda cc C fd "self"
  oc : OexC K C
  sub : PySem.W.mroIn K C (.ref C) = some true
  th : PySem.W.nsIn K cStatics "thirdparty.any" = some none
  hm : PySem.W.ks_superIn K C C "__init__" = some (some (.builtin "ValueError.__init__"))
  hB : PySem.W.subIn K (.ref C) (.type "ValueError") = some true
  hat : PySem.W.findIn K (.ref C) "at" = some none
  ms : mg "super" = none
theorem ok_init {C fI cda cc : Addr} {fd : FuncData} (T : InitTxt P K mg C fI cda cc fd) : FnOk P w K mg base CX0 1 fI fd ["self", "at"] (G3.spInit C "at") := by
  obtain ⟨oc, kV, doc, pm, ct, od, an, osl, lk, rfl⟩ := T.lk
  obtain ⟨ccv, ccd, csl, hc⟩ := T.st.cell
  refine fn_ofS (F := ⟨"__init__", "BadText.__init__", defArgs s_init, defBody s_init, defScope s_init, [(("__class__" : Str), cc)], cda⟩) (N := ["self", "at", "__class__"]) (D := C) lk T.cd rfl hc sc_init (fun vs H Q E h => ?_) (fun A outer s H vs Q E hr hsp st I => ?_)
  · obtain ⟨a, i, rfl, _⟩ := h
    rfl
  · obtain ⟨a, i, rfl, ea, hi, q⟩ := hsp
    refine PySem.ks_wpAt_execs_cons (PySem.ks_wpAt_Expr_any (PySem.ks_wpAt_mono (at_supE (R := fun H' => H' = H) (i0 := 0) (ta := tCons (fun σ H Q => tJs [tC (.str "the text is wrong at index "), tFmt (tVar 1)] Str.empty σ H fun out H1 => Q (.str out) H1) tNil) T.st I rfl rfl rfl rfl rfl rfl rfl rfl T.ms T.oc ea T.sub T.th T.hm T.hB
      (pa_cons (pe_joined (.cons pe_str (.cons (pe_fmt (pv 1)) .nil))) pa_nil) ?_) (fun u s' h => ?_) (fun _ _ x => x)) rfl rfl)
    · have hz : (Str.ofString (toString ((i : Nat) : Int))).length ≤ 9 := by
        rw [TL.len_tl, TL.tl_num]
        exact TL.numL_len (by decide) hi
      have hp : (Str.empty ++ Str.ofString "the text is wrong at index ").length ≤ 100 := by decide
      refine ⟨_, rfl, sz5 (Nat.le_trans hp (by decide)), .int i, rfl, .inr ⟨i, rfl, ?_, _, rfl, ?_, ?_⟩⟩
      · rw [Int.natAbs_natCast]
        rcases Nat.eq_zero_or_pos i with h0 | h0
        · subst h0; decide
        · exact Nat.lt_of_lt_of_le (Nat.log2_lt (by omega) |>.mpr (Nat.lt_of_lt_of_le hi (by decide : 10 ^ 9 ≤ 2 ^ 30))) (by decide)
      · refine sz5 ?_
        rw [Str.length_append]
        omega
      · exact ⟨Nat.le_of_ble_eq_true rfl, ea, rfl⟩
    · obtain ⟨H', I', rfl⟩ := h
      refine wpAt_of_wpAny ?_
      refine thn ((pss_one (ps_ost (f := "at") (pv 0) (pv 1))).run [] s' _ _ { nx := fun _ H' => Q .non H', rt := Q } I' ?_) fun _ _ q => q
      refine ⟨.int i, rfl, .ref a, rfl, a, C, rfl, T.oc, T.hat, .inl ⟨ea, fun d hd hne => q d hd hne⟩⟩
end
end K7
set_option Elab.async false
set_option linter.all false
set_option maxRecDepth 100000
set_option maxHeartbeats 4000000
namespace K7
open PySem PySem.Spec PyProof.Rows L2 NdefX G3
structure Top7 (mg : Str → Option Value) : Prop where
  len : mg "len" = none
  int : mg "int" = none
  str : mg "str" = none
  tuple : mg "tuple" = none
  list : mg "list" = none
  isinstance : mg "isinstance" = none
  max : mg "max" = none
  range : mg "range" = none
  bool : mg "bool" = none
abbrev s_law_mixed : Stmt := topS 12
theorem sc_law_mixed : FnScope ["cell", "turn", "one", "two"] ["cell", "turn"] (defScope s_law_mixed) := ⟨rfl, rfl, rfl, by decide +kernel, rfl, by decide +kernel, by decide +kernel⟩
abbrev s_law_draw : Stmt := topS 13
theorem sc_law_draw : FnScope ["state", "limit", "cells", "cell", "found"] ["state", "limit"] (defScope s_law_draw) := ⟨rfl, rfl, rfl, by decide +kernel, rfl, by decide +kernel, by decide +kernel⟩
section
variable {P : Program} {w : World} {K : PySem.W.Frag} {mg : Str → Option Value} {base : Heap}
abbrev sm (j : Int) (h : -(2 ^ 64) < j ∧ j < 2 ^ 64 := by decide) {i : Int} : CM i j := CM.rt h.1 h.2
abbrev dv (j : Int) (h : 0 < j ∧ j < 2 ^ 64 := by decide) {i : Int} : CDivW i j := CDivW.s h.1 h.2
def sp_mixed : DSp := fun ds n Q => ∃ a b, ds = [.int a, .int b] ∧ ∀ r, 0 ≤ r → r < 998244353 → Q (.int r) n
theorem ok_mixed {f : Addr} {fd : FuncData} (F : Fun K "_law_mixed" "_law_mixed" s_law_mixed f fd) (T : Top7 mg) : FnOk P w K mg base CX0 1 f fd ["cell", "turn"] (spOf K sp_mixed) := by
  refine def_ok F sc_law_mixed (fun ds n Q h => ?_) (fun cdv A outer s H E ds n Q hr h => ?_)
  · obtain ⟨a, b, rfl, _⟩ := h; rfl
  · obtain ⟨a, b, rfl, q⟩ := h
    show DSs _ _ _ [some (.int a), some (.int b), none, none] n _
    refine dss_cons (ds_set 2 sc_law_mixed.nd (PD.to (pd_mod (pd_int1 T.int (pd_add (pd_add (pd_mul (pd_v 0 rfl) pd_int (sm 48271)) (pd_mul (pd_v 1 rfl) pd_int (sm 69621))) pd_int)) pd_int (by decide)) ?_))
    have h1 : 0 ≤ (a * 48271 + b * 69621 + 12345) % 2147483647 := Int.emod_nonneg _ (by decide)
    have h2 : (a * 48271 + b * 69621 + 12345) % 2147483647 < 2147483647 := Int.emod_lt_of_pos _ (by decide)
    generalize (a * 48271 + b * 69621 + 12345) % 2147483647 = o at h1 h2 ⊢
    refine dss_cons (ds_set 3 sc_law_mixed.nd (PD.to (pd_mod (pd_int1 T.int (pd_add (pd_add (pd_mul (pd_v 2 rfl) (pd_v 2 rfl) (CM.rt (by omega) (by omega))) (pd_mul (pd_v 1 rfl) pd_int (sm 40692))) (pd_div (pd_v 2 rfl) pd_int (dv 7)))) pd_int (by decide)) ?_))
    refine dss_one (ds_ret (PD.to (pd_mod (pd_int1 T.int (pd_add (pd_add (pd_mul (pd_v 3 rfl) pd_int (sm 16807)) (pd_div (pd_v 3 rfl) pd_int (dv 1013))) (pd_v 1 rfl))) pd_int (by decide)) ?_))
    exact q _ (Int.emod_nonneg _ (by decide)) (Int.emod_lt_of_pos _ (by decide))
def stO (cs rs : List Int) (nx re co mi di : Int) : DO := .lst [.lst (cs.map D.int), .int nx, .int re, .int co, .int mi, .int di, .lst (rs.map D.int)]
def StOk (o : DO) : Prop := ∃ cs rs nx re co mi di, o = stO cs rs nx re co mi di ∧ 0 ≤ nx ∧ nx ≤ (cs.length : Int) ∧ 0 ≤ re ∧ rs.length = cs.length ∧ cs.length ≤ 63
def sp_draw : DSp := fun ds n Q => ∃ st lim o, ds = [.ref st, .int lim] ∧ n st = some o ∧ StOk o ∧ 0 < lim ∧ lim ≤ 10 ^ 9 ∧ ∀ r o', 0 ≤ r → r < lim → StOk o' → Q (.int r) (dupd n st o')
theorem ok_draw {f : Addr} {fd : FuncData} (F : Fun K "_law_draw" "_law_draw" s_law_draw f fd) (T : Top7 mg) (C_law_mixed : DCal P w K mg base 1 "_law_mixed" sp_mixed) : FnOk P w K mg base CX0 2 f fd ["state", "limit"] (spOf K sp_draw) := by
  refine def_ok F sc_law_draw (fun ds n Q h => ?_) (fun cdv A outer s H E ds n Q hr h => ?_)
  · obtain ⟨a, b, o, rfl, _⟩ := h; rfl
  · obtain ⟨st, lim, o, rfl, hst, ⟨cs, rs, nx, re, co, mi, di, rfl, h1, h2, h3, h4, h5⟩, l1, l2, q⟩ := h
    show DSs _ _ _ [some (.ref st), some (.int lim), none, none, none] n _
    have hcl : (((cs.map D.int).length : Nat) : Int) = cs.length := by rw [List.length_map]
    have clen : cs.length ≤ sizeLine := sz5 (by omega)
    refine dss_cons (ds_put (PD.to (pd_add (pd_ixo (pd_v 0 rfl) pd_int hst rfl) pd_int) (PD.to (pd_v 0 rfl) (PD.to pd_int ⟨_, _, _, 3, rfl, hst, rfl, rfl, ?_⟩))))
    show DSs _ _ _ _ (dupd n st (stO cs rs nx re (co + 1) mi di)) _
    have hst1 : dupd n st (stO cs rs nx re (co + 1) mi di) st = some (stO cs rs nx re (co + 1) mi di) := dupd_same
    have q1 : ∀ r o', 0 ≤ r → r < lim → StOk o' → Q (.int r) (dupd (dupd n st (stO cs rs nx re (co + 1) mi di)) st o') := fun r o' a b c => by rw [dupd_dupd]; exact q r o' a b c
    have q2 : ∀ r, 0 ≤ r → r < lim → Q (.int r) (dupd n st (stO cs rs nx re (co + 1) mi di)) := fun r a b => q r _ a b ⟨cs, rs, nx, re, co + 1, mi, di, rfl, h1, h2, h3, h4, h5⟩
    generalize dupd n st (stO cs rs nx re (co + 1) mi di) = m at hst1 q1 q2 ⊢
    generalize co + 1 = cc at hst1 ⊢
    have hm : ∀ x : Int, 0 ≤ x % lim ∧ x % lim < lim := fun x => ⟨Int.emod_nonneg _ (by omega), Int.emod_lt_of_pos _ l1⟩
    refine dss_cons (ds_set 2 sc_law_draw.nd (PD.to (pd_ixo (pd_v 0 rfl) pd_int hst1 rfl) ?_))
    refine dss_cons (ds_ifP (pt_eq (pd_len T.len (pd_v 2 rfl) (.sq rfl)) pd_int) (fun h => ?_) (fun h => ?_))
    · refine dss_one (ds_ret (de_mod (de_int1 T.int (de_call C_law_mixed (hr.mono (by decide)) (PDA.to (pa_c pd_int (pa_c (pd_ixo (pd_v 0 rfl) pd_int hst1 rfl) pa_n)) ⟨_, _, rfl, fun x x1 x2 => ⟨x, .inl rfl, PD.to (pd_v 1 rfl) ⟨_, _, rfl, rfl, l1, q2 _ (hm x).1 (hm x).2⟩⟩⟩)))))
    refine dss_nil ?_
    have hne : 0 < cs.length := by
      have := of_decide_eq_false h
      rw [hcl] at this
      omega
    refine dss_cut (fun r m => ∃ nx re cc mi di x3, r = [some (.ref st), some (.int lim), some (.lst (cs.map D.int)), x3, none] ∧ 0 ≤ nx ∧ nx ≤ (cs.length : Int) ∧ 0 ≤ re ∧ m st = some (stO cs rs nx re cc mi di) ∧ (∀ r o', 0 ≤ r → r < lim → StOk o' → Q (.int r) (dupd m st o'))) (ds_ifP (DW.dt (pw_a (pt_eq (pd_ixo (pd_v 0 rfl) pd_int hst1 rfl) pd_int) fun _ => (pw_a (pt_eq (pd_ixo (pd_v 0 rfl) pd_int hst1 rfl) pd_int) fun _ => (pw_a1 (pt_lt (pd_ixo (pd_v 0 rfl) pd_int hst1 rfl) (pd_len T.len (pd_v 2 rfl) (.sq rfl))))))) (fun h => ?_) (fun h => ?_)) ?_
    · have h' : decide (nx < ((cs.map D.int).length : Nat)) = true := by
        rw [Bool.and_eq_true, Bool.and_eq_true] at h
        exact h.2.2
      have hnx : nx < (cs.length : Int) := by
        have := of_decide_eq_true h'
        rw [hcl] at this
        exact this
      obtain ⟨c, hc1, hc2⟩ := atI_ints h1 hnx
      refine dss_cons (ds_set 3 sc_law_draw.nd (PD.to (pd_ix (pd_v 2 rfl) (pd_ixo (pd_v 0 rfl) pd_int hst1 rfl) rfl hc2) ?_))
      refine dss_cons (ds_put (PD.to (pd_add (pd_ixo (pd_v 0 rfl) pd_int hst1 rfl) pd_int) (PD.to (pd_v 0 rfl) (PD.to pd_int ⟨_, _, _, 1, rfl, hst1, rfl, rfl, ?_⟩))))
      show DSs _ _ _ _ (dupd m st (stO cs rs (nx + 1) re cc mi di)) _
      have hst2 : dupd m st (stO cs rs (nx + 1) re cc mi di) st = some (stO cs rs (nx + 1) re cc mi di) := dupd_same
      have q3 : ∀ r o', 0 ≤ r → r < lim → StOk o' → Q (.int r) (dupd (dupd m st (stO cs rs (nx + 1) re cc mi di)) st o') := fun r o' a b c => by rw [dupd_dupd]; exact q1 r o' a b c
      have q4 : ∀ r, 0 ≤ r → r < lim → Q (.int r) (dupd m st (stO cs rs (nx + 1) re cc mi di)) := fun r a b => q1 r _ a b ⟨cs, rs, nx + 1, re, cc, mi, di, rfl, by omega, by omega, h3, h4, h5⟩
      generalize dupd m st (stO cs rs (nx + 1) re cc mi di) = m2 at hst2 q3 q4 ⊢
      refine dss_cons (ds_ifP (pt_lt (pd_v 3 rfl) (pd_pow pd_int pd_int ⟨by decide, by decide, by decide⟩)) (fun h => ?_) (fun h => ?_))
      · refine dss_one (ds_ret (de_mod (de_int1 T.int (de_call C_law_mixed (hr.mono (by decide)) (PDA.to (pa_c (pd_v 3 rfl) (pa_c (pd_ixo (pd_v 0 rfl) pd_int hst2 rfl) pa_n)) ⟨_, _, rfl, fun x x1 x2 => ⟨x, .inl rfl, PD.to (pd_v 1 rfl) ⟨_, _, rfl, rfl, l1, q4 _ (hm x).1 (hm x).2⟩⟩⟩)))))
      refine dss_nil ?_
      have hc0 : 0 ≤ c := by
        have := of_decide_eq_false h
        have : ¬ (c < 10 ^ 18) := this
        omega
      refine dss_cons (ds_put (PD.to (pd_v 3 rfl) (PD.to (pd_v 0 rfl) (PD.to pd_int ⟨_, _, _, 2, rfl, hst2, rfl, rfl, ?_⟩))))
      show DSs _ _ _ _ (dupd m2 st (stO cs rs (nx + 1) c cc mi di)) _
      refine dss_cons (ds_put (PD.to pd_int (PD.to (pd_v 0 rfl) (PD.to pd_int ⟨_, _, _, 5, rfl, dupd_same, rfl, rfl, ?_⟩))))
      rw [dupd_dupd]
      show DSs _ _ _ _ (dupd m2 st (stO cs rs (nx + 1) c cc mi 60)) _
      exact dss_nil ⟨_, _, _, _, _, _, rfl, by omega, by omega, hc0, dupd_same, fun r o' a b c => by rw [dupd_dupd]; exact q3 r o' a b c⟩
    · exact dss_nil ⟨_, _, _, _, _, _, rfl, h1, h2, h3, hst1, q1⟩
    clear hst1 q1 q2 h1 h2 h3 q
    rintro r m ⟨nx, re, cc, mi, di, x3, rfl, h1, h2, h3, hst, q1⟩
    refine dss_cons (ds_ifP (DW.dt (pw_o (pt_eq (pd_ixo (pd_v 0 rfl) pd_int hst rfl) pd_int) fun _ => (pw_o1 (pt_eq (pd_ixo (pd_v 0 rfl) pd_int hst rfl) pd_int)))) (fun h => ?_) (fun h => ?_))
    · have hx : 0 ≤ cc % (((cs.map D.int).length : Nat) : Int) ∧ cc % (((cs.map D.int).length : Nat) : Int) < rs.length := by
        rw [hcl, h4]
        exact ⟨Int.emod_nonneg _ (by omega), Int.emod_lt_of_pos _ (by omega)⟩
      obtain ⟨c, hc1, hc2⟩ := atI_ints hx.1 hx.2
      have q2 : ∀ r, 0 ≤ r → r < lim → Q (.int r) m := fun r a b => by
        have e : dupd m st (stO cs rs nx re cc mi di) = m := by
          funext z
          by_cases hz : z = st
          · rw [hz, dupd_same, hst]
          · rw [dupd_ne hz]
        have := q1 r _ a b ⟨cs, rs, nx, re, cc, mi, di, rfl, h1, h2, h3, h4, h5⟩
        rw [e] at this
        exact this
      refine dss_one (ds_ret (de_mod (de_int1 T.int (de_call C_law_mixed (hr.mono (by decide)) (PDA.to (pa_c (pd_ix (pd_ixo (pd_v 0 rfl) pd_int hst rfl) (pd_mod (pd_int1 T.int (pd_ixo (pd_v 0 rfl) pd_int hst rfl)) (pd_len T.len (pd_v 2 rfl) (.sq rfl)) (by rw [hcl]; omega)) rfl hc2) (pa_c (pd_ixo (pd_v 0 rfl) pd_int hst rfl) pa_n)) ⟨_, _, rfl, fun x x1 x2 => ⟨x, .inl rfl, PD.to (pd_v 1 rfl) ⟨_, _, rfl, rfl, l1, q2 _ (hm x).1 (hm x).2⟩⟩⟩)))))
    refine dss_nil ?_
    refine dss_cons (ds_set 4 sc_law_draw.nd (PD.to (pd_mod (pd_int1 T.int (pd_ixo (pd_v 0 rfl) pd_int hst rfl)) (pd_v 1 rfl) l1) ?_))
    refine dss_cons (ds_put (PD.to (pd_sub (pd_ixo (pd_v 0 rfl) pd_int hst rfl) pd_int) (PD.to (pd_v 0 rfl) (PD.to pd_int ⟨_, _, _, 5, rfl, hst, rfl, rfl, ?_⟩))))
    show DSs _ _ _ _ (dupd m st (stO cs rs nx re cc mi (di - 1))) _
    have hst2 : dupd m st (stO cs rs nx re cc mi (di - 1)) st = some (stO cs rs nx re cc mi (di - 1)) := dupd_same
    refine dss_cons (ds_put (PD.to (pd_mul (pd_div (pd_int1 T.int (pd_ixo (pd_v 0 rfl) pd_int hst2 rfl)) (pd_v 1 rfl) (CDivW.s l1 (by omega))) (pd_intB T.int (pd_gt (pd_ixo (pd_v 0 rfl) pd_int hst2 rfl) pd_int)) (CM.rt (by split <;> decide) (by split <;> decide))) (PD.to (pd_v 0 rfl) (PD.to pd_int ⟨_, _, _, 2, rfl, hst2, rfl, rfl, ?_⟩))))
    rw [dupd_dupd]
    refine dss_one (ds_ret (PD.to (pd_v 4 rfl) ?_))
    refine q1 _ _ (hm re).1 (hm re).2 ⟨cs, rs, nx, _, cc, mi, di - 1, rfl, h1, h2, ?_, h4, h5⟩
    refine Int.mul_nonneg (Int.ediv_nonneg h3 (by omega)) ?_
    split <;> decide
end
end K7
set_option Elab.async false
set_option linter.all false
set_option maxRecDepth 100000
set_option maxHeartbeats 4000000
namespace K7
open PySem PySem.Spec PyProof.Rows L2 NdefX G3 M7
theorem at_nat {z : Str} {i : Nat} {c : Nat} (h : (TL.tl z)[i]? = some c) : atI z.cps.toList (i : Int) = some c := atI_of (Int.natCast_nonneg i) (by rw [Int.toNat_natCast]; exact h)
theorem cut_nat {z : Str} {a b : Nat} (h : a ≤ b) (hb : b ≤ (TL.tl z).length) : TL.tl (cutS z (some (a : Int)) (some (b : Int))) = ((TL.tl z).drop a).take (b - a) := by
  have hl : z.length = (TL.tl z).length := TL.len_tl z
  show (⟨_⟩ : Str).cps.toList = _
  show ((z.cps.toList.drop (HT.sIx z.length 0 (some (a : Int)))).take (HT.sIx z.length z.length (some (b : Int)) - HT.sIx z.length 0 (some (a : Int)))) = _
  rw [HT.sIx_nat, HT.sIx_nat, hl, Nat.min_eq_left hb, Nat.min_eq_left (Nat.le_trans h hb)]
theorem cut_from {z : Str} {a : Nat} (h : a ≤ (TL.tl z).length) : TL.tl (cutS z (some (a : Int)) none) = (TL.tl z).drop a := by
  have hl : z.length = (TL.tl z).length := TL.len_tl z
  show ((z.cps.toList.drop (HT.sIx z.length 0 (some (a : Int)))).take (HT.sIx z.length z.length none - HT.sIx z.length 0 (some (a : Int)))) = _
  rw [HT.sIx_nat, HT.sIx_none, hl, Nat.min_eq_left h]
  exact List.take_of_length_le (by rw [List.length_drop]; exact Nat.le_refl _)
theorem cut_to {z : Str} {b : Nat} (hb : b ≤ (TL.tl z).length) : TL.tl (cutS z none (some (b : Int))) = (TL.tl z).take b := by
  have hl : z.length = (TL.tl z).length := TL.len_tl z
  show ((z.cps.toList.drop (HT.sIx z.length 0 none)).take (HT.sIx z.length z.length (some (b : Int)) - HT.sIx z.length 0 none)) = _
  rw [HT.sIx_nat, HT.sIx_none, hl, Nat.min_eq_left hb]
  rfl
def digs : Str := "0123456789"
theorem digs_tl : digs.cps.toList = [48, 49, 50, 51, 52, 53, 54, 55, 56, 57] := by decide +kernel
theorem in_digs (c : Nat) : decide (c ∈ digs.cps.toList) = isDig c := by
  rw [digs_tl]
  unfold isDig
  rw [← Bool.decide_and]
  congr 1
  apply propext
  simp only [List.mem_cons, List.not_mem_nil, or_false]
  omega
theorem isDig_ge {c : Nat} (h : isDig c = true) : 48 ≤ c ∧ c ≤ 57 := by
  unfold isDig at h
  simpa using h
theorem numMore_dig : ∀ (r fig : List Nat), ∀ x ∈ r.take (numMore fig r), isDig x = true
  | [], fig, x, hx => by
    rw [List.take_nil] at hx
    cases hx
  | c :: r, fig, x, hx => by
    unfold numMore at hx
    by_cases h : (isDig c && (decide (fig ≠ [48]) && decide (fig.length < 9))) = true
    · rw [if_pos h, Nat.add_comm, List.take_succ_cons] at hx
      rcases List.mem_cons.mp hx with e | hx
      · rw [e]
        rw [Bool.and_eq_true] at h
        exact h.1
      · exact numMore_dig r _ x hx
    · rw [if_neg h, List.take_zero] at hx
      cases hx
theorem numMore_nine : ∀ (r fig : List Nat), fig.length ≤ 9 → fig.length + numMore fig r ≤ 9
  | [], fig, h => h
  | c :: r, fig, h => by
    unfold numMore
    by_cases hc : (isDig c && (decide (fig ≠ [48]) && decide (fig.length < 9))) = true
    · rw [if_pos hc]
      simp only [Bool.and_eq_true, decide_eq_true_eq] at hc
      have := numMore_nine r (fig ++ [c]) (by rw [List.length_append]; show fig.length + 1 ≤ 9; omega)
      rw [List.length_append] at this
      have : fig.length + 1 + numMore (fig ++ [c]) r ≤ 9 := this
      omega
    · rw [if_neg hc]
      exact h
theorem numMore_step {fig : List Nat} {r : List Nat} {i : Nat} (hi : i < r.length) : numMore (fig ++ r.take i) (r.drop i) = if (isDig (r.getD i 0) && (decide (fig ++ r.take i ≠ [48]) && decide ((fig ++ r.take i).length < 9))) = true then 1 + numMore (fig ++ r.take (i + 1)) (r.drop (i + 1)) else 0 := by
  have e : r.drop i = r.getD i 0 :: r.drop (i + 1) := by
    rw [List.getD_eq_getElem?_getD, List.getElem?_eq_getElem hi]
    exact List.drop_eq_getElem_cons hi
  rw [e]
  have e2 : fig ++ r.take i ++ [r.getD i 0] = fig ++ r.take (i + 1) := by
    rw [List.append_assoc, List.getD_eq_getElem?_getD, List.getElem?_eq_getElem hi]
    congr 1
    exact (List.take_succ_eq_append_getElem hi).symm
  show (if _ then 1 + numMore (fig ++ r.take i ++ [r.getD i 0]) (r.drop (i + 1)) else 0) = _
  rw [e2]
structure Top7c (mg : Str → Option Value) : Prop extends Top7 mg where
  dig : ∃ t, mg "DIGITS" = some (.str "0123456789" t)
  lev : ∃ t, mg "MOST_LEVELS" = some (.int 20 t)
  num : ∃ t, mg "MOST_DIGITS" = some (.int 9 t)
section
variable {P : Program} {w : World} {K : PySem.W.Frag} {mg : Str → Option Value} {base : Heap}
abbrev s_read_number : Stmt := topS 8
theorem sc_read_number : FnScope ["text", "at", "end"] ["text", "at"] (defScope s_read_number) := ⟨rfl, rfl, rfl, by decide +kernel, rfl, by decide +kernel, by decide +kernel⟩
def sp_rn : DSp := fun ds n Q => ∃ (z : Str) (a c : Nat) (r : List Nat), ds = [.str z, .int a] ∧ (TL.tl z).length ≤ 100000 ∧ (TL.tl z).drop a = c :: r ∧ isDig c = true ∧ Q (.tup [numVal (c :: r.take (numMore [c] r)), .int ((a + 1 + numMore [c] r : Nat) : Int)]) n
theorem ok_rn {f : Addr} {fd : FuncData} (F : Fun K "_read_number" "_read_number" s_read_number f fd) (T : Top7c mg) : FnOk P w K mg base CX0 1 f fd ["text", "at"] (spOf K sp_rn) := by
  refine def_ok F sc_read_number (fun ds n Q h => ?_) (fun cdv A outer s H E ds n Q hr h => ?_)
  · obtain ⟨z, a, c, r, rfl, _⟩ := h; rfl
  · obtain ⟨z, a, c, r, rfl, hz, ht, hd, q⟩ := h
    show DSs _ _ _ [some (.str z), some (.int a), none] n _
    have hlen : (TL.tl z).length = a + 1 + r.length := by
      have := congrArg List.length ht
      rw [List.length_drop, List.length_cons] at this
      have : a < (TL.tl z).length := by
        by_cases h : a < (TL.tl z).length
        · exact h
        · rw [List.drop_eq_nil_of_le (by omega)] at ht
          cases ht
      omega
    have hat : ∀ i, (TL.tl z)[a + i]? = (c :: r)[i]? := fun i => by rw [← ht, List.getElem?_drop]
    have hzl : z.length ≤ sizeLine := sz5 (by rw [TL.len_tl]; omega)
    have hzi : (z.length : Int) = ((a + 1 + r.length : Nat) : Int) := by rw [TL.len_tl, hlen]
    refine dss_cons (ds_set 2 sc_read_number.nd (PD.to (pd_add (pd_v 1 rfl) pd_int) ?_))
    refine dss_cut (fun r' m => m = n ∧ r' = [some (.str z), some (.int a), some (.int ((a + 1 + numMore [c] r : Nat) : Int))]) (ds_ifP (pt_ne (pd_ixs (pd_v 0 rfl) (pd_v 1 rfl) hzl (at_nat (hat 0))) pd_str) (fun h => ?_) (fun h => ?_)) ?_
    · have h48 : c ≠ 48 := fun e => by
        subst e
        exact absurd h (by decide +kernel)
      refine dss_one (ds_whileP (fun k r' m => m = n ∧ ∃ i, i ≤ r.length ∧ k = r.length - i ∧ r' = [some (.str z), some (.int a), some (.int ((a + 1 + i : Nat) : Int))] ∧ numMore [c] r = i + numMore (c :: r.take i) (r.drop i)) r.length PassesOwn.never ⟨rfl, 0, Nat.zero_le _, rfl, rfl, by simp⟩ (fun k r' m hI => ?_))
      obtain ⟨rfl, i, hi, rfl, rfl, hj⟩ := hI
      refine ⟨_, DW.dt (pw_a (pt_lt (pd_v 2 rfl) (pd_len T.len (pd_v 0 rfl) (.str hzl))) fun h1 => pw_a (pt_lt (pd_v 2 rfl) (pd_add (pd_v 1 rfl) (pd_glI T.num))) fun h2 => pw_a1 (pt_inS (cc := r.getD i 0) (pd_ixs (pd_v 0 rfl) (pd_v 2 rfl) hzl (at_nat ?_)) (pd_glS T.dig))), fun ht => ?_, fun hf => ?_⟩
      · have h1 := of_decide_eq_true h1
        rw [hzi] at h1
        have hi' : i < r.length := by omega
        rw [show a + 1 + i = a + (i + 1) by omega, hat, List.getElem?_cons_succ, List.getD_eq_getElem?_getD, List.getElem?_eq_getElem hi']
        rfl
      · rw [Bool.and_eq_true, Bool.and_eq_true] at ht
        have h1 := of_decide_eq_true ht.1
        rw [hzi] at h1
        have hi' : i < r.length := by omega
        have h2 := of_decide_eq_true ht.2.1
        have h3 : isDig (r.getD i 0) = true := by rw [← in_digs]; exact ht.2.2
        have hst := numMore_step (fig := [c]) hi'
        rw [if_pos] at hst
        · refine dss_one (ds_inc 2 sc_read_number.nd rfl (PD.to pd_int ⟨_, rfl, r.length - (i + 1), by omega, rfl, i + 1, hi', rfl, rfl, ?_⟩))
          rw [hj]
          rw [show c :: r.take i = [c] ++ r.take i from rfl, hst]
          show i + (1 + numMore (c :: r.take (i + 1)) (r.drop (i + 1))) = i + 1 + numMore (c :: r.take (i + 1)) (r.drop (i + 1))
          omega
        · rw [h3, Bool.true_and, Bool.and_eq_true]
          refine ⟨decide_eq_true fun e => ?_, decide_eq_true ?_⟩
          · injection e with e _
            exact h48 e
          · rw [List.length_append, List.length_take]
            show 1 + _ < 9
            omega
      · refine ⟨rfl, ?_⟩
        have : numMore (c :: r.take i) (r.drop i) = 0 := by
          by_cases hi' : i < r.length
          · have hst := numMore_step (fig := [c]) hi'
            rw [show c :: r.take i = [c] ++ r.take i from rfl, hst, if_neg]
            intro hc
            rw [Bool.and_eq_true, Bool.and_eq_true] at hc
            obtain ⟨h3, _, h9⟩ := hc
            have h9 := of_decide_eq_true h9
            rw [List.length_append, List.length_take] at h9
            have h9 : 1 + min i r.length < 9 := h9
            have : (decide (((a + 1 + i : Nat) : Int) < (z.length : Int)) && (decide (((a + 1 + i : Nat) : Int) < (a : Int) + 9) && decide (r.getD i 0 ∈ digs.cps.toList))) = true := by
              rw [in_digs, h3, Bool.and_true, Bool.and_eq_true, hzi]
              exact ⟨decide_eq_true (by omega), decide_eq_true (by omega)⟩
            exact absurd (hf.symm.trans this) (by decide)
          · rw [List.drop_eq_nil_of_le (by omega)]
            rfl
        rw [hj, this]
        rfl
    · refine dss_nil ⟨rfl, ?_⟩
      have hc : c = 48 := by
        have h := h
        simp only [Bool.not_eq_false', decide_eq_true_eq] at h
        have := congrArg (fun x : Str => x.cps.toList) h
        exact List.head_eq_of_cons_eq (show [c] = [48] from this)
      have : numMore [c] r = 0 := by
        subst hc
        cases r with
        | nil => rfl
        | cons d r =>
          unfold numMore
          rw [if_neg (by simp)]
      rw [this]
      rfl
    · rintro r' m ⟨rfl, rfl⟩
      have hj := numMore_le r [c]
      have hcut : TL.tl (cutS z (some (a : Int)) (some ((a + 1 + numMore [c] r : Nat) : Int))) = c :: r.take (numMore [c] r) := by
        rw [cut_nat (by omega) (by omega), ht, show a + 1 + numMore [c] r - a = numMore [c] r + 1 by omega]
        rfl
      have hnine := numMore_nine r [c] (by show 1 ≤ 9; decide)
      have hl : (cutS z (some (a : Int)) (some ((a + 1 + numMore [c] r : Nat) : Int))).length ≤ 9 := by
        rw [TL.len_tl, hcut, List.length_cons, List.length_take]
        have : 1 + numMore [c] r ≤ 9 := hnine
        omega
      have hi : PySem.intText? (cutS z (some (a : Int)) (some ((a + 1 + numMore [c] r : Nat) : Int))) = some ((NumText.digitsVal (c :: r.take (numMore [c] r)) : Nat) : Int) := by
        have := intText_digits (x := cutS z (some (a : Int)) (some ((a + 1 + numMore [c] r : Nat) : Int))) (by
          show NumText.AllDigits (TL.tl _)
          rw [hcut]
          intro x hx
          rcases List.mem_cons.mp hx with e | hx
          · rw [e]; exact isDig_ge hd
          · exact isDig_ge (numMore_dig r [c] x hx)) (by show TL.tl _ ≠ []; rw [hcut]; simp) (by omega)
        have h2 : (cutS z (some (a : Int)) (some ((a + 1 + numMore [c] r : Nat) : Int))).cps.toList = c :: r.take (numMore [c] r) := hcut
        rw [h2] at this
        exact this
      exact dss_one (ds_ret (PD.to (pd_tup (pa_c (pd_intS T.int (pd_slS (pd_v 0 rfl) (dp_s (pd_v 1 rfl)) (dp_s (pd_v 2 rfl)) hzl) hi (by omega)) (pa_c (pd_v 2 rfl) pa_n))) q))
end
end K7
set_option Elab.async false
set_option linter.all false
set_option maxRecDepth 100000
set_option maxHeartbeats 4000000
namespace K7
open PySem PySem.Spec PyProof.Rows L2 NdefX G3 M7
structure RaiseI (P : Program) (w : World) (K : PySem.W.Frag) (mg : Str → Option Value) (base : Heap) (x : Str) (C : Addr) (fld : Str) : Prop where
  oc : OexC K C
  fn : ∃ fI fd ps, PySem.W.findIn K (.ref C) "__init__" = some (some (.ref fI)) ∧ PySem.W.typeIn K (.ref fI) = some (.type "function") ∧ FnOk P w K mg base CX0 1 fI fd ps (spInit C fld) ∧ Binds K fd ps []
  hm : mg x = some (.ref C)
section
variable {P : Program} {w : World} {K : PySem.W.Frag} {mg : Str → Option Value} {base : Heap} {X : Cx} {Z : Hp × DH} {r : Rho} {n : DH} {E : DEnds} {EX : XR}
theorem ds_rz {x fld : Str} {C : Addr} {e : Expr} {p pos pos' : Pos} (R : RaiseI X.prog X.w X.K X.mg X.base x C fld) (hc : X.calm = true) (tk : TakesD X Z EX) (hr : Room 2 X.A) (h : DE X Z e r n fun d m => ∃ i : Nat, d = .int i ∧ i < 10 ^ 9 ∧ XS EX (.ref C) [(fld, .int i)] r m) (hg : Gl X x := by rfl)
    (hdb : (x == ("__debug__" : Str)) = false := by decide) (he : starEach (e :: []) X.env = (false, eval e X.env) :: starEach [] X.env := by rfl) (hpl : (backTo pos (starEach [] X.env)).any (·.1) = false := by rfl) : DS X Z (.Raise (some (.Call (.Name x p) [e] [] pos)) none pos') r n E := by
  obtain ⟨fI, fd, ps, a, b, c, d⟩ := R.fn
  exact ds_raiseI hc tk R.oc a b c hr d R.hm h hg hdb he hpl
abbrev s_read_value : Stmt := topS 9
theorem sc_read_value : FnScope ["text", "at", "depth", "items", "item"] ["text", "at", "depth"] (defScope s_read_value) := ⟨rfl, rfl, rfl, by decide +kernel, rfl, by decide +kernel, by decide +kernel⟩
def outP (C : Addr) (Q : D → DH → Prop) (EX : XP) (n : DH) : Out → Prop
  | .err q => EX (.ref C) [("at", .int q)] n
  | .ok v _ p' => Q (.tup [v, .int p']) n
def sp_rv (C : Addr) (k : Nat) : DSpX := fun ds n Q EX => ∃ (z : Str) (a : Nat), ds = [.str z, .int a, .int (20 - (k : Int))] ∧ (TL.tl z).length ≤ 100000 ∧ a ≤ (TL.tl z).length ∧ outP C Q EX n (readV k ((TL.tl z).drop a) a)
theorem ok_rv1 {f : Addr} {fd : FuncData} {C : Addr} (F : Fun K "_read_value" "_read_value" s_read_value f fd) (T : Top7c mg) (R : RaiseI P w K mg base "BadText" C "at") (C_rn : DCal P w K mg base 1 "_read_number" sp_rn) (k : Nat) (hk : k ≤ 20) (C_rec : ∀ k', k = k' + 1 → DCalX P w K mg base (k' + 3) "_read_value" (sp_rv C k')) :
    FnOk P w K mg base (L2.CX P w) (k + 3) f fd ["text", "at", "depth"] (spOfX K (sp_rv C k)) := by
  refine def_okX F sc_read_value (fun ds n Q E h => ?_) (fun cdv A outer s H E ds n Q EX hr h tk po => ?_)
  · obtain ⟨z, a, rfl, _⟩ := h; rfl
  · obtain ⟨z, a, rfl, hz, ha, q⟩ := h
    show DSs _ _ _ [some (.str z), some (.int a), some (.int (20 - (k : Int))), none, none] n _
    have hzl : z.length ≤ sizeLine := sz5 (by rw [TL.len_tl]; omega)
    have hzi : (z.length : Int) = (((TL.tl z).length : Nat) : Int) := by rw [TL.len_tl]
    generalize ht : TL.tl z = t at *
    have hat : ∀ {i : Nat}, i < t.length → atI z.cps.toList (i : Int) = some (t.getD i 0) := fun {i} hi => at_nat (by
      rw [ht, List.getD_eq_getElem?_getD, List.getElem?_eq_getElem hi]
      rfl)
    have hdr : ∀ {i : Nat}, i < t.length → t.drop i = t.getD i 0 :: t.drop (i + 1) := fun {i} hi => by
      rw [List.getD_eq_getElem?_getD, List.getElem?_eq_getElem hi]
      exact List.drop_eq_getElem_cons hi
    have one : ∀ {c : Nat} {y : Str} {d : Nat}, y.cps.toList = [d] → decide ((⟨#[c]⟩ : Str) = y) = decide (c = d) := fun {c y d} hy => by
      congr 1
      apply propext
      constructor
      · intro h
        have := congrArg (fun x : Str => x.cps.toList) h
        rw [hy] at this
        exact List.head_eq_of_cons_eq (show [c] = [d] from this)
      · rintro rfl
        exact TL.ext_tl (show [c] = y.cps.toList from hy.symm)
    refine dss_cons (ds_ifP (DW.dt (pw_a (pt_lt (pd_v 1 rfl) (pd_len T.len (pd_v 0 rfl) (.str hzl))) fun h1 => pw_a1 (pt_inS (cc := t.getD a 0) (pd_ixs (pd_v 0 rfl) (pd_v 1 rfl) hzl (hat (by have := of_decide_eq_true h1; omega))) (pd_glS T.dig)))) (fun h => ?_) (fun h => ?_))
    · rw [Bool.and_eq_true] at h
      have h1 := of_decide_eq_true h.1
      have hal : a < t.length := by omega
      have hd : isDig (t.getD a 0) = true := by rw [← in_digs]; exact h.2
      rw [hdr hal, readV_dig hd] at q
      exact dss_one (ds_ret (de_call C_rn (hr.mono (by omega)) (PDA.to (pa_c (pd_v 0 rfl) (pa_c (pd_v 1 rfl) pa_n)) ⟨z, a, _, _, rfl, by rw [ht]; exact hz, by rw [ht]; exact hdr hal, hd, q⟩)))
    refine dss_nil ?_
    have hnd : a < t.length → isDig (t.getD a 0) = false := fun hal => by
      rw [← in_digs]
      rw [hzi] at h
      rw [decide_eq_true (show (a : Int) < (t.length : Nat) by omega), Bool.true_and] at h
      exact h
    clear h
    refine dss_cons (ds_ifP (DW.dt (pw_o (pt_eq (pd_v 1 rfl) (pd_len T.len (pd_v 0 rfl) (.str hzl))) fun h1 => pw_o (pt_ne (pd_ixs (cc := t.getD a 0) (pd_v 0 rfl) (pd_v 1 rfl) hzl (hat (by have := of_decide_eq_false h1; omega))) pd_str) fun _ => pw_o1 (pt_eq (pd_v 2 rfl) (pd_glI T.lev)))) (fun h => ?_) (fun h => ?_))
    · have he : readV k (t.drop a) a = .err a := by
        by_cases hal : a < t.length
        · rw [hdr hal]
          refine readV_bad (hnd hal) ?_
          rw [hzi, decide_eq_false (show ¬ ((a : Int) = (t.length : Nat)) by omega), Bool.false_or, one (d := 40) (by decide +kernel), Bool.or_eq_true, Bool.not_eq_true', decide_eq_true_eq, decide_eq_false_iff_not] at h
          rcases h with h | h
          · exact .inl h
          · exact .inr (by omega)
        · rw [List.drop_eq_nil_of_le (by omega)]
          cases k <;> rfl
      rw [he] at q
      exact dss_one (ds_rz R rfl tk (hr.mono (by omega)) (PD.to (pd_v 1 rfl) ⟨a, rfl, by omega, n, Sub.refl, q⟩))
    refine dss_nil ?_
    have hal : a < t.length := by
      by_cases e : a < t.length
      · exact e
      · rw [hzi, decide_eq_true (show ((a : Int) = (t.length : Nat)) by omega), Bool.true_or] at h
        cases h
    rw [hzi, decide_eq_false (show ¬ ((a : Int) = (t.length : Nat)) by omega), Bool.false_or, one (d := 40) (by decide +kernel), Bool.or_eq_false_iff, Bool.not_eq_false', decide_eq_true_eq, decide_eq_false_iff_not] at h
    obtain ⟨h40, hk0⟩ := h
    obtain ⟨k', rfl⟩ : ∃ k', k = k' + 1 := ⟨k - 1, by omega⟩
    have C_rec := C_rec k' rfl
    rw [hdr hal, h40] at q
    have q : outP C Q EX n (if (t.drop (a + 1)).head? = some 41 then .ok (.tup []) (t.drop (a + 1)).tail (a + 2) else loop (readV k') ((t.drop (a + 1)).length + 1) [] (t.drop (a + 1)) (a + 1)) := by
      unfold readV at q
      rw [if_neg (by decide), if_pos rfl] at q
      exact q
    refine dss_cons (ds_inc 1 sc_read_value.nd rfl (PD.to pd_int ⟨_, rfl, ?_⟩))
    show DSs _ _ _ [some (.str z), some (.int ((a + 1 : Nat) : Int)), some (.int (20 - ((k' + 1 : Nat) : Int))), none, none] n _
    have hhead : ∀ {i : Nat}, i < t.length → ((t.drop i).head? = some 41 ↔ t.getD i 0 = 41) := fun {i} hi => by
      rw [hdr hi]
      show some _ = some _ ↔ _
      rw [Option.some.injEq]
    refine dss_cons (ds_ifP (DW.dt (pw_a (pt_lt (pd_v 1 rfl) (pd_len T.len (pd_v 0 rfl) (.str hzl))) fun h1 => pw_a1 (pt_eq (pd_ixs (cc := t.getD (a + 1) 0) (pd_v 0 rfl) (pd_v 1 rfl) hzl (hat (by have := of_decide_eq_true h1; omega))) pd_str))) (fun h => ?_) (fun h => ?_))
    · rw [Bool.and_eq_true, one (d := 41) (by decide +kernel)] at h
      have h1 := of_decide_eq_true h.1
      have h2 := of_decide_eq_true h.2
      rw [if_pos ((hhead (by omega)).mpr h2)] at q
      exact dss_one (ds_ret (PD.to (pd_tup (pa_c (pd_tup pa_n) (pa_c (pd_add (pd_v 1 rfl) pd_int) pa_n))) q))
    refine dss_nil ?_
    rw [if_neg (fun hh => by
      by_cases e : a + 1 < t.length
      · have h2 := (hhead e).mp hh
        rw [hzi, decide_eq_true (show (((a + 1 : Nat) : Int) < (t.length : Nat)) by omega), Bool.true_and, one (d := 41) (by decide +kernel), h2] at h
        cases h
      · rw [List.drop_eq_nil_of_le (by omega)] at hh
        cases hh)] at q
    clear h
    refine dss_cons (ds_set 3 sc_read_value.nd (de_lstO (da_nil ⟨Nat.zero_le _, fun L hL => ?_⟩)))
    refine dss_one (ds_whileP (fun kk r m => ∃ acc p x4, r = [some (.str z), some (.int ((p : Nat) : Int)), some (.int (20 - ((k' + 1 : Nat) : Int))), some (.ref L), x4] ∧ m = dupd n L (.lst acc) ∧ p ≤ t.length ∧ acc.length ≤ p ∧ kk = t.length - p ∧ ∃ f, t.length - p < f ∧ outP C Q EX n (loop (readV k') f acc (t.drop p) p)) (t.length - (a + 1)) po ⟨[], a + 1, none, rfl, rfl, hal, Nat.zero_le _, rfl, _, by rw [List.length_drop]; exact Nat.lt_succ_self _, q⟩ (fun kk r m hI => ?_))
    obtain ⟨acc, p, x4, rfl, rfl, hp, hacc, rfl, f, hf, q⟩ := hI
    refine ⟨true, pt_val pd_bl, fun _ => ?_, fun z => by cases z⟩
    obtain ⟨f, rfl⟩ : ∃ f', f = f' + 1 := ⟨f - 1, by omega⟩
    unfold loop at q
    refine dss_cons (ds_asg (vs := []) (r2 := []) (de_callX C_rec tk (hr.mono (by omega)) (PDA.to (pa_c (pd_v 0 rfl) (pa_c (pd_v 1 rfl) (pa_c (pd_add (pd_v 2 rfl) pd_int) pa_n))) ⟨z, p, ?_, by rw [ht]; exact hz, by rw [ht]; exact hp, ?_⟩)))
    · congr 4
      omega
    rw [ht]
    cases hrv : readV k' (t.drop p) p with
    | err q' =>
      rw [hrv] at q
      exact ⟨n, Sub.up hL, q⟩
    | ok v s1 p1 =>
      rw [hrv] at q
      obtain ⟨e1, hp1, hp2⟩ := readV_drop hp hrv
      subst e1
      refine ⟨_, _, dg_tup rfl (dg_c (dg_v 4 sc_read_value.nd) (dg_c (dg_v 1 sc_read_value.nd) dg_n)), ?_⟩
      refine dss_cons (ds_expr (de_append (pd_v 3 rfl) dupd_same (PD.to (pd_v 4 rfl) ⟨acc, dupd_same, Nat.lt_of_le_of_lt (show acc.length ≤ 100000 by omega) (by decide), ?_⟩)))
      rw [dupd_dupd]
      show DSs _ _ _ [some (.str z), some (.int ((p1 : Nat) : Int)), some (.int (20 - ((k' + 1 : Nat) : Int))), some (.ref L), some v] _ _
      refine dss_cons (ds_ifP (DW.dt (pw_a (pt_lt (pd_v 1 rfl) (pd_len T.len (pd_v 0 rfl) (.str hzl))) fun h1 => pw_a1 (pt_eq (pd_ixs (cc := t.getD p1 0) (pd_v 0 rfl) (pd_v 1 rfl) hzl (hat (by have := of_decide_eq_true h1; omega))) pd_str))) (fun h => ?_) (fun h => ?_))
      · rw [Bool.and_eq_true, one (d := 41) (by decide +kernel)] at h
        have h1 := of_decide_eq_true h.1
        have h2 := of_decide_eq_true h.2
        rw [hdr (by omega), h2] at q
        exact dss_one (ds_ret (DE.fg (PD.to (pd_tup (pa_c (pd_tuple T.tuple (pd_v 3 rfl) (.own dupd_same)) (pa_c (pd_add (pd_v 1 rfl) pd_int) pa_n))) ⟨n, Sub.up hL, q⟩)))
      refine dss_nil ?_
      have hn41 : p1 < t.length → t.getD p1 0 ≠ 41 := fun hl e => by
        rw [hzi, decide_eq_true (show (((p1 : Nat) : Int) < (t.length : Nat)) by omega), Bool.true_and, one (d := 41) (by decide +kernel), e] at h
        cases h
      clear h
      refine dss_cons (ds_ifP (DW.dt (pw_o (pt_eq (pd_v 1 rfl) (pd_len T.len (pd_v 0 rfl) (.str hzl))) fun h1 => pw_o1 (pt_ne (pd_ixs (cc := t.getD p1 0) (pd_v 0 rfl) (pd_v 1 rfl) hzl (hat (by have := of_decide_eq_false h1; omega))) pd_str))) (fun h => ?_) (fun h => ?_))
      · have he : outP C Q EX n (.err p1) := by
          by_cases hl : p1 < t.length
          · rw [hdr hl] at q
            dsimp only at q
            rw [hzi, decide_eq_false (show ¬ ((p1 : Int) = (t.length : Nat)) by omega), Bool.false_or, one (d := 32) (by decide +kernel), Bool.not_eq_true', decide_eq_false_iff_not] at h
            rw [if_neg (hn41 hl), if_neg h] at q
            exact q
          · rw [List.drop_eq_nil_of_le (by omega)] at q
            exact q
        exact dss_one (ds_rz R rfl tk (hr.mono (by omega)) (PD.to (pd_v 1 rfl) ⟨p1, rfl, by omega, n, Sub.up hL, he⟩))
      refine dss_nil ?_
      have hl : p1 < t.length := by
        by_cases e : p1 < t.length
        · exact e
        · rw [hzi, decide_eq_true (show ((p1 : Int) = (t.length : Nat)) by omega), Bool.true_or] at h
          cases h
      rw [hzi, decide_eq_false (show ¬ ((p1 : Int) = (t.length : Nat)) by omega), Bool.false_or, one (d := 32) (by decide +kernel), Bool.not_eq_false', decide_eq_true_eq] at h
      rw [hdr hl] at q
      dsimp only at q
      rw [if_neg (hn41 hl), if_pos h] at q
      refine dss_one (ds_inc 1 sc_read_value.nd rfl (PD.to pd_int ⟨_, rfl, t.length - (p1 + 1), by omega, acc ++ [v], p1 + 1, some v, rfl, rfl, hl, by rw [List.length_append]; show acc.length + 1 ≤ p1 + 1; omega, rfl, f, by omega, q⟩))
end
end K7
set_option Elab.async false
set_option linter.all false
set_option maxRecDepth 100000
set_option maxHeartbeats 4000000
namespace M7
open PySem G3
def wrS (d : D) : Str := ⟨(wr d).toArray⟩
theorem wrS_tl (d : D) : TL.tl (wrS d) = wr d := rfl
theorem wrsT_len : ∀ l : List D, (wrsT l).length = (l.map fun d => (wr d).length).sum + l.length + 1
  | [] => rfl
  | d :: ds => by
    show (32 :: (wr d ++ wrsT ds)).length = _
    rw [List.length_cons, List.length_append, wrsT_len ds, List.map_cons, List.sum_cons, List.length_cons]
    omega
theorem wrs_len (l : List D) : (l.map fun d => (wr d).length).sum + l.length ≤ (wrs l).length := by
  cases l with
  | nil => exact Nat.zero_le _
  | cons d ds =>
    show _ ≤ (wr d ++ wrsT ds).length
    rw [List.length_append, wrsT_len ds, List.map_cons, List.sum_cons, List.length_cons]
    omega
theorem wrs_len2 (l : List D) : (wrs l).length ≤ (l.map fun d => (wr d).length).sum + l.length + 1 := by
  cases l with
  | nil => exact Nat.le_refl _
  | cons d ds =>
    show (wr d ++ wrsT ds).length ≤ _
    rw [List.length_append, wrsT_len ds, List.map_cons, List.sum_cons, List.length_cons]
    omega
theorem sum_mem {d : D} : ∀ {l : List D}, d ∈ l → (wr d).length ≤ (l.map fun d => (wr d).length).sum
  | [], h => by cases h
  | x :: l, h => by
    rw [List.map_cons, List.sum_cons]
    rcases List.mem_cons.mp h with e | h
    · rw [e]; omega
    · have := sum_mem h; omega
theorem wr_mem {d : D} {l : List D} (h : d ∈ l) : (wr d).length ≤ (wr (.tup l)).length := by
  have h1 := sum_mem h
  have h2 := wrs_len l
  show _ ≤ (40 :: wrs l).length
  rw [List.length_cons]
  omega
theorem Nvs_mem {k : Nat} {d : D} : ∀ {l : List D}, Nvs k l → d ∈ l → Nv k d
  | [], _, h => by cases h
  | x :: l, h1, h => by
    rcases List.mem_cons.mp h with e | h
    · rw [e]; exact h1.1
    · exact Nvs_mem h1.2 h
theorem Nvs_of {k : Nat} : ∀ {l : List D}, (∀ d ∈ l, Nv k d) → Nvs k l
  | [], _ => trivial
  | x :: l, h => ⟨h x List.mem_cons_self, Nvs_of fun d hd => h d (List.mem_cons_of_mem _ hd)⟩
mutual
theorem Nv_mono : ∀ (d : D) {k j : Nat}, Nv k d → k ≤ j → Nv j d
  | .int i, _, _, h, _ => h
  | .tup l, k, j, h, hj => by
    obtain ⟨k', rfl, h⟩ := h
    exact ⟨j - 1, by omega, Nvs_mono l h (by omega)⟩
  | .non, _, _, h, _ => False.elim h
  | .bl _, _, _, h, _ => False.elim h
  | .str _, _, _, h, _ => False.elim h
  | .ref _, _, _, h, _ => False.elim h
  | .lst _, _, _, h, _ => False.elim h
  | .rol _, _, _, h, _ => False.elim h
  | .dct _ _, _, _, h, _ => False.elim h
  | .obj _ _ _, _, _, h, _ => False.elim h
theorem Nvs_mono : ∀ (l : List D) {k j : Nat}, Nvs k l → k ≤ j → Nvs j l
  | [], _, _, _, _ => trivial
  | d :: ds, _, _, h, hj => ⟨Nv_mono d h.1 hj, Nvs_mono ds h.2 hj⟩
end
theorem wrs_join : ∀ l : List D, wrs l = TL.joinL [32] (l.map wr) ++ [41]
  | [] => rfl
  | [d] => rfl
  | d :: e :: r => by
    have ih := wrs_join (e :: r)
    show wr d ++ (32 :: wrs (e :: r)) = wr d ++ ([32] ++ TL.joinL [32] ((e :: r).map wr)) ++ [41]
    rw [ih, List.append_assoc, List.append_assoc]
    rfl
theorem join_tl (l : List D) : TL.tl (Txt.join " " (l.map wrS)) = TL.joinL [32] (l.map wr) := by
  rw [TL.join_eq, TL.tl_join, List.map_map]
  rfl
theorem num_wr {i : Int} (h0 : 0 ≤ i) : (Str.ofString (toString i)) = wrS (.int i) := by
  refine TL.ext_tl ?_
  have : i = ((i.toNat : Nat) : Int) := by omega
  rw [this, TL.tl_num]
  show _ = TL.numL (((i.toNat : Nat) : Int)).toNat
  rw [Int.toNat_natCast]
end M7
namespace K7
open PySem PySem.Spec PyProof.Rows L2 NdefX G3 M7
section
variable {P : Program} {w : World} {K : PySem.W.Frag} {mg : Str → Option Value} {base : Heap}
theorem ok_rv {f : Addr} {fd : FuncData} {C : Addr} (F : Fun K "_read_value" "_read_value" s_read_value f fd) (T : Top7c mg) (R : RaiseI P w K mg base "BadText" C "at") (C_rn : DCal P w K mg base 1 "_read_number" sp_rn)
    (hm : mg "_read_value" = some (.ref f)) (hk : PySem.W.keepIn K (.ref f) = true) (hb : Binds K fd ["text", "at", "depth"] []) : ∀ k, k ≤ 20 → DCalX P w K mg base (k + 3) "_read_value" (sp_rv C k)
  | 0, _ => ⟨⟨f, fd, _, ok_rv1 F T R C_rn 0 (by decide) (fun k' h => by omega), hm, hk, hb⟩⟩
  | k + 1, h => ⟨⟨f, fd, _, ok_rv1 F T R C_rn (k + 1) h (fun k' e => by
      have : k' = k := by omega
      subst this
      exact ok_rv F T R C_rn hm hk hb k' (by omega)), hm, hk, hb⟩⟩
abbrev s_read_nested : Stmt := topS 10
theorem sc_read_nested : FnScope ["text", "value", "end"] ["text"] (defScope s_read_nested) := ⟨rfl, rfl, rfl, by decide +kernel, rfl, by decide +kernel, by decide +kernel⟩
def outR (C : Addr) (Q : D → DH → Prop) (EX : XP) (n : DH) : Res → Prop
  | .err q => EX (.ref C) [("at", .int q)] n
  | .ok v => Q v n
def sp_rd (C : Addr) : DSpX := fun ds n Q EX => ∃ z : Str, ds = [.str z] ∧ (TL.tl z).length ≤ 100000 ∧ outR C Q EX n (proRead (TL.tl z))
theorem ok_rd {f : Addr} {fd : FuncData} {C : Addr} (F : Fun K "read_nested" "read_nested" s_read_nested f fd) (T : Top7c mg) (R : RaiseI P w K mg base "BadText" C "at") (C_rv : DCalX P w K mg base 23 "_read_value" (sp_rv C 20)) :
    FnOk P w K mg base (L2.CX P w) 24 f fd ["text"] (spOfX K (sp_rd C)) := by
  refine def_okX F sc_read_nested (fun ds n Q E h => ?_) (fun cdv A outer s H E ds n Q EX hr h tk po => ?_)
  · obtain ⟨z, rfl, _⟩ := h; rfl
  · obtain ⟨z, rfl, hz, q⟩ := h
    show DSs _ _ _ [some (.str z), none, none] n _
    have hzl : z.length ≤ sizeLine := sz5 (by rw [TL.len_tl]; omega)
    have hzi : (z.length : Int) = (((TL.tl z).length : Nat) : Int) := by rw [TL.len_tl]
    refine dss_cons (ds_asg (vs := []) (r2 := []) (de_callX C_rv tk hr (PDA.to (pa_c (pd_v 0 rfl) (pa_c pd_int (pa_c pd_int pa_n))) ⟨z, 0, rfl, hz, Nat.zero_le _, ?_⟩)))
    rw [List.drop_zero]
    unfold proRead at q
    cases hrv : readV 20 (TL.tl z) 0 with
    | err q' =>
      rw [hrv] at q
      exact ⟨n, Sub.refl, q⟩
    | ok v s1 p1 =>
      rw [hrv] at q
      obtain ⟨e1, hp1, hp2⟩ := readV_drop (t := TL.tl z) (p := 0) (Nat.zero_le _) (by rw [List.drop_zero]; exact hrv)
      refine ⟨_, _, dg_tup rfl (dg_c (dg_v 1 sc_read_nested.nd) (dg_c (dg_v 2 sc_read_nested.nd) dg_n)), ?_⟩
      show DSs _ _ _ [some (.str z), some v, some (.int ((p1 : Nat) : Int))] n _
      refine dss_cons (ds_ifP (pt_lt (pd_v 2 rfl) (pd_len T.len (pd_v 0 rfl) (.str hzl))) (fun h => ?_) (fun h => ?_))
      · have h1 := of_decide_eq_true h
        rw [hzi] at h1
        have : s1 ≠ [] := fun e => by
          have := congrArg List.length e1
          rw [e, List.length_drop, List.length_nil] at this
          omega
        dsimp only at q
        rw [if_neg this] at q
        exact dss_one (ds_rz R rfl tk (hr.mono (by omega)) (PD.to (pd_v 2 rfl) ⟨p1, rfl, by omega, n, Sub.refl, q⟩))
      refine dss_nil ?_
      have h1 := of_decide_eq_false h
      rw [hzi] at h1
      have : s1 = [] := by
        rw [e1]
        exact List.drop_eq_nil_of_le (by omega)
      dsimp only at q
      rw [if_pos this] at q
      exact dss_one (ds_ret (PD.to (pd_v 1 rfl) q))
def F_wn (k : Nat) (ds : List D) (o : D) : Prop := ∃ d, ds = [d] ∧ Nv k d ∧ (wr d).length ≤ 100000 ∧ o = .str (wrS d)
abbrev sp_wn (k : Nat) : DSp := spF (F_wn k)
abbrev s_write_nested : Stmt := topS 7
theorem sc_write_nested : FnScope ["value", "inner", "item"] ["value"] (defScope s_write_nested) := ⟨rfl, rfl, rfl, by decide +kernel, rfl, by decide +kernel, by decide +kernel⟩
theorem log_small {i : Int} (h0 : 0 ≤ i) (h1 : i < 10 ^ 9) : i.natAbs.log2 < 1920 := by
  rcases Nat.eq_zero_or_pos i.natAbs with e | e
  · rw [e]; decide
  · exact Nat.lt_of_lt_of_le (Nat.log2_lt (by omega) |>.mpr (Nat.lt_of_lt_of_le (show i.natAbs < 10 ^ 9 by omega) (by decide : 10 ^ 9 ≤ 2 ^ 30))) (by decide)
theorem ok_wn1 {f : Addr} {fd : FuncData} (F : Fun K "write_nested" "write_nested" s_write_nested f fd) (T : Top7c mg) (k : Nat) (C_rec : ∀ k', k = k' + 1 → DCal P w K mg base (k' + 1) "write_nested" (sp_wn k')) :
    FnOk P w K mg base CX0 (k + 1) f fd ["value"] (spOf K (sp_wn k)) := by
  refine def_ok F sc_write_nested (fun ds n Q h => ?_) (fun cdv A outer s H E ds n Q hr h => ?_)
  · obtain ⟨_, ⟨d, rfl, _⟩, _⟩ := h; rfl
  · obtain ⟨_, ⟨d, rfl, hv, hl, rfl⟩, q⟩ := h
    show DSs _ _ _ [some d, none, none] n _
    cases d with
    | int i =>
      refine dss_cons (ds_ifP (pt_val (pd_isi (T := "int") T.isinstance T.int (by decide +kernel) (pd_v 0 rfl) (show ("int" : String) ≠ "" by decide) (w := true) (show kitB "int" "int" = some true by decide +kernel))) (fun h => ?_) (fun h => by cases h))
      refine dss_one (ds_ret (PD.to (pd_strI T.str (pd_v 0 rfl) (log_small hv.1 hv.2)) ?_))
      show Q (.str (Str.ofString (toString i))) n
      rw [num_wr hv.1]
      exact q
    | tup l =>
      obtain ⟨k', rfl, hv⟩ := hv
      have C_rec := C_rec k' rfl
      have hl2 : (l.map fun d => (wr d).length).sum + l.length ≤ 100000 := by
        have h1 := wrs_len l
        have : (40 :: wrs l).length ≤ 100000 := hl
        rw [List.length_cons] at this
        omega
      refine dss_cons (ds_ifP (pt_val (pd_isi (T := "int") T.isinstance T.int (by decide +kernel) (pd_v 0 rfl) (show ("tuple" : String) ≠ "" by decide) (w := false) (show kitB "tuple" "int" = some false by decide +kernel))) (fun h => by cases h) (fun h => ?_))
      refine dss_nil ?_
      refine dss_cons (ds_set 1 sc_write_nested.nd (PD.to (pd_join (zs := l.map wrS) pd_str (pd_lc (own := [("item", 2)]) (fun d => .str (wrS d)) (fun _ => true) rfl sc_write_nested.nd (blkOk_by (by show blkC ["value", "inner", "item"] (defScope s_write_nested) _ _ = true; decide +kernel)) (di_tup (PD.to (pd_v 0 rfl) ⟨l, rfl, rfl, rfl⟩)) (sz5 (by omega)) (fun i d m hd sb => ⟨_, _, ?_, fun st H0 C cl fp => dg_v 2 sc_write_nested.nd, fun st H0 C cl fp => rfl, fun _ st H0 C cl fp => pd_call C_rec hr (pa_c (pd_v 2 rfl) pa_n) ⟨d, rfl, ?_, ?_, rfl⟩⟩)) (.inl ?_) ?_) ?_))
      · intro j hj
        exact hj
      · exact Nvs_mem hv (List.mem_of_getElem? hd)
      · exact Nat.le_trans (wr_mem (List.mem_of_getElem? hd)) hl
      · rw [List.filter_eq_self.mpr (fun _ _ => rfl), List.map_map]
        rfl
      · rw [List.map_map, List.length_map]
        have e : ((fun s : Str => s.length) ∘ wrS) = fun d => (wr d).length := by
          funext d
          exact TL.len_tl _
        have e2 : (" " : Str).length = 1 := rfl
        show ((l.map ((fun s : Str => s.length) ∘ wrS)).sum) + l.length * (" " : Str).length ≤ 16777216
        rw [e, e2]
        omega
      have hj : (Txt.join " " (l.map wrS)).length ≤ 100000 := by
        rw [TL.len_tl, join_tl]
        have h1 := wrs_join l
        have h2 := congrArg List.length h1
        rw [List.length_append] at h2
        have h3 : (40 :: wrs l).length ≤ 100000 := hl
        rw [List.length_cons] at h3
        omega
      refine dss_one (ds_ret (PD.to (pd_fstr (.lit (by decide) (.fld (pd_v 1 rfl) (.inl ⟨rfl, sz5 hj⟩) ?_ (.lit ?_ .nil)))) ?_))
      · rw [Str.length_append]
        exact Nat.le_trans (Nat.add_le_add (show (Str.empty ++ ("(" : Str)).length ≤ 1 by decide) hj) (by decide)
      · rw [Str.length_append, Str.length_append]
        exact Nat.le_trans (Nat.add_le_add (Nat.add_le_add (show (Str.empty ++ ("(" : Str)).length ≤ 1 by decide) hj) (show (")" : Str).length ≤ 1 by decide)) (by decide)
      · have e : Str.empty ++ ("(" : Str) ++ Txt.join " " (l.map wrS) ++ (")" : Str) = wrS (.tup l) := by
          refine TL.ext_tl ?_
          rw [TL.tl_append, TL.tl_append, TL.tl_append, join_tl, wrS_tl]
          show [] ++ [40] ++ _ ++ [41] = 40 :: wrs l
          rw [wrs_join]
          rfl
        rw [e]
        exact q
    | _ => exact False.elim hv
theorem ok_wn {f : Addr} {fd : FuncData} (F : Fun K "write_nested" "write_nested" s_write_nested f fd) (T : Top7c mg) (hm : mg "write_nested" = some (.ref f)) (hk : PySem.W.keepIn K (.ref f) = true) (hb : Binds K fd ["value"] []) : ∀ k, DCal P w K mg base (k + 1) "write_nested" (sp_wn k)
  | 0 => ⟨⟨f, fd, _, ok_wn1 F T 0 (fun k' h => by omega), hm, hk, hb⟩⟩
  | k + 1 => ⟨⟨f, fd, _, ok_wn1 F T (k + 1) (fun k' e => by
      have : k' = k := by omega
      subst this
      exact ok_wn F T hm hk hb k'), hm, hk, hb⟩⟩
abbrev s_law_written : Stmt := topS 16
theorem sc_law_written : FnScope ["value", "part"] ["value"] (defScope s_law_written) := ⟨rfl, rfl, rfl, by decide +kernel, rfl, by decide +kernel, by decide +kernel⟩
theorem ok_lw1 {f : Addr} {fd : FuncData} (F : Fun K "_law_written" "_law_written" s_law_written f fd) (T : Top7c mg) (k : Nat) (C_rec : ∀ k', k = k' + 1 → DCal P w K mg base (k' + 1) "_law_written" (sp_wn k')) :
    FnOk P w K mg base CX0 (k + 1) f fd ["value"] (spOf K (sp_wn k)) := by
  refine def_ok F sc_law_written (fun ds n Q h => ?_) (fun cdv A outer s H E ds n Q hr h => ?_)
  · obtain ⟨_, ⟨d, rfl, _⟩, _⟩ := h; rfl
  · obtain ⟨_, ⟨d, rfl, hv, hl, rfl⟩, q⟩ := h
    show DSs _ _ _ [some d, none] n _
    cases d with
    | int i =>
      refine dss_cons (ds_ifP (pt_val (pd_isi (T := "int") T.isinstance T.int (by decide +kernel) (pd_v 0 rfl) (show ("int" : String) ≠ "" by decide) (w := true) (show kitB "int" "int" = some true by decide +kernel))) (fun h => ?_) (fun h => by cases h))
      refine dss_one (ds_ret (PD.to (pd_strI T.str (pd_v 0 rfl) (log_small hv.1 hv.2)) ?_))
      show Q (.str (Str.ofString (toString i))) n
      rw [num_wr hv.1]
      exact q
    | tup l =>
      obtain ⟨k', rfl, hv⟩ := hv
      have C_rec := C_rec k' rfl
      have hl2 : (l.map fun d => (wr d).length).sum + l.length ≤ 100000 := by
        have h1 := wrs_len l
        have : (40 :: wrs l).length ≤ 100000 := hl
        rw [List.length_cons] at this
        omega
      refine dss_cons (ds_ifP (pt_val (pd_isi (T := "int") T.isinstance T.int (by decide +kernel) (pd_v 0 rfl) (show ("tuple" : String) ≠ "" by decide) (w := false) (show kitB "tuple" "int" = some false by decide +kernel))) (fun h => by cases h) (fun h => ?_))
      refine dss_nil ?_
      have hj : (Txt.join " " (l.map wrS)).length ≤ 100000 := by
        rw [TL.len_tl, join_tl]
        have h1 := wrs_join l
        have h2 := congrArg List.length h1
        rw [List.length_append] at h2
        have h3 : (40 :: wrs l).length ≤ 100000 := hl
        rw [List.length_cons] at h3
        omega
      refine dss_one (ds_ret (PD.to (pd_addS (pd_addS pd_str (pd_join (zs := l.map wrS) pd_str (pd_lc (own := [("part", 1)]) (fun d => .str (wrS d)) (fun _ => true) rfl sc_law_written.nd (blkOk_by (by show blkC ["value", "part"] (defScope s_law_written) _ _ = true; decide +kernel)) (di_tup (PD.to (pd_v 0 rfl) ⟨l, rfl, rfl, rfl⟩)) (sz5 (by omega)) (fun i d m hd sb => ⟨_, _, ?_, fun st H0 C cl fp => dg_v 1 sc_law_written.nd, fun st H0 C cl fp => rfl, fun _ st H0 C cl fp => pd_call C_rec hr (pa_c (pd_v 1 rfl) pa_n) ⟨d, rfl, ?_, ?_, rfl⟩⟩)) (.inl ?_) ?_) ?_) pd_str ?_) ?_))
      · intro j hj
        exact hj
      · exact Nvs_mem hv (List.mem_of_getElem? hd)
      · exact Nat.le_trans (wr_mem (List.mem_of_getElem? hd)) hl
      · rw [List.filter_eq_self.mpr (fun _ _ => rfl), List.map_map]
        rfl
      · rw [List.map_map, List.length_map]
        have e : ((fun s : Str => s.length) ∘ wrS) = fun d => (wr d).length := by
          funext d
          exact TL.len_tl _
        have e2 : (" " : Str).length = 1 := rfl
        show ((l.map ((fun s : Str => s.length) ∘ wrS)).sum) + l.length * (" " : Str).length ≤ 16777216
        rw [e, e2]
        omega
      · exact Nat.le_trans (Nat.add_le_add (show ("(" : Str).length ≤ 1 by decide) hj) (by decide)
      · rw [Str.length_append]
        exact Nat.le_trans (Nat.add_le_add (Nat.add_le_add (show ("(" : Str).length ≤ 1 by decide) hj) (show (")" : Str).length ≤ 1 by decide)) (by decide)
      · have e : ("(" : Str) ++ Txt.join " " (l.map wrS) ++ (")" : Str) = wrS (.tup l) := by
          refine TL.ext_tl ?_
          rw [TL.tl_append, TL.tl_append, join_tl, wrS_tl]
          show [40] ++ _ ++ [41] = 40 :: wrs l
          rw [wrs_join]
          rfl
        rw [e]
        exact q
    | _ => exact False.elim hv
theorem ok_lw {f : Addr} {fd : FuncData} (F : Fun K "_law_written" "_law_written" s_law_written f fd) (T : Top7c mg) (hm : mg "_law_written" = some (.ref f)) (hk : PySem.W.keepIn K (.ref f) = true) (hb : Binds K fd ["value"] []) : ∀ k, DCal P w K mg base (k + 1) "_law_written" (sp_wn k)
  | 0 => ⟨⟨f, fd, _, ok_lw1 F T 0 (fun k' h => by omega), hm, hk, hb⟩⟩
  | k + 1 => ⟨⟨f, fd, _, ok_lw1 F T (k + 1) (fun k' e => by
      have : k' = k := by omega
      subst this
      exact ok_lw F T hm hk hb k'), hm, hk, hb⟩⟩
end
end K7
set_option Elab.async false
set_option linter.all false
set_option maxRecDepth 100000
set_option maxHeartbeats 4000000
namespace M7
open PySem G3
def Sm : Nat → D → Prop
  | _, .non => True
  | _, .bl _ => True
  | _, .int _ => True
  | _, .str _ => True
  | k + 1, .tup l => l.length ≤ 100000 ∧ ∀ d ∈ l, Sm k d
  | k + 1, .lst l => l.length ≤ 100000 ∧ ∀ d ∈ l, Sm k d
  | _, _ => False
mutual
def lev : D → Nat
  | .tup l => levs l + 1
  | _ => 0
def levs : List D → Nat
  | [] => 0
  | d :: ds => max (lev d) (levs ds)
end
theorem levs_app (d : D) : ∀ l : List D, levs (l ++ [d]) = max (levs l) (lev d)
  | [] => by
    show max (lev d) 0 = max 0 (lev d)
    omega
  | x :: l => by
    show max (lev x) (levs (l ++ [d])) = max (max (lev x) (levs l)) (lev d)
    rw [levs_app d l]
    omega
mutual
theorem lev_Nv : ∀ (d : D) {k : Nat}, Nv k d → Nv (lev d) d
  | .int i, _, h => h
  | .tup l, k, h => by
    obtain ⟨k', rfl, h⟩ := h
    exact ⟨levs l, rfl, levs_Nv l h⟩
  | .non, _, h => False.elim h
  | .bl _, _, h => False.elim h
  | .str _, _, h => False.elim h
  | .ref _, _, h => False.elim h
  | .lst _, _, h => False.elim h
  | .rol _, _, h => False.elim h
  | .dct _ _, _, h => False.elim h
  | .obj _ _ _, _, h => False.elim h
theorem levs_Nv : ∀ (l : List D) {k : Nat}, Nvs k l → Nvs (levs l) l
  | [], _, _ => trivial
  | d :: ds, _, h => ⟨Nv_mono d (lev_Nv d h.1) (Nat.le_max_left _ _), Nvs_mono ds (levs_Nv ds h.2) (Nat.le_max_right _ _)⟩
end
theorem Sm_Nv : ∀ (k : Nat) (d : D), Nv k d → (wr d).length ≤ 100000 → Sm k d
  | k, .int i, _, _ => by cases k <;> trivial
  | k, .tup l, h, hl => by
    obtain ⟨k', rfl, h⟩ := h
    have h1 := wrs_len l
    have h2 : (40 :: wrs l).length ≤ 100000 := hl
    rw [List.length_cons] at h2
    exact ⟨by omega, fun d hd => Sm_Nv k' d (Nvs_mem h hd) (Nat.le_trans (wr_mem hd) hl)⟩
  | _, .non, h, _ => False.elim h
  | _, .bl _, h, _ => False.elim h
  | _, .str _, h, _ => False.elim h
  | _, .ref _, h, _ => False.elim h
  | _, .lst _, h, _ => False.elim h
  | _, .rol _, h, _ => False.elim h
  | _, .dct _ _, h, _ => False.elim h
  | _, .obj _ _ _, h, _ => False.elim h
end M7
namespace G3
open PySem PySem.Spec PyProof.Rows L2
theorem atI_ex {l : List D} {i : Int} (h0 : 0 ≤ i) (h1 : i < (l.length : Int)) : ∃ d, atI l i = some d ∧ d ∈ l := by
  have hl : i.toNat < l.length := by omega
  exact ⟨l[i.toNat], atI_of h0 (List.getElem?_eq_getElem hl), List.getElem_mem hl⟩
def At (Ok : DO → Prop) (n : DH) (st : Addr) (m : DH) : Prop := ∃ o, Ok o ∧ m = dupd n st o
structure Keeps (Ok : DO → Prop) (st : Addr) (J : DH → Prop) : Prop where
  hat : ∀ {m}, J m → ∃ o, m st = some o ∧ Ok o
  up : ∀ {m o}, J m → Ok o → J (dupd m st o)
theorem At.start {Ok : DO → Prop} {n : DH} {st : Addr} {o : DO} (h : n st = some o) (hO : Ok o) : At Ok n st n := ⟨o, hO, by
  funext z
  unfold dupd
  by_cases e : z = st
  · rw [if_pos e, e, h]
  · rw [if_neg e]⟩
theorem At.keeps {Ok : DO → Prop} {n : DH} {st : Addr} : Keeps Ok st (At Ok n st) := ⟨fun ⟨o, h, e⟩ => ⟨o, by rw [e, dupd_same], h⟩, fun ⟨o, h, e⟩ hO => ⟨_, hO, by rw [e, dupd_dupd]⟩⟩
theorem At.trans {Ok : DO → Prop} {n m k : DH} {st : Addr} (a : At Ok n st m) (b : At Ok m st k) : At Ok n st k := by
  obtain ⟨o, h, rfl⟩ := a
  obtain ⟨u, g, rfl⟩ := b
  exact ⟨u, g, dupd_dupd⟩
end G3
namespace K7
open PySem PySem.Spec PyProof.Rows L2 NdefX G3 M7
section
variable {X : Cx} {Z : Hp × DH} {r : Rho} {n m : DH} {a b : Expr} {p pos : Pos} {Q : D → DH → Prop}
theorem de_draw {st : Addr} {J : DH → Prop} {lim : Int} (C : DCal X.prog X.w X.K X.mg X.base 2 "_law_draw" sp_draw) (hr : Room 2 X.A) (Kp : Keeps StOk st J) (hJ : J m) (ha : PDA X Z [a, b] r m [.ref st, .int lim]) (k : ∀ v m', 0 ≤ v → v < lim → J m' → Q (.int v) m')
    (l1 : 0 < lim := by decide) (l2 : lim ≤ 10 ^ 9 := by decide) (hg : Gl X "_law_draw" := by rfl) (he : starEach (a :: [b]) X.env = (false, eval a X.env) :: starEach [b] X.env := by rfl) (hpl : (backTo pos (starEach [b] X.env)).any (·.1) = false := by rfl) :
    DE X Z (.Call (.Name "_law_draw" p) [a, b] [] pos) r m Q := by
  obtain ⟨o, h1, h2⟩ := Kp.hat hJ
  exact de_call C hr (ha.to ⟨st, lim, o, rfl, h1, h2, l1, l2, fun v o' a b c => k v _ a b (Kp.up hJ c)⟩) hg (by decide) he hpl
end
section
variable {P : Program} {w : World} {K : PySem.W.Frag} {mg : Str → Option Value} {base : Heap}
def F_same (k : Nat) (ds : List D) (o : D) : Prop := ∃ d, ds = [d, d] ∧ Sm k d ∧ o = .bl true
abbrev s_law_same : Stmt := topS 15
theorem sc_law_same : FnScope ["actual", "due", "k"] ["actual", "due"] (defScope s_law_same) := ⟨rfl, rfl, rfl, by decide +kernel, rfl, by decide +kernel, by decide +kernel⟩
abbrev isD (c T : String) (h : c ≠ "" := by decide) : c ≠ "" := h
theorem ok_same1 {f : Addr} {fd : FuncData} (F : Fun K "_law_same" "_law_same" s_law_same f fd) (T : Top7 mg) (k : Nat) (C_rec : ∀ k', k = k' + 1 → DCal P w K mg base (k' + 1) "_law_same" (spF (F_same k'))) :
    FnOk P w K mg base CX0 (k + 1) f fd ["actual", "due"] (spOf K (spF (F_same k))) := by
  refine def_ok F sc_law_same (fun ds n Q h => ?_) (fun cdv A outer s H E ds n Q hr h => ?_)
  · obtain ⟨_, ⟨d, rfl, _⟩, _⟩ := h; rfl
  · obtain ⟨_, ⟨d, rfl, hd, rfl⟩, q⟩ := h
    show DSs _ _ _ [some d, some d, none] n _
    cases d with
    | tup l =>
      obtain ⟨k', rfl⟩ : ∃ k', k = k' + 1 := by
        cases k with
        | zero => exact False.elim hd
        | succ k' => exact ⟨k', rfl⟩
      have C_rec := C_rec k' rfl
      obtain ⟨hl, hm⟩ := hd
      refine dss_cons (ds_ifP (DW.dt (pw_o (u := true) (pt_val (pd_isi (T := "tuple") (w := true) T.isinstance T.tuple (by decide +kernel) (pd_v 1 rfl) (isD "tuple" "") (show kitB "tuple" "tuple" = some true by decide +kernel))) fun h => by cases h)) (fun h => ?_) (fun h => by cases h))
      refine dss_cons (ds_ifP (DW.dt (pw_o (pt_ne (pd_isi (T := "tuple") (w := true) T.isinstance T.tuple (by decide +kernel) (pd_v 1 rfl) (isD "tuple" "") (show kitB "tuple" "tuple" = some true by decide +kernel)) (pd_isi (T := "tuple") (w := true) T.isinstance T.tuple (by decide +kernel) (pd_v 0 rfl) (isD "tuple" "") (show kitB "tuple" "tuple" = some true by decide +kernel))) fun _ => (pw_o1 (pt_ne (pd_isi (T := "list") (w := false) T.isinstance T.list (by decide +kernel) (pd_v 1 rfl) (isD "tuple" "") (show kitB "tuple" "list" = some false by decide +kernel)) (pd_isi (T := "list") (w := false) T.isinstance T.list (by decide +kernel) (pd_v 0 rfl) (isD "tuple" "") (show kitB "tuple" "list" = some false by decide +kernel)))))) (fun h => absurd h (by decide)) (fun h => dss_nil ?_))
      refine dss_cons (ds_ifP (pt_ne (pd_len T.len (pd_v 0 rfl) (.sq rfl)) (pd_len T.len (pd_v 1 rfl) (.sq rfl))) (fun h => by simp at h) (fun h => dss_nil ?_))
      refine dss_cons (ds_for (fun i r m => m = n ∧ ∃ x, r = [some (.tup l), some (.tup l), x]) PassesOwn.never rfl (di_range1 T.range (PD.to (pd_len T.len (pd_v 1 rfl) (.sq rfl)) ⟨_, rfl, by omega, by omega, rfl, rfl, _, rfl⟩)) (fun i d r m hd hI => ⟨_, _, dg_v 2 sc_law_same.nd, ?_⟩) (fun r m hI => ?_))
      · obtain ⟨rfl, x, rfl⟩ := hI
        obtain ⟨hi, rfl⟩ := dints_get hd
        rw [Int.toNat_natCast] at hi
        have hat : atI l (0 + (i : Int)) = some l[i] := by
          rw [Int.zero_add]
          exact atI_of (Int.natCast_nonneg i) (by rw [Int.toNat_natCast]; exact List.getElem?_eq_getElem hi)
        refine dss_one (ds_ifP (pt_not (pt_val (pd_call C_rec hr (pa_c (pd_ix (pd_v 0 rfl) (pd_v 2 rfl) rfl hat) (pa_c (pd_ix (pd_v 1 rfl) (pd_v 2 rfl) rfl hat) pa_n)) ⟨l[i], rfl, hm _ (List.getElem_mem hi), rfl⟩))) (fun h => by cases h) (fun _ => dss_nil ⟨rfl, _, rfl⟩))
      · obtain ⟨rfl, x, rfl⟩ := hI
        exact dss_one (ds_ret (PD.to pd_bl q))
    | lst l =>
      obtain ⟨k', rfl⟩ : ∃ k', k = k' + 1 := by
        cases k with
        | zero => exact False.elim hd
        | succ k' => exact ⟨k', rfl⟩
      have C_rec := C_rec k' rfl
      obtain ⟨hl, hm⟩ := hd
      refine dss_cons (ds_ifP (DW.dt (pw_o (pt_val (pd_isi (T := "tuple") (w := false) T.isinstance T.tuple (by decide +kernel) (pd_v 1 rfl) (isD "list" "") (show kitB "list" "tuple" = some false by decide +kernel))) fun h => pw_o1 (pt_val (pd_isi (T := "list") (w := true) T.isinstance T.list (by decide +kernel) (pd_v 1 rfl) (isD "list" "") (show kitB "list" "list" = some true by decide +kernel))))) (fun h => ?_) (fun h => by cases h))
      refine dss_cons (ds_ifP (DW.dt (pw_o (pt_ne (pd_isi (T := "tuple") (w := false) T.isinstance T.tuple (by decide +kernel) (pd_v 1 rfl) (isD "list" "") (show kitB "list" "tuple" = some false by decide +kernel)) (pd_isi (T := "tuple") (w := false) T.isinstance T.tuple (by decide +kernel) (pd_v 0 rfl) (isD "list" "") (show kitB "list" "tuple" = some false by decide +kernel))) fun _ => (pw_o1 (pt_ne (pd_isi (T := "list") (w := true) T.isinstance T.list (by decide +kernel) (pd_v 1 rfl) (isD "list" "") (show kitB "list" "list" = some true by decide +kernel)) (pd_isi (T := "list") (w := true) T.isinstance T.list (by decide +kernel) (pd_v 0 rfl) (isD "list" "") (show kitB "list" "list" = some true by decide +kernel)))))) (fun h => absurd h (by decide)) (fun h => dss_nil ?_))
      refine dss_cons (ds_ifP (pt_ne (pd_len T.len (pd_v 0 rfl) (.sq rfl)) (pd_len T.len (pd_v 1 rfl) (.sq rfl))) (fun h => by simp at h) (fun h => dss_nil ?_))
      refine dss_cons (ds_for (fun i r m => m = n ∧ ∃ x, r = [some (.lst l), some (.lst l), x]) PassesOwn.never rfl (di_range1 T.range (PD.to (pd_len T.len (pd_v 1 rfl) (.sq rfl)) ⟨_, rfl, by omega, by omega, rfl, rfl, _, rfl⟩)) (fun i d r m hd hI => ⟨_, _, dg_v 2 sc_law_same.nd, ?_⟩) (fun r m hI => ?_))
      · obtain ⟨rfl, x, rfl⟩ := hI
        obtain ⟨hi, rfl⟩ := dints_get hd
        rw [Int.toNat_natCast] at hi
        have hat : atI l (0 + (i : Int)) = some l[i] := by
          rw [Int.zero_add]
          exact atI_of (Int.natCast_nonneg i) (by rw [Int.toNat_natCast]; exact List.getElem?_eq_getElem hi)
        refine dss_one (ds_ifP (pt_not (pt_val (pd_call C_rec hr (pa_c (pd_ix (pd_v 0 rfl) (pd_v 2 rfl) rfl hat) (pa_c (pd_ix (pd_v 1 rfl) (pd_v 2 rfl) rfl hat) pa_n)) ⟨l[i], rfl, hm _ (List.getElem_mem hi), rfl⟩))) (fun h => by cases h) (fun _ => dss_nil ⟨rfl, _, rfl⟩))
      · obtain ⟨rfl, x, rfl⟩ := hI
        exact dss_one (ds_ret (PD.to pd_bl q))
    | non =>
      refine dss_cons (ds_ifP (DW.dt (pw_o (pt_val (pd_isi (T := "tuple") (w := false) T.isinstance T.tuple (by decide +kernel) (pd_v 1 rfl) (isD "NoneType" "") (show kitB "NoneType" "tuple" = some false by decide +kernel))) fun h => pw_o1 (pt_val (pd_isi (T := "list") (w := false) T.isinstance T.list (by decide +kernel) (pd_v 1 rfl) (isD "NoneType" "") (show kitB "NoneType" "list" = some false by decide +kernel))))) (fun h => by cases h) (fun h => dss_nil ?_))
      refine dss_cons (ds_ifP (pt_isN (pd_v 1 rfl)) (fun h => ?_) (fun h => by cases h))
      exact dss_one (ds_ret (PD.to (pd_isN (pd_v 0 rfl)) q))
    | bl b =>
      refine dss_cons (ds_ifP (DW.dt (pw_o (pt_val (pd_isi (T := "tuple") (w := false) T.isinstance T.tuple (by decide +kernel) (pd_v 1 rfl) (isD "bool" "") (show kitB "bool" "tuple" = some false by decide +kernel))) fun h => pw_o1 (pt_val (pd_isi (T := "list") (w := false) T.isinstance T.list (by decide +kernel) (pd_v 1 rfl) (isD "bool" "") (show kitB "bool" "list" = some false by decide +kernel))))) (fun h => by cases h) (fun h => dss_nil ?_))
      refine dss_cons (ds_ifP (pt_isN (pd_v 1 rfl)) (fun h => by cases h) (fun h => dss_nil ?_))
      refine dss_cons (ds_ifP (pt_val (pd_isi (T := "bool") (w := true) T.isinstance T.bool (by decide +kernel) (pd_v 1 rfl) (isD "bool" "") (show kitB "bool" "bool" = some true by decide +kernel))) (fun h => ?_) (fun h => by cases h))
      refine dss_one (ds_ret (PD.to (pd_and (pd_isi (T := "bool") (w := true) T.isinstance T.bool (by decide +kernel) (pd_v 0 rfl) (isD "bool" "") (show kitB "bool" "bool" = some true by decide +kernel)) fun _ => (pd_and1 (pd_eq (pd_v 0 rfl) (pd_v 1 rfl)))) ?_))
      rw [decide_eq_true rfl]
      exact q
    | int i =>
      refine dss_cons (ds_ifP (DW.dt (pw_o (pt_val (pd_isi (T := "tuple") (w := false) T.isinstance T.tuple (by decide +kernel) (pd_v 1 rfl) (isD "int" "") (show kitB "int" "tuple" = some false by decide +kernel))) fun h => pw_o1 (pt_val (pd_isi (T := "list") (w := false) T.isinstance T.list (by decide +kernel) (pd_v 1 rfl) (isD "int" "") (show kitB "int" "list" = some false by decide +kernel))))) (fun h => by cases h) (fun h => dss_nil ?_))
      refine dss_cons (ds_ifP (pt_isN (pd_v 1 rfl)) (fun h => by cases h) (fun h => dss_nil ?_))
      refine dss_cons (ds_ifP (pt_val (pd_isi (T := "bool") (w := false) T.isinstance T.bool (by decide +kernel) (pd_v 1 rfl) (isD "int" "") (show kitB "int" "bool" = some false by decide +kernel))) (fun h => by cases h) (fun h => dss_nil ?_))
      refine dss_cons (ds_ifP (pt_val (pd_isi (T := "int") (w := true) T.isinstance T.int (by decide +kernel) (pd_v 1 rfl) (isD "int" "") (show kitB "int" "int" = some true by decide +kernel))) (fun h => ?_) (fun h => by cases h))
      refine dss_one (ds_ret (PD.to (pd_and (pd_isi (T := "int") (w := true) T.isinstance T.int (by decide +kernel) (pd_v 0 rfl) (isD "int" "") (show kitB "int" "int" = some true by decide +kernel)) fun _ => (pd_and (pd_not (pd_isi (T := "bool") (w := false) T.isinstance T.bool (by decide +kernel) (pd_v 0 rfl) (isD "int" "") (show kitB "int" "bool" = some false by decide +kernel))) fun _ => (pd_and1 (pd_eq (pd_v 0 rfl) (pd_v 1 rfl))))) ?_))
      rw [decide_eq_true rfl]
      exact q
    | str z =>
      refine dss_cons (ds_ifP (DW.dt (pw_o (pt_val (pd_isi (T := "tuple") (w := false) T.isinstance T.tuple (by decide +kernel) (pd_v 1 rfl) (isD "str" "") (show kitB "str" "tuple" = some false by decide +kernel))) fun h => pw_o1 (pt_val (pd_isi (T := "list") (w := false) T.isinstance T.list (by decide +kernel) (pd_v 1 rfl) (isD "str" "") (show kitB "str" "list" = some false by decide +kernel))))) (fun h => by cases h) (fun h => dss_nil ?_))
      refine dss_cons (ds_ifP (pt_isN (pd_v 1 rfl)) (fun h => by cases h) (fun h => dss_nil ?_))
      refine dss_cons (ds_ifP (pt_val (pd_isi (T := "bool") (w := false) T.isinstance T.bool (by decide +kernel) (pd_v 1 rfl) (isD "str" "") (show kitB "str" "bool" = some false by decide +kernel))) (fun h => by cases h) (fun h => dss_nil ?_))
      refine dss_cons (ds_ifP (pt_val (pd_isi (T := "int") (w := false) T.isinstance T.int (by decide +kernel) (pd_v 1 rfl) (isD "str" "") (show kitB "str" "int" = some false by decide +kernel))) (fun h => by cases h) (fun h => dss_nil ?_))
      refine dss_one (ds_ret (PD.to (pd_and (pd_isi (T := "str") (w := true) T.isinstance T.str (by decide +kernel) (pd_v 0 rfl) (isD "str" "") (show kitB "str" "str" = some true by decide +kernel)) fun _ => (pd_and1 (pd_eq (pd_v 0 rfl) (pd_v 1 rfl)))) ?_))
      rw [decide_eq_true rfl]
      exact q
    | _ => cases k <;> exact False.elim hd
theorem ok_same {f : Addr} {fd : FuncData} (F : Fun K "_law_same" "_law_same" s_law_same f fd) (T : Top7 mg) (hm : mg "_law_same" = some (.ref f)) (hk : PySem.W.keepIn K (.ref f) = true) (hb : Binds K fd ["actual", "due"] []) : ∀ k, DCal P w K mg base (k + 1) "_law_same" (spF (F_same k))
  | 0 => ⟨⟨f, fd, _, ok_same1 F T 0 (fun k' h => by omega), hm, hk, hb⟩⟩
  | k + 1 => ⟨⟨f, fd, _, ok_same1 F T (k + 1) (fun k' e => by
      have : k' = k := by omega
      subst this
      exact ok_same F T hm hk hb k'), hm, hk, hb⟩⟩
def F_lev (k : Nat) (ds : List D) (o : D) : Prop := ∃ d, ds = [d] ∧ Nv k d ∧ o = .int ((lev d : Nat) : Int)
abbrev s_law_levels : Stmt := topS 22
theorem sc_law_levels : FnScope ["value", "deep", "part"] ["value"] (defScope s_law_levels) := ⟨rfl, rfl, rfl, by decide +kernel, rfl, by decide +kernel, by decide +kernel⟩
theorem ok_lev1 {f : Addr} {fd : FuncData} (F : Fun K "_law_levels" "_law_levels" s_law_levels f fd) (T : Top7 mg) (k : Nat) (C_rec : ∀ k', k = k' + 1 → DCal P w K mg base (k' + 1) "_law_levels" (spF (F_lev k'))) :
    FnOk P w K mg base CX0 (k + 1) f fd ["value"] (spOf K (spF (F_lev k))) := by
  refine def_ok F sc_law_levels (fun ds n Q h => ?_) (fun cdv A outer s H E ds n Q hr h => ?_)
  · obtain ⟨_, ⟨d, rfl, _⟩, _⟩ := h; rfl
  · obtain ⟨_, ⟨d, rfl, hv, rfl⟩, q⟩ := h
    show DSs _ _ _ [some d, none, none] n _
    cases d with
    | int i =>
      refine dss_cons (ds_ifP (pt_val (pd_isi (T := "int") T.isinstance T.int (by decide +kernel) (pd_v 0 rfl) (isD "int" "") (w := true) (show kitB "int" "int" = some true by decide +kernel))) (fun h => ?_) (fun h => by cases h))
      exact dss_one (ds_ret (PD.to pd_int q))
    | tup l =>
      obtain ⟨k', rfl, hv⟩ := hv
      have C_rec := C_rec k' rfl
      refine dss_cons (ds_ifP (pt_val (pd_isi (T := "int") T.isinstance T.int (by decide +kernel) (pd_v 0 rfl) (isD "tuple" "") (w := false) (show kitB "tuple" "int" = some false by decide +kernel))) (fun h => by cases h) (fun h => dss_nil ?_))
      refine dss_cons (ds_set 1 sc_law_levels.nd (PD.to pd_int ?_))
      refine dss_cons (ds_for (fun i r m => m = n ∧ ∃ x, r = [some (.tup l), some (.int ((levs (l.take i) : Nat) : Int)), x]) PassesOwn.never rfl (di_tup (PD.to (pd_v 0 rfl) ⟨l, rfl, rfl, rfl, _, rfl⟩)) (fun i d r m hd hI => ⟨_, _, dg_v 2 sc_law_levels.nd, ?_⟩) (fun r m hI => ?_))
      · obtain ⟨rfl, x, rfl⟩ := hI
        refine dss_one (ds_set 1 sc_law_levels.nd (PD.to (pd_max2 T.max (pd_int1 T.int (pd_v 1 rfl)) (pd_int1 T.int (pd_call C_rec hr (pa_c (pd_v 2 rfl) pa_n) ⟨d, rfl, Nvs_mem hv (List.mem_of_getElem? hd), rfl⟩))) ⟨rfl, some d, ?_⟩))
        show [some (D.tup l), some (D.int _), some d] = [some (.tup l), some (.int _), some d]
        congr 3
        rw [List.take_add_one, hd]
        show D.int _ = D.int ((levs (l.take i ++ [d]) : Nat) : Int)
        rw [levs_app]
        congr 1
        split <;> omega
      · obtain ⟨rfl, x, rfl⟩ := hI
        refine dss_one (ds_ret (PD.to (pd_add (pd_v 1 rfl) pd_int) ?_))
        rw [List.take_length]
        exact q
    | _ => exact False.elim hv
theorem ok_lev {f : Addr} {fd : FuncData} (F : Fun K "_law_levels" "_law_levels" s_law_levels f fd) (T : Top7 mg) (hm : mg "_law_levels" = some (.ref f)) (hk : PySem.W.keepIn K (.ref f) = true) (hb : Binds K fd ["value"] []) : ∀ k, DCal P w K mg base (k + 1) "_law_levels" (spF (F_lev k))
  | 0 => ⟨⟨f, fd, _, ok_lev1 F T 0 (fun k' h => by omega), hm, hk, hb⟩⟩
  | k + 1 => ⟨⟨f, fd, _, ok_lev1 F T (k + 1) (fun k' e => by
      have : k' = k := by omega
      subst this
      exact ok_lev F T hm hk hb k'), hm, hk, hb⟩⟩
def sp_signs : DSp := fun ds n Q => ds = [] ∧ ∀ z : Str, 1 ≤ z.length → z.length ≤ 200 → Q (.str z) n
abbrev s_law_signs : Stmt := topS 19
theorem sc_law_signs : FnScope ["signs"] [] (defScope s_law_signs) := ⟨rfl, rfl, rfl, by decide +kernel, rfl, by decide +kernel, by decide +kernel⟩
theorem ok_signs {f : Addr} {fd : FuncData} (F : Fun K "_law_signs" "_law_signs" s_law_signs f fd) : FnOk P w K mg base CX0 1 f fd [] (spOf K sp_signs) := by
  refine def_ok F sc_law_signs (fun ds n Q h => ?_) (fun cdv A outer s H E ds n Q hr h => ?_)
  · obtain ⟨rfl, _⟩ := h; rfl
  · obtain ⟨rfl, q⟩ := h
    show DSs _ _ _ [none] n _
    refine dss_cons (ds_set 0 sc_law_signs.nd (PD.to pd_str ?_))
    refine dss_one (ds_ret (PD.to (pd_addS (pd_v 0 rfl) pd_str ?_) (q _ ?_ ?_)))
    · decide +kernel
    · decide +kernel
    · decide +kernel
def sp_start : DSp := fun ds n Q => ∃ is : List Int, ds = [.rol (is.map D.int)] ∧ is.length ≤ 63 ∧ ∀ st o, n st = none → StOk o → Q (.ref st) (dupd n st o)
abbrev s_law_start : Stmt := topS 14
theorem sc_law_start : FnScope ["script", "state", "cell"] ["script"] (defScope s_law_start) := ⟨rfl, rfl, rfl, by decide +kernel, rfl, by decide +kernel, by decide +kernel⟩
def cut31 : D → D
  | .int c => .int (c % 2147483647)
  | d => d
theorem ok_start {f : Addr} {fd : FuncData} (F : Fun K "_law_start" "_law_start" s_law_start f fd) (T : Top7 mg) (C_draw : DCal P w K mg base 2 "_law_draw" sp_draw) : FnOk P w K mg base CX0 3 f fd ["script"] (spOf K sp_start) := by
  refine def_ok F sc_law_start (fun ds n Q h => ?_) (fun cdv A outer s H E ds n Q hr h => ?_)
  · obtain ⟨is, rfl, _⟩ := h; rfl
  · obtain ⟨is, rfl, hl, q⟩ := h
    show DSs _ _ _ [some (.rol (is.map D.int)), none, none] n _
    refine dss_cons (ds_set 1 sc_law_start.nd (de_lstO (PDA.to (pa_c (pd_list T.list (pd_v 0 rfl) (.sq rfl)) (pa_c pd_int (pa_c pd_int (pa_c pd_int (pa_c pd_int (pa_c pd_int (pa_c (pd_lc (own := [("cell", 2)]) cut31 (fun _ => true) rfl sc_law_start.nd (blkOk_by (by show blkC ["script", "state", "cell"] (defScope s_law_start) _ _ = true; decide +kernel)) (di_lst (PD.to (pd_v 0 rfl) ⟨_, .inr rfl, rfl, rfl⟩)) (sz5 (by rw [List.length_map]; omega)) (fun i d m hd sb => ?_)) pa_n))))))) ⟨szk rfl, fun st hst => ?_⟩)))
    · have : ∃ c, d = .int c := by
        have := List.mem_of_getElem? hd
        obtain ⟨c, _, e⟩ := List.mem_map.mp this
        exact ⟨c, e.symm⟩
      obtain ⟨c, rfl⟩ := this
      exact ⟨_, _, fun j hj => hj, fun st H0 C cl fp => dg_v 2 sc_law_start.nd, fun st H0 C cl fp => rfl, fun _ st H0 C cl fp => pd_mod (pd_int1 T.int (pd_v 2 rfl)) pd_int (by decide)⟩
    have e1 : ((is.map D.int).filter fun _ => true).map cut31 = (is.map (· % 2147483647)).map D.int := by
      rw [List.filter_eq_self.mpr (fun _ _ => rfl), List.map_map, List.map_map]
      rfl
    rw [e1]
    show DSs _ _ _ [some (.rol (is.map D.int)), some (.ref st), none] (dupd n st (stO is (is.map (· % 2147483647)) 0 0 0 0 0)) _
    have hO : ∀ mi, StOk (stO is (is.map (· % 2147483647)) 0 0 0 mi 0) := fun mi => ⟨is, _, 0, 0, 0, mi, 0, rfl, by omega, by omega, by omega, by rw [List.length_map], hl⟩
    refine dss_cut (fun r m => r = [some (.rol (is.map D.int)), some (.ref st), none] ∧ At StOk n st m) (ds_ifP (DW.dt (pw_o (u := decide (is.headD 0 % 2 = 1)) (pt_eq (pd_len T.len (pd_v 0 rfl) (.sq rfl)) pd_int) fun h0 => (pw_o1 (pt_eq (pd_mod (pd_int1 T.int (pd_ix (i := 0) (y := .int (is.headD 0)) (pd_v 0 rfl) pd_int rfl ?_)) pd_int (by decide)) pd_int)))) (fun h => ?_) (fun h => ?_)) ?_
    · have h0 := of_decide_eq_false h0
      cases is with
      | nil => exact absurd rfl h0
      | cons c cs => exact atI_of (Int.le_refl 0) rfl
    ·
      refine dss_one (ds_put (PD.to pd_int (PD.to (pd_v 1 rfl) (PD.to pd_int ⟨_, _, _, 4, rfl, dupd_same, rfl, rfl, ?_⟩))))
      exact ⟨rfl, _, hO 1, by rw [dupd_dupd]; rfl⟩
    · exact dss_nil ⟨rfl, _, hO 0, rfl⟩
    rintro r m ⟨rfl, hA⟩
    refine dss_cons (ds_expr (de_draw C_draw hr At.keeps hA (pa_c (pd_v 1 rfl) (pa_c pd_int pa_n)) (fun v m' a b hA => ?_)))
    obtain ⟨o, ho, rfl⟩ := hA
    exact dss_one (ds_ret (PD.to (pd_v 1 rfl) (q st o hst ho)))
end
end K7
set_option Elab.async false
set_option linter.all false
set_option maxRecDepth 100000
set_option maxHeartbeats 4000000
namespace M7
open PySem G3
def Ln : Nat → Nat
  | 0 => 9
  | k + 1 => 2 + 4 * (Ln k + 1)
theorem Ln_ge : ∀ k, 9 ≤ Ln k
  | 0 => Nat.le_refl _
  | k + 1 => by
    have := Ln_ge k
    show 9 ≤ 2 + 4 * (Ln k + 1)
    omega
theorem sum_le {B : Nat} : ∀ {l : List D}, (∀ d ∈ l, (wr d).length ≤ B) → (l.map fun d => (wr d).length).sum ≤ l.length * B
  | [], _ => Nat.zero_le _
  | d :: l, h => by
    rw [List.map_cons, List.sum_cons, List.length_cons, Nat.succ_mul]
    have h1 := h d List.mem_cons_self
    have h2 := sum_le fun x hx => h x (List.mem_cons_of_mem _ hx)
    omega
theorem wr_tup_le {B : Nat} {l : List D} (h : ∀ d ∈ l, (wr d).length ≤ B) : (wr (.tup l)).length ≤ 2 + l.length * (B + 1) := by
  have h1 := sum_le h
  have h2 := wrs_len2 l
  show (40 :: wrs l).length ≤ _
  rw [List.length_cons, Nat.mul_succ]
  omega
theorem wr_int_le {i : Int} (h0 : 0 ≤ i) (h1 : i < 10 ^ 9) : (wr (.int i)).length ≤ 9 := TL.numL_len (by decide) (by omega)
end M7
namespace K7
open PySem PySem.Spec PyProof.Rows L2 NdefX G3 M7
def At2 (n : DH) (st lf : Addr) (m : DH) : Prop := ∃ o l, StOk o ∧ m = dupd (dupd n st o) lf (.lst [.int l])
theorem At2.lf {n : DH} {st lf : Addr} {m : DH} (h : At2 n st lf m) : ∃ l, m lf = some (.lst [.int l]) := by
  obtain ⟨o, l, _, rfl⟩ := h
  exact ⟨l, dupd_same⟩
theorem dupd_comm {n : DH} {a b : Addr} {x y : DO} (h : a ≠ b) : dupd (dupd n a x) b y = dupd (dupd n b y) a x := by
  funext z
  unfold dupd
  by_cases h1 : z = b
  · rw [if_pos h1, if_neg (fun e => h (e.symm.trans h1)), if_pos h1]
  · rw [if_neg h1]
    by_cases h2 : z = a
    · rw [if_pos h2, if_pos h2]
    · rw [if_neg h2, if_neg h2, if_neg h1]
theorem ddel_dupd_ne {n : DH} {a b : Addr} {x : DO} (h : a ≠ b) : ddel (dupd n a x) b = dupd (ddel n b) a x := by
  funext z
  unfold dupd ddel
  by_cases h1 : z = b
  · rw [if_pos h1, if_neg (fun e => h (e.symm.trans h1)), if_pos h1]
  · rw [if_neg h1, if_neg h1]
theorem At2.keeps {n : DH} {st lf : Addr} (h : st ≠ lf) : Keeps StOk st (At2 n st lf) := ⟨fun ⟨o, l, hO, e⟩ => ⟨o, by rw [e, dupd_ne h, dupd_same], hO⟩, fun ⟨o, l, hO, e⟩ hO2 => ⟨_, l, hO2, by rw [e, dupd_comm h.symm, dupd_dupd]⟩⟩
theorem dupd_self {n : DH} {a : Addr} {x : DO} (h : n a = some x) : dupd n a x = n := by
  funext z
  unfold dupd
  by_cases e : z = a
  · rw [if_pos e, e, h]
  · rw [if_neg e]
section
variable {P : Program} {w : World} {K : PySem.W.Frag} {mg : Str → Option Value} {base : Heap}
def sp_nest (K0 : Nat) : DSp := fun ds n Q => ∃ st lf k l o, ds = [.ref st, .int ((k : Nat) : Int), .ref lf] ∧ k ≤ K0 ∧ st ≠ lf ∧ n st = some o ∧ StOk o ∧ n lf = some (.lst [.int l]) ∧ ∀ d m, Nv k d → (wr d).length ≤ Ln k → At2 n st lf m → Q d m
abbrev s_law_nested : Stmt := topS 20
theorem sc_law_nested : FnScope ["state", "deep", "left", "k"] ["state", "deep", "left"] (defScope s_law_nested) := ⟨rfl, rfl, rfl, by decide +kernel, rfl, by decide +kernel, by decide +kernel⟩
theorem ok_nest1 {f : Addr} {fd : FuncData} (F : Fun K "_law_nested" "_law_nested" s_law_nested f fd) (T : Top7 mg) (C_draw : DCal P w K mg base 2 "_law_draw" sp_draw) (K0 : Nat) (C_rec : ∀ k', K0 = k' + 1 → DCal P w K mg base (k' + 3) "_law_nested" (sp_nest k')) :
    FnOk P w K mg base CX0 (K0 + 3) f fd ["state", "deep", "left"] (spOf K (sp_nest K0)) := by
  refine def_ok F sc_law_nested (fun ds n Q h => ?_) (fun cdv A outer s H E ds n Q hr h => ?_)
  · obtain ⟨st, lf, k, l, o, rfl, _⟩ := h; rfl
  · obtain ⟨st, lf, k, l, o, rfl, hk, hne, hst, hO, hlf, q⟩ := h
    show DSs _ _ _ [some (.ref st), some (.int k), some (.ref lf), none] n _
    have hr2 := hr.mono (show 2 ≤ K0 + 2 by omega)
    have kp := At2.keeps (n := n) hne
    refine dss_cons (ds_put (PD.to (pd_sub (pd_ixo (pd_v 2 rfl) pd_int hlf rfl) pd_int) (PD.to (pd_v 2 rfl) (PD.to pd_int ⟨_, _, _, 0, rfl, hlf, rfl, rfl, ?_⟩))))
    have A1 : At2 n st lf (dupd n lf (.lst ([D.int l].set 0 (.int (l - 1))))) := ⟨o, l - 1, hO, by rw [dupd_self hst]; rfl⟩
    generalize dupd n lf (.lst ([D.int l].set 0 (.int (l - 1)))) = m1 at A1 ⊢
    obtain ⟨l1, hl1⟩ := A1.lf
    refine dss_cons (ds_if (DT.imp (Q := fun t m => At2 n st lf m ∧ (t = false → ¬ ((k : Int) = 0))) (DW.dt (dw_or (PDT.to (pt_eq (pd_v 1 rfl) pd_int) ?_))) (fun t m h => ?_)))
    · cases h0 : decide ((k : Int) = 0) with
      | true =>
        rw [if_pos rfl]
        exact ⟨A1, fun z => by cases z⟩
      | false =>
        rw [if_neg Bool.false_ne_true]
        refine dw_or (PDT.to (pt_lt (pd_ixo (pd_v 2 rfl) pd_int hl1 rfl) pd_int) ?_)
        cases h1 : decide (l1 < 0) with
        | true =>
          rw [if_pos rfl]
          exact ⟨A1, fun z => by cases z⟩
        | false =>
          rw [if_neg Bool.false_ne_true]
          exact dw_or1 (dt_eq (de_draw C_draw hr2 kp A1 (pa_c (pd_v 0 rfl) (pa_c pd_int pa_n)) (fun v m' a b A => PD.to pd_int ⟨_, rfl, _, rfl, A, fun _ => of_decide_eq_false h0⟩)))
    obtain ⟨A2, hk0⟩ := h
    cases t with
    | true =>
      rw [if_pos rfl]
      refine dss_one (ds_ret (de_ix (de_lst (da_cons (PD.to pd_int (da_cons (PD.to pd_int (da_cons (PD.to pd_int (da_cons (de_draw C_draw hr2 kp A2 (pa_c (pd_v 0 rfl) (pa_c pd_int pa_n)) (fun v1 m1 a1 b1 A3 => da_cons (PD.to pd_int (da_one (de_draw C_draw hr2 kp A3 (pa_c (pd_v 0 rfl) (pa_c (pd_pow pd_int pd_int ⟨by decide, by decide, by decide⟩) pa_n)) (fun v2 m2 a2 b2 A4 => ⟨szk rfl, de_draw C_draw hr2 kp A4 (pa_c (pd_v 0 rfl) (pa_c pd_int pa_n)) (fun v3 m3 a3 b3 A5 => ?_)⟩))))))))))))))))
      obtain ⟨d, hd, hm⟩ := atI_ex (l := [.int 0, .int 1, .int 10, .int v1, .int 999999999, .int v2]) a3 b3
      refine ⟨_, _, d, rfl, rfl, hd, ?_⟩
      have b2 : v2 < 10 ^ 9 := b2
      have : ∃ i, d = .int i ∧ 0 ≤ i ∧ i < 10 ^ 9 := by
        simp only [List.mem_cons, List.not_mem_nil, or_false] at hm
        rcases hm with rfl | rfl | rfl | rfl | rfl | rfl <;> exact ⟨_, rfl, by omega, by omega⟩
      obtain ⟨i, rfl, i0, i1⟩ := this
      have hv : Nv k (.int i) := by cases k <;> exact ⟨i0, i1⟩
      exact q _ _ hv (Nat.le_trans (wr_int_le i0 i1) (Ln_ge k)) A5
    | false =>
      rw [if_neg Bool.false_ne_true]
      refine dss_nil ?_
      have hk0 := hk0 rfl
      obtain ⟨k', rfl⟩ : ∃ k', k = k' + 1 := ⟨k - 1, by omega⟩
      obtain ⟨K1, rfl⟩ : ∃ K1, K0 = K1 + 1 := ⟨K0 - 1, by omega⟩
      have C_rec := C_rec K1 rfl
      refine dss_one (ds_ret (de_tuple T.tuple (de_lcD (own := [("k", 3)]) rfl sc_law_nested.nd (blkOk_by (by show blkC ["state", "deep", "left", "k"] (defScope s_law_nested) _ _ = true; decide +kernel)) (di_range1 T.range (de_draw C_draw hr2 kp A2 (pa_c (pd_v 0 rfl) (pa_c pd_int pa_n)) (fun v m3 a b A3 => ⟨v, rfl, by omega, by omega, fun i acc m => At2 n st lf m ∧ ∀ d ∈ acc, Nv k' d ∧ (wr d).length ≤ Ln k', ⟨A3, fun d hd => by cases hd⟩, by rw [dints_len]; exact sz5 (by omega), ?_, ?_⟩))))))
      · intro i d acc m L hd al hI mL
        refine ⟨_, _, true, fun j hj => hj, fun st H0 C cl fp => dg_v 3 sc_law_nested.nd, fun st H0 C cl fp => rfl, (fun z => by cases z), fun _ st0 H0 C cl fp => ?_⟩
        obtain ⟨A4, hall⟩ := hI
        obtain ⟨o4, h4, hO4⟩ := kp.hat A4
        obtain ⟨l4, hl4⟩ := A4.lf
        have n1 : st ≠ L := fun e => by rw [e, mL] at h4; cases h4
        have n2 : lf ≠ L := fun e => by rw [e, mL] at hl4; cases hl4
        refine de_call C_rec hr (PDA.to (pa_c (pd_v 0 rfl) (pa_c (pd_sub (pd_v 1 rfl) pd_int) (pa_c (pd_v 2 rfl) pa_n))) ⟨st, lf, k', l4, o4, ?_, by omega, hne, by rw [dupd_ne n1]; exact h4, hO4, by rw [dupd_ne n2]; exact hl4, fun d m' hv hw A => ?_⟩)
        · congr 3
          omega
        obtain ⟨o5, l5, hO5, rfl⟩ := A
        refine ⟨by rw [dupd_ne n2.symm, dupd_ne n1.symm, dupd_same], ?_, ?_⟩
        · rw [ddel_dupd_ne n2, ddel_dupd_ne n1, ddel_dupd mL]
          obtain ⟨o6, l6, hO6, rfl⟩ := A4
          exact ⟨o5, l5, hO5, by rw [dupd_comm hne.symm, dupd_dupd, dupd_dupd, dupd_comm hne]⟩
        · intro x hx
          rcases List.mem_append.mp hx with hx | hx
          · exact hall x hx
          · rw [List.mem_singleton.mp hx]
            exact ⟨hv, hw⟩
      · intro acc m ⟨A4, hall⟩ hlen
        rw [dints_len] at hlen
        refine .inl ⟨acc, .sq rfl, q _ _ ⟨k', rfl, Nvs_of fun d hd => (hall d hd).1⟩ ?_ A4⟩
        have h1 := wr_tup_le (B := Ln k') fun d hd => (hall d hd).2
        have h2 : acc.length * (Ln k' + 1) ≤ 4 * (Ln k' + 1) := Nat.mul_le_mul_right _ (by omega)
        show _ ≤ 2 + 4 * (Ln k' + 1)
        omega
theorem ok_nest {f : Addr} {fd : FuncData} (F : Fun K "_law_nested" "_law_nested" s_law_nested f fd) (T : Top7 mg) (C_draw : DCal P w K mg base 2 "_law_draw" sp_draw) (hm : mg "_law_nested" = some (.ref f)) (hk : PySem.W.keepIn K (.ref f) = true) (hb : Binds K fd ["state", "deep", "left"] []) : ∀ k, DCal P w K mg base (k + 3) "_law_nested" (sp_nest k)
  | 0 => ⟨⟨f, fd, _, ok_nest1 F T C_draw 0 (fun k' h => by omega), hm, hk, hb⟩⟩
  | k + 1 => ⟨⟨f, fd, _, ok_nest1 F T C_draw (k + 1) (fun k' e => by
      have : k' = k := by omega
      subst this
      exact ok_nest F T C_draw hm hk hb k'), hm, hk, hb⟩⟩
end
end K7
set_option Elab.async false
set_option linter.all false
set_option maxRecDepth 100000
set_option maxHeartbeats 4000000
namespace K7
open PySem PySem.Spec PyProof.Rows L2 NdefX G3 M7
theorem iteD {p : Prop} [Decidable p] {A B : Prop} (h1 : p → A) (h2 : ¬ p → B) : if decide p = true then A else B := by
  by_cases h : p
  · rw [if_pos (decide_eq_true h)]; exact h1 h
  · rw [if_neg (by rw [decide_eq_false h]; exact Bool.false_ne_true)]; exact h2 h
section
variable {X : Cx} {Z : Hp × DH} {r : Rho} {n m : DH} {a b e : Expr} {es : List Expr} {p pos : Pos} {Q : D → DH → Prop}
theorem de_addS (h : DE X Z a r n fun x m => DE X Z b r m fun y k => ∃ z w, x = .str z ∧ y = .str w ∧ z.length + w.length ≤ sizeLine ∧ Q (.str (z ++ w)) k) : DE X Z (.BinOp a .Add b pos) r n Q :=
  de_op (F := fun x y k Q => ∃ z w, x = .str z ∧ y = .str w ∧ z.length + w.length ≤ sizeLine ∧ Q (.str (z ++ w)) k) op_add_str (fun Q x y k s H vx vy R ⟨z, w, ex, ey, hz, q⟩ S rx ry hR => by
    subst ex; subst ey
    exact ⟨z, w, rx, ry, hz, hR _ _ (PoV.mk S Rep.s q)⟩) h
theorem de_strI (hm : X.mg "str" = none) (h : DE X Z e r n fun x k => ∃ i : Int, x = .int i ∧ i.natAbs.log2 < 1920 ∧ Q (.str (Str.ofString (toString i))) k) (hg : Gl X "str" := by rfl) (hs : starEach (e :: []) X.env = (false, eval e X.env) :: starEach [] X.env := by rfl) (hpl : (backTo pos (starEach [] X.env)).any (·.1) = false := by rfl) : DE X Z (.Call (.Name "str" p) [e] [] pos) r n Q :=
  de_callTy (F := fun ds k Q => ∃ i : Int, ds = [.int i] ∧ i.natAbs.log2 < 1920 ∧ Q (.str (Str.ofString (toString i))) k) call_str_int (fun Q ds k s H vs R ⟨i, e, hi, q⟩ S rx hR => by
    subst e
    obtain ⟨v, vr, rfl, r1, r2⟩ := rx
    have r2 : vr = [] := r2
    subst r2
    exact ⟨i, by rw [show v = V.int i from r1], hi, hR _ _ (PoV.mk S Rep.s q)⟩) hm (by decide +kernel) (da_one (h.imp fun x k ⟨i, ex, hi, q⟩ => ⟨i, by rw [ex], hi, q⟩) hs) hg (by decide) (by decide) hs hpl
def DTx (X : Cx) (Z : Hp × DH) (r : Rho) (n : DH) (e : Expr) (B : Nat) : Prop := DE X Z e r n fun x m => m = n ∧ ∃ z, x = .str z ∧ z.length ≤ B
def TxL (l : List D) : Prop := ∀ d ∈ l, ∃ z, d = D.str z ∧ z.length ≤ 2500
def DTxs (X : Cx) (Z : Hp × DH) (r : Rho) (n : DH) (es : List Expr) (k : Nat) : Prop := DA X Z es r n fun ds m => m = n ∧ ds.length = k ∧ TxL ds
theorem tx_pd {z : Str} {B : Nat} (h : PD X Z e r n (.str z)) (hB : z.length ≤ B) : DTx X Z r n e B := h.to ⟨rfl, z, rfl, hB⟩
theorem tx_str {z : Str} {j} : DTx X Z r n (.Constant (.str z) j pos) z.length := tx_pd pd_str (Nat.le_refl _)
theorem tx_add {A B : Nat} (h : DTx X Z r n a A) (g : DTx X Z r n b B) (hz : A + B ≤ 100000 := by decide) : DTx X Z r n (.BinOp a .Add b pos) (A + B) :=
  de_addS (h.imp fun x m ⟨em, z, ex, hl⟩ => by
    subst em
    exact g.imp fun y k ⟨ek, w, ey, hm⟩ => ⟨z, w, ex, ey, sz5 (by omega), ek, _, rfl, by rw [Str.length_append]; omega⟩)
theorem tx_mul {z : Str} {i : Int} {B : Nat} (h : PD X Z a r n (.str z)) (g : PD X Z b r n (.int i)) (h1 : -1000 ≤ i) (h2 : i ≤ B) (hz : z.length = 1) (hB : B ≤ 1000 := by decide) : DTx X Z r n (.BinOp a .Mult b pos) B :=
  de_mulS (h.to (g.to ⟨z, i, rfl, rfl, h1, by omega, by omega, fun o ho => ⟨rfl, o, rfl, by rw [ho, hz]; omega⟩⟩))
theorem txs_nil : DTxs X Z r n [] 0 := da_nil ⟨rfl, rfl, fun d hd => by cases hd⟩
theorem txs_cons {B k : Nat} (h : DTx X Z r n e B) (g : DTxs X Z r n es k) (hB : B ≤ 2500 := by decide) (hs : starEach (e :: es) X.env = (false, eval e X.env) :: starEach es X.env := by rfl) : DTxs X Z r n (e :: es) (k + 1) :=
  da_cons (h.imp fun x m ⟨em, z, ex, hl⟩ => by
    subst em
    exact g.imp fun ds k ⟨ek, hk, hd⟩ => ⟨ek, by rw [List.length_cons, hk], fun d hd' => by
      rcases List.mem_cons.mp hd' with e | hd'
      · exact ⟨z, e.trans ex, by omega⟩
      · exact hd d hd'⟩) hs
theorem TxL.app {l m : List D} (h : TxL l) (g : TxL m) : TxL (l ++ m) := fun d hd => by
  rcases List.mem_append.mp hd with hd | hd
  · exact h d hd
  · exact g d hd
theorem lst_txs {k : Nat} (h : DTxs X Z r n es k) (hk : k ≤ 1000 := by decide) : DE X Z (.List es pos) r n fun x m => m = n ∧ ∃ l, x = .lst l ∧ l.length = k ∧ TxL l := de_lst (h.imp fun ds m ⟨em, hl, ht⟩ => ⟨sz5 (by omega), em, ds, rfl, hl, ht⟩)
theorem len_to {z : Str} {b : Nat} : (cutS z none (some (b : Int))).length ≤ b := by
  rw [TL.len_tl]
  show ((z.cps.toList.drop (HT.sIx z.length 0 none)).take (HT.sIx z.length z.length (some (b : Int)) - HT.sIx z.length 0 none)).length ≤ b
  rw [HT.sIx_nat, HT.sIx_none, List.length_take]
  omega
theorem len_from {z : Str} {a : Nat} : (cutS z (some (a : Int)) none).length ≤ z.length - a := by
  rw [TL.len_tl]
  show ((z.cps.toList.drop (HT.sIx z.length 0 (some (a : Int)))).take (HT.sIx z.length z.length none - HT.sIx z.length 0 (some (a : Int)))).length ≤ _
  rw [HT.sIx_nat, HT.sIx_none, List.length_take]
  omega
theorem len_one {z : Str} {a : Nat} : (cutS z (some (a : Int)) (some ((a : Int) + 1))).length ≤ 1 := by
  rw [TL.len_tl]
  show ((z.cps.toList.drop (HT.sIx z.length 0 (some (a : Int)))).take (HT.sIx z.length z.length (some ((a + 1 : Nat) : Int)) - HT.sIx z.length 0 (some (a : Int)))).length ≤ _
  rw [HT.sIx_nat, HT.sIx_nat, List.length_take]
  omega
end
section
variable {P : Program} {w : World} {K : PySem.W.Frag} {mg : Str → Option Value} {base : Heap}
def sp_value : DSp := fun ds n Q => ∃ st o, ds = [.ref st] ∧ n st = some o ∧ StOk o ∧ ∀ d m, Nv 30 d → (wr d).length ≤ 20000 → At StOk n st m → Q d m
abbrev s_law_value : Stmt := topS 21
theorem sc_law_value : FnScope ["state", "value", "k"] ["state"] (defScope s_law_value) := ⟨rfl, rfl, rfl, by decide +kernel, rfl, by decide +kernel, by decide +kernel⟩
theorem inner3 {v : Int} (h0 : 0 ≤ v) (h1 : v < 99) : ∀ d ∈ [D.tup [], .int v, .tup [.int 0, .tup []]], Nv 3 d ∧ (wr d).length ≤ 9 := fun d hd => by
  simp only [List.mem_cons, List.not_mem_nil, or_false] at hd
  rcases hd with rfl | rfl | rfl
  · exact ⟨⟨2, rfl, trivial⟩, by decide⟩
  · exact ⟨⟨h0, by omega⟩, wr_int_le h0 (by omega)⟩
  · exact ⟨⟨2, rfl, ⟨by decide, by decide⟩, ⟨1, rfl, trivial⟩, trivial⟩, by decide⟩
theorem wrap3 {k : Nat} {x : D} (h : Nv k x) : ∀ d ∈ [D.tup [x], .tup [x, .int 0], .tup [.int 1, x]], Nv (k + 1) d ∧ (wr d).length ≤ (wr x).length + 5 := fun d hd => by
  have i0 : Nv k (.int 0) := by cases k <;> exact ⟨by decide, by decide⟩
  have i1 : Nv k (.int 1) := by cases k <;> exact ⟨by decide, by decide⟩
  have w0 : (wr (.int 0)).length = 1 := by decide
  have w1 : (wr (.int 1)).length = 1 := by decide
  have key : ∀ l, (wr (.tup l)).length ≤ (l.map fun d => (wr d).length).sum + l.length + 2 := fun l => by
    have := wrs_len2 l
    show (40 :: wrs l).length ≤ _
    rw [List.length_cons]
    omega
  simp only [List.mem_cons, List.not_mem_nil, or_false] at hd
  rcases hd with rfl | rfl | rfl
  · refine ⟨⟨k, rfl, h, trivial⟩, ?_⟩
    have := key [x]
    simp at this
    omega
  · refine ⟨⟨k, rfl, h, i0, trivial⟩, ?_⟩
    have := key [x, .int 0]
    simp at this
    omega
  · refine ⟨⟨k, rfl, i1, h, trivial⟩, ?_⟩
    have := key [.int 1, x]
    simp at this
    omega
theorem ok_value {f : Addr} {fd : FuncData} (F : Fun K "_law_value" "_law_value" s_law_value f fd) (T : Top7 mg) (C_draw : DCal P w K mg base 2 "_law_draw" sp_draw) (C_nest : DCal P w K mg base 8 "_law_nested" (sp_nest 5)) :
    FnOk P w K mg base CX0 9 f fd ["state"] (spOf K sp_value) := by
  refine def_ok F sc_law_value (fun ds n Q h => ?_) (fun cdv A outer s H E ds n Q hr h => ?_)
  · obtain ⟨st, o, rfl, _⟩ := h; rfl
  · obtain ⟨st, o, rfl, hst, hO, q⟩ := h
    show DSs _ _ _ [some (.ref st), none, none] n _
    have hr2 := hr.mono (show 2 ≤ 8 by decide)
    have kp := At.keeps (Ok := StOk) (n := n) (st := st)
    have A0 := At.start hst hO
    refine dss_cons (ds_set 1 sc_law_value.nd (DE.fg (de_call C_nest hr (da_cons (PD.to (pd_v 0 rfl) (da_cons (de_ix (PD.to (pd_lst (pa_c pd_int (pa_c pd_int (pa_c pd_int pa_n)))) (de_draw C_draw hr2 kp A0 (pa_c (pd_v 0 rfl) (pa_c pd_int pa_n)) (fun v m1 a b A1 => ?_))))))))))
    have : ∃ k : Nat, atI [D.int 2, .int 3, .int 5] v = some (.int k) ∧ k ≤ 5 := by
      have : v = 0 ∨ v = 1 ∨ v = 2 := by omega
      rcases this with rfl | rfl | rfl
      · exact ⟨2, rfl, by decide⟩
      · exact ⟨3, rfl, by decide⟩
      · exact ⟨5, rfl, by decide⟩
    obtain ⟨k, hk, hk5⟩ := this
    refine ⟨_, _, _, rfl, rfl, hk, da_one (de_lstO (PDA.to (pa_c pd_int pa_n) ⟨szk rfl, fun lf hlf => ?_⟩))⟩
    obtain ⟨o1, h1, hO1⟩ := kp.hat A1
    have hne : st ≠ lf := fun e => by rw [e, hlf] at h1; cases h1
    refine ⟨st, lf, k, 40, o1, rfl, hk5, hne, by rw [dupd_ne hne]; exact h1, hO1, dupd_same, fun d m2 hv hw A2 => ?_⟩
    obtain ⟨o2, l2, hO2, rfl⟩ := A2
    have A3 : At StOk n st (dupd m1 st o2) := kp.up A1 hO2
    have hv : Nv 30 d := Nv_mono d hv (by omega)
    have hw : (wr d).length ≤ 20000 := by
      refine Nat.le_trans hw ?_
      have : k = 0 ∨ k = 1 ∨ k = 2 ∨ k = 3 ∨ k = 4 ∨ k = 5 := by omega
      rcases this with rfl | rfl | rfl | rfl | rfl | rfl <;> decide
    refine ⟨dupd m1 st o2, ?_, ?_⟩
    · rw [dupd_comm hne.symm, dupd_dupd]
      refine Sub.up ?_
      rw [dupd_ne hne.symm]
      exact hlf
    generalize dupd m1 st o2 = m at A3 ⊢
    show DSs _ _ _ [some (.ref st), some d, none] m _
    refine dss_cons (ds_if (dt_eq (de_draw C_draw hr2 kp A3 (pa_c (pd_v 0 rfl) (pa_c pd_int pa_n)) (fun v m3 a b A4 => PD.to pd_int ⟨_, rfl, _, rfl, ?_⟩))))
    refine iteD (fun hv0 => ?_) (fun hv0 => ?_)
    ·
      refine dss_one (ds_ret (de_mulT (de_tup (da_cons (de_ix (de_lst (da_cons (PD.to (pd_tup pa_n) (da_cons (de_draw C_draw hr2 kp A4 (pa_c (pd_v 0 rfl) (pa_c pd_int pa_n)) (fun v1 m4 a1 b1 A5 => da_one (PD.to (pd_tup (pa_c pd_int (pa_c (pd_tup pa_n) pa_n))) ⟨szk rfl, de_draw C_draw hr2 kp A5 (pa_c (pd_v 0 rfl) (pa_c pd_int pa_n)) (fun v2 m5 a2 b2 A6 => ?_)⟩))))))))))))
      obtain ⟨x, hx, hm⟩ := atI_ex (l := [D.tup [], .int v1, .tup [.int 0, .tup []]]) a2 b2
      obtain ⟨hx1, hx2⟩ := inner3 a1 b1 x hm
      refine ⟨_, _, x, rfl, rfl, hx, da_one (PD.to pd_int ⟨szk rfl, de_add (PD.to pd_int (de_draw C_draw hr2 kp A6 (pa_c (pd_v 0 rfl) (pa_c pd_int pa_n)) (fun v3 m6 a3 b3 A7 => ⟨_, _, rfl, rfl, _, _, rfl, rfl, by simp, by omega, by omega, by show 2 ≤ 1000; decide, ?_⟩)))⟩)⟩
      have i0 : Nv 3 (.int 0) := ⟨by decide, by decide⟩
      have hin : ∀ y ∈ (List.replicate (1 + v3).toNat [x, D.int 0]).flatten, Nv 3 y ∧ (wr y).length ≤ 9 := fun y hy => by
        obtain ⟨l, hl, hy⟩ := List.mem_flatten.mp hy
        rw [List.eq_of_mem_replicate hl] at hy
        simp only [List.mem_cons, List.not_mem_nil, or_false] at hy
        rcases hy with rfl | rfl
        · exact ⟨hx1, hx2⟩
        · exact ⟨i0, by decide⟩
      refine q _ _ ⟨29, rfl, Nvs_of fun y hy => Nv_mono y (hin y hy).1 (by decide)⟩ ?_ A7
      have h1 := wr_tup_le (B := 9) fun y hy => (hin y hy).2
      have h2 : (List.replicate (1 + v3).toNat [x, D.int 0]).flatten.length ≤ 80 := by
        rw [List.length_flatten, List.map_replicate, List.sum_replicate_nat]
        show (1 + v3).toNat * 2 ≤ 80
        omega
      omega
    refine dss_nil ?_
    refine dss_cut (fun r m => ∃ d x, r = [some (.ref st), some d, x] ∧ Nv 30 d ∧ (wr d).length ≤ 20000 ∧ At StOk n st m) (ds_if (dt_eq (de_draw C_draw hr2 kp A4 (pa_c (pd_v 0 rfl) (pa_c pd_int pa_n)) (fun v m4 a b A5 => PD.to pd_int ⟨_, rfl, _, rfl, ?_⟩)))) ?_
    · refine iteD (fun hv0 => ?_) (fun hv0 => ?_)
      ·
        refine dss_cons (ds_set 1 sc_law_value.nd (de_ix (de_lst (da_cons (PD.to (pd_tup pa_n) (da_cons (de_draw C_draw hr2 kp A5 (pa_c (pd_v 0 rfl) (pa_c pd_int pa_n)) (fun v1 m4 a1 b1 A5 => da_one (PD.to (pd_tup (pa_c pd_int (pa_c (pd_tup pa_n) pa_n))) ⟨szk rfl, de_draw C_draw hr2 kp A5 (pa_c (pd_v 0 rfl) (pa_c pd_int pa_n)) (fun v2 m5 a2 b2 A6 => ?_)⟩)))))))))
        obtain ⟨x, hx, hm⟩ := atI_ex (l := [D.tup [], .int v1, .tup [.int 0, .tup []]]) a2 b2
        obtain ⟨hx1, hx2⟩ := inner3 a1 b1 x hm
        refine ⟨_, _, x, rfl, rfl, hx, ?_⟩
        show DSs _ _ _ [some (.ref st), some x, none] _ _
        refine dss_one (ds_forD PassesOwn.never rfl (di_range1 T.range (de_add (PD.to pd_int (de_draw C_draw hr2 kp A6 (pa_c (pd_v 0 rfl) (pa_c pd_int pa_n)) (fun v3 m6 a3 b3 A7 => ⟨_, _, rfl, rfl, _, rfl, by omega, by omega, fun i r m => ∃ x y, r = [some (.ref st), some x, y] ∧ Nv (3 + i) x ∧ (wr x).length ≤ 9 + 5 * i ∧ At StOk n st m, ⟨x, none, rfl, hx1, hx2, A7⟩, ?_, ?_⟩))))))
        · intro i d r m hd hI
          obtain ⟨x, y, rfl, hx1, hx2, A8⟩ := hI
          refine ⟨_, _, dg_v 2 sc_law_value.nd, ?_⟩
          refine dss_one (ds_set 1 sc_law_value.nd (de_ix (PD.to (pd_lst (pa_c (pd_tup (pa_c (pd_v 1 rfl) pa_n)) (pa_c (pd_tup (pa_c (pd_v 1 rfl) (pa_c pd_int pa_n))) (pa_c (pd_tup (pa_c pd_int (pa_c (pd_v 1 rfl) pa_n))) pa_n)))) (de_draw C_draw hr2 kp A8 (pa_c (pd_v 0 rfl) (pa_c pd_int pa_n)) (fun v4 m7 a4 b4 A9 => ?_)))))
          obtain ⟨u, hu, hm⟩ := atI_ex (l := [D.tup [x], .tup [x, .int 0], .tup [.int 1, x]]) a4 b4
          obtain ⟨hu1, hu2⟩ := wrap3 hx1 u hm
          exact ⟨_, _, u, rfl, rfl, hu, u, some d, rfl, hu1, by omega, A9⟩
        · intro r m hI
          rw [dints_len] at hI
          obtain ⟨x, y, rfl, hx1, hx2, A8⟩ := hI
          exact ⟨x, y, rfl, Nv_mono x hx1 (by omega), by omega, A8⟩
      · exact dss_nil ⟨d, none, rfl, hv, hw, A5⟩
    · rintro r m ⟨x, y, rfl, h1, h2, A6⟩
      exact dss_one (ds_ret (PD.to (pd_v 1 rfl) (q x m h1 h2 A6)))
end
end K7
set_option Elab.async false
set_option linter.all false
set_option maxRecDepth 100000
set_option maxHeartbeats 4000000
namespace K7
open PySem PySem.Spec PyProof.Rows L2 NdefX G3 M7
section
variable {P : Program} {w : World} {K : PySem.W.Frag} {mg : Str → Option Value} {base : Heap}
def sp_spoilt : DSp := fun ds n Q => ∃ st o z, ds = [.ref st, .str z] ∧ n st = some o ∧ StOk o ∧ z.length ≤ 30000 ∧ ∀ z' m, z'.length ≤ z.length + 2 → At StOk n st m → Q (.str z') m
abbrev s_law_spoilt : Stmt := topS 23
theorem sc_law_spoilt : FnScope ["state", "text", "signs", "sign", "at", "kind"] ["state", "text"] (defScope s_law_spoilt) := ⟨rfl, rfl, rfl, by decide +kernel, rfl, by decide +kernel, by decide +kernel⟩
theorem ok_spoilt {f : Addr} {fd : FuncData} (F : Fun K "_law_spoilt" "_law_spoilt" s_law_spoilt f fd) (T : Top7 mg) (C_draw : DCal P w K mg base 2 "_law_draw" sp_draw) (C_signs : DCal P w K mg base 1 "_law_signs" sp_signs) :
    FnOk P w K mg base CX0 3 f fd ["state", "text"] (spOf K sp_spoilt) := by
  refine def_ok F sc_law_spoilt (fun ds n Q h => ?_) (fun cdv A outer s H E ds n Q hr h => ?_)
  · obtain ⟨st, o, z, rfl, _⟩ := h; rfl
  · obtain ⟨st, o, z, rfl, hst, hO, hz, q⟩ := h
    show DSs _ _ _ [some (.ref st), some (.str z), none, none, none, none] n _
    have kp := At.keeps (Ok := StOk) (n := n) (st := st)
    have A0 := At.start hst hO
    have hzl : z.length ≤ sizeLine := sz5 (by omega)
    refine dss_cons (ds_set 2 sc_law_spoilt.nd (de_ix (de_lst (da_cons (PD.to pd_str (da_cons (PD.to pd_str (da_one (de_addS (de_call0 C_signs (hr.mono (by decide)) ⟨rfl, fun w w1 w2 => PD.to pd_str ⟨w, _, rfl, rfl, ?_, szk rfl, de_draw C_draw hr kp A0 (pa_c (pd_v 0 rfl) (pa_c pd_int pa_n)) (fun v m1 a b A1 => ?_)⟩⟩))))))))))
    · exact sz5 (Nat.le_trans (Nat.add_le_add w2 (show ("\n" : Str).length ≤ 1 by decide)) (by decide))
    have : ∃ u : Str, atI [D.str "()0 1", .str "0123456789() ", .str (w ++ "\n")] v = some (.str u) ∧ 1 ≤ u.length ∧ u.length ≤ 300 := by
      have : v = 0 ∨ v = 1 ∨ v = 2 := by omega
      rcases this with rfl | rfl | rfl
      · exact ⟨_, rfl, by decide, by decide⟩
      · exact ⟨_, rfl, by decide, by decide⟩
      · refine ⟨_, rfl, ?_, ?_⟩
        · rw [Str.length_append]; omega
        · rw [Str.length_append]
          exact Nat.le_trans (Nat.add_le_add w2 (show ("\n" : Str).length ≤ 1 by decide)) (by decide)
    obtain ⟨u, hu, u1, u2⟩ := this
    refine ⟨_, _, _, rfl, rfl, hu, ?_⟩
    show DSs _ _ _ [some (.ref st), some (.str z), some (.str u), none, none, none] m1 _
    have hul : u.length ≤ sizeLine := sz5 (by omega)
    refine dss_cons (ds_set 3 sc_law_spoilt.nd (de_ixs (PD.to (pd_v 2 rfl) (de_draw (lim := (u.length : Int)) C_draw hr kp A1 (pa_c (pd_v 0 rfl) (pa_c (pd_len T.len (pd_v 2 rfl) (.str hul)) pa_n)) (fun v2 m2 a2 b2 A2 => ?_) (by omega) (by omega)))))
    have : ∃ c, atI u.cps.toList v2 = some c := by
      have hl : v2.toNat < u.cps.toList.length := by
        have : u.length = u.cps.toList.length := TL.len_tl u
        omega
      exact ⟨_, atI_of a2 (List.getElem?_eq_getElem hl)⟩
    obtain ⟨c, hc⟩ := this
    refine ⟨_, _, c, rfl, rfl, hul, hc, ?_⟩
    show DSs _ _ _ [some (.ref st), some (.str z), some (.str u), some (.str ⟨#[c]⟩), none, none] m2 _
    have hc1 : (⟨#[c]⟩ : Str).length = 1 := rfl
    refine dss_cons (ds_set 4 sc_law_spoilt.nd (de_draw (lim := (z.length : Int) + 1) C_draw hr kp A2 (pa_c (pd_v 0 rfl) (pa_c (pd_add (pd_len T.len (pd_v 1 rfl) (.str hzl)) pd_int) pa_n)) (fun at' m3 a3 b3 A3 => ?_) (by omega) (by omega)))
    obtain ⟨a, rfl⟩ : ∃ a : Nat, at' = a := ⟨at'.toNat, by omega⟩
    show DSs _ _ _ [some (.ref st), some (.str z), some (.str u), some (.str ⟨#[c]⟩), some (.int a), none] m3 _
    refine dss_cons (ds_set 5 sc_law_spoilt.nd (de_draw C_draw hr kp A3 (pa_c (pd_v 0 rfl) (pa_c pd_int pa_n)) (fun kd m4 a4 b4 A4 => ?_)))
    show DSs _ _ _ [some (.ref st), some (.str z), some (.str u), some (.str ⟨#[c]⟩), some (.int a), some (.int kd)] m4 _
    have t1 : (cutS z none (some (a : Int))).length ≤ a := len_to
    have t2 : (cutS z (some (a : Int)) none).length ≤ z.length - a := len_from
    have t3 : (cutS z (some ((a : Int) + 1)) none).length ≤ z.length - (a + 1) := len_from (a := a + 1)
    have t4 : (cutS z (some (a : Int)) (some ((a : Int) + 1))).length ≤ 1 := len_one
    have A : ∀ x y : Str, (x ++ y).length = x.length + y.length := Str.length_append
    refine dss_cons (ds_ifP (pt_eq (pd_v 5 rfl) pd_int) (fun h => ?_) (fun h => dss_nil ?_))
    · exact dss_one (ds_ret (PD.to (pd_slS (pd_v 1 rfl) dp_n (dp_s (pd_v 4 rfl)) hzl) (q _ _ (by omega) A4)))
    refine dss_cons (ds_ifP (pt_eq (pd_v 5 rfl) pd_int) (fun h => ?_) (fun h => dss_nil ?_))
    · exact dss_one (ds_ret (PD.to (pd_addS (pd_slS (pd_v 1 rfl) dp_n (dp_s (pd_v 4 rfl)) hzl) (pd_slS (pd_v 1 rfl) (dp_s (pd_add (pd_v 4 rfl) pd_int)) dp_n hzl) (sz5 (by omega))) (q _ _ (by rw [A]; omega) A4)))
    refine dss_cons (ds_ifP (pt_eq (pd_v 5 rfl) pd_int) (fun h => ?_) (fun h => dss_nil ?_))
    · exact dss_one (ds_ret (PD.to (pd_addS (pd_addS (pd_slS (pd_v 1 rfl) dp_n (dp_s (pd_v 4 rfl)) hzl) (pd_v 3 rfl) (sz5 (by omega))) (pd_slS (pd_v 1 rfl) (dp_s (pd_add (pd_v 4 rfl) pd_int)) dp_n hzl) (sz5 (by rw [A]; omega))) (q _ _ (by rw [A, A]; omega) A4)))
    refine dss_cons (ds_ifP (pt_eq (pd_v 5 rfl) pd_int) (fun h => ?_) (fun h => dss_nil ?_))
    · exact dss_one (ds_ret (PD.to (pd_addS (pd_addS (pd_slS (pd_v 1 rfl) dp_n (dp_s (pd_v 4 rfl)) hzl) (pd_slS (pd_v 1 rfl) (dp_s (pd_v 4 rfl)) (dp_s (pd_add (pd_v 4 rfl) pd_int)) hzl) (sz5 (by omega))) (pd_slS (pd_v 1 rfl) (dp_s (pd_v 4 rfl)) dp_n hzl) (sz5 (by rw [A]; omega))) (q _ _ (by rw [A, A]; omega) A4)))
    refine dss_cons (ds_ifP (pt_eq (pd_v 5 rfl) pd_int) (fun h => ?_) (fun h => dss_nil ?_))
    ·
      refine dss_one (ds_ret (de_addS (de_addS (PD.to (pd_slS (pd_v 1 rfl) dp_n (dp_s (pd_v 4 rfl)) hzl) (de_ix (PD.to (pd_lst (pa_c pd_str (pa_c pd_str (pa_c pd_str (pa_c pd_str (pa_c pd_str (pa_c pd_str pa_n))))))) (de_draw C_draw hr kp A4 (pa_c (pd_v 0 rfl) (pa_c pd_int pa_n)) (fun v5 m5 a5 b5 A5 => ?_))))))))
      obtain ⟨d, hd, hm⟩ := atI_ex (l := [D.str "  ", .str "00", .str "(", .str ")", .str "( ", .str " )"]) a5 b5
      have : ∃ y : Str, d = .str y ∧ y.length ≤ 2 := by
        simp only [List.mem_cons, List.not_mem_nil, or_false] at hm
        rcases hm with rfl | rfl | rfl | rfl | rfl | rfl <;> exact ⟨_, rfl, by decide⟩
      obtain ⟨y, rfl, hy⟩ := this
      exact ⟨_, _, _, rfl, rfl, hd, _, _, rfl, rfl, sz5 (by omega), PD.to (pd_slS (pd_v 1 rfl) (dp_s (pd_v 4 rfl)) dp_n hzl) ⟨_, _, rfl, rfl, sz5 (by rw [A]; omega), q _ _ (by rw [A, A]; omega) A5⟩⟩
    exact dss_one (ds_ret (PD.to (pd_addS (pd_addS (pd_slS (pd_v 1 rfl) dp_n (dp_s (pd_v 4 rfl)) hzl) (pd_v 3 rfl) (sz5 (by omega))) (pd_slS (pd_v 1 rfl) (dp_s (pd_v 4 rfl)) dp_n hzl) (sz5 (by rw [A]; omega))) (q _ _ (by rw [A, A]; omega) A4)))
def sp_built : DSp := fun ds n Q => ∃ st o, ds = [.ref st] ∧ n st = some o ∧ StOk o ∧ ∀ z m, z.length ≤ 2500 → At StOk n st m → Q (.str z) m
abbrev s_law_built : Stmt := topS 24
theorem sc_law_built : FnScope ["state", "figures", "deep", "texts"] ["state"] (defScope s_law_built) := ⟨rfl, rfl, rfl, by decide +kernel, rfl, by decide +kernel, by decide +kernel⟩
theorem ok_built {f : Addr} {fd : FuncData} (F : Fun K "_law_built" "_law_built" s_law_built f fd) (T : Top7 mg) (C_draw : DCal P w K mg base 2 "_law_draw" sp_draw) :
    FnOk P w K mg base CX0 3 f fd ["state"] (spOf K sp_built) := by
  refine def_ok F sc_law_built (fun ds n Q h => ?_) (fun cdv A outer s H E ds n Q hr h => ?_)
  · obtain ⟨st, o, rfl, _⟩ := h; rfl
  · obtain ⟨st, o, rfl, hst, hO, q⟩ := h
    show DSs _ _ _ [some (.ref st), none, none, none] n _
    have kp := At.keeps (Ok := StOk) (n := n) (st := st)
    have A0 := At.start hst hO
    refine dss_cons (ds_set 1 sc_law_built.nd (de_strI T.str (de_draw C_draw hr kp A0 (pa_c (pd_v 0 rfl) (pa_c (pd_pow pd_int pd_int ⟨by decide, by decide, by decide⟩) pa_n)) (fun v m1 a b A1 => ⟨v, rfl, log_small a b, ?_⟩))))
    have hf : (Str.ofString (toString v)).length ≤ 9 := by
      rw [num_wr a, TL.len_tl, wrS_tl]
      exact wr_int_le a b
    generalize Str.ofString (toString v) = fg at hf ⊢
    show DSs _ _ _ [some (.ref st), some (.str fg), none, none] m1 _
    have hfl : fg.length ≤ sizeLine := sz5 (by omega)
    refine dss_cons (ds_set 2 sc_law_built.nd (de_ix (de_lst (da_cons (de_add (PD.to pd_int (de_draw C_draw hr kp A1 (pa_c (pd_v 0 rfl) (pa_c pd_int pa_n)) (fun v1 m2 a1 b1 A2 => ⟨_, _, rfl, rfl, da_cons (de_add (PD.to pd_int (de_draw C_draw hr kp A2 (pa_c (pd_v 0 rfl) (pa_c pd_int pa_n)) (fun v2 m3 a2 b2 A3 => ⟨_, _, rfl, rfl, da_cons (PD.to pd_int (da_one (PD.to pd_int ⟨szk rfl, de_draw C_draw hr kp A3 (pa_c (pd_v 0 rfl) (pa_c pd_int pa_n)) (fun v3 m4 a3 b3 A4 => ?_)⟩)))⟩))))⟩))))))))
    obtain ⟨d, hd, hm⟩ := atI_ex (l := [D.int (18 + v1), .int (18 + v2), .int 25, .int 1000]) a3 b3
    have : ∃ i : Int, d = .int i ∧ 0 ≤ i ∧ i ≤ 1000 := by
      simp only [List.mem_cons, List.not_mem_nil, or_false] at hm
      rcases hm with rfl | rfl | rfl | rfl <;> exact ⟨_, rfl, by omega, by omega⟩
    obtain ⟨i, rfl, i0, i1⟩ := this
    refine ⟨_, _, _, rfl, rfl, hd, ?_⟩
    show DSs _ _ _ [some (.ref st), some (.str fg), some (.int i), none] m4 _
    refine dss_cons (ds_set 3 sc_law_built.nd ((lst_txs (txs_cons tx_str (txs_cons tx_str (txs_cons tx_str (txs_cons tx_str (txs_cons (tx_add tx_str (tx_pd (pd_v 1 rfl) hf)) (txs_cons (tx_add (tx_pd (pd_v 1 rfl) hf) (tx_mul (B := 10) pd_str (pd_sub pd_int (pd_len T.len (pd_v 1 rfl) (.str hfl))) (by omega) (by omega) rfl)) (txs_cons (tx_add (tx_pd (pd_v 1 rfl) hf) (tx_mul (B := 10) pd_str (pd_sub pd_int (pd_len T.len (pd_v 1 rfl) (.str hfl))) (by omega) (by omega) rfl)) txs_nil)))))))).imp fun x m ⟨em, l1, ex, hl1, ht1⟩ => ?_))
    subst em; subst ex
    show DSs _ _ _ [some (.ref st), some (.str fg), some (.int i), some (.lst l1)] _ _
    refine dss_cons (ds_set 3 sc_law_built.nd (de_addL (PD.to (pd_v 3 rfl) ((lst_txs (txs_cons (tx_add (tx_add tx_str (tx_pd (pd_v 1 rfl) hf)) tx_str) (txs_cons (tx_add (tx_add tx_str (tx_pd (pd_v 1 rfl) hf)) tx_str) (txs_cons (tx_add (tx_add tx_str (tx_pd (pd_v 1 rfl) hf)) tx_str) (txs_cons (tx_add (tx_pd (pd_v 1 rfl) hf) tx_str) (txs_cons (tx_add tx_str (tx_pd (pd_v 1 rfl) hf)) txs_nil)))))).imp fun x m ⟨em, l2, ex, hl2, ht2⟩ => ⟨l1, l2, rfl, ex, sz5 (by omega), ?_⟩))))
    subst em
    have ht2 := ht1.app ht2
    have hl2 : (l1 ++ l2).length = 12 := by rw [List.length_append]; omega
    generalize l1 ++ l2 = l2 at ht2 hl2
    clear ht1 hl1
    show DSs _ _ _ [some (.ref st), some (.str fg), some (.int i), some (.lst l2)] _ _
    refine dss_cons (ds_set 3 sc_law_built.nd (de_addL (PD.to (pd_v 3 rfl) ((lst_txs (txs_cons (tx_add (tx_mul (B := 1000) pd_str (pd_v 2 rfl) (by omega) i1 rfl) (tx_mul (B := 1000) pd_str (pd_v 2 rfl) (by omega) i1 rfl)) (txs_cons (tx_add (tx_add (tx_mul (B := 1000) pd_str (pd_v 2 rfl) (by omega) i1 rfl) tx_str) (tx_mul (B := 1000) pd_str (pd_v 2 rfl) (by omega) i1 rfl)) (txs_cons (tx_mul (B := 1000) pd_str (pd_v 2 rfl) (by omega) i1 rfl) (txs_cons (tx_add (tx_add tx_str (tx_pd (pd_v 1 rfl) hf)) tx_str) txs_nil))))).imp fun x m ⟨em, l3, ex, hl3, ht3⟩ => ⟨l2, l3, rfl, ex, sz5 (by omega), ?_⟩))))
    subst em
    have ht3 := ht2.app ht3
    have hl3 : (l2 ++ l3).length = 16 := by rw [List.length_append]; omega
    generalize l2 ++ l3 = l3 at ht3 hl3
    clear ht2 hl2
    show DSs _ _ _ [some (.ref st), some (.str fg), some (.int i), some (.lst l3)] _ _
    refine dss_cons (ds_set 3 sc_law_built.nd (de_addL (PD.to (pd_v 3 rfl) ((lst_txs (txs_cons tx_str (txs_cons tx_str (txs_cons (tx_add tx_str (tx_pd (pd_v 1 rfl) hf)) (txs_cons (tx_add tx_str (tx_pd (pd_v 1 rfl) hf)) (txs_cons tx_str (txs_cons (tx_add (tx_pd (pd_v 1 rfl) hf) tx_str) (txs_cons tx_str (txs_cons tx_str txs_nil))))))))).imp fun x m ⟨em, l4, ex, hl4, ht4⟩ => ⟨l3, l4, rfl, ex, sz5 (by omega), ?_⟩))))
    subst em
    have ht4 := ht3.app ht4
    have hl4 : (l3 ++ l4).length = 24 := by rw [List.length_append]; omega
    generalize l3 ++ l4 = l4 at ht4 hl4
    clear ht3 hl3
    show DSs _ _ _ [some (.ref st), some (.str fg), some (.int i), some (.lst l4)] _ _
    refine dss_cons (ds_set 3 sc_law_built.nd (de_addL (PD.to (pd_v 3 rfl) ((lst_txs (txs_cons (tx_add tx_str (tx_pd (pd_v 1 rfl) hf)) (txs_cons (tx_add (tx_pd (pd_v 1 rfl) hf) tx_str) txs_nil))).imp fun x m ⟨em, l5, ex, hl5, ht5⟩ => ⟨l4, l5, rfl, ex, sz5 (by omega), ?_⟩))))
    subst em
    have ht5 := ht4.app ht5
    have hl5 : (l4 ++ l5).length = 26 := by rw [List.length_append]; omega
    generalize l4 ++ l5 = l5 at ht5 hl5
    clear ht4 hl4
    show DSs _ _ _ [some (.ref st), some (.str fg), some (.int i), some (.lst l5)] _ _
    refine dss_one (ds_ret (de_ix (PD.to (pd_v 3 rfl) (de_draw (lim := (l5.length : Int)) C_draw hr kp A4 (pa_c (pd_v 0 rfl) (pa_c (pd_len T.len (pd_v 3 rfl) (.sq rfl)) pa_n)) (fun v5 m5 a5 b5 A5 => ?_) (by omega) (by omega)))))
    obtain ⟨d, hd, hm⟩ := atI_ex a5 b5
    obtain ⟨z, rfl, hz⟩ := ht5 d hm
    exact ⟨_, _, _, rfl, rfl, hd, q z _ hz A5⟩
end
end K7
set_option Elab.async false
set_option linter.all false
set_option maxRecDepth 100000
set_option maxHeartbeats 4000000
namespace M7
open PySem G3
structure MOk (st : MS) (B : Nat) : Prop where
  ne : st.1 ≠ []
  le : st.1.length ≤ 21
  two : st.2.1 = 1 ∨ st.2.1 = 2 → 2 ≤ st.1.length
  thr : st.2.1 = 3 → ∃ x l, st.1 = [x :: l]
  fig : st.2.2 ≠ [] → st.2.1 < 2
  dig : ∀ c ∈ st.2.2, isDig c = true
  nine : st.2.2.length ≤ 9
  row : ∀ l ∈ st.1, l.length ≤ B
theorem put_row {B : Nat} {v : D} : ∀ {s : List (List D)}, (∀ l ∈ s, l.length ≤ B) → ∀ l ∈ put s v, l.length ≤ B + 1
  | [], _, l, hl => by cases hl
  | x :: s, h, l, hl => by
    rcases List.mem_cons.mp hl with e | hl
    · rw [e, List.length_append]
      have := h x List.mem_cons_self
      show x.length + 1 ≤ B + 1
      omega
    · have := h l (List.mem_cons_of_mem _ hl)
      omega
theorem MOk.putMd {s : List (List D)} {v : D} {B : Nat} (ne : s ≠ []) (le : s.length ≤ 21) (row : ∀ l ∈ s, l.length ≤ B) : MOk (put s v, md s, []) (B + 1) := by
  refine ⟨?_, by rw [put_len]; exact le, ?_, ?_, fun h => absurd rfl h, fun c hc => (by cases hc), Nat.zero_le _, put_row row⟩
  · cases s with
    | nil => exact absurd rfl ne
    | cons x s => exact List.cons_ne_nil _ _
  · intro h
    have h : md s = 1 ∨ md s = 2 := h
    rw [put_len]
    unfold md at h
    split at h <;> omega
  · intro h
    have h : md s = 3 := h
    unfold md at h
    split at h
    · omega
    · cases s with
      | nil => exact absurd rfl ne
      | cons x s =>
        cases s with
        | nil =>
          cases x with
          | nil => exact ⟨v, [], rfl⟩
          | cons y x => exact ⟨y, x ++ [v], rfl⟩
        | cons z s => simp at *
theorem MOk.up {st : MS} {B C : Nat} (h : MOk st B) (hc : B ≤ C) : MOk st C := ⟨h.ne, h.le, h.two, h.thr, h.fig, h.dig, h.nine, fun l hl => Nat.le_trans (h.row l hl) hc⟩
theorem MOk.more {s : List (List D)} {m : Nat} {f : List Nat} {c B : Nat} (h : MOk (s, m, f) B) (hd : isDig c = true) (hf : f ≠ []) (h9 : f.length < 9) : MOk (s, m, f ++ [c]) B :=
  ⟨h.ne, h.le, h.two, h.thr, fun _ => h.fig hf, fun x hx => by
    rcases List.mem_append.mp hx with hx | hx
    · exact h.dig x hx
    · rw [List.mem_singleton.mp hx]; exact hd, by show (f ++ [c]).length ≤ 9; rw [List.length_append]; show f.length + 1 ≤ 9; omega, h.row⟩
theorem MOk.first {s : List (List D)} {m : Nat} {c B : Nat} (h : MOk (s, m, []) B) (hd : isDig c = true) (hm : m < 2) : MOk (s, m, [c]) B :=
  ⟨h.ne, h.le, h.two, h.thr, fun _ => hm, fun x hx => by rw [List.mem_singleton.mp hx]; exact hd, by show 1 ≤ 9; decide, h.row⟩
theorem MOk.opened {s : List (List D)} {m : Nat} {B : Nat} (h : MOk (s, m, []) B) (hl : s.length < 21) : MOk ([] :: s, 1, []) B :=
  ⟨List.cons_ne_nil _ _, hl, fun _ => by
    have := List.length_pos_iff.mpr h.ne
    show 2 ≤ s.length + 1
    have : 0 < s.length := this
    omega, fun z => (by cases z), fun z => absurd rfl z, fun c hc => (by cases hc), Nat.zero_le _, fun l hl => by
    rcases List.mem_cons.mp hl with e | hl
    · rw [e]; exact Nat.zero_le _
    · exact h.row l hl⟩
theorem MOk.blank {s : List (List D)} {m : Nat} {B : Nat} (h : MOk (s, m, []) B) : MOk (s, 0, []) B :=
  ⟨h.ne, h.le, fun z => (by rcases z with z | z <;> cases z), fun z => (by cases z), fun z => absurd rfl z, fun c hc => (by cases hc), Nat.zero_le _, h.row⟩
end M7
namespace K7
open PySem PySem.Spec PyProof.Rows L2 NdefX G3 M7
theorem one_sign {c : Nat} {y : Str} {d : Nat} (hy : y.cps.toList = [d]) : decide ((⟨#[c]⟩ : Str) = y) = decide (c = d) := by
  congr 1
  apply propext
  constructor
  · intro h
    have := congrArg (fun x : Str => x.cps.toList) h
    rw [hy] at this
    exact List.head_eq_of_cons_eq (show [c] = [d] from this)
  · rintro rfl
    exact TL.ext_tl (show [c] = y.cps.toList from hy.symm)
theorem str_eq {x y : Str} : decide (x = y) = decide (TL.tl x = TL.tl y) := by
  congr 1
  apply propext
  exact ⟨fun h => by rw [h], fun h => TL.ext_tl h⟩
def RowsAt (n m : DH) : List Addr → List (List D) → Prop
  | [], [] => True
  | a :: as, l :: ls => n a = none ∧ m a = some (.lst l) ∧ a ∉ as ∧ RowsAt n m as ls
  | _, _ => False
theorem RowsAt.upd {n m : DH} {b : Addr} {o : DO} : ∀ {as : List Addr} {ls : List (List D)}, RowsAt n m as ls → b ∉ as → RowsAt n (dupd m b o) as ls
  | [], [], _, _ => trivial
  | a :: as, l :: ls, ⟨h1, h2, h3, h4⟩, hb => ⟨h1, by rw [dupd_ne (fun e => hb (by rw [e]; exact List.mem_cons_self))]; exact h2, h3, h4.upd fun z => hb (List.mem_cons_of_mem _ z)⟩
  | [], _ :: _, h, _ => False.elim h
  | _ :: _, [], h, _ => False.elim h
theorem RowsAt.len {n m : DH} : ∀ {as : List Addr} {ls : List (List D)}, RowsAt n m as ls → as.length = ls.length
  | [], [], _ => rfl
  | a :: as, l :: ls, ⟨_, _, _, h⟩ => by rw [List.length_cons, List.length_cons, h.len]
  | [], _ :: _, h => False.elim h
  | _ :: _, [], h => False.elim h
theorem RowsAt.new {n m : DH} {b : Addr} (hb : m b = none) : ∀ {as : List Addr} {ls : List (List D)}, RowsAt n m as ls → b ∉ as
  | [], [], _, h => by cases h
  | a :: as, l :: ls, ⟨_, h2, _, h4⟩, h => by
    rcases List.mem_cons.mp h with e | h
    · rw [← e, hb] at h2; cases h2
    · exact h4.new hb h
  | [], _ :: _, h, _ => False.elim h
  | _ :: _, [], h, _ => False.elim h
theorem sub_none {n m : DH} {a : Addr} (h : Sub n m) (e : m a = none) : n a = none := by
  cases q : n a with
  | none => rfl
  | some o => rw [h a o q] at e; cases e
theorem Sub.put {n m : DH} {a : Addr} {o : DO} (h : Sub n m) (e : n a = none) : Sub n (dupd m a o) := fun b x hb => by
  have ne : b ≠ a := fun z => by rw [z, e] at hb; cases hb
  rw [dupd_ne ne]
  exact h b x hb
def refs (as : List Addr) : List D := as.reverse.map D.ref
theorem refs_len (as : List Addr) : (refs as).length = as.length := by unfold refs; rw [List.length_map, List.length_reverse]
theorem refs_cons (a : Addr) (as : List Addr) : refs (a :: as) = refs as ++ [.ref a] := by unfold refs; rw [List.reverse_cons, List.map_append]; rfl
theorem refs_last (a : Addr) (as : List Addr) : atI (refs (a :: as)) (((refs (a :: as)).length : Int) - 1) = some (.ref a) := by
  have hl : ((refs (a :: as)).length : Int) - 1 = ((refs as).length : Nat) := by
    rw [refs_cons, List.length_append]
    show ((((refs as).length + 1 : Nat)) : Int) - 1 = _
    omega
  rw [hl, refs_cons]
  refine atI_of (Int.natCast_nonneg _) ?_
  rw [Int.toNat_natCast, List.getElem?_append_right (Nat.le_refl _), Nat.sub_self]
  rfl
theorem refs_cut (a : Addr) (as : List Addr) : cutA (refs (a :: as)) none (some (-1)) = refs as := by
  rw [refs_cons]
  unfold cutA
  have e1 : HT.sIx (refs as ++ [D.ref a]).length (refs as ++ [D.ref a]).length (some (-1)) = (refs as).length := by
    show (if (-1 : Int) < 0 then ((-1 : Int) + (((refs as ++ [D.ref a]).length : Nat) : Int)).toNat else min (-1 : Int).toNat (refs as ++ [D.ref a]).length) = _
    rw [if_pos (by decide), List.length_append]
    show ((-1 : Int) + (((refs as).length + 1 : Nat) : Int)).toNat = _
    omega
  rw [e1, HT.sIx_none, List.drop_zero, Nat.sub_zero, List.take_left]
section
variable {P : Program} {w : World} {K : PySem.W.Frag} {mg : Str → Option Value} {base : Heap}
def sp_put : DSp := fun ds n Q => ∃ R as a l v, ds = [.ref R, v] ∧ n R = some (.lst (refs (a :: as))) ∧ n a = some (.lst l) ∧ R ≠ a ∧ l.length < 1000000 ∧ as.length ≤ 1000 ∧ Q (.int ((if as.length + 1 > 1 then 2 else 3 : Nat) : Int)) (dupd n a (.lst (l ++ [v])))
abbrev s_law_put : Stmt := topS 17
theorem sc_law_put : FnScope ["rows", "value"] ["rows", "value"] (defScope s_law_put) := ⟨rfl, rfl, rfl, by decide +kernel, rfl, by decide +kernel, by decide +kernel⟩
theorem ok_put {f : Addr} {fd : FuncData} (F : Fun K "_law_put" "_law_put" s_law_put f fd) (T : Top7 mg) : FnOk P w K mg base CX0 1 f fd ["rows", "value"] (spOf K sp_put) := by
  refine def_ok F sc_law_put (fun ds n Q h => ?_) (fun cdv A outer s H E ds n Q hr h => ?_)
  · obtain ⟨R, as, a, l, v, rfl, _⟩ := h; rfl
  · obtain ⟨R, as, a, l, v, rfl, hR, ha, hne, hl, has, q⟩ := h
    show DSs _ _ _ [some (.ref R), some v] n _
    refine dss_cons (ds_expr (de_append (pd_ixo (pd_v 0 rfl) (pd_sub (pd_len T.len (pd_v 0 rfl) (.own hR)) pd_int) hR (refs_last a as)) ha (PD.to (pd_v 1 rfl) ⟨l, ha, Nat.lt_of_lt_of_le hl (by decide), ?_⟩)))
    have hR2 : dupd n a (.lst (l ++ [v])) R = some (.lst (refs (a :: as))) := by rw [dupd_ne hne]; exact hR
    have hx : atI [D.int 3, .int 2] (if decide ((1 : Int) < ((refs (a :: as)).length : Nat)) = true then 1 else 0) = some (.int ((if as.length + 1 > 1 then 2 else 3 : Nat) : Int)) := by
      rw [refs_len, List.length_cons]
      by_cases h : as.length + 1 > 1
      · rw [if_pos h, if_pos (decide_eq_true (by omega))]
        exact atI_of (by decide) rfl
      · rw [if_neg h, if_neg (by rw [decide_eq_false (by omega)]; exact Bool.false_ne_true)]
        exact atI_of (by decide) rfl
    exact dss_one (ds_ret (PD.to (pd_ix (pd_lst (pa_c pd_int (pa_c pd_int pa_n))) (pd_intB T.int (pd_gt (pd_len T.len (pd_v 0 rfl) (.own hR2)) pd_int)) rfl hx) q))
def resD : Res → D
  | .err q => .tup [.bl false, .int q]
  | .ok v => .tup [.bl true, v]
def F_lread (ds : List D) (o : D) : Prop := ∃ z : Str, ds = [.str z] ∧ z.length ≤ 100000 ∧ o = resD (lawRead (TL.tl z))
abbrev s_law_read : Stmt := topS 18
theorem sc_law_read : FnScope ["text", "rows", "mode", "figures", "k", "sign"] ["text"] (defScope s_law_read) := ⟨rfl, rfl, rfl, by decide +kernel, rfl, by decide +kernel, by decide +kernel⟩
structure RS (z : Str) (n : DH) (st : MS) (R : Addr) (as : List Addr) (B : Nat) (m : DH) : Prop where
  sb : Sub n m
  nR : n R = none
  mR : m R = some (.lst (refs as))
  Ra : R ∉ as
  rw : RowsAt n m as st.1
  ok : MOk st B
def slots (z : Str) (st : MS) (R : Addr) (fg : Str) (x4 x5 : Option D) : Rho := [some (.str z), some (.ref R), some (.int ((st.2.1 : Nat) : Int)), some (.str fg), x4, x5]
theorem ok_lread {f : Addr} {fd : FuncData} (F : Fun K "_law_read" "_law_read" s_law_read f fd) (T : Top7 mg) (C_put : DCal P w K mg base 1 "_law_put" sp_put) : FnOk P w K mg base CX0 2 f fd ["text"] (spOf K (spF F_lread)) := by
  refine def_ok F sc_law_read (fun ds n Q h => ?_) (fun cdv A outer s H E ds n Q hr h => ?_)
  · obtain ⟨_, ⟨z, rfl, _⟩, _⟩ := h; rfl
  · obtain ⟨_, ⟨z, rfl, hz, rfl⟩, q⟩ := h
    show DSs _ _ _ [some (.str z), none, none, none, none, none] n _
    have hzl : z.length ≤ sizeLine := sz5 hz
    have hzt : z.length = (TL.tl z).length := TL.len_tl z
    refine dss_cons (ds_set 1 sc_law_read.nd (de_lstO (da_one (de_lstO (da_nil ⟨Nat.zero_le _, fun a ha => ⟨szk rfl, fun R hR => ?_⟩⟩)))))
    have hRa : R ≠ a := fun e => by rw [e, dupd_same] at hR; cases hR
    rw [dupd_ne hRa] at hR
    refine dss_cons (ds_set 2 sc_law_read.nd (PD.to pd_int ?_))
    refine dss_cons (ds_set 3 sc_law_read.nd (PD.to pd_str ?_))
    show DSs _ _ _ (slots z ([[]], 0, []) R "" none none) (dupd (dupd n a (.lst [])) R (.lst (refs [a]))) _
    have i0 : RS z n ([[]], 0, []) R [a] 0 (dupd (dupd n a (.lst [])) R (.lst (refs [a]))) :=
      ⟨Sub.put (Sub.put Sub.refl ha) hR, hR, dupd_same, fun h => hRa (List.mem_singleton.mp h), ⟨ha, by rw [dupd_ne hRa.symm, dupd_same], List.not_mem_nil, trivial⟩,
        ⟨List.cons_ne_nil _ _, by decide, fun h => (by rcases h with h | h <;> cases h), fun h => (by cases h), fun h => absurd rfl h, fun c hc => (by cases hc), Nat.zero_le _, fun l hl => by rw [List.mem_singleton.mp hl]; exact Nat.le_refl _⟩⟩
    generalize dupd (dupd n a (.lst [])) R (.lst (refs [a])) = m0 at i0 ⊢
    have hput : ∀ (s : List (List D)), (if s.length > 1 then 2 else 3) = md s := fun s => rfl
    have hnum : ∀ {f : List Nat} {fg : Str}, TL.tl fg = f → f ≠ [] → (∀ c ∈ f, isDig c = true) → f.length ≤ 9 → PySem.intText? fg = some ((NumText.digitsVal f : Nat) : Int) := fun {f fg} hf h1 h2 h3 => by
      have := intText_digits (x := fg) (by
        show NumText.AllDigits (TL.tl _)
        rw [hf]
        intro x hx
        exact isDig_ge (h2 x hx)) (by show TL.tl _ ≠ []; rw [hf]; exact h1) (by rw [TL.len_tl, hf]; omega)
      have e : fg.cps.toList = f := hf
      rw [e] at this
      exact this
    refine dss_cons (ds_for (fun i r m => ∃ st R as fg x4 x5, r = slots z st R fg x4 x5 ∧ TL.tl fg = st.2.2 ∧ RS z n st R as (2 * i) m ∧ runM st ((TL.tl z).drop i) i = lawRead (TL.tl z)) PassesOwn.never rfl (di_range1 T.range (PD.to (pd_len T.len (pd_v 0 rfl) (.str hzl)) ⟨_, rfl, by omega, by omega, rfl, _, R, [a], "", none, none, rfl, rfl, i0, rfl⟩)) (fun i d r m hd hI => ⟨_, _, dg_v 4 sc_law_read.nd, ?_⟩) (fun r m hI => ?_))
    · obtain ⟨⟨s, md0, f⟩, R, as, fg, x4, x5, rfl, hf, S, hrun⟩ := hI
      obtain ⟨hi, rfl⟩ := dints_get hd
      rw [Int.toNat_natCast] at hi
      rw [Int.zero_add]
      have hi : i < (TL.tl z).length := by omega
      have hdr : (TL.tl z).drop i = (TL.tl z)[i] :: (TL.tl z).drop (i + 1) := List.drop_eq_getElem_cons hi
      rw [hdr] at hrun
      have hat : atI z.cps.toList (i : Int) = some (TL.tl z)[i] := at_nat (List.getElem?_eq_getElem hi)
      generalize (TL.tl z)[i] = c at hat hrun
      have hrun : (match mstep (s, md0, f) c with | none => Res.err i | some st' => runM st' ((TL.tl z).drop (i + 1)) (i + 1)) = lawRead (TL.tl z) := hrun
      refine dss_cons (ds_set 5 sc_law_read.nd (PD.to (pd_ixs (pd_v 0 rfl) (pd_v 4 rfl) hzl hat) ?_))
      show DSs _ _ _ (slots z (s, md0, f) R fg (some (.int i)) (some (.str ⟨#[c]⟩))) m _
      have hf : TL.tl fg = f := hf
      have hfl : fg.length ≤ 9 := by rw [TL.len_tl, hf]; exact S.ok.nine
      refine dss_one (ds_ifP (t := isDig c && (!(decide (f = []) || decide (f = [48])) && decide (f.length < 9))) (DT.imp (DW.dt (pw_a (pt_inS (pd_v 5 rfl) pd_str) fun _ => (pw_a (pt_nin (pd_v 3 rfl) (pd_lst (pa_c pd_str (pa_c pd_str pa_n))) rfl rfl rfl) fun _ => (pw_a1 (pt_lt (pd_len T.len (pd_v 3 rfl) (.str (sz5 (by omega)))) pd_int))))) (fun t m h => ⟨h.1.trans ?_, h.2⟩)) (fun h => ?_) (fun h => ?_))
      · congr 1
        · exact in_digs c
        · congr 1
          · congr 1
            show (decide (("" : Str) = fg) || (decide (("0" : Str) = fg) || false)) = _
            rw [Bool.or_false, str_eq, str_eq, hf]
            congr 1
            · congr 1
              exact propext ⟨fun h => h.symm, fun h => h.symm⟩
            · congr 1
              exact propext ⟨fun h => h.symm, fun h => h.symm⟩
          · congr 1
            rw [TL.len_tl, hf]
            apply propext
            constructor <;> intro h <;> omega
      · have hst : mstep (s, md0, f) c = some (s, md0, f ++ [c]) := if_pos h
        rw [hst] at hrun
        simp only [Bool.and_eq_true, Bool.not_eq_true', Bool.or_eq_false_iff, decide_eq_true_eq, decide_eq_false_iff_not] at h
        refine dss_one (ds_set 3 sc_law_read.nd (PD.to (pd_addS (pd_v 3 rfl) (pd_v 5 rfl) (sz5 (by have : (⟨#[c]⟩ : Str).length = 1 := rfl; omega))) ?_))
        refine ⟨(s, md0, f ++ [c]), R, as, fg ++ ⟨#[c]⟩, _, _, rfl, ?_, ⟨S.sb, S.nR, S.mR, S.Ra, S.rw, (S.ok.more h.1 h.2.1.1 h.2.2).up (by omega)⟩, hrun⟩
        rw [TL.tl_append, hf]
      have hst : mstep (s, md0, f) c = mact (flush (s, md0, f)) c := if_neg (by rw [h]; exact Bool.false_ne_true)
      rw [hst] at hrun
      clear hst h hat hd
      refine dss_cut (fun r m => ∃ s md0, flush (s, md0, f) = flush (s, md0, f) ∧ r = slots z (s, md0, []) R "" (some (.int i)) (some (.str ⟨#[c]⟩)) ∧ RS z n (s, md0, []) R as (2 * i + 1) m ∧ (match mact (s, md0, []) c with | none => Res.err i | some st' => runM st' ((TL.tl z).drop (i + 1)) (i + 1)) = lawRead (TL.tl z)) (ds_ifP (pt_ne (pd_v 3 rfl) pd_str) (fun h => ?_) (fun h => ?_)) ?_
      · have hne : f ≠ [] := fun e => by
          rw [str_eq, hf, e] at h
          exact absurd h (by decide)
        obtain ⟨a, as, rfl⟩ : ∃ a as', as = a :: as' := by
          cases as with
          | nil => have := S.rw.len; exact absurd (List.eq_nil_of_length_eq_zero this.symm) S.ok.ne
          | cons a as' => exact ⟨a, as', rfl⟩
        obtain ⟨l, s, rfl⟩ : ∃ l s', s = l :: s' := by
          cases s with
          | nil => exact absurd rfl S.ok.ne
          | cons l s' => exact ⟨l, s', rfl⟩
        obtain ⟨ra, rb, rc, rd⟩ := S.rw
        have hRa : R ≠ a := fun e => S.Ra (by rw [e]; exact List.mem_cons_self)
        have hll : l.length ≤ 2 * i := S.ok.row l List.mem_cons_self
        have hle : s.length + 1 ≤ 21 := S.ok.le
        have hlen : as.length = s.length := rd.len
        refine dss_cons (ds_set 2 sc_law_read.nd (de_call C_put hr (PDA.to (pa_c (pd_v 1 rfl) (pa_c (pd_intS T.int (pd_v 3 rfl) (hnum hf hne S.ok.dig S.ok.nine) (by omega)) pa_n)) ⟨R, as, a, l, _, rfl, S.mR, rb, hRa, by omega, by omega, ?_⟩)))
        refine dss_one (ds_set 3 sc_law_read.nd (PD.to pd_str ?_))
        rw [flush_fig hne] at hrun
        refine ⟨put (l :: s) (numVal f), md (l :: s), rfl, ?_, ⟨Sub.put S.sb ra, S.nR, by rw [dupd_ne hRa]; exact S.mR, S.Ra, ⟨ra, dupd_same, rc, rd.upd rc⟩, MOk.putMd (List.cons_ne_nil _ _) hle S.ok.row⟩, hrun⟩
        rw [hlen]
        rfl
      · have he : f = [] := by
          rw [str_eq, hf, show TL.tl ("" : Str) = [] from rfl] at h
          simpa using h
        subst he
        have hfg : fg = "" := TL.ext_tl hf
        subst hfg
        exact dss_nil ⟨s, md0, rfl, rfl, ⟨S.sb, S.nR, S.mR, S.Ra, S.rw, S.ok.up (by omega)⟩, hrun⟩
      clear hrun S hf hfl
      rintro r m ⟨s, md0, _, rfl, S, hrun⟩
      have hs21 : s.length ≤ 21 := S.ok.le
      have hal : as.length = s.length := S.rw.len
      refine dss_one (ds_ifP (t := isDig c && decide (md0 < 2)) (DT.imp (DW.dt (pw_a (pt_inS (pd_v 5 rfl) pd_str) fun _ => (pw_a1 (pt_lt (pd_v 2 rfl) pd_int)))) (fun t m h => ⟨h.1.trans ?_, h.2⟩)) (fun h => ?_) (fun h => ?_))
      · congr 1
        · exact in_digs c
        · congr 1
          apply propext
          show (((md0 : Nat) : Int) < 2) ↔ _
          constructor <;> intro h <;> omega
      · have hst : mact (s, md0, []) c = some (s, md0, [c]) := if_pos h
        rw [hst] at hrun
        simp only [Bool.and_eq_true, decide_eq_true_eq] at h
        exact dss_one (ds_set 3 sc_law_read.nd (PD.to (pd_v 5 rfl) ⟨(s, md0, [c]), R, as, ⟨#[c]⟩, _, _, rfl, rfl, ⟨S.sb, S.nR, S.mR, S.Ra, S.rw, (S.ok.first h.1 h.2).up (by omega)⟩, hrun⟩))
      refine dss_one (ds_ifP (t := decide (c = 40) && (decide (md0 < 2) && decide (s.length < 21))) (DT.imp (DW.dt (pw_a (pt_eq (pd_v 5 rfl) pd_str) fun _ => (pw_a (pt_lt (pd_v 2 rfl) pd_int) fun _ => (pw_a1 (pt_lt (pd_len T.len (pd_v 1 rfl) (.own S.mR)) pd_int))))) (fun t m h => ⟨h.1.trans ?_, h.2⟩)) (fun h2 => ?_) (fun h2 => ?_))
      · congr 1
        · exact one_sign (by decide +kernel)
        · congr 1
          · congr 1
            apply propext
            show (((md0 : Nat) : Int) < 2) ↔ _
            constructor <;> intro h <;> omega
          · congr 1
            rw [refs_len, hal]
            apply propext
            constructor <;> intro h <;> omega
      · have hst : mact (s, md0, []) c = some ([] :: s, 1, []) := by
          unfold mact
          rw [if_neg (by rw [h]; exact Bool.false_ne_true), if_pos h2]
        rw [hst] at hrun
        simp only [Bool.and_eq_true, decide_eq_true_eq] at h2
        refine dss_cons (ds_expr (de_append (pd_v 1 rfl) S.mR (de_lstO (da_nil ⟨Nat.zero_le _, fun a ha => ?_⟩))))
        have hRa : R ≠ a := fun e => by have := S.mR; rw [e, ha] at this; cases this
        have haas : a ∉ as := S.rw.new ha
        refine ⟨refs as, by rw [dupd_ne hRa]; exact S.mR, by rw [refs_len]; exact Nat.lt_of_le_of_lt (show as.length ≤ 21 by omega) (by decide), ?_⟩
        rw [← refs_cons]
        refine dss_one (ds_set 2 sc_law_read.nd (PD.to pd_int ⟨([] :: s, 1, []), R, a :: as, "", _, _, rfl, rfl, ⟨Sub.put (Sub.put S.sb (sub_none S.sb ha)) S.nR, S.nR, dupd_same, fun hz => ?_, ⟨sub_none S.sb ha, by rw [dupd_ne hRa.symm, dupd_same], haas, (S.rw.upd haas).upd S.Ra⟩, S.ok.opened h2.2.2 |>.up (by omega)⟩, hrun⟩))
        rcases List.mem_cons.mp hz with e | hz
        · exact hRa e
        · exact S.Ra hz
      refine dss_one (ds_ifP (t := decide (c = 41) && (decide (md0 = 1) || decide (md0 = 2))) (DT.imp (DW.dt (pw_a (pt_eq (pd_v 5 rfl) pd_str) fun _ => (pw_a1 (DW.dt (pw_o (pt_eq (pd_v 2 rfl) pd_int) fun _ => (pw_o1 (pt_eq (pd_v 2 rfl) pd_int))))))) (fun t m h => ⟨h.1.trans ?_, h.2⟩)) (fun h3 => ?_) (fun h3 => ?_))
      · congr 1
        · exact one_sign (by decide +kernel)
        · congr 1
          · congr 1
            apply propext
            show (((md0 : Nat) : Int) = 1) ↔ _
            constructor <;> intro h <;> omega
          · congr 1
            apply propext
            show (((md0 : Nat) : Int) = 2) ↔ _
            constructor <;> intro h <;> omega
      · have hst : mact (s, md0, []) c = some (put s.tail (.tup (s.headD [])), md s.tail, []) := by
          unfold mact
          rw [if_neg (by rw [h]; exact Bool.false_ne_true), if_neg (by rw [h2]; exact Bool.false_ne_true), if_pos h3]
        rw [hst] at hrun
        simp only [Bool.and_eq_true, Bool.or_eq_true, decide_eq_true_eq] at h3
        have h22 : 2 ≤ s.length := S.ok.two h3.2
        obtain ⟨l, l2, s, rfl⟩ : ∃ l l2 s', s = l :: l2 :: s' := by
          cases s with
          | nil => simp at h22
          | cons l s =>
            cases s with
            | nil => simp at h22
            | cons l2 s => exact ⟨l, l2, s, rfl⟩
        obtain ⟨a, a2, as, rfl⟩ : ∃ a a2 as', as = a :: a2 :: as' := by
          cases as with
          | nil => simp at hal
          | cons a as =>
            cases as with
            | nil => simp at hal
            | cons a2 as => exact ⟨a, a2, as, rfl⟩
        have hal2 : as.length = s.length := by simpa using hal
        have hs19 : s.length + 2 ≤ 21 := hs21
        obtain ⟨ra, rb, rc, ra2, rb2, rc2, rd⟩ := S.rw
        have hR1 : R ≠ a := fun e => S.Ra (by rw [e]; exact List.mem_cons_self)
        have hR2 : R ≠ a2 := fun e => S.Ra (by rw [e]; exact List.mem_cons_of_mem _ List.mem_cons_self)
        have hl2 : l2.length ≤ 2 * i + 1 := S.ok.row l2 (List.mem_cons_of_mem _ List.mem_cons_self)
        refine dss_cons (ds_set 2 sc_law_read.nd (de_call C_put hr (da_cons (de_slOO (pd_v 1 rfl) S.mR dp_n (dp_s (pd_neg pd_int)) (fun p hp => ?_)))))
        rw [refs_cut]
        have hpR : R ≠ p := fun e => by have := S.mR; rw [e, hp] at this; cases this
        have hpa : a ≠ p := fun e => by rw [e, hp] at rb; cases rb
        have hpa2 : a2 ≠ p := fun e => by rw [e, hp] at rb2; cases rb2
        have hR' : dupd m p (.lst (refs (a2 :: as))) R = some (.lst (refs (a :: a2 :: as))) := by rw [dupd_ne hpR]; exact S.mR
        refine da_one (PD.to (pd_tuple T.tuple (pd_ixo (pd_v 1 rfl) (pd_sub (pd_len T.len (pd_v 1 rfl) (.own hR')) pd_int) hR' (refs_last a _)) (.own (by rw [dupd_ne hpa]; exact rb))) ?_)
        refine ⟨p, as, a2, l2, .tup l, rfl, dupd_same, by rw [dupd_ne hpa2]; exact rb2, hpa2.symm, by omega, by omega, ?_⟩
        have hR'' : dupd (dupd m p (.lst (refs (a2 :: as)))) a2 (.lst (l2 ++ [.tup l])) R = some (.lst (refs (a :: a2 :: as))) := by rw [dupd_ne hR2]; exact hR'
        refine dss_one (ds_set 1 sc_law_read.nd (de_slOO (pd_v 1 rfl) hR'' dp_n (dp_s (pd_neg pd_int)) (fun p2 hp2 => ?_)))
        rw [refs_cut]
        have hp22 : a2 ≠ p2 := fun e => by rw [e, dupd_same] at hp2; cases hp2
        rw [dupd_ne hp22.symm] at hp2
        have hpp : p ≠ p2 := fun e => by rw [e, dupd_same] at hp2; cases hp2
        rw [dupd_ne hpp.symm] at hp2
        have rw0 : RowsAt n m (a2 :: as) (l2 :: s) := ⟨ra2, rb2, rc2, rd⟩
        refine ⟨(put (l2 :: s) (.tup l), md (l2 :: s), []), p2, a2 :: as, "", some (.int i), some (.str ⟨#[c]⟩), ?_, rfl, ⟨Sub.put (Sub.put (Sub.put S.sb (sub_none S.sb hp)) ra2) (sub_none S.sb hp2), sub_none S.sb hp2, dupd_same, rw0.new hp2, ?_, ?_⟩, hrun⟩
        · rw [hal2]
          rfl
        · refine ⟨ra2, by rw [dupd_ne hp22, dupd_same], rc2, ?_⟩
          have hpas : p ∉ as := fun e => rw0.new hp (List.mem_cons_of_mem _ e)
          have hp2as : p2 ∉ as := fun e => rw0.new hp2 (List.mem_cons_of_mem _ e)
          exact ((rd.upd hpas).upd rc2).upd hp2as
        · exact (MOk.putMd (List.cons_ne_nil _ _) (by show s.length + 1 ≤ 21; omega) (fun x hx => S.ok.row x (List.mem_cons_of_mem _ hx))).up (by omega)
      refine dss_one (ds_ifP (t := decide (c = 32) && decide (md0 = 2)) (DT.imp (DW.dt (pw_a (pt_eq (pd_v 5 rfl) pd_str) fun _ => (pw_a1 (pt_eq (pd_v 2 rfl) pd_int)))) (fun t m h => ⟨h.1.trans ?_, h.2⟩)) (fun h4 => ?_) (fun h4 => ?_))
      · congr 1
        · exact one_sign (by decide +kernel)
        · congr 1
          apply propext
          show (((md0 : Nat) : Int) = 2) ↔ _
          constructor <;> intro h <;> omega
      · have hst : mact (s, md0, []) c = some (s, 0, []) := by
          unfold mact
          rw [if_neg (by rw [h]; exact Bool.false_ne_true), if_neg (by rw [h2]; exact Bool.false_ne_true), if_neg (by rw [h3]; exact Bool.false_ne_true), if_pos h4]
        rw [hst] at hrun
        exact dss_one (ds_set 2 sc_law_read.nd (PD.to pd_int ⟨(s, 0, []), R, as, "", _, _, rfl, rfl, ⟨S.sb, S.nR, S.mR, S.Ra, S.rw, S.ok.blank.up (by omega)⟩, hrun⟩))
      have hst : mact (s, md0, []) c = none := by
        unfold mact
        rw [if_neg (by rw [h]; exact Bool.false_ne_true), if_neg (by rw [h2]; exact Bool.false_ne_true), if_neg (by rw [h3]; exact Bool.false_ne_true), if_neg (by rw [h4]; exact Bool.false_ne_true)]
      rw [hst] at hrun
      refine dss_one (ds_ret (DE.fg (PD.to (pd_tup (pa_c pd_bl (pa_c (pd_v 4 rfl) pa_n))) ⟨n, S.sb, ?_⟩)))
      rw [← hrun] at q
      exact q
    rw [dints_len, Int.toNat_natCast] at hI
    obtain ⟨⟨s, md0, f⟩, R, as, fg, x4, x5, rfl, hf, S, hrun⟩ := hI
    rw [hzt, List.drop_length] at hrun
    have hrun : mend (s, md0, f) (TL.tl z).length = lawRead (TL.tl z) := hrun
    unfold mend at hrun
    have hf : TL.tl fg = f := hf
    have hfl : fg.length ≤ 9 := by rw [TL.len_tl, hf]; exact S.ok.nine
    refine dss_cut (fun r m => ∃ fg', r = slots z (flush (s, md0, f)) R fg' x4 x5 ∧ RS z n (flush (s, md0, f)) R as (2 * z.length + 1) m) (ds_ifP (pt_ne (pd_v 3 rfl) pd_str) (fun h => ?_) (fun h => ?_)) ?_
    · have hne : f ≠ [] := fun e => by
        rw [str_eq, hf, e] at h
        exact absurd h (by decide)
      obtain ⟨a, as, rfl⟩ : ∃ a as', as = a :: as' := by
        cases as with
        | nil => have := S.rw.len; exact absurd (List.eq_nil_of_length_eq_zero this.symm) S.ok.ne
        | cons a as' => exact ⟨a, as', rfl⟩
      obtain ⟨l, s, rfl⟩ : ∃ l s', s = l :: s' := by
        cases s with
        | nil => exact absurd rfl S.ok.ne
        | cons l s' => exact ⟨l, s', rfl⟩
      obtain ⟨ra, rb, rc, rd⟩ := S.rw
      have hRa : R ≠ a := fun e => S.Ra (by rw [e]; exact List.mem_cons_self)
      have hll : l.length ≤ 2 * z.length := S.ok.row l List.mem_cons_self
      have hle : s.length + 1 ≤ 21 := S.ok.le
      have hlen : as.length = s.length := rd.len
      refine dss_one (ds_set 2 sc_law_read.nd (de_call C_put hr (PDA.to (pa_c (pd_v 1 rfl) (pa_c (pd_intS T.int (pd_v 3 rfl) (hnum hf hne S.ok.dig S.ok.nine) (by omega)) pa_n)) ⟨R, as, a, l, _, rfl, S.mR, rb, hRa, by omega, by omega, ?_⟩)))
      rw [flush_fig hne]
      refine ⟨fg, ?_, ⟨Sub.put S.sb ra, S.nR, by rw [dupd_ne hRa]; exact S.mR, S.Ra, ⟨ra, dupd_same, rc, rd.upd rc⟩, MOk.putMd (List.cons_ne_nil _ _) hle S.ok.row⟩⟩
      rw [hlen]
      rfl
    · have he : f = [] := by
        rw [str_eq, hf, show TL.tl ("" : Str) = [] from rfl] at h
        simpa using h
      subst he
      exact dss_nil ⟨fg, rfl, ⟨S.sb, S.nR, S.mR, S.Ra, S.rw, S.ok.up (by omega)⟩⟩
    clear S hf hfl
    rintro r m ⟨fg', rfl, S⟩
    generalize flush (s, md0, f) = st at hrun S ⊢
    refine dss_cons (ds_ifP (pt_eq (pd_v 2 rfl) pd_int) (fun h => ?_) (fun h => dss_nil ?_))
    · have h3 : st.2.1 = 3 := by
        have := of_decide_eq_true h
        have : ((st.2.1 : Nat) : Int) = 3 := this
        omega
      rw [if_pos h3] at hrun
      obtain ⟨x, l, hs⟩ := S.ok.thr h3
      have hrw := S.rw
      rw [hs] at hrw hrun
      obtain ⟨a, rfl⟩ : ∃ a, as = [a] := by
        have := hrw.len
        cases as with
        | nil => cases this
        | cons a as =>
          cases as with
          | nil => exact ⟨a, rfl⟩
          | cons b as => simp at this
      obtain ⟨ra, rb, _⟩ := hrw
      refine dss_one (ds_ret (DE.fg (PD.to (pd_tup (pa_c pd_bl (pa_c (pd_ixo (pd_ixo (i := 0) (y := .ref a) (pd_v 1 rfl) pd_int S.mR (atI_of (Int.le_refl 0) rfl)) pd_int rb (atI_of (Int.le_refl 0) rfl)) pa_n))) ⟨n, S.sb, ?_⟩)))
      rw [← hrun] at q
      exact q
    · have h3 : st.2.1 ≠ 3 := fun e => by
        have := of_decide_eq_false h
        have : ¬ ((st.2.1 : Nat) : Int) = 3 := this
        omega
      rw [if_neg h3] at hrun
      refine dss_one (ds_ret (DE.fg (PD.to (pd_tup (pa_c pd_bl (pa_c (pd_len T.len (pd_v 0 rfl) (.str hzl)) pa_n))) ⟨n, S.sb, ?_⟩)))
      rw [← hrun, ← hzt] at q
      exact q
end
end K7
set_option Elab.async false
set_option linter.all false
set_option maxRecDepth 100000
set_option maxHeartbeats 4000000
namespace M7
open PySem G3
theorem loop_Sm {k : Nat} {rv : List Nat → Nat → Out} (h : ∀ {s p v s' p'}, s.length ≤ 100000 → rv s p = .ok v s' p' → Sm k v ∧ s'.length < s.length) : ∀ (f : Nat) (acc : List D) (s : List Nat) (p : Nat) {v : D} {s' : List Nat} {p' : Nat}, acc.length + s.length ≤ 100000 → (∀ d ∈ acc, Sm k d) → loop rv f acc s p = .ok v s' p' → Sm (k + 1) v
  | 0, acc, s, p, v, s', p', _, _, e => by unfold loop at e; cases e
  | f + 1, acc, s, p, v, s', p', hl, ha, e => by
    unfold loop at e
    cases hrv : rv s p with
    | err q => rw [hrv] at e; cases e
    | ok v1 s1 p1 =>
      rw [hrv] at e
      obtain ⟨h1, h2⟩ := h (by omega) hrv
      have hall : ∀ d ∈ acc ++ [v1], Sm k d := fun d hd => by
        rcases List.mem_append.mp hd with hd | hd
        · exact ha d hd
        · rw [List.mem_singleton.mp hd]; exact h1
      cases s1 with
      | nil => cases e
      | cons c r =>
        dsimp only at e
        rw [List.length_cons] at h2
        by_cases e41 : c = 41
        · rw [if_pos e41] at e
          cases e
          refine ⟨?_, hall⟩
          rw [List.length_append]
          show acc.length + 1 ≤ 100000
          omega
        · rw [if_neg e41] at e
          by_cases e32 : c = 32
          · rw [if_pos e32] at e
            refine loop_Sm h f _ _ _ ?_ hall e
            rw [List.length_append]
            show acc.length + 1 + r.length ≤ 100000
            omega
          · rw [if_neg e32] at e
            cases e
theorem readV_Sm : ∀ (k : Nat) (s : List Nat) (p : Nat) {v : D} {s' : List Nat} {p' : Nat}, s.length ≤ 100000 → readV k s p = .ok v s' p' → Sm k v
  | k, [], p, v, s', p', _, e => by cases k <;> (unfold readV at e; cases e)
  | k, c :: r, p, v, s', p', hl, e => by
    by_cases hd : isDig c = true
    · rw [readV_dig hd] at e
      cases e
      cases k <;> trivial
    · have hd : isDig c = false := by simpa using hd
      cases k with
      | zero => rw [readV_bad hd (.inr rfl)] at e; cases e
      | succ k =>
        by_cases h40 : c = 40
        · subst h40
          unfold readV at e
          rw [if_neg (by rw [hd]; exact Bool.false_ne_true), if_pos rfl] at e
          by_cases h41 : r.head? = some 41
          · rw [if_pos h41] at e
            cases e
            exact ⟨Nat.zero_le _, fun d hd => by cases hd⟩
          · rw [if_neg h41] at e
            rw [List.length_cons] at hl
            exact loop_Sm (fun {s p v s' p'} h1 h => ⟨readV_Sm k s p h1 h, (readV_len k s p h).1⟩) _ _ _ _ (by rw [List.length_nil]; omega) (fun d hd => by cases hd) e
        · rw [readV_bad hd (.inl h40)] at e; cases e
theorem Sm_up : ∀ {k j : Nat} {d : D}, Sm k d → k ≤ j → Sm j d
  | k, j, .non, _, _ => by cases j <;> trivial
  | k, j, .bl _, _, _ => by cases j <;> trivial
  | k, j, .int _, _, _ => by cases j <;> trivial
  | k, j, .str _, _, _ => by cases j <;> trivial
  | k + 1, j, .tup l, h, hj => by
    obtain ⟨j, rfl⟩ : ∃ j', j = j' + 1 := ⟨j - 1, by omega⟩
    exact ⟨h.1, fun d hd => Sm_up (h.2 d hd) (by omega)⟩
  | k + 1, j, .lst l, h, hj => by
    obtain ⟨j, rfl⟩ : ∃ j', j = j' + 1 := ⟨j - 1, by omega⟩
    exact ⟨h.1, fun d hd => Sm_up (h.2 d hd) (by omega)⟩
  | 0, _, .tup _, h, _ => False.elim h
  | 0, _, .lst _, h, _ => False.elim h
  | 0, _, .ref _, h, _ => False.elim h
  | 0, _, .rol _, h, _ => False.elim h
  | 0, _, .dct _ _, h, _ => False.elim h
  | 0, _, .obj _ _ _, h, _ => False.elim h
  | _ + 1, _, .ref _, h, _ => False.elim h
  | _ + 1, _, .rol _, h, _ => False.elim h
  | _ + 1, _, .dct _ _, h, _ => False.elim h
  | _ + 1, _, .obj _ _ _, h, _ => False.elim h
theorem pro_Sm {t : List Nat} {v : D} (hl : t.length ≤ 100000) (h : proRead t = .ok v) : Sm 20 v := by
  unfold proRead at h
  cases hr : readV 20 t 0 with
  | err q => rw [hr] at h; cases h
  | ok v1 s1 p1 =>
    rw [hr] at h
    dsimp only at h
    by_cases e : s1 = []
    · rw [if_pos e] at h
      cases h
      exact readV_Sm 20 t 0 hl hr
    · rw [if_neg e] at h
      cases h
end M7
namespace K7
open PySem PySem.Spec PyProof.Rows L2 NdefX G3 M7
theorem takes_no {X : Cx} {Z : Hp × DH} : TakesD X Z (fun _ _ _ _ => False) := fun _ _ ⟨_, _, _, _, _, _, _, _, _, _, _, _, _, _, _, _, ⟨_, _, _, h, _⟩⟩ => h.elim
structure Err7 (K : PySem.W.Frag) (mg : Str → Option Value) (C C2 : Addr) : Prop where
  xf : XfC K C
  no : PySem.W.findIn K (.ref C) "at" = some none
  ec : ExcC K C
  exm : PySem.W.exmOne K (.ref C) (.ref C) = some true
  mB : mg "BadText" = some (.ref C)
  mH : mg "HushError" = some (.ref C2)
  mV : mg "ValueError" = none
  kh : PySem.W.kitOne K (.ref C) (.ref C2) = some true
  kv : PySem.W.kitOne K (.ref C) (.type "ValueError") = some true
section
variable {P : Program} {w : World} {K : PySem.W.Frag} {mg : Str → Option Value} {base : Heap}
def askD : Res → D
  | .err q => .lst [.str "text", .int q, .bl true]
  | .ok v => .tup [.str "told", v]
def F_ask (ds : List D) (o : D) : Prop := ∃ z : Str, ds = [.str z] ∧ z.length ≤ 100000 ∧ o = askD (proRead (TL.tl z))
abbrev s_law_asked : Stmt := topS 25
theorem sc_law_asked : FnScope ["text", "e"] ["text"] (defScope s_law_asked) := ⟨rfl, rfl, rfl, by decide +kernel, rfl, by decide +kernel, by decide +kernel⟩
theorem ok_ask {f : Addr} {fd : FuncData} {C C2 : Addr} (F : Fun K "_law_asked" "_law_asked" s_law_asked f fd) (T : Top7 mg) (R : Err7 K mg C C2) (C_rd : DCalX P w K mg base 24 "read_nested" (sp_rd C)) : FnOk P w K mg base CX0 25 f fd ["text"] (spOf K (spF F_ask)) := by
  refine def_ok F sc_law_asked (fun ds n Q h => ?_) (fun cdv A outer s H E ds n Q hr h => ?_)
  · obtain ⟨_, ⟨z, rfl, _⟩, _⟩ := h; rfl
  · obtain ⟨_, ⟨z, rfl, hz, rfl⟩, q⟩ := h
    show DSs _ _ _ [some (.str z), none] n _
    have hz2 : (TL.tl z).length ≤ 100000 := by rw [← TL.len_tl]; exact hz
    refine dss_one (ds_try_as (EX := fun _ _ _ _ => False) (fun cls fs r m => ∃ p : Nat, cls = .ref C ∧ fs = [(("at" : Str), D.int p)] ∧ r = [some (.str z), none] ∧ m = n ∧ proRead (TL.tl z) = .err p) (i := 1) rfl rfl sc_law_asked.nd rfl rfl ⟨rfl, by decide, .inl R.mB⟩ takes_no (fun pn xe Z' tk po => ?_) (fun cls fs r m h => ?_))
    ·
      refine dss_one (ds_ret (de_tup (da_cons (PD.to pd_str (da_one (de_callX C_rd tk hr (PDA.to (pa_c (pd_v 0 rfl) pa_n) ⟨z, rfl, hz2, ?_⟩)))))))
      cases hp : proRead (TL.tl z) with
      | err p => exact ⟨n, Sub.refl, p, rfl, rfl, rfl, rfl, rfl⟩
      | ok v =>
        rw [hp] at q
        exact ⟨szk rfl, q⟩
    · obtain ⟨p, rfl, rfl, rfl, rfl, hp⟩ := h
      refine ⟨true, R.exm, fun _ a oe d pn H1 hz hf rx => ?_, fun z => by cases z⟩
      show DSs _ _ _ [some (.str z), some (.ref a)] m _
      have hd : d ≠ none := fun e => by
        rw [e] at rx
        cases rx
      rw [hp] at q
      exact dss_one (ds_ret (PD.to (pd_lst (pa_c pd_str (pa_c (pd_xf R.xf R.no hz hf rx hd (pd_v 1 rfl) rfl) (pa_c (pd_and (t := true) (pd_isX R.ec hz hf rx T.isinstance (pd_v 1 rfl) (pe_glob (v := .ref C2) rfl R.mH rfl (by decide)) (fun u h => h) R.kh) fun _ => (pd_and1 (pd_isX (b := true) R.ec hz hf rx T.isinstance (pd_v 1 rfl) (pe_bltn (v := .ty "ValueError") rfl R.mV (by decide +kernel) rfl (by decide) (by decide)) (fun u h => h) R.kv))) pa_n)))) q))
def F_right (ds : List D) (o : D) : Prop := ∃ z : Str, ds = [.str z] ∧ z.length ≤ 100000 ∧ o = .bl true
abbrev s_law_right : Stmt := topS 26
theorem sc_law_right : FnScope ["text", "good", "found", "due"] ["text"] (defScope s_law_right) := ⟨rfl, rfl, rfl, by decide +kernel, rfl, by decide +kernel, by decide +kernel⟩
theorem ok_right {f : Addr} {fd : FuncData} (F : Fun K "_law_right" "_law_right" s_law_right f fd) (T : Top7 mg) (C_lread : DCal P w K mg base 2 "_law_read" (spF F_lread)) (C_ask : DCal P w K mg base 25 "_law_asked" (spF F_ask)) (C_same : DCal P w K mg base 25 "_law_same" (spF (F_same 24))) :
    FnOk P w K mg base CX0 26 f fd ["text"] (spOf K (spF F_right)) := by
  refine def_ok F sc_law_right (fun ds n Q h => ?_) (fun cdv A outer s H E ds n Q hr h => ?_)
  · obtain ⟨_, ⟨z, rfl, _⟩, _⟩ := h; rfl
  · obtain ⟨_, ⟨z, rfl, hz, rfl⟩, q⟩ := h
    show DSs _ _ _ [some (.str z), none, none, none] n _
    have hz2 : (TL.tl z).length ≤ 100000 := by rw [← TL.len_tl]; exact hz
    refine dss_cons (ds_asg (vs := []) (r2 := []) (PD.to (pd_call C_lread (hr.mono (by decide)) (pa_c (pd_v 0 rfl) pa_n) ⟨z, rfl, hz, rfl⟩) ?_))
    rw [same_read]
    cases hp : proRead (TL.tl z) with
    | ok v =>
      refine ⟨_, _, dg_tup rfl (dg_c (dg_v 1 sc_law_right.nd) (dg_c (dg_v 2 sc_law_right.nd) dg_n)), ?_⟩
      show DSs _ _ _ [some (.str z), some (.bl true), some v, none] n _
      refine dss_cons (ds_set 3 sc_law_right.nd (PD.to (pd_tup (pa_c pd_str (pa_c (pd_v 2 rfl) pa_n))) ?_))
      refine dss_cons (ds_ifP (pt_not (pt_val (pd_v 1 rfl))) (fun h => by cases h) (fun h => dss_nil ?_))
      have hS : Sm 24 (.lst [.tup [.str "told", v], .tup [.str "told", v]]) := by
        have hv := pro_Sm hz2 hp
        have ht : Sm 23 (.tup [.str "told", v]) := ⟨Nat.le_of_ble_eq_true rfl, fun d hd => by
          simp only [List.mem_cons, List.not_mem_nil, or_false] at hd
          rcases hd with rfl | rfl
          · trivial
          · exact Sm_up hv (by decide)⟩
        exact ⟨Nat.le_of_ble_eq_true rfl, fun d hd => by
          simp only [List.mem_cons, List.not_mem_nil, or_false, or_self] at hd
          rw [hd]; exact ht⟩
      exact dss_one (ds_ret (PD.to (pd_call C_same hr (pa_c (pd_lst (pa_c (pd_call C_ask hr (pa_c (pd_v 0 rfl) pa_n) ⟨z, rfl, hz, by rw [hp]; rfl⟩) (pa_c (pd_call C_ask hr (pa_c (pd_v 0 rfl) pa_n) ⟨z, rfl, hz, by rw [hp]; rfl⟩) pa_n))) (pa_c (pd_lst (pa_c (pd_v 3 rfl) (pa_c (pd_v 3 rfl) pa_n))) pa_n)) ⟨_, rfl, hS, rfl⟩) q))
    | err p =>
      refine ⟨_, _, dg_tup rfl (dg_c (dg_v 1 sc_law_right.nd) (dg_c (dg_v 2 sc_law_right.nd) dg_n)), ?_⟩
      show DSs _ _ _ [some (.str z), some (.bl false), some (.int p), none] n _
      refine dss_cons (ds_set 3 sc_law_right.nd (PD.to (pd_tup (pa_c pd_str (pa_c (pd_v 2 rfl) pa_n))) ?_))
      refine dss_cons (ds_ifP (pt_not (pt_val (pd_v 1 rfl))) (fun h => ?_) (fun h => by cases h))
      refine dss_one (ds_set 3 sc_law_right.nd (PD.to (pd_lst (pa_c pd_str (pa_c (pd_v 2 rfl) (pa_c pd_bl pa_n)))) ?_))
      have hS : Sm 24 (.lst [.lst [.str "text", .int p, .bl true], .lst [.str "text", .int p, .bl true]]) := by
        have ht : Sm 23 (.lst [.str "text", .int p, .bl true]) := ⟨Nat.le_of_ble_eq_true rfl, fun d hd => by
          simp only [List.mem_cons, List.not_mem_nil, or_false] at hd
          rcases hd with rfl | rfl | rfl <;> trivial⟩
        exact ⟨Nat.le_of_ble_eq_true rfl, fun d hd => by
          simp only [List.mem_cons, List.not_mem_nil, or_false, or_self] at hd
          rw [hd]; exact ht⟩
      exact dss_one (ds_ret (PD.to (pd_call C_same hr (pa_c (pd_lst (pa_c (pd_call C_ask hr (pa_c (pd_v 0 rfl) pa_n) ⟨z, rfl, hz, by rw [hp]; rfl⟩) (pa_c (pd_call C_ask hr (pa_c (pd_v 0 rfl) pa_n) ⟨z, rfl, hz, by rw [hp]; rfl⟩) pa_n))) (pa_c (pd_lst (pa_c (pd_v 3 rfl) (pa_c (pd_v 3 rfl) pa_n))) pa_n)) ⟨_, rfl, hS, rfl⟩) q))
end
end K7
set_option Elab.async false
set_option linter.all false
set_option maxRecDepth 100000
set_option maxHeartbeats 4000000
namespace K7
open PySem PySem.Spec PyProof.Rows L2 NdefX G3 M7
section
variable {P : Program} {w : World} {K : PySem.W.Frag} {mg : Str → Option Value} {base : Heap}
def F_law (ds : List D) (o : D) : Prop := ∃ is : List Int, ds = [.rol (is.map D.int)] ∧ is.length ≤ 63 ∧ o = .bl true
abbrev s_law : Stmt := topS 27
theorem sc_law : FnScope ["script", "state", "turn", "value", "text", "k", "spoilt"] ["script"] (defScope s_law) := ⟨rfl, rfl, rfl, by decide +kernel, rfl, by decide +kernel, by decide +kernel⟩
theorem ok_law {f : Addr} {fd : FuncData} {C : Addr} (F : Fun K "law" "law" s_law f fd) (T : Top7 mg) (C_start : DCal P w K mg base 3 "_law_start" sp_start) (C_value : DCal P w K mg base 9 "_law_value" sp_value) (C_lw : DCal P w K mg base 31 "_law_written" (sp_wn 30)) (C_lev : DCal P w K mg base 31 "_law_levels" (spF (F_lev 30)))
    (C_wn : DCal P w K mg base 21 "write_nested" (sp_wn 20)) (C_wnK : DCalK P w K mg base 21 "write_nested" ["value"] (sp_wn 20)) (C_rd : DCalX P w K mg base 24 "read_nested" (sp_rd C)) (C_rdK : DCalXK P w K mg base 24 "read_nested" ["text"] (sp_rd C))
    (C_same : DCal P w K mg base 25 "_law_same" (spF (F_same 24))) (C_right : DCal P w K mg base 26 "_law_right" (spF F_right)) (C_spoilt : DCal P w K mg base 3 "_law_spoilt" sp_spoilt) (C_built : DCal P w K mg base 3 "_law_built" sp_built) :
    FnOk P w K mg base CX0 32 f fd ["script"] (spOf K (spF F_law)) := by
  refine def_ok F sc_law (fun ds n Q h => ?_) (fun cdv A outer s H E ds n Q hr h => ?_)
  · obtain ⟨_, ⟨is, rfl, _⟩, _⟩ := h; rfl
  · obtain ⟨_, ⟨is, rfl, hl, rfl⟩, q⟩ := h
    show DSs _ _ _ [some (.rol (is.map D.int)), none, none, none, none, none, none] n _
    refine dss_cons (ds_set 1 sc_law.nd (de_call C_start (hr.mono (by decide)) (PDA.to (pa_c (pd_v 0 rfl) pa_n) ⟨is, rfl, hl, fun st o hst hO => ?_⟩)))
    have kp := At.keeps (Ok := StOk) (n := n) (st := st)
    have A0 : At StOk n st (dupd n st o) := ⟨o, hO, rfl⟩
    generalize dupd n st o = m0 at A0 ⊢
    refine dss_cons (ds_for (fun i r m => (∃ x2 x3 x4 x5 x6, r = [some (.rol (is.map D.int)), some (.ref st), x2, x3, x4, x5, x6]) ∧ At StOk n st m) PassesOwn.never rfl (di_range1 T.range (PD.to pd_int ⟨3, rfl, by decide, by decide, rfl, ⟨_, _, _, _, _, rfl⟩, A0⟩)) (fun i d r m hd hI => ⟨_, _, dg_v 2 sc_law.nd, ?_⟩) (fun r m hI => ?_))
    · obtain ⟨⟨x2, x3, x4, x5, x6, rfl⟩, A1⟩ := hI
      obtain ⟨o1, h1, hO1⟩ := kp.hat A1
      refine dss_cons (ds_set 3 sc_law.nd (de_call C_value (hr.mono (by decide)) (PDA.to (pa_c (pd_v 1 rfl) pa_n) ⟨st, o1, rfl, h1, hO1, fun v m1 hv hw A2 => ?_⟩)))
      have A2 := A1.trans A2
      show DSs _ _ _ [some (.rol (is.map D.int)), some (.ref st), some d, some v, x4, x5, x6] m1 _
      refine dss_cons (ds_set 4 sc_law.nd (PD.to (pd_call C_lw hr (pa_c (pd_v 3 rfl) pa_n) ⟨v, rfl, hv, by omega, rfl⟩) ?_))
      show DSs _ _ _ [some (.rol (is.map D.int)), some (.ref st), some d, some v, some (.str (wrS v)), x5, x6] m1 _
      have hwl : (wrS v).length ≤ 20000 := by rw [TL.len_tl]; exact hw
      refine dss_cut (fun r m => r = [some (.rol (is.map D.int)), some (.ref st), some d, some v, some (.str (wrS v)), x5, x6] ∧ m = m1) (ds_ifP (pt_lt (pd_call C_lev hr (pa_c (pd_v 3 rfl) pa_n) ⟨v, rfl, hv, rfl⟩) pd_int) (fun h => ?_) (fun h => dss_nil ⟨rfl, rfl⟩)) ?_
      · have hlev := of_decide_eq_true h
        have hv20 : Nv 20 v := Nv_mono v (lev_Nv v hv) (by omega)
        have hS : Sm 24 (.tup [.str (wrS v), v]) := ⟨Nat.le_of_ble_eq_true rfl, fun d hd => by
          simp only [List.mem_cons, List.not_mem_nil, or_false] at hd
          rcases hd with rfl | rfl
          · trivial
          · exact Sm_up (Sm_Nv 20 _ hv20 (by omega)) (by decide)⟩
        refine dss_cons (ds_ifP (pt_not (pt_val (pd_call C_same (hr.mono (by decide)) (pa_c (pd_tup (pa_c (pd_call C_wn (hr.mono (by decide)) (pa_c (pd_v 3 rfl) pa_n) ⟨v, rfl, hv20, by omega, rfl⟩) (pa_c (x := v) (de_callX0 C_rd (hr.mono (by decide)) (PDA.to (pa_c (pd_v 4 rfl) pa_n) ⟨wrS v, rfl, by rw [← TL.len_tl]; omega, by rw [wrS_tl, pro_wr hv20]; exact ⟨rfl, rfl⟩⟩)) pa_n))) (pa_c (pd_tup (pa_c (pd_v 4 rfl) (pa_c (pd_v 3 rfl) pa_n))) pa_n)) ⟨_, rfl, hS, rfl⟩))) (fun h => by cases h) (fun h => dss_nil ?_))
        exact dss_one (ds_ifP (pt_not (pt_val (pd_call C_same (hr.mono (by decide)) (pa_c (pd_tup (pa_c (x := .str (wrS v)) (de_callKw C_wnK (hr.mono (by decide)) (dk_cons (PD.to (pd_v 3 rfl) (dk_nil ⟨_, ⟨v, rfl, hv20, by omega, rfl⟩, rfl, rfl⟩)))) (pa_c (x := v) (de_callXKw0 C_rdK (hr.mono (by decide)) (dk_cons (PD.to (pd_v 4 rfl) (dk_nil ⟨wrS v, rfl, by rw [← TL.len_tl]; omega, by rw [wrS_tl, pro_wr hv20]; exact ⟨rfl, rfl⟩⟩)))) pa_n))) (pa_c (pd_tup (pa_c (pd_v 4 rfl) (pa_c (pd_v 3 rfl) pa_n))) pa_n)) ⟨_, rfl, hS, rfl⟩))) (fun h => by cases h) (fun h => dss_nil ⟨rfl, rfl⟩))
      rintro r m ⟨rfl, rfl⟩
      refine dss_cons (ds_ifP (pt_not (pt_val (pd_call C_right (hr.mono (by decide)) (pa_c (pd_v 4 rfl) pa_n) ⟨wrS v, rfl, by omega, rfl⟩))) (fun h => by cases h) (fun h => dss_nil ?_))
      refine dss_one (ds_for (fun i r m => (∃ x5 x6, r = [some (.rol (is.map D.int)), some (.ref st), some d, some v, some (.str (wrS v)), x5, x6]) ∧ At StOk n st m) PassesOwn.never rfl (di_range1 T.range (PD.to pd_int ⟨6, rfl, by decide, by decide, rfl, ⟨_, _, rfl⟩, A2⟩)) (fun i d2 r m hd hI => ⟨_, _, dg_v 5 sc_law.nd, ?_⟩) (fun r m hI => ?_))
      · obtain ⟨⟨x5, x6, rfl⟩, A3⟩ := hI
        obtain ⟨hi, rfl⟩ := dints_get hd
        obtain ⟨o3, h3, hO3⟩ := kp.hat A3
        refine dss_cons (ds_set 6 sc_law.nd (de_call C_spoilt (hr.mono (by decide)) (PDA.to (pa_c (pd_v 1 rfl) (pa_c (pd_v 4 rfl) pa_n)) ⟨st, o3, wrS v, rfl, h3, hO3, by omega, fun z m2 hz A4 => ?_⟩)))
        have A4 := A3.trans A4
        show DSs _ _ _ [some (.rol (is.map D.int)), some (.ref st), some d, some v, some (.str (wrS v)), some (.int (0 + (i : Nat))), some (.str z)] m2 _
        refine dss_cut (fun r m => ∃ z, r = [some (.rol (is.map D.int)), some (.ref st), some d, some v, some (.str (wrS v)), some (.int (0 + (i : Nat))), some (.str z)] ∧ z.length ≤ 30000 ∧ At StOk n st m) (ds_ifP (pt_gt (pd_v 5 rfl) pd_int) (fun h => ?_) (fun h => dss_nil ⟨z, rfl, by omega, A4⟩)) ?_
        · obtain ⟨o4, h4, hO4⟩ := kp.hat A4
          refine dss_one (ds_set 6 sc_law.nd (de_call C_spoilt (hr.mono (by decide)) (da_cons (PD.to (pd_v 1 rfl) (da_one (de_call C_spoilt (hr.mono (by decide)) (PDA.to (pa_c (pd_v 1 rfl) (pa_c (pd_v 6 rfl) pa_n)) ⟨st, o4, z, rfl, h4, hO4, by omega, fun z2 m3 hz2 A5 => ?_⟩)))))))
          have A5 := A4.trans A5
          obtain ⟨o5, h5, hO5⟩ := kp.hat A5
          exact ⟨st, o5, z2, rfl, h5, hO5, by omega, fun z3 m4 hz3 A6 => ⟨z3, rfl, by omega, A5.trans A6⟩⟩
        rintro r m ⟨z, rfl, hz, A5⟩
        obtain ⟨o5, h5, hO5⟩ := kp.hat A5
        refine dss_one (ds_if (DT.imp (Q := fun t m => t = false ∧ At StOk n st m) (DW.dt (dw_or (PDT.to (pt_not (pt_val (pd_call C_right (hr.mono (by decide)) (pa_c (pd_v 6 rfl) pa_n) ⟨z, rfl, by omega, rfl⟩))) (dw_or1 (dt_not (dt_val (de_call C_right (hr.mono (by decide)) (da_one (de_call C_built (hr.mono (by decide)) (PDA.to (pa_c (pd_v 1 rfl) pa_n) ⟨st, o5, rfl, h5, hO5, fun z2 m3 hz2 A6 => ⟨.bl true, ⟨z2, rfl, by omega, rfl⟩, true, rfl, rfl, A5.trans A6⟩⟩)))))))))) (fun t m h => ?_)))
        obtain ⟨rfl, A6⟩ := h
        rw [if_neg Bool.false_ne_true]
        exact dss_nil ⟨⟨_, _, rfl⟩, A6⟩
      · obtain ⟨⟨x5, x6, rfl⟩, A3⟩ := hI
        exact ⟨⟨_, _, _, _, _, rfl⟩, A3⟩
    · obtain ⟨⟨x2, x3, x4, x5, x6, rfl⟩, A3⟩ := hI
      obtain ⟨o9, _, rfl⟩ := A3
      exact dss_one (ds_ret (DE.fg (PD.to pd_bl ⟨n, Sub.up hst, q⟩)))
end
end K7
set_option Elab.async false
set_option linter.all false
set_option maxRecDepth 100000
set_option maxHeartbeats 4000000
namespace G3
open PySem PySem.Spec PyProof.Rows L2
structure DefAt (K : PySem.W.Frag) (x : Str) (st : Stmt) (f : Addr) (fd : FuncData) : Prop where
  ns : PySem.W.nsIn K mainGlobals x = some (some (.ref f))
  fn : Fun K x x st f fd
theorem DefAt.mg {K : PySem.W.Frag} {x : Str} {st : Stmt} {f : Addr} {fd : FuncData} {h : Heap} {mg : Str → Option Value} (D : DefAt K x st f fd) (X : K.In h) (G : h.Ns mainGlobals mg) : mg x = some (.ref f) := PySem.W.mg_of X G D.ns
theorem DefAt.cal {P : Program} {w : World} {K : PySem.W.Frag} {mg : Str → Option Value} {base : Heap} {x : Str} {st : Stmt} {f : Addr} {fd : FuncData} {h : Heap} {k : Nat} {ps : List Str} {sp : DSp} (D : DefAt K x st f fd) (X : K.In h) (G : h.Ns mainGlobals mg) (b : Binds K fd ps []) (o : FnOk P w K mg base CX0 k f fd ps (spOf K sp)) : DCal P w K mg base k x sp := ⟨⟨f, fd, ps, o, D.mg X G, D.fn.kp, b⟩⟩
theorem DefAt.calX {P : Program} {w : World} {K : PySem.W.Frag} {mg : Str → Option Value} {base : Heap} {x : Str} {st : Stmt} {f : Addr} {fd : FuncData} {h : Heap} {k : Nat} {ps : List Str} {sp : DSpX} (D : DefAt K x st f fd) (X : K.In h) (G : h.Ns mainGlobals mg) (b : Binds K fd ps []) (o : FnOk P w K mg base (L2.CX P w) k f fd ps (spOfX K sp)) : DCalX P w K mg base k x sp := ⟨⟨f, fd, ps, o, D.mg X G, D.fn.kp, b⟩⟩
theorem kit_ref {K : PySem.W.Frag} {t : Value} {C : Addr} (h1 : PySem.W.hasDictIn K C = true) (h2 : PySem.W.typeIn K (.ref C) = some (.type "type")) (h3 : PySem.W.subIn K t (.ref C) = some true) : PySem.W.kitOne K t (.ref C) = some true := by
  have h0 : (PySem.W.clsIn K C).isSome = true := by
    obtain ⟨cd, hc, _⟩ := PySem.W.any_some h1
    rw [hc]; rfl
  unfold PySem.W.kitOne PySem.W.kitCls
  dsimp only
  rw [h0, h2, h3]
  split <;> rfl
theorem kit_typ {K : PySem.W.Frag} {t : Value} {T : String} (h1 : PySem.W.kitMeta T = true) (h3 : PySem.W.subIn K t (.type T) = some true) : PySem.W.kitOne K t (.type T) = some true := by
  unfold PySem.W.kitOne PySem.W.kitCls
  dsimp only
  rw [if_pos h1, h3]
  split <;> rfl
theorem law_sp {K : PySem.W.Frag} {F : List D → D → Prop} (hF : ∀ ns : List Int, ns.length ≤ 63 → F [.rol (ns.map D.int)] (.bl true)) (H : Hp) (a : Addr) (ns : List Int) (hl : ns.length ≤ 63) (hS : SqL K H a (ns.map V.int)) : spOf K (spF F) [.ref a] H (fun v _ => v = .bl true) fun _ _ _ => False := by
  refine ⟨[.rol (ns.map D.int)], fun _ => none, fun d _ => d = .bl true, fun a o h => (by cases h), RepL.one ⟨a, _, rfl, ?_, RepL.of_ints⟩, ⟨_, hF ns hl, rfl⟩, fun d n' v H' e _ _ rv => by
    subst e
    exact rv⟩
  rcases hS with h | h
  · exact .inl ⟨rfl, h⟩
  · exact .inr h
end G3
namespace K7
open PySem PySem.Spec PyProof.Rows L2 NdefX G3 M7
theorem init_mk {K : PySem.W.Frag} {C fI cda cc : Addr} {oc kV doc pm ct : Value} {od an : Option Addr} {osl : Array (Option Value)} {c2 : Value} {cd2 : Option Addr} {vs : Array Value} {sl2 : Array (Option Value)} {file : Str} {tf : Tok} {c3 : Value} {cd3 : Option Addr} {sl3 : Array (Option Value)} {cdx : ClassData}
    {nm q : Str} {N : Addr} {bs bm : List Value} {sn : List Str} {sub : List Value} {ab : Bool} {col : Option Bool} {dd : Option Addr} {k0 k1 k2 k3 k5 : Option Value}
    (lk : K.lookup fI = some ⟨oc, od, .func (PySem.W.fnX "__init__" "BadText.__init__" (defArgs s_init) (defBody s_init) (defScope s_init) [(("__class__" : Str), cc)] .none kV doc pm an (.ref cda) ct), osl⟩) (cd : PySem.W.codeIn K (.ref cda) "BadText.__init__" = true)
    (cf : K.lookup cda = some ⟨c2, cd2, .fields vs, sl2⟩) (v2 : vs[2]? = some (.str file tf)) (fl : ((PySem.Challenge.pw_hushsheets_k77_written_and_read.main.file : Str) == file) = true) (ce : K.lookup cc = some ⟨c3, cd3, .cell (some (.ref C)), sl3⟩) (cl : PySem.W.clsIn K C = some cdx)
    (tp : (PySem.Challenge.pw_hushsheets_k77_written_and_read.main.scope.names.lookup ("super" : Str)).isSome = false)
    (ol : K.lookup C = some (excClassObj nm q C N bs bm true sn sub ab col dd k0 k1 k2 k3 k5 "ValueError.__new__")) (vb : PySem.HandSPX.refsVE bm = true)
    (sa : PySem.W.findIn K (.ref C) "__setattr__" = some (some (.builtin "object.__setattr__"))) (exC : PySem.W.subIn K (.ref C) (.type "BaseException") = some true) (tyC : PySem.W.typeIn K (.ref C) = some (.type "type")) (kC : PySem.W.keepIn K (.ref C) = true)
    (sb : PySem.W.mroIn K C (.ref C) = some true) (th : PySem.W.nsIn K cStatics "thirdparty.any" = some none) (hm : PySem.W.ks_superIn K C C "__init__" = some (some (.builtin "ValueError.__init__"))) (hB : PySem.W.subIn K (.ref C) (.type "ValueError") = some true) (hat : PySem.W.findIn K (.ref C) "at" = some none) :
    InitTxt PySem.Challenge.pw_hushsheets_k77_written_and_read K (fun _ => none) C fI cda cc (PySem.W.fnX "__init__" "BadText.__init__" (defArgs s_init) (defBody s_init) (defScope s_init) [(("__class__" : Str), cc)] .none kV doc pm an (.ref cda) ct) :=
  ⟨⟨_, _, _, _, _, _, _, _, lk, rfl⟩, cd, ⟨⟨_, _, _, lk⟩, ⟨_, rfl, rfl⟩, ⟨_, _, _, _, _, _, cf, v2, fl⟩, ⟨_, _, _, ce⟩, ⟨_, cl⟩, tp⟩, ⟨⟨_, _, _, _, _, _, _, _, _, _, _, _, _, _, _, ol, vb⟩, sa, exC, tyC, kC⟩, sb, th, hm, hB, hat, rfl⟩
theorem all_mk {w : World} {K : PySem.W.Frag} {h : Heap} {mg : Str → Option Value} {fa C C2 fI cda cc : Addr} {fdI : FuncData} {t1 t2 t3 : Tok} (X : K.In h) (G : h.Ns mainGlobals mg) (hfa : mg "law" = some (.ref fa))
    {f7 f8 f9 f10 f12 f13 f14 f15 f16 f17 f18 f19 f20 f21 f22 f23 f24 f25 f26 f27 : Addr} {e7 e8 e9 e10 e12 e13 e14 e15 e16 e17 e18 e19 e20 e21 e22 e23 e24 e25 e26 e27 : FuncData}
    (d7 : DefAt K "write_nested" s_write_nested f7 e7) (d8 : DefAt K "_read_number" s_read_number f8 e8) (d9 : DefAt K "_read_value" s_read_value f9 e9) (d10 : DefAt K "read_nested" s_read_nested f10 e10)
    (d12 : DefAt K "_law_mixed" s_law_mixed f12 e12) (d13 : DefAt K "_law_draw" s_law_draw f13 e13) (d14 : DefAt K "_law_start" s_law_start f14 e14) (d15 : DefAt K "_law_same" s_law_same f15 e15) (d16 : DefAt K "_law_written" s_law_written f16 e16)
    (d17 : DefAt K "_law_put" s_law_put f17 e17) (d18 : DefAt K "_law_read" s_law_read f18 e18) (d19 : DefAt K "_law_signs" s_law_signs f19 e19) (d20 : DefAt K "_law_nested" s_law_nested f20 e20) (d21 : DefAt K "_law_value" s_law_value f21 e21)
    (d22 : DefAt K "_law_levels" s_law_levels f22 e22) (d23 : DefAt K "_law_spoilt" s_law_spoilt f23 e23) (d24 : DefAt K "_law_built" s_law_built f24 e24) (d25 : DefAt K "_law_asked" s_law_asked f25 e25) (d26 : DefAt K "_law_right" s_law_right f26 e26) (d27 : DefAt K "law" s_law f27 e27)
    (z1 : PySem.W.nsIn K mainGlobals "len" = some none) (z2 : PySem.W.nsIn K mainGlobals "int" = some none) (z3 : PySem.W.nsIn K mainGlobals "str" = some none) (z4 : PySem.W.nsIn K mainGlobals "tuple" = some none) (z5 : PySem.W.nsIn K mainGlobals "list" = some none)
    (z6 : PySem.W.nsIn K mainGlobals "isinstance" = some none) (z7 : PySem.W.nsIn K mainGlobals "max" = some none) (z8 : PySem.W.nsIn K mainGlobals "range" = some none) (z9 : PySem.W.nsIn K mainGlobals "bool" = some none) (z10 : PySem.W.nsIn K mainGlobals "ValueError" = some none) (z11 : PySem.W.nsIn K mainGlobals "super" = some none)
    (y1 : PySem.W.nsIn K mainGlobals "DIGITS" = some (some (.str "0123456789" t1))) (y2 : PySem.W.nsIn K mainGlobals "MOST_LEVELS" = some (some (.int 20 t2))) (y3 : PySem.W.nsIn K mainGlobals "MOST_DIGITS" = some (some (.int 9 t3)))
    (x1 : PySem.W.nsIn K mainGlobals "BadText" = some (some (.ref C))) (x2 : PySem.W.nsIn K mainGlobals "HushError" = some (some (.ref C2)))
    (xf : XfC K C) (no : PySem.W.findIn K (.ref C) "at" = some none) (ec : ExcC K C) (exm : PySem.W.exmOne K (.ref C) (.ref C) = some true) (kh : PySem.W.kitOne K (.ref C) (.ref C2) = some true) (kv : PySem.W.kitOne K (.ref C) (.type "ValueError") = some true)
    (it : InitTxt PySem.Challenge.pw_hushsheets_k77_written_and_read K (fun _ => none) C fI cda cc fdI) (iI : PySem.W.findIn K (.ref C) "__init__" = some (some (.ref fI))) (iT : PySem.W.typeIn K (.ref fI) = some (.type "function")) (iB : Binds K fdI ["self", "at"] []) :
    ∃ fd : FuncData, (∀ (s : Shared) (v : Value), BindsTo s fd ⟨[v], []⟩ [("script", v)]) ∧ ∀ base : Heap, K.In base → base.Ns mainGlobals mg → FnOk PySem.Challenge.pw_hushsheets_k77_written_and_read w K mg base CX0 32 fa fd ["script"] (spOf K (spF F_law)) := by
  have e := hfa.symm.trans (d27.mg X G)
  cases e
  have zn := fun {x : Str} (z : PySem.W.nsIn K mainGlobals x = some none) => PySem.W.mg_none_of X G z
  have T : Top7 mg := ⟨zn z1, zn z2, zn z3, zn z4, zn z5, zn z6, zn z7, zn z8, zn z9⟩
  have Tc : Top7c mg := { T with dig := ⟨t1, PySem.W.mg_of X G y1⟩, lev := ⟨t2, PySem.W.mg_of X G y2⟩, num := ⟨t3, PySem.W.mg_of X G y3⟩ }
  have R : Err7 K mg C C2 := ⟨xf, no, ec, exm, PySem.W.mg_of X G x1, PySem.W.mg_of X G x2, zn z10, kh, kv⟩
  have I : InitTxt PySem.Challenge.pw_hushsheets_k77_written_and_read K mg C fI cda cc fdI := ⟨it.lk, it.cd, it.st, it.oc, it.sub, it.th, it.hm, it.hB, it.hat, zn z11⟩
  refine ⟨e27, fun s v => ?_, fun base _ _ => ?_⟩
  · obtain ⟨oc, od, kV, doc, pm, an, cdv, ct, osl, rfl, lk, hcd⟩ := d27.fn.ex
    exact .of_eq rfl
  have RI : RaiseI PySem.Challenge.pw_hushsheets_k77_written_and_read w K mg base "BadText" C "at" := ⟨I.oc, ⟨fI, fdI, _, iI, iT, ok_init I, iB⟩, PySem.W.mg_of X G x1⟩
  have b7 := d7.fn.binds (ps := ["value"]) fun _ _ _ _ _ _ us hl => match us, hl with | [_], _ => rfl
  have b8 := d8.fn.binds (ps := ["text", "at"]) fun _ _ _ _ _ _ us hl => match us, hl with | [_, _], _ => rfl
  have b9 := d9.fn.binds (ps := ["text", "at", "depth"]) fun _ _ _ _ _ _ us hl => match us, hl with | [_, _, _], _ => rfl
  have b10 := d10.fn.binds (ps := ["text"]) fun _ _ _ _ _ _ us hl => match us, hl with | [_], _ => rfl
  have b12 := d12.fn.binds (ps := ["cell", "turn"]) fun _ _ _ _ _ _ us hl => match us, hl with | [_, _], _ => rfl
  have b13 := d13.fn.binds (ps := ["state", "limit"]) fun _ _ _ _ _ _ us hl => match us, hl with | [_, _], _ => rfl
  have b14 := d14.fn.binds (ps := ["script"]) fun _ _ _ _ _ _ us hl => match us, hl with | [_], _ => rfl
  have b15 := d15.fn.binds (ps := ["actual", "due"]) fun _ _ _ _ _ _ us hl => match us, hl with | [_, _], _ => rfl
  have b16 := d16.fn.binds (ps := ["value"]) fun _ _ _ _ _ _ us hl => match us, hl with | [_], _ => rfl
  have b17 := d17.fn.binds (ps := ["rows", "value"]) fun _ _ _ _ _ _ us hl => match us, hl with | [_, _], _ => rfl
  have b18 := d18.fn.binds (ps := ["text"]) fun _ _ _ _ _ _ us hl => match us, hl with | [_], _ => rfl
  have b19 := d19.fn.binds (ps := []) fun _ _ _ _ _ _ us hl => match us, hl with | [], _ => rfl
  have b20 := d20.fn.binds (ps := ["state", "deep", "left"]) fun _ _ _ _ _ _ us hl => match us, hl with | [_, _, _], _ => rfl
  have b21 := d21.fn.binds (ps := ["state"]) fun _ _ _ _ _ _ us hl => match us, hl with | [_], _ => rfl
  have b22 := d22.fn.binds (ps := ["value"]) fun _ _ _ _ _ _ us hl => match us, hl with | [_], _ => rfl
  have b23 := d23.fn.binds (ps := ["state", "text"]) fun _ _ _ _ _ _ us hl => match us, hl with | [_, _], _ => rfl
  have b24 := d24.fn.binds (ps := ["state"]) fun _ _ _ _ _ _ us hl => match us, hl with | [_], _ => rfl
  have b25 := d25.fn.binds (ps := ["text"]) fun _ _ _ _ _ _ us hl => match us, hl with | [_], _ => rfl
  have b26 := d26.fn.binds (ps := ["text"]) fun _ _ _ _ _ _ us hl => match us, hl with | [_], _ => rfl
  have k7 := KB0.of (ks := ["value"]) d7.fn fun _ _ _ _ _ _ us hl => match us, hl with | [_], _ => rfl
  have k10 := KB0.of (ks := ["text"]) d10.fn fun _ _ _ _ _ _ us hl => match us, hl with | [_], _ => rfl
  have C12 := d12.cal X G b12 (ok_mixed (P := PySem.Challenge.pw_hushsheets_k77_written_and_read) (w := w) (base := base) d12.fn T)
  have C13 := d13.cal X G b13 (ok_draw d13.fn T C12)
  have C8 := d8.cal X G b8 (ok_rn (P := PySem.Challenge.pw_hushsheets_k77_written_and_read) (w := w) (base := base) d8.fn Tc)
  have C9 := ok_rv d9.fn Tc RI C8 (d9.mg X G) d9.fn.kp b9 20 (by decide)
  have O10 := ok_rd d10.fn Tc RI C9
  have C10 := d10.calX X G b10 O10
  have C7 := ok_wn (P := PySem.Challenge.pw_hushsheets_k77_written_and_read) (w := w) (base := base) d7.fn Tc (d7.mg X G) d7.fn.kp b7
  have O7 := ok_wn1 (P := PySem.Challenge.pw_hushsheets_k77_written_and_read) (w := w) (base := base) d7.fn Tc 20 (fun k' _ => C7 k')
  have C16 := ok_lw (P := PySem.Challenge.pw_hushsheets_k77_written_and_read) (w := w) (base := base) d16.fn Tc (d16.mg X G) d16.fn.kp b16
  have C15 := ok_same (P := PySem.Challenge.pw_hushsheets_k77_written_and_read) (w := w) (base := base) d15.fn T (d15.mg X G) d15.fn.kp b15
  have C22 := ok_lev (P := PySem.Challenge.pw_hushsheets_k77_written_and_read) (w := w) (base := base) d22.fn T (d22.mg X G) d22.fn.kp b22
  have C19 := d19.cal X G b19 (ok_signs (P := PySem.Challenge.pw_hushsheets_k77_written_and_read) (w := w) (base := base) d19.fn)
  have C14 := d14.cal X G b14 (ok_start d14.fn T C13)
  have C20 := ok_nest d20.fn T C13 (d20.mg X G) d20.fn.kp b20
  have C21 := d21.cal X G b21 (ok_value d21.fn T C13 (C20 5))
  have C23 := d23.cal X G b23 (ok_spoilt d23.fn T C13 C19)
  have C24 := d24.cal X G b24 (ok_built d24.fn T C13)
  have C17 := d17.cal X G b17 (ok_put (P := PySem.Challenge.pw_hushsheets_k77_written_and_read) (w := w) (base := base) d17.fn T)
  have C18 := d18.cal X G b18 (ok_lread d18.fn T C17)
  have C25 := d25.cal X G b25 (ok_ask d25.fn T R C10)
  have C26 := d26.cal X G b26 (ok_right d26.fn T C18 C25 (C15 24))
  exact ok_law d27.fn T C14 C21 (C16 30) (C22 30) (C7 20) ⟨⟨f7, e7, O7, d7.mg X G, d7.fn.kp, k7⟩⟩ C10 ⟨⟨f10, e10, O10, d10.mg X G, d10.fn.kp, k10⟩⟩ (C15 24) C26 C23 C24
end K7
set_option Elab.async false
set_option maxRecDepth 100000
open PySem PySem.W PyProof.Rows
set_option maxHeartbeats 0 in
theorem PySem.Challenge.cw_hushsheets_k77_written_and_read_holds : PySem.Challenge.rw_hushsheets_k77_written_and_read.Holds := by
  w_on; o_law; k_head; (case hw => w_witness2)
  k_fill
  refine L2.walk_of (l := PySem.Challenge.rw_hushsheets_k77_written_and_read) (n := 63) (k := 32) (x := "script") (CX := fun _ => L2.CX0) (sp := fun w => G3.spOf _ (G3.spF K7.F_law)) rfl (by decide) rfl ⟨rfl, by decide, by decide⟩ (fun w h Y => PySem.W.kIn_of Y) ?F (fun _ H a ns hl _ hS => G3.law_sp (fun ns hl => ⟨ns, rfl, hl, rfl⟩) H a ns hl hS) (fun _ _ _ _ _ h => h)
  case F =>
    intro w mg fa h KX G hmg
    refine' K7.all_mk KX G hmg ?d7 ?d8 ?d9 ?d10 ?d12 ?d13 ?d14 ?d15 ?d16 ?d17 ?d18 ?d19 ?d20 ?d21 ?d22 ?d23 ?d24 ?d25 ?d26 ?d27 ?z1 ?z2 ?z3 ?z4 ?z5 ?z6 ?z7 ?z8 ?z9 ?z10 ?z11 ?y1 ?y2 ?y3 ?x1 ?x2 ?xf ?no ?ec ?exm ?kh ?kv ?it ?iI ?iT ?iB
    (case d7 => (refine' ⟨?a, L2.fun_mk ?l ?c ?k⟩; (case a => k_is); (case l => k_is); (case c => k_is); (case k => k_is)))
    (case d8 => (refine' ⟨?a, L2.fun_mk ?l ?c ?k⟩; (case a => k_is); (case l => k_is); (case c => k_is); (case k => k_is)))
    (case d9 => (refine' ⟨?a, L2.fun_mk ?l ?c ?k⟩; (case a => k_is); (case l => k_is); (case c => k_is); (case k => k_is)))
    (case d10 => (refine' ⟨?a, L2.fun_mk ?l ?c ?k⟩; (case a => k_is); (case l => k_is); (case c => k_is); (case k => k_is)))
    (case d12 => (refine' ⟨?a, L2.fun_mk ?l ?c ?k⟩; (case a => k_is); (case l => k_is); (case c => k_is); (case k => k_is)))
    (case d13 => (refine' ⟨?a, L2.fun_mk ?l ?c ?k⟩; (case a => k_is); (case l => k_is); (case c => k_is); (case k => k_is)))
    (case d14 => (refine' ⟨?a, L2.fun_mk ?l ?c ?k⟩; (case a => k_is); (case l => k_is); (case c => k_is); (case k => k_is)))
    (case d15 => (refine' ⟨?a, L2.fun_mk ?l ?c ?k⟩; (case a => k_is); (case l => k_is); (case c => k_is); (case k => k_is)))
    (case d16 => (refine' ⟨?a, L2.fun_mk ?l ?c ?k⟩; (case a => k_is); (case l => k_is); (case c => k_is); (case k => k_is)))
    (case d17 => (refine' ⟨?a, L2.fun_mk ?l ?c ?k⟩; (case a => k_is); (case l => k_is); (case c => k_is); (case k => k_is)))
    (case d18 => (refine' ⟨?a, L2.fun_mk ?l ?c ?k⟩; (case a => k_is); (case l => k_is); (case c => k_is); (case k => k_is)))
    (case d19 => (refine' ⟨?a, L2.fun_mk ?l ?c ?k⟩; (case a => k_is); (case l => k_is); (case c => k_is); (case k => k_is)))
    (case d20 => (refine' ⟨?a, L2.fun_mk ?l ?c ?k⟩; (case a => k_is); (case l => k_is); (case c => k_is); (case k => k_is)))
    (case d21 => (refine' ⟨?a, L2.fun_mk ?l ?c ?k⟩; (case a => k_is); (case l => k_is); (case c => k_is); (case k => k_is)))
    (case d22 => (refine' ⟨?a, L2.fun_mk ?l ?c ?k⟩; (case a => k_is); (case l => k_is); (case c => k_is); (case k => k_is)))
    (case d23 => (refine' ⟨?a, L2.fun_mk ?l ?c ?k⟩; (case a => k_is); (case l => k_is); (case c => k_is); (case k => k_is)))
    (case d24 => (refine' ⟨?a, L2.fun_mk ?l ?c ?k⟩; (case a => k_is); (case l => k_is); (case c => k_is); (case k => k_is)))
    (case d25 => (refine' ⟨?a, L2.fun_mk ?l ?c ?k⟩; (case a => k_is); (case l => k_is); (case c => k_is); (case k => k_is)))
    (case d26 => (refine' ⟨?a, L2.fun_mk ?l ?c ?k⟩; (case a => k_is); (case l => k_is); (case c => k_is); (case k => k_is)))
    (case d27 => (refine' ⟨?a, L2.fun_mk ?l ?c ?k⟩; (case a => k_is); (case l => k_is); (case c => k_is); (case k => k_is)))
    (case z1 => k_is)
    (case z2 => k_is)
    (case z3 => k_is)
    (case z4 => k_is)
    (case z5 => k_is)
    (case z6 => k_is)
    (case z7 => k_is)
    (case z8 => k_is)
    (case z9 => k_is)
    (case z10 => k_is)
    (case z11 => k_is)
    (case y1 => k_is)
    (case y2 => k_is)
    (case y3 => k_is)
    (case x1 => k_is)
    (case x2 => k_is)
    (case xf => (refine' ⟨?a, ?b, ?c, ?d⟩; (case a => k_is); (case b => k_is); (case c => k_is); (case d => k_is)))
    (case no => k_is)
    (case ec => (refine' ⟨?a, ?b, ?c, ?d, ?e, ?f, ?g, ?h⟩; (case a => k_is); (case b => k_is); (case c => k_is); (case d => k_is); (case e => k_is); (case f => k_is); (case g => k_is); (case h => k_is)))
    (case iI => k_is)
    (case iT => k_is)
    (case exm => (refine' PySem.W.exm_ref ?a ?b ?c ?d; (case a => k_is); (case b => k_is); (case c => k_is); (case d => k_is)))
    (case kh => (refine' G3.kit_ref ?a ?b ?c; (case a => k_is); (case b => k_is); (case c => k_is)))
    (case kv => (refine' G3.kit_typ ?a ?b; (case a => decide +kernel); (case b => k_is)))
    case it =>
      refine' K7.init_mk ?lk ?cd ?cf ?v2 ?fl ?ce ?cl ?tp ?ol ?vb ?sa ?exC ?tyC ?kC ?sb ?th ?hm ?hB ?hat
      (case lk => k_is)
      (case cd => k_is)
      (case cf => k_is)
      (case v2 => rfl)
      (case fl => first | rfl | decide +kernel)
      (case ce => k_is)
      (case cl => k_is)
      (case tp => decide +kernel)
      (case ol => k_is)
      (case vb => decide +kernel)
      (case sa => k_is)
      (case exC => k_is)
      (case tyC => k_is)
      (case kC => k_is)
      (case sb => k_is)
      (case th => k_is)
      (case hm => ks_is)
      (case hB => k_is)
      (case hat => k_is)
    (case iB => exact L2.Binds.all (fun us hl => match us, hl with | [_, _], _ => rfl))
