import PyProof.Rows.All
import Wide.All
import OpenK.AllK
import Wide.FinOn
import HandS.ForMost
import HandS.ForExc
import HandS.Star
import HandS.CallSlots
import HandS.Lambda
import HandS.ClsMeth
import HandS.Property
import HandS.IsInst
import KE.GoesEnum
import HandS.Defaults
import HandS.MakeKwOnly
import KE.GoesMore
import KE.GoesNew
import HandS.GenList
import HandS.Iter
import HandS.Style
import HandS.NamedTupSort
import HandS.Deep
import HandS.Conv
import HandS.TryOnly
import HandS.MethStar
import HandS.TupAny
import PyProof.TupleOfSeq
import KE.KExcIs
import HandS.ExcInit
import HandS.ExcOwn
import HandS.ExcIs
import HandS.ExcField
import HandS.EndOwn
import KE.KNestM
import PySem.Challenge.RW_canonvoices_k12_heard_delays
set_option Elab.async false
set_option linter.all false
section
open PySem PySem.W PyProof.Rows
set_option maxRecDepth 100000
set_option maxHeartbeats 0
open_top hd for PySem.Challenge.rw_canonvoices_k12_heard_delays

end

section
section
set_option maxRecDepth 100000
set_option maxHeartbeats 4000000
/-! The data layer: values as plain data (D), a grown part of the heap that never changes (G), a few cells that are owned (O). -/
namespace DL
open PySem PySem.Spec PyProof.Rows L2

/-! ### data -/
inductive D where
  | non | bl (b : Bool) | int (i : Int) | str (x : Str) | ty (n : String) | ref (a : Addr)
  | tup (ds : List D) | lst (ds : List D) | fz (ds : List D) | ins (C : Addr) (fs : List (Str × D)) | exc (a dd : Addr) (fs : List (Str × D))

def Ex (H H' : Hp) : Prop := ∀ a o, H a = some o → H' a = some o
theorem Ex.refl (H : Hp) : Ex H H := fun _ _ h => h
theorem Ex.trans {H H1 H2 : Hp} (a : Ex H H1) (b : Ex H1 H2) : Ex H H2 := fun x o h => b x o (a x o h)
theorem Ex.new {H : Hp} {p : Addr} {o : HO} (h : H p = none) : Ex H (upd H p o) := fun a u e => by
  rw [upd_ne (ne_of_none e h)]
  exact e
theorem Ex.rd {H H' : Hp} {a : Addr} {u : HO} (e : Ex H H') (h : Rd H a u) : Rd H' a u := by
  rcases h with h | ⟨o, h⟩
  · exact Or.inl (e a _ h)
  · exact Or.inr ⟨o, e a _ h⟩
theorem Ex.seqL {K : PySem.W.Frag} {H H' : Hp} {a : Addr} {xs : List V} (e : Ex H H') (h : SqL K H a xs) : SqL K H' a xs := by
  rcases h with h | h
  · exact Or.inl (e.rd h)
  · exact Or.inr h
theorem Ex.seqT {K : PySem.W.Frag} {H H' : Hp} {a : Addr} {xs : List V} (e : Ex H H') (h : SqT K H a xs) : SqT K H' a xs := by
  rcases h with h | h
  · exact Or.inl (e.rd h)
  · exact Or.inr h

mutual
inductive Rep (K : PySem.W.Frag) (G : Hp) : D → V → Prop
  | non : Rep K G .non .non
  | bl (b : Bool) : Rep K G (.bl b) (.bl b)
  | int (i : Int) : Rep K G (.int i) (.int i)
  | str (x : Str) : Rep K G (.str x) (.str x)
  | ty (n : String) : Rep K G (.ty n) (.ty n)
  | ref (a : Addr) : Rep K G (.ref a) (.ref a)
  | tup {ds : List D} {a : Addr} {vs : List V} : SqT K G a vs → RepL K G ds vs → Rep K G (.tup ds) (.ref a)
  | lst {ds : List D} {a : Addr} {vs : List V} : G a = some (.lst vs) → RepL K G ds vs → Rep K G (.lst ds) (.ref a)
  | fz {ds : List D} {a : Addr} {vs : List V} : SqL K G a vs → RepL K G ds vs → Rep K G (.fz ds) (.ref a)
  | ins {C : Addr} {fs : List (Str × D)} {a dx : Addr} {vs : List (Str × V)} : G a = some (.ins C dx vs) → RepF K G fs vs → Rep K G (.ins C fs) (.ref a)
  | exc {dd : Addr} {fs : List (Str × D)} {a : Addr} {vs : List (Str × V)} : G dd = some (.xd vs) → RepF K G fs vs → Rep K G (.exc a dd fs) (.ref a)
inductive RepL (K : PySem.W.Frag) (G : Hp) : List D → List V → Prop
  | nil : RepL K G [] []
  | cons {d : D} {v : V} {ds : List D} {vs : List V} : Rep K G d v → RepL K G ds vs → RepL K G (d :: ds) (v :: vs)
inductive RepF (K : PySem.W.Frag) (G : Hp) : List (Str × D) → List (Str × V) → Prop
  | nil : RepF K G [] []
  | cons {f : Str} {d : D} {v : V} {ds : List (Str × D)} {vs : List (Str × V)} : Rep K G d v → RepF K G ds vs → RepF K G ((f, d) :: ds) ((f, v) :: vs)
end
section
variable {K : PySem.W.Frag} {G G' : Hp}
theorem Rep.mono (e : Ex G G') {d : D} {v : V} (h : Rep K G d v) : Rep K G' d v :=
  Rep.rec (motive_1 := fun d v _ => Rep K G' d v) (motive_2 := fun d v _ => RepL K G' d v) (motive_3 := fun d v _ => RepF K G' d v)
    .non .bl .int .str .ty .ref (fun h _ r => .tup (e.seqT h) r) (fun h _ r => .lst (e _ _ h) r) (fun h _ r => .fz (e.seqL h) r) (fun h _ r => .ins (e _ _ h) r) (fun h _ r => .exc (e _ _ h) r) .nil (fun _ _ a b => .cons a b) .nil (fun _ _ a b => .cons a b) h
theorem RepL.mono (e : Ex G G') : ∀ {ds : List D} {vs : List V}, RepL K G ds vs → RepL K G' ds vs
  | _, _, .nil => .nil
  | _, _, .cons a b => .cons (a.mono e) (b.mono e)
theorem RepF.mono (e : Ex G G') : ∀ {ds : List (Str × D)} {vs : List (Str × V)}, RepF K G ds vs → RepF K G' ds vs
  | _, _, .nil => .nil
  | _, _, .cons a b => .cons (a.mono e) (b.mono e)
theorem RepL.length : ∀ {ds : List D} {vs : List V}, RepL K G ds vs → vs.length = ds.length
  | _, _, .nil => rfl
  | _, _, .cons _ b => by rw [List.length_cons, List.length_cons, b.length]
theorem RepL.get : ∀ {ds : List D} {vs : List V} {i : Nat} {d : D}, RepL K G ds vs → ds[i]? = some d → ∃ v, vs[i]? = some v ∧ Rep K G d v
  | _, _, _, _, .nil, e => by simp at e
  | _, _, 0, _, .cons r _, e => by simp at e; subst e; exact ⟨_, rfl, r⟩
  | _, _, i + 1, d, .cons _ t, e => by
    obtain ⟨u, h1, h2⟩ := RepL.get (i := i) (d := d) t (by simpa using e)
    exact ⟨u, by simpa using h1, h2⟩
theorem RepL.getV : ∀ {ds : List D} {vs : List V} {i : Nat} {v : V}, RepL K G ds vs → vs[i]? = some v → ∃ d, ds[i]? = some d ∧ Rep K G d v
  | _, _, _, _, .nil, e => by simp at e
  | _, _, 0, _, .cons r _, e => by simp at e; subst e; exact ⟨_, rfl, r⟩
  | _, _, i + 1, d, .cons _ t, e => by
    obtain ⟨u, h1, h2⟩ := RepL.getV (i := i) (v := d) t (by simpa using e)
    exact ⟨u, by simpa using h1, h2⟩
theorem RepL.append : ∀ {as bs : List D} {us vs : List V}, RepL K G as us → RepL K G bs vs → RepL K G (as ++ bs) (us ++ vs)
  | _, _, _, _, .nil, s => s
  | _, _, _, _, .cons r t, s => .cons r (t.append s)
theorem RepL.take : ∀ {as : List D} {us : List V} (n : Nat), RepL K G as us → RepL K G (as.take n) (us.take n)
  | _, _, 0, _ => .nil
  | _, _, _ + 1, .nil => .nil
  | _, _, n + 1, .cons r t => .cons r (RepL.take n t)
theorem RepL.drop : ∀ {as : List D} {us : List V} (n : Nat), RepL K G as us → RepL K G (as.drop n) (us.drop n)
  | _, _, 0, r => r
  | _, _, _ + 1, .nil => .nil
  | _, _, n + 1, .cons _ t => RepL.drop n t
theorem RepL.set {x : D} {u : V} (r : Rep K G x u) : ∀ {xs : List D} {us : List V} (i : Nat), RepL K G xs us → RepL K G (xs.set i x) (us.set i u)
  | _, _, _, .nil => .nil
  | _, _, 0, .cons _ t => .cons r t
  | _, _, i + 1, .cons q t => .cons q (RepL.set r i t)
theorem RepL.reverse {as : List D} {us : List V} (r : RepL K G as us) : RepL K G as.reverse us.reverse := by
  induction as generalizing us with
  | nil => cases r; exact .nil
  | cons a as ih =>
    cases r with
    | cons x y =>
      rw [List.reverse_cons, List.reverse_cons]
      exact (ih y).append (.cons x .nil)
theorem RepL.split {as bs : List D} {us : List V} (r : RepL K G (as ++ bs) us) : ∃ u1 u2, us = u1 ++ u2 ∧ RepL K G as u1 ∧ RepL K G bs u2 := by
  induction as generalizing us with
  | nil => exact ⟨[], us, rfl, .nil, r⟩
  | cons a as ih =>
    cases r with
    | cons x y =>
      obtain ⟨u1, u2, e, r1, r2⟩ := ih y
      exact ⟨_ :: u1, u2, by rw [e]; rfl, .cons x r1, r2⟩
theorem RepF.look {f : Str} : ∀ {ds : List (Str × D)} {vs : List (Str × V)}, RepF K G ds vs → (∀ d, ds.lookup f = some d → ∃ v, vs.lookup f = some v ∧ Rep K G d v) ∧ (ds.lookup f = none → vs.lookup f = none)
  | _, _, .nil => ⟨fun _ e => by simp at e, fun _ => rfl⟩
  | (g, d) :: ds, (_, v) :: vs, .cons a b => by
    obtain ⟨h1, h2⟩ := RepF.look (f := f) b
    simp only [List.lookup_cons]
    cases hg : f == g with
    | true => exact ⟨fun x e => ⟨v, rfl, by cases e; exact a⟩, fun e => by cases e⟩
    | false => exact ⟨h1, h2⟩
theorem RepF.length : ∀ {ds : List (Str × D)} {vs : List (Str × V)}, RepF K G ds vs → vs.length = ds.length
  | _, _, .nil => rfl
  | _, _, .cons _ b => by rw [List.length_cons, List.length_cons, b.length]
/-- the store of a field -/
def putD (f : Str) (v : D) : List (Str × D) → List (Str × D)
  | [] => [(f, v)]
  | (g, x) :: r => if g = f then (g, v) :: r else (g, x) :: putD f v r
end

/-! ### cells -/
/-- a law's source of numbers -/
structure Src (l : List Int) : Prop where
  two : 2 ≤ l.length
  le : l.length ≤ 65
inductive Cell where
  | lst (ds : List D) | ins (C : Addr) (fs : List (Str × D)) | dK (kvs : List (Key × D)) | src | tab (q : Str)
abbrev Own := List (Addr × Cell)
/-- a table of code objects: all of one name -/
def TabOk (G : Hp) (q : Str) (ps : Array Value) : Prop := TriplesOk ps.toList ∧ ∀ (p : Pos) (cv : Value), codeAmong p ps.toList = some cv → ∃ c, cv = .ref c ∧ G c = some (LamX.CodeO c q)
theorem TabOk.mono {G G' : Hp} (e : Ex G G') {q : Str} {ps : Array Value} (h : TabOk G q ps) : TabOk G' q ps := ⟨h.1, fun p cv hc => let ⟨c, a, b⟩ := h.2 p cv hc; ⟨c, a, e _ _ b⟩⟩
def RepC (K : PySem.W.Frag) (G : Hp) : Cell → HO → Prop
  | .lst ds, .lst vs => RepL K G ds vs
  | .ins C fs, .ins C' _ vs => C = C' ∧ RepF K G fs vs
  | .dK ks, .dK vs => ks.map (·.1) = vs.map (·.1) ∧ RepL K G (ks.map (·.2)) (vs.map (·.2))
  | .src, .lst vs => ∃ l : List Int, Src l ∧ vs = l.map V.int
  | .tab q, .tbl ps => TabOk G q ps
  | _, _ => False
theorem RepC.mono {K : PySem.W.Frag} {G G' : Hp} (e : Ex G G') : ∀ {c : Cell} {o : HO}, RepC K G c o → RepC K G' c o := fun {c o} h => by
  cases c <;> cases o <;> first | exact False.elim h | exact RepL.mono e h | exact TabOk.mono e h | exact h | exact ⟨h.1, RepF.mono e h.2⟩ | exact ⟨h.1, RepL.mono e h.2⟩

structure Sta (K : PySem.W.Frag) (G : Hp) (O : Own) (H : Hp) : Prop where
  sub : Ex G H
  nd : (O.map (·.1)).Nodup
  own : ∀ a c, (a, c) ∈ O → G a = none ∧ ∃ o, H a = some o ∧ RepC K G c o
structure Step (K : PySem.W.Frag) (G : Hp) (O : Own) (H : Hp) (G' : Hp) (O' : Own) (H' : Hp) : Prop where
  g : Ex G G'
  sta : Sta K G' O' H'
  fr : ∀ a o, H a = some o → a ∉ O.map (·.1) → H' a = some o
  gn : ∀ a, G a = none → G' a ≠ none → H a = none ∨ a ∈ O.map (·.1)
  on : ∀ a, a ∈ O'.map (·.1) → a ∈ O.map (·.1) ∨ H a = none
theorem mem_own {O : Own} {a : Addr} (h : a ∈ O.map (·.1)) : ∃ c, (a, c) ∈ O := by
  obtain ⟨p, hp, e⟩ := List.mem_map.mp h
  exact ⟨p.2, by rw [← e]; exact hp⟩
theorem own_mem {O : Own} {a : Addr} {c : Cell} (h : (a, c) ∈ O) : a ∈ O.map (·.1) := List.mem_map.mpr ⟨_, h, rfl⟩
section
variable {K : PySem.W.Frag} {G G1 G2 H H1 H2 : Hp} {O O1 O2 : Own}
theorem Step.refl (s : Sta K G O H) : Step K G O H G O H := ⟨Ex.refl _, s, fun _ _ h _ => h, fun _ h n => absurd h n, fun _ h => .inl h⟩
theorem Step.trans (a : Step K G O H G1 O1 H1) (b : Step K G1 O1 H1 G2 O2 H2) : Step K G O H G2 O2 H2 where
  g := a.g.trans b.g
  sta := b.sta
  fr := fun x o h n => b.fr x o (a.fr x o h n) fun m => (a.on x m).elim n fun z => by rw [h] at z; cases z
  gn := fun x h n => by
    cases q : G1 x with
    | some o => exact a.gn x h (by rw [q]; exact fun z => nomatch z)
    | none =>
      rcases b.gn x q n with z | z
      · cases hx : H x with
        | none => exact .inl rfl
        | some o =>
          by_cases m : x ∈ O.map (·.1)
          · exact .inr m
          · have := a.fr x o hx m
            rw [z] at this; cases this
      · exact (a.on x z).symm
  on := fun x h => by
    rcases b.on x h with z | z
    · exact a.on x z
    · cases hx : H x with
      | none => exact .inr rfl
      | some o =>
        by_cases m : x ∈ O.map (·.1)
        · exact .inl m
        · have := a.fr x o hx m
          rw [z] at this; cases this
/-- a new frozen object -/
theorem Step.new (s : Sta K G O H) {p : Addr} {o : HO} (h : H p = none) : Step K G O H (upd G p o) O (upd H p o) := by
  have gp : G p = none := by
    cases q : G p with
    | none => rfl
    | some u => rw [s.sub p u q] at h; cases h
  have op : ∀ a c, (a, c) ∈ O → a ≠ p := fun a c m z => by
    obtain ⟨_, o, ho, _⟩ := s.own a c m
    rw [z, h] at ho; cases ho
  refine ⟨Ex.new gp, ⟨fun a u e => ?_, s.nd, fun a c m => ?_⟩, fun a u e _ => ?_, fun a n q => ?_, fun a m => .inl m⟩
  · by_cases ha : a = p
    · subst ha; rw [upd_same] at e ⊢; exact e
    · rw [upd_ne ha] at e ⊢; exact s.sub a u e
  · obtain ⟨h1, o', h2, h3⟩ := s.own a c m
    rw [upd_ne (op a c m), upd_ne (op a c m)]
    exact ⟨h1, o', h2, h3.mono (Ex.new gp)⟩
  · rw [upd_ne (ne_of_none e h)]; exact e
  · by_cases ha : a = p
    · exact .inl (ha ▸ h)
    · rw [upd_ne ha] at q; exact absurd n q
/-- a new owned cell -/
theorem Step.newO (s : Sta K G O H) {p : Addr} {o : HO} {c : Cell} (h : H p = none) (r : RepC K G c o) : Step K G O H G ((p, c) :: O) (upd H p o) := by
  have gp : G p = none := by
    cases q : G p with
    | none => rfl
    | some u => rw [s.sub p u q] at h; cases h
  have op : ∀ a c, (a, c) ∈ O → a ≠ p := fun a c m z => by
    obtain ⟨_, o, ho, _⟩ := s.own a c m
    rw [z, h] at ho; cases ho
  refine ⟨Ex.refl _, ⟨fun a u e => ?_, ?_, fun a c' m => ?_⟩, fun a u e _ => ?_, fun a n q => absurd n q, fun a m => ?_⟩
  · rw [upd_ne (ne_of_none e gp)]; exact s.sub a u e
  · rw [List.map_cons, List.nodup_cons]
    refine ⟨fun m => ?_, s.nd⟩
    obtain ⟨c', hc⟩ := mem_own m
    exact op p c' hc rfl
  · rcases List.mem_cons.mp m with e | m
    · cases e
      exact ⟨gp, o, upd_same, r⟩
    · rw [upd_ne (op a c' m)]
      exact s.own a c' m
  · rw [upd_ne (ne_of_none e h)]; exact e
  · rw [List.map_cons] at m
    rcases List.mem_cons.mp m with e | m
    · exact .inr (e ▸ h)
    · exact .inl m
end

/-- the cell at a, and what the cells are with another one there -/
inductive At (a : Addr) (c : Cell) : Own → Prop
  | head {O : Own} : At a c ((a, c) :: O)
  | tail {p : Addr × Cell} {O : Own} : At a c O → At a c (p :: O)
inductive Put (a : Addr) (c : Cell) : Own → Own → Prop
  | head {c' : Cell} {O : Own} : Put a c ((a, c') :: O) ((a, c) :: O)
  | tail {p : Addr × Cell} {O O' : Own} : Put a c O O' → Put a c (p :: O) (p :: O')
inductive Del (a : Addr) : Own → Own → Prop
  | head {c' : Cell} {O : Own} : Del a ((a, c') :: O) O
  | tail {p : Addr × Cell} {O O' : Own} : Del a O O' → Del a (p :: O) (p :: O')
section
variable {a : Addr} {c : Cell} {O O' : Own}
theorem At.mem (h : At a c O) : (a, c) ∈ O := by
  induction h with
  | head => exact List.mem_cons_self
  | tail _ ih => exact List.mem_cons_of_mem _ ih
theorem Put.keys (h : Put a c O O') : O'.map (·.1) = O.map (·.1) := by
  induction h with
  | head => rfl
  | tail _ ih => rw [List.map_cons, List.map_cons, ih]
theorem Put.mem (h : Put a c O O') : ∀ b c', (b, c') ∈ O' → (b = a ∧ c' = c) ∨ (b, c') ∈ O := by
  induction h with
  | head => exact fun b c' m => (List.mem_cons.mp m).elim (fun e => .inl (by cases e; exact ⟨rfl, rfl⟩)) fun m => .inr (List.mem_cons_of_mem _ m)
  | tail _ ih => exact fun b c' m => (List.mem_cons.mp m).elim (fun e => .inr (e ▸ List.mem_cons_self)) fun m => (ih b c' m).imp id (List.mem_cons_of_mem _)
theorem Put.at_ (h : Put a c O O') : (a, c) ∈ O' ∧ a ∈ O.map (·.1) := by
  induction h with
  | head => exact ⟨List.mem_cons_self, List.mem_cons_self⟩
  | tail _ ih => exact ⟨List.mem_cons_of_mem _ ih.1, List.mem_cons_of_mem _ ih.2⟩
theorem nodup_key : ∀ {O : Own}, (O.map (·.1)).Nodup → ∀ {c c' : Cell}, (a, c) ∈ O → (a, c') ∈ O → c = c'
  | [], _, _, _, h, _ => nomatch h
  | p :: O, nd, c, c', h, h' => by
    rw [List.map_cons, List.nodup_cons] at nd
    rcases List.mem_cons.mp h with e | h
    · rcases List.mem_cons.mp h' with e' | h'
      · rw [← e] at e'; cases e'; rfl
      · exact absurd (own_mem h') (by have := nd.1; rw [← e] at this; exact this)
    · rcases List.mem_cons.mp h' with e' | h'
      · exact absurd (own_mem h) (by have := nd.1; rw [← e'] at this; exact this)
      · exact nodup_key nd.2 h h'
theorem Del.sub (h : Del a O O') : ∀ p, p ∈ O' → p ∈ O := by
  induction h with
  | head => exact fun p m => List.mem_cons_of_mem _ m
  | tail _ ih => exact fun p m => (List.mem_cons.mp m).elim (fun e => e ▸ List.mem_cons_self) fun m => List.mem_cons_of_mem _ (ih p m)
theorem Del.sublist (h : Del a O O') : O'.Sublist O := by
  induction h with
  | head => exact List.sublist_cons_self _ _
  | tail _ ih => exact ih.cons_cons _
theorem Del.no (h : Del a O O') (nd : (O.map (·.1)).Nodup) : a ∉ O'.map (·.1) := by
  induction h with
  | head => rw [List.map_cons, List.nodup_cons] at nd; exact nd.1
  | @tail p O O' d ih =>
    rw [List.map_cons, List.nodup_cons] at nd
    intro m
    rw [List.map_cons] at m
    rcases List.mem_cons.mp m with e | m
    · refine nd.1 ?_
      rw [← e]
      have : ∀ {O O' : Own}, Del a O O' → a ∈ O.map (·.1) := fun {O O'} h => by
        induction h with
        | head => exact List.mem_cons_self
        | tail _ ih => exact List.mem_cons_of_mem _ ih
      exact this d
    · exact ih nd.2 m
theorem Del.rest (h : Del a O O') : ∀ p, p ∈ O → p.1 ≠ a → p ∈ O' := by
  induction h with
  | head => exact fun p m n => (List.mem_cons.mp m).elim (fun e => absurd (by rw [e]) n) id
  | tail _ ih => exact fun p m n => (List.mem_cons.mp m).elim (fun e => e ▸ List.mem_cons_self) fun m => List.mem_cons_of_mem _ (ih p m n)
end
section
variable {K : PySem.W.Frag} {G H : Hp} {O O' : Own} {a : Addr} {c : Cell} {o : HO}
theorem Sta.at_ (s : Sta K G O H) (h : At a c O) : G a = none ∧ ∃ o, H a = some o ∧ RepC K G c o := s.own a c h.mem
/-- a cell is written -/
theorem Step.put (s : Sta K G O H) (h : Put a c O O') (r : RepC K G c o) : Step K G O H G O' (upd H a o) := by
  have ga : G a = none := by
    obtain ⟨c', m⟩ := mem_own h.at_.2
    exact (s.own a c' m).1
  have nd' : (O'.map (·.1)).Nodup := by rw [h.keys]; exact s.nd
  refine ⟨Ex.refl _, ⟨fun b u e => ?_, nd', fun b c' m => ?_⟩, fun b u e n => ?_, fun b n q => absurd n q, fun b m => .inl (by rw [← h.keys]; exact m)⟩
  · rw [upd_ne (ne_of_none e ga)]; exact s.sub b u e
  · by_cases hb : b = a
    · subst hb
      obtain rfl : c' = c := nodup_key nd' m h.at_.1
      exact ⟨ga, o, upd_same, r⟩
    · rw [upd_ne hb]
      rcases h.mem b c' m with z | z
      · exact absurd z.1 hb
      · exact s.own b c' z
  · rw [upd_ne (fun z => n (by rw [z]; exact h.at_.2))]; exact e
/-- a cell is frozen -/
theorem Step.freeze (s : Sta K G O H) (h : At a c O) (d : Del a O O') {o : HO} (ho : H a = some o) : Step K G O H (upd G a o) O' H ∧ RepC K (upd G a o) c o := by
  obtain ⟨ga, o', ho', r⟩ := s.at_ h
  rw [ho] at ho'; cases ho'
  have e : Ex G (upd G a o) := Ex.new ga
  refine ⟨⟨e, ⟨fun b u q => ?_, s.nd.sublist (d.sublist.map _), fun b c' m => ?_⟩, fun b u q _ => q, fun b n q => ?_, fun b m => .inl ?_⟩, r.mono e⟩
  · by_cases hb : b = a
    · subst hb; rw [upd_same] at q; cases q; exact ho
    · rw [upd_ne hb] at q; exact s.sub b u q
  · have nb : b ≠ a := fun z => by
      subst z
      exact d.no s.nd (own_mem m)
    obtain ⟨h1, o', h2, h3⟩ := s.own b c' (d.sub _ m)
    rw [upd_ne nb]
    exact ⟨h1, o', h2, h3.mono e⟩
  · by_cases hb : b = a
    · exact .inr (hb ▸ own_mem h.mem)
    · rw [upd_ne hb] at q; exact absurd n q
  · exact (d.sublist.map _).subset m
end

/-! ### slots -/
abbrev DEnv := List (Option D)
def REnv (K : PySem.W.Frag) (G : Hp) (δ : DEnv) (σ : L2.St) : Prop := δ.length = σ.length ∧ ∀ (i : Nat) (d : D), δ[i]? = some (some d) → ∃ v, σ[i]? = some (some v) ∧ Rep K G d v
section
variable {K : PySem.W.Frag} {G G' : Hp} {δ : DEnv} {σ : L2.St}
theorem REnv.mono (e : Ex G G') (h : REnv K G δ σ) : REnv K G' δ σ := ⟨h.1, fun i d q => let ⟨v, a, b⟩ := h.2 i d q; ⟨v, a, b.mono e⟩⟩
theorem REnv.set (h : REnv K G δ σ) (i : Nat) {d : D} {v : V} (r : Rep K G d v) : REnv K G (δ.set i (some d)) (σ.set i (some v)) := by
  refine ⟨by simpa using h.1, fun j x e => ?_⟩
  by_cases hj : j = i
  · subst hj
    have hl : j < δ.length := by
      rcases Nat.lt_or_ge j δ.length with z | z
      · exact z
      · rw [List.getElem?_eq_none (by simpa using z)] at e; cases e
    rw [List.getElem?_set_self hl] at e
    cases e
    exact ⟨v, by rw [List.getElem?_set_self (by rw [← h.1]; exact hl)], r⟩
  · rw [List.getElem?_set_ne (Ne.symm hj)] at e
    obtain ⟨u, a, b⟩ := h.2 j x e
    exact ⟨u, by rw [List.getElem?_set_ne (Ne.symm hj)]; exact a, b⟩
end

/-! ### exceptions -/
structure XD where
  C : Addr
  fs : List (Str × D)
def XRep (K : PySem.W.Frag) (G : Hp) (x : XD) (cls : Value) (d : Option Addr) : Prop :=
  cls = .ref x.C ∧ ((x.fs = [] ∧ d = none) ∨ ∃ dd vs, d = some dd ∧ G dd = some (.xd vs) ∧ RepF K G x.fs vs)

/-! ### the judgement -/
section
variable {X : Cx}
def sem (X : Cx) (e : Expr) : TE := fun σ H Q => ∀ (pins : List (Addr × Obj)) (s : Shared), Inv X pins σ H s → wpAny (model X.prog X.w) X.A (eval e X.env) (EP X pins σ Q) X.xe s
def semT (X : Cx) (e : Expr) : TT := fun σ H Q => ∀ (pins : List (Addr × Obj)) (s : Shared), Inv X pins σ H s → wpAny (model X.prog X.w) X.A (isTrue e X.env (eval e X.env)) (TP X pins σ Q) X.xe s
def semW (X : Cx) (e : Expr) : TT := fun σ H Q => ∀ (whole : Sem Value) (pins : List (Addr × Obj)) (s : Shared), Inv X pins σ H s → wpAny (model X.prog X.w) X.A (isTrue e X.env whole) (TP X pins σ Q) X.xe s
def semA (X : Cx) (es : List Expr) : TA := fun σ H Q => ∀ (pos : Pos) (pins : List (Addr × Obj)) (s : Shared), Inv X pins σ H s → wpAny (model X.prog X.w) X.A (spliced (backTo pos (starEach es X.env))) (AP X pins σ Q) X.xe s
def semS (X : Cx) (st : Stmt) : TS := fun D σ H => ∀ (pins : List (Addr × Obj)) (s : Shared), Inv X pins σ H s → wpAny (model X.prog X.w) X.A (exec st X.env) (SP X pins D) X.xe s
def semSs (X : Cx) (st : List Stmt) : TS := fun D σ H => ∀ (pins : List (Addr × Obj)) (s : Shared), Inv X pins σ H s → wpAny (model X.prog X.w) X.A (execs st X.env) (SP X pins D) X.xe s
theorem pe_sem {e : Expr} : PE X e (sem X e) := ⟨fun pins s _ _ _ I h => h pins s I⟩
theorem pt_sem {e : Expr} : PT X e (semT X e) := ⟨fun pins s _ _ _ I h => h pins s I⟩
theorem pw_sem {e : Expr} : PW X e (semW X e) := ⟨fun wh pins s _ _ _ I h => h wh pins s I⟩
theorem pa_sem {es : List Expr} : PA X es (semA X es) := ⟨fun pos pins s _ _ _ I h => h pos pins s I⟩
theorem ps_sem {st : Stmt} : PS X st (semS X st) := ⟨fun pins s _ _ _ I h => h pins s I⟩
theorem pss_sem {st : List Stmt} : PSs X st (semSs X st) := ⟨fun pins s _ _ _ I h => h pins s I⟩

abbrev TR (β : Type) := L2.St → Hp → (β → Hp → Prop) → Prop
/-- from every state that bears δ and O (and P): t ends so that Q holds of what is told (and E of an exception) -/
def M {α β : Type} (X : Cx) (P : Hp → Prop) (R : Hp → α → β → Prop) (t : TR β) (δ : DEnv) (O : Own) (E : XD → Own → Prop) (Q : α → Own → Prop) : Prop :=
  ∀ (W : WX), Takes X W → ∀ (G : Hp) (σ : L2.St) (H : Hp) (Q' : β → Hp → Prop), P G → REnv X.K G δ σ → Sta X.K G O H →
    (∀ G' H' O' x c dd, Step X.K G O H G' O' H' → XRep X.K G' x c dd → E x O' → W c dd σ H') →
    (∀ G' H' O' a b, Step X.K G O H G' O' H' → R G' a b → Q a O' → Q' b H') → t σ H Q'
abbrev PT0 : Hp → Prop := fun _ => True
abbrev REq {α : Type} : Hp → α → α → Prop := fun _ a b => a = b
def DE (X : Cx) (e : Expr) (δ : DEnv) (O : Own) (E : XD → Own → Prop) (Q : D → Own → Prop) : Prop := M X PT0 (Rep X.K) (sem X e) δ O E Q
def DT (X : Cx) (e : Expr) (δ : DEnv) (O : Own) (E : XD → Own → Prop) (Q : Bool → Own → Prop) : Prop := M X PT0 REq (semT X e) δ O E Q
def DW (X : Cx) (e : Expr) (δ : DEnv) (O : Own) (E : XD → Own → Prop) (Q : Bool → Own → Prop) : Prop := M X PT0 REq (semW X e) δ O E Q
def DA (X : Cx) (es : List Expr) (δ : DEnv) (O : Own) (E : XD → Own → Prop) (Q : List D → Own → Prop) : Prop := M X PT0 (RepL X.K) (semA X es) δ O E Q
def Mono (P : Hp → Prop) : Prop := ∀ G G', Ex G G' → P G → P G'
theorem mono0 : Mono PT0 := fun _ _ _ h => h
theorem mono_rep {K : PySem.W.Frag} {d : D} {v : V} : Mono (fun G => Rep K G d v) := fun _ _ e h => h.mono e
theorem mono_repL {K : PySem.W.Frag} {d : List D} {v : List V} : Mono (fun G => RepL K G d v) := fun _ _ e h => h.mono e
theorem Mono.and {P P' : Hp → Prop} (a : Mono P) (b : Mono P') : Mono (fun G => P G ∧ P' G) := fun G G' e h => ⟨a G G' e h.1, b G G' e h.2⟩
section
variable {α β γ ζ : Type} {P P' : Hp → Prop} {R : Hp → α → β → Prop} {R2 : Hp → γ → ζ → Prop} {t : TR β} {δ : DEnv} {O : Own} {E : XD → Own → Prop} {Q Q2 : α → Own → Prop}
theorem M.weak (h : M X P' R t δ O E Q) (w : ∀ G, P G → P' G) : M X P R t δ O E Q := fun W tk G σ H Q' p => h W tk G σ H Q' (w G p)
theorem M.imp (h : M X P R t δ O E Q) (w : ∀ a O', Q a O' → Q2 a O') : M X P R t δ O E Q2 := fun W tk G σ H Q' p r s hE hQ =>
  h W tk G σ H Q' p r s hE fun G' H' O' a b st ra q => hQ G' H' O' a b st ra (w a O' q)
theorem M.bind {t2 : β → TR ζ} {Qz : γ → Own → Prop} (mp : Mono P) (h : M X P R t δ O E Q) (k : ∀ a O1 b, Q a O1 → M X (fun G => P G ∧ R G a b) R2 (t2 b) δ O1 E Qz) : M X P R2 (fun σ H K => t σ H fun b H1 => t2 b σ H1 K) δ O E Qz :=
  fun W tk G σ H Q' p r s hE hQ => h W tk G σ H _ p r s hE fun G1 H1 O1 a b st ra q =>
    k a O1 b q W tk G1 σ H1 Q' ⟨mp _ _ st.g p, ra⟩ (r.mono st.g) st.sta (fun G' H' O' x c dd st2 => hE G' H' O' x c dd (st.trans st2)) fun G' H' O' a' b' st2 => hQ G' H' O' a' b' (st.trans st2)
/-- nothing is done -/
theorem M.pure {a : α} {b : β} (hr : ∀ G, P G → R G a b) (q : Q a O) : M X P R (fun _ H K => K b H) δ O E Q := fun W tk G σ H Q' p r s hE hQ => hQ G H O a b (Step.refl s) (hr G p) q
theorem de_of {e : Expr} {t : TE} {Q : D → Own → Prop} (hp : PE X e t) (h : M X PT0 (Rep X.K) t δ O E Q) : DE X e δ O E Q := fun W tk G σ H Q' p r s hE hQ pins s' I => hp.run pins s' σ H Q' I (h W tk G σ H Q' p r s hE hQ)
theorem dt_of {e : Expr} {t : TT} {Q : Bool → Own → Prop} (hp : PT X e t) (h : M X PT0 REq t δ O E Q) : DT X e δ O E Q := fun W tk G σ H Q' p r s hE hQ pins s' I => hp.run pins s' σ H Q' I (h W tk G σ H Q' p r s hE hQ)
theorem dw_of {e : Expr} {t : TT} {Q : Bool → Own → Prop} (hp : PW X e t) (h : M X PT0 REq t δ O E Q) : DW X e δ O E Q := fun W tk G σ H Q' p r s hE hQ wh pins s' I => hp.run wh pins s' σ H Q' I (h W tk G σ H Q' p r s hE hQ)
theorem da_of {es : List Expr} {t : TA} {Q : List D → Own → Prop} (hp : PA X es t) (h : M X PT0 (RepL X.K) t δ O E Q) : DA X es δ O E Q := fun W tk G σ H Q' p r s hE hQ pos pins s' I => hp.run pos pins s' σ H Q' I (h W tk G σ H Q' p r s hE hQ)
end
end
end DL

end

section
set_option maxRecDepth 100000
set_option maxHeartbeats 4000000
set_option autoImplicit false
/-! The data layer: expressions. -/
namespace DL
open PySem PySem.Spec PyProof.Rows L2

inductive Ix {α : Type} (x : α) : List α → Nat → Prop
  | head {l : List α} : Ix x (x :: l) 0
  | tail {y : α} {l : List α} {n : Nat} : Ix x l n → Ix x (y :: l) (n + 1)
theorem Ix.get {α : Type} {x : α} {l : List α} {n : Nat} (h : Ix x l n) : l[n]? = some x := by
  induction h with
  | head => rfl
  | tail _ ih => simpa using ih
/-- slot i holds d -/
inductive Sl : DEnv → Nat → D → Prop
  | head {d : D} {l : DEnv} : Sl (some d :: l) 0 d
  | tail {y : Option D} {l : DEnv} {n : Nat} {d : D} : Sl l n d → Sl (y :: l) (n + 1) d
theorem Sl.get {l : DEnv} {n : Nat} {d : D} (h : Sl l n d) : l[n]? = some (some d) := by
  induction h with
  | head => rfl
  | tail _ ih => simpa using ih
inductive SetD (d : D) : DEnv → Nat → DEnv → Prop
  | head {y : Option D} {l : DEnv} : SetD d (y :: l) 0 (some d :: l)
  | tail {y : Option D} {l l' : DEnv} {n : Nat} : SetD d l n l' → SetD d (y :: l) (n + 1) (y :: l')
theorem SetD.eq {d : D} {l l' : DEnv} {n : Nat} (h : SetD d l n l') : l' = l.set n (some d) := by
  induction h with
  | head => rfl
  | tail _ ih => rw [ih]; rfl

/-- a name stands in a scope, found by its letters alone -/
inductive Nk (x : Str) (k : NameKind) : List (Str × NameKind) → Prop
  | head {l : List (Str × NameKind)} : Nk x k ((x, k) :: l)
  | tail {p : Str × NameKind} {l : List (Str × NameKind)} : Nk x k l → Nk x k (p :: l)
theorem Nk.mem {x : Str} {k : NameKind} {l : List (Str × NameKind)} (h : Nk x k l) : (x, k) ∈ l := by
  induction h with
  | head => exact List.mem_cons_self
  | tail _ ih => exact List.mem_cons_of_mem _ ih
inductive LkV (x : Str) : List (Str × NameKind) → Prop
  | l {l : List (Str × NameKind)} : LkV x ((x, .local) :: l)
  | c {l : List (Str × NameKind)} : LkV x ((x, .cell) :: l)
  | f {l : List (Str × NameKind)} : LkV x ((x, .free) :: l)
  | tail {p : Str × NameKind} {l : List (Str × NameKind)} : LkV x l → LkV x (p :: l)
theorem LkV.mem {x : Str} {l : List (Str × NameKind)} (h : LkV x l) : (x, .local) ∈ l ∨ (x, .cell) ∈ l ∨ (x, .free) ∈ l := by
  induction h with
  | l => exact .inl List.mem_cons_self
  | c => exact .inr (.inl List.mem_cons_self)
  | f => exact .inr (.inr List.mem_cons_self)
  | tail _ ih => rcases ih with h | h | h
                 · exact .inl (List.mem_cons_of_mem _ h)
                 · exact .inr (.inl (List.mem_cons_of_mem _ h))
                 · exact .inr (.inr (List.mem_cons_of_mem _ h))
/-- a scope names each name once, and none of the model's own names -/
def nmOk (sc : Scope) : Bool := sc.names.all fun y => decide (sc.names.lookup y.1 = some y.2) && !(y.1 == ("__debug__" : Str)) && decide (y.1 ≠ "__name__") && !(y.1 == ("__classdict__" : Str))
theorem nmOk.at {sc : Scope} (h : nmOk sc = true) {x : Str} {k : NameKind} (m : (x, k) ∈ sc.names) : sc.names.lookup x = some k ∧ (x == ("__debug__" : Str)) = false ∧ x ≠ "__name__" ∧ (x == ("__classdict__" : Str)) = false := by
  have h1 := List.all_eq_true.1 h _ m
  simp only [Bool.and_eq_true, decide_eq_true_eq, Bool.not_eq_true'] at h1
  exact ⟨h1.1.1.1, h1.1.1.2, h1.1.2, h1.2⟩
structure FnS (N P : List Str) (sc : Scope) : Prop extends FnScope N P sc where
  nm : nmOk sc = true
/-- what a body (a def's, a block's) knows of its context -/
structure Sc (X : Cx) (N : List Str) (sc : Scope) : Prop where
  nm : nmOk sc = true
  hn : X.N = N
  hsc : X.env.scope = sc
  nd : N.Nodup
  calm : X.calm = true
section
variable {X : Cx} {N : List Str} {sc : Scope}
theorem Sc.ix (S : Sc X N sc) {x : Str} {i : Nat} (h : Ix x N i) : X.N[i]? = some x := by rw [S.hn]; exact h.get
theorem Sc.vi (S : Sc X N sc) {x : Str} (h : LkV x sc.names) : Vis X.env.scope x := by
  rw [S.hsc]
  rcases h.mem with m | m | m
  · exact .inl (nmOk.at S.nm m).1
  · exact .inr (.inl (nmOk.at S.nm m).1)
  · exact .inr (.inr (nmOk.at S.nm m).1)
theorem Sc.vb (S : Sc X N sc) {x : Str} (h : LkV x sc.names) : (x == ("__debug__" : Str)) = false ∧ (x == ("__classdict__" : Str)) = false := by
  rcases h.mem with m | m | m <;> exact ⟨(nmOk.at S.nm m).2.1, (nmOk.at S.nm m).2.2.2⟩
theorem Sc.lo (S : Sc X N sc) {x : Str} (h : Nk x .local sc.names) : X.env.scope.names.lookup x = some .local := by rw [S.hsc]; exact (nmOk.at S.nm h.mem).1
theorem Sc.ce (S : Sc X N sc) {x : Str} (h : Nk x .cell sc.names) : X.env.scope.names.lookup x = some .cell := by rw [S.hsc]; exact (nmOk.at S.nm h.mem).1
theorem Sc.gl (S : Sc X N sc) {x : Str} (h : Nk x .globalImplicit sc.names) : Gl X x := by
  show X.env.scope.names.lookup x = _
  rw [S.hsc]; exact (nmOk.at S.nm h.mem).1
theorem Sc.dbg (S : Sc X N sc) {x : Str} {k : NameKind} (h : Nk x k sc.names) : (x == ("__debug__" : Str)) = false := (nmOk.at S.nm h.mem).2.1
theorem Sc.nme (S : Sc X N sc) {x : Str} {k : NameKind} (h : Nk x k sc.names) : x ≠ "__name__" := (nmOk.at S.nm h.mem).2.2.1
theorem Sc.hN (S : Sc X N sc) : X.N.Nodup := by rw [S.hn]; exact S.nd
end

section
variable {X : Cx} {N : List Str} {sc : Scope} {δ : DEnv} {O : Own} {E : XD → Own → Prop} {Q : D → Own → Prop} {QT : Bool → Own → Prop} {QA : List D → Own → Prop}

/-! ### names, constants -/
theorem de_name {x : Str} {pos : Pos} {i : Nat} {d : D} (S : Sc X N sc) (hi : Ix x N i) (hd : Sl δ i d) (q : Q d O) (hv : LkV x sc.names := by (repeat (with_reducible constructor))) : DE X (.Name x pos) δ O E Q :=
  de_of (pe_var (S.ix hi) (S.vi hv) (S.vb hv).1 (S.vb hv).2) fun W tk G σ H Q' p r s hE hQ => by
    obtain ⟨v, e, rv⟩ := r.2 i d hd.get
    exact ⟨v, e, hQ G H O d v (Step.refl s) rv q⟩
theorem de_const {e : Expr} {d : D} {v : V} (hp : PE X e (tC v)) (rv : ∀ G, Rep X.K G d v) (q : Q d O) : DE X e δ O E Q := de_of hp (M.pure (fun G _ => rv G) q)
theorem de_int {i : Int} {j : Nat} {pos : Pos} (q : Q (.int i) O) : DE X (.Constant (.int i) j pos) δ O E Q := de_const pe_int (fun _ => .int i) q
theorem de_bl {b : Bool} {j : Nat} {pos : Pos} (q : Q (.bl b) O) : DE X (.Constant (.bool b) j pos) δ O E Q := de_const pe_bl (fun _ => .bl b) q
theorem de_non {j : Nat} {pos : Pos} (q : Q .non O) : DE X (.Constant .none j pos) δ O E Q := de_const pe_non (fun _ => .non) q
theorem de_str {x : Str} {j : Nat} {pos : Pos} (q : Q (.str x) O) : DE X (.Constant (.str x) j pos) δ O E Q := de_const pe_str (fun _ => .str x) q
/-- a global name of the module -/
theorem de_glob {x : Str} {pos : Pos} {u : Value} {v : V} {d : D} (S : Sc X N sc) (hm : X.mg x = some u) (r : RelV v u) (rd : ∀ G, Rep X.K G d v) (q : Q d O) (hg : Nk x .globalImplicit sc.names := by (repeat (with_reducible constructor))) :
    DE X (.Name x pos) δ O E Q := de_const (pe_glob (S.gl hg) hm r (S.dbg hg)) rd q

/-! ### two-place operations, on values -/
def semB (X : Cx) (f : Value → Value → Sem Value) (x y : V) : TE := fun σ H Q => ∀ (pins : List (Addr × Obj)) (s : Shared) (v u : Value), Inv X pins σ H s → RelV x v → RelV y u → wpAny (model X.prog X.w) X.A (f v u) (EP X pins σ Q) X.xe s
def DB (X : Cx) (f : Value → Value → Sem Value) (x y : D) (δ : DEnv) (O : Own) (E : XD → Own → Prop) (Q : D → Own → Prop) : Prop :=
  ∀ v u, M X (fun G => Rep X.K G x v ∧ Rep X.K G y u) (Rep X.K) (semB X f v u) δ O E Q
variable {f : Value → Value → Sem Value}
theorem db_of {x y : D} {r : R2} (ho : OpR X f r) (h : ∀ v u, M X (fun G => Rep X.K G x v ∧ Rep X.K G y u) (Rep X.K) (fun _ H K => r v u H K) δ O E Q) : DB X f x y δ O E Q :=
  fun v u W tk G σ H Q' p r s hE hQ pins s' xv yv I rx ry => ho pins s' σ H v u xv yv Q' I rx ry (h v u W tk G σ H Q' p r s hE hQ)
/-- two expressions, then an operation on their values -/
theorem m_two {α β : Type} {R : Hp → α → β → Prop} {a b : Expr} {t : V → V → TR β} {Qa : α → Own → Prop}
    (h : DE X a δ O E fun x O1 => DE X b δ O1 E fun y O2 => ∀ v u, M X (fun G => Rep X.K G x v ∧ Rep X.K G y u) R (t v u) δ O2 E Qa) :
    M X PT0 R (fun σ H K => sem X a σ H fun v H1 => sem X b σ H1 fun u H2 => t v u σ H2 K) δ O E Qa :=
  M.bind mono0 h fun x O1 v h1 => M.weak (P' := fun G => True ∧ Rep X.K G x v) (M.bind (Mono.and mono0 mono_rep) (M.weak h1 fun _ _ => trivial) fun y O2 u h2 => M.weak (h2 v u) fun G p => ⟨p.1.2, p.2⟩) fun _ p => p
theorem de_bin {op : Operator} {a b : Expr} {pos : Pos} (h : DE X a δ O E fun x O1 => DE X b δ O1 E fun y O2 => DB X (binaryOp op) x y δ O2 E Q) : DE X (.BinOp a op b pos) δ O E Q :=
  de_of (t := fun σ H K => sem X a σ H fun v H1 => sem X b σ H1 fun u H2 => semB X (binaryOp op) v u σ H2 K) ⟨fun pins s σ H Q I h => wpAny_BinOp (bin pe_sem pe_sem I h fun v u s2 x y H2 I2 rx ry q => q pins s2 v u I2 rx ry)⟩ (m_two h)
theorem de_cmp {op : CmpOp} {a b : Expr} {pos : Pos} (h : DE X a δ O E fun x O1 => DE X b δ O1 E fun y O2 => DB X (compareOp op) x y δ O2 E Q) (hm : behindInMarks op b = false := by with_unfolding_all rfl) : DE X (.Compare a [op] [b] pos) δ O E Q :=
  de_of (t := fun σ H K => sem X a σ H fun v H1 => sem X b σ H1 fun u H2 => semB X (compareOp op) v u σ H2 K) ⟨fun pins s σ H Q I h => wpAny_Compare1 (bin pe_sem pe_sem I h fun v u s2 x y H2 I2 rx ry q => q pins s2 v u I2 rx ry) hm⟩ (m_two h)
/-- a value that is a bool, as a test's answer -/
theorem m_bool {P : Hp → Prop} {t : TE} (h : M X P (Rep X.K) t δ O E fun d O1 => ∃ k, d = .bl k ∧ QT k O1) : M X P REq (fun σ H K => t σ H fun z H3 => ∃ k, z = .bl k ∧ K k H3) δ O E QT :=
  fun W tk G σ H Q' p r s hE hQ => h W tk G σ H _ p r s hE fun G' H' O' d v st rd ⟨k, e, q⟩ => by
    subst e
    cases rd
    exact ⟨k, rfl, hQ G' H' O' k k st rfl q⟩
/-- a comparison as a test -/
theorem dt_cmp {op : CmpOp} {a b : Expr} {pos : Pos} (h : DE X a δ O E fun x O1 => DE X b δ O1 E fun y O2 => DB X (compareOp op) x y δ O2 E fun d O3 => ∃ k, d = .bl k ∧ QT k O3) (hm : behindInMarks op b = false := by with_unfolding_all rfl) : DT X (.Compare a [op] [b] pos) δ O E QT := by
  refine dt_of (t := fun σ H K => (fun σ H K => sem X a σ H fun v H1 => sem X b σ H1 fun u H2 => semB X (compareOp op) v u σ H2 K : TE) σ H fun z H3 => ∃ k, z = .bl k ∧ K k H3) ⟨fun pins s σ H K I hw => ?_⟩ (m_bool (m_two h))
  refine wpAny_isTrue_Compare1 (thn (hw pins s I) fun v s1 ⟨x, H1, I1, r1, q1⟩ => thn (q1 pins s1 I1) fun u s2 ⟨y, H2, I2, r2, q2⟩ => thn (q2 pins s2 v u I2 r1 r2) fun c s3 ⟨z, H3, I3, r3, k, e, q3⟩ => ?_) hm
  subst e
  cases r3
  exact wpAny_truthy_bool ⟨H3, I3, q3⟩
/-- an expression whose value is a bool, as a test -/
theorem dt_val {e : Expr} (h : DE X e δ O E fun d O1 => ∃ k, d = .bl k ∧ QT k O1) (he : ∀ whole, isTrue e X.env whole = (do let v ← whole; standAt e.pos; holding [v] (truthy v)) := by intro _; with_unfolding_all rfl) : DT X e δ O E QT :=
  dt_of (pt_val pe_sem he) (m_bool h)
/-- a value's truth -/
def TruD : D → Bool → Prop
  | .non, k => k = false
  | .bl b, k => k = b
  | .int i, k => k = (i != 0)
  | .tup ds, k => k = !ds.isEmpty
  | .lst ds, k => k = !ds.isEmpty
  | _, _ => False

/-! ### and, or, not -/
theorem dw_one {op : BoolOp} {a : Expr} {pos : Pos} (h : DT X a δ O E QT) : DW X (.BoolOp op [a] pos) δ O E QT := by
  cases op
  · exact dw_of (pw_and1 pt_sem) h
  · exact dw_of (pw_or1 pt_sem) h
theorem dt_w {e : Expr} (h : DW X e δ O E QT) : DT X e δ O E QT := dt_of pw_sem.pt h
theorem dw_and {a b : Expr} {rest : List Expr} {pos : Pos} (h : DT X a δ O E fun k O1 => (k = true → DW X (.BoolOp .And (b :: rest) pos) δ O1 E QT) ∧ (k = false → QT false O1)) : DW X (.BoolOp .And (a :: b :: rest) pos) δ O E QT :=
  dw_of (pw_and pt_sem pw_sem) (M.bind (t := semT X a) (t2 := fun k' σ H K => if k' = true then semW X (.BoolOp .And (b :: rest) pos) σ H K else K false H) mono0 h fun k O1 k' ⟨h1, h2⟩ => by
    cases k with
    | true => exact M.weak (P' := fun G => k' = true) (fun W tk G σ H Q' p => by subst p; exact h1 rfl W tk G σ H Q' trivial) fun _ p => p.2.symm
    | false => exact M.weak (P' := fun G => k' = false) (fun W tk G σ H Q' p r s hE hQ => by subst p; exact hQ G H O1 false false (Step.refl s) rfl (h2 rfl)) fun _ p => p.2.symm)
theorem dw_or {a b : Expr} {rest : List Expr} {pos : Pos} (h : DT X a δ O E fun k O1 => (k = false → DW X (.BoolOp .Or (b :: rest) pos) δ O1 E QT) ∧ (k = true → QT true O1)) : DW X (.BoolOp .Or (a :: b :: rest) pos) δ O E QT :=
  dw_of (pw_or pt_sem pw_sem) (M.bind (t := semT X a) (t2 := fun k' σ H K => if k' = true then K true H else semW X (.BoolOp .Or (b :: rest) pos) σ H K) mono0 h fun k O1 k' ⟨h1, h2⟩ => by
    cases k with
    | false => exact M.weak (P' := fun G => k' = false) (fun W tk G σ H Q' p => by subst p; exact h1 rfl W tk G σ H Q' trivial) fun _ p => p.2.symm
    | true => exact M.weak (P' := fun G => k' = true) (fun W tk G σ H Q' p r s hE hQ => by subst p; exact hQ G H O1 true true (Step.refl s) rfl (h2 rfl)) fun _ p => p.2.symm)
theorem dt_not {a : Expr} {pos : Pos} (h : DT X a δ O E fun k O1 => QT (!k) O1) : DT X (.UnaryOp .Not a pos) δ O E QT :=
  dt_of (pt_not pt_sem) fun W tk G σ H Q' p r s hE hQ => h W tk G σ H _ p r s hE fun G' H' O' a b st e q => by subst e; exact hQ G' H' O' _ _ st rfl q
theorem m_boolE {P : Hp → Prop} {t : TE} {t1 t2 : TR V} {R : Hp → D → V → Prop} (mp : Mono P) (h : M X P (Rep X.K) t δ O E fun d O1 => ∃ k, d = .bl k ∧ (k = true → M X P R t1 δ O1 E Q) ∧ (k = false → M X P R t2 δ O1 E Q)) :
    M X P R (fun σ H K => t σ H fun x H1 => ∃ c, x = .bl c ∧ if c = true then t1 σ H1 K else t2 σ H1 K) δ O E Q :=
  fun W tk G σ H Q' p r s hE hQ => h W tk G σ H _ p r s hE fun G' H' O' d v st rd ⟨k, e, h1, h2⟩ => by
    subst e
    cases rd
    refine ⟨k, rfl, ?_⟩
    cases k with
    | true => rw [if_pos rfl]; exact h1 rfl W tk G' σ H' Q' (mp _ _ st.g p) (r.mono st.g) st.sta (fun _ _ _ _ _ _ st2 => hE _ _ _ _ _ _ (st.trans st2)) fun _ _ _ _ _ st2 => hQ _ _ _ _ _ (st.trans st2)
    | false => rw [if_neg Bool.false_ne_true]; exact h2 rfl W tk G' σ H' Q' (mp _ _ st.g p) (r.mono st.g) st.sta (fun _ _ _ _ _ _ st2 => hE _ _ _ _ _ _ (st.trans st2)) fun _ _ _ _ _ st2 => hQ _ _ _ _ _ (st.trans st2)
/-- .. as values -/
theorem de_one {op : BoolOp} {a : Expr} {pos : Pos} (h : DE X a δ O E Q) : DE X (.BoolOp op [a] pos) δ O E Q := de_of (pe_one pe_sem) h
theorem de_and {a b : Expr} {rest : List Expr} {pos : Pos} (h : DE X a δ O E fun d O1 => ∃ k, d = .bl k ∧ (k = true → DE X (.BoolOp .And (b :: rest) pos) δ O1 E Q) ∧ (k = false → Q (.bl false) O1)) : DE X (.BoolOp .And (a :: b :: rest) pos) δ O E Q :=
  de_of (pe_and pe_sem pe_sem) (m_boolE mono0 (M.imp h fun d O1 ⟨k, e, h1, h2⟩ => ⟨k, e, h1, fun z => M.pure (fun _ _ => .bl false) (h2 z)⟩))
theorem de_or {a b : Expr} {rest : List Expr} {pos : Pos} (h : DE X a δ O E fun d O1 => ∃ k, d = .bl k ∧ (k = true → Q (.bl true) O1) ∧ (k = false → DE X (.BoolOp .Or (b :: rest) pos) δ O1 E Q)) : DE X (.BoolOp .Or (a :: b :: rest) pos) δ O E Q :=
  de_of (pe_or pe_sem pe_sem) (m_boolE mono0 (M.imp h fun d O1 ⟨k, e, h1, h2⟩ => ⟨k, e, fun z => M.pure (fun _ _ => .bl true) (h1 z), h2⟩))
theorem de_not {a : Expr} {pos : Pos} (h : DE X a δ O E fun d O1 => ∃ k, d = .bl k ∧ Q (.bl (!k)) O1) : DE X (.UnaryOp .Not a pos) δ O E Q :=
  de_of (pe_not pe_sem) fun W tk G σ H Q' p r s hE hQ => h W tk G σ H _ p r s hE fun G' H' O' d v st rd ⟨k, e, q⟩ => by
    subst e
    cases rd
    exact ⟨k, rfl, hQ G' H' O' _ _ st (.bl _) q⟩
theorem de_if {c a b : Expr} {pos : Pos} (h : DT X c δ O E fun k O1 => (k = true → DE X a δ O1 E Q) ∧ (k = false → DE X b δ O1 E Q)) : DE X (.IfExp c a b pos) δ O E Q :=
  de_of (pe_ifExp pt_sem pe_sem pe_sem) (M.bind (t := semT X c) (t2 := fun k' σ H K => if k' = true then sem X a σ H K else sem X b σ H K) mono0 h fun k O1 k' ⟨h1, h2⟩ => by
    cases k with
    | true => exact M.weak (P' := fun G => k' = true) (fun W tk G σ H Q' p => by subst p; exact h1 rfl W tk G σ H Q' trivial) fun _ p => p.2.symm
    | false => exact M.weak (P' := fun G => k' = false) (fun W tk G σ H Q' p => by subst p; exact h2 rfl W tk G σ H Q' trivial) fun _ p => p.2.symm)

/-! ### argument lists, displays -/
theorem da_nil (q : QA [] O) : DA X [] δ O E QA := da_of pa_nil (M.pure (fun _ _ => .nil) q)
theorem da_cons {e : Expr} {es : List Expr} (h : DE X e δ O E fun d O1 => DA X es δ O1 E fun ds O2 => QA (d :: ds) O2) (hs : starEach (e :: es) X.env = (false, eval e X.env) :: starEach es X.env := by with_unfolding_all rfl) : DA X (e :: es) δ O E QA :=
  da_of (pa_cons pe_sem pa_sem hs) (M.bind (t := sem X e) (t2 := fun v σ H K => semA X es σ H fun vs H1 => K (v :: vs) H1) mono0 h fun d O1 v h1 => M.weak (P' := fun G => Rep X.K G d v) (M.bind (t2 := fun vs σ H K => K (v :: vs) H) mono_rep (M.weak h1 fun _ _ => trivial) fun ds O2 vs q => M.pure (fun G p => RepL.cons p.1 p.2) q) fun _ p => p.2)
theorem da_star {e : Expr} {es : List Expr} {p : Pos} (h : DE X e δ O E fun d O1 => ∃ xs, (d = .tup xs ∨ d = .lst xs) ∧ DA X es δ O1 E fun ds O2 => QA (xs ++ ds) O2) (hs : starEach (.Starred e p :: es) X.env = (true, eval e X.env) :: starEach es X.env := by with_unfolding_all rfl) : DA X (.Starred e p :: es) δ O E QA :=
  da_of (StX.pa_star pe_sem pa_sem hs) fun W tk G σ H Q' p r s hE hQ => h W tk G σ H _ p r s hE fun G1 H1 O1 d v st rd ⟨xs, ed, h1⟩ => by
    have go : ∀ a vs, (SqT X.K H1 a vs ∨ SqL X.K H1 a vs) → RepL X.K G1 xs vs → v = .ref a → StX.tStar X.K (fun _ _ K => K v H1) (semA X es) σ H1 Q' := fun a vs hq rl ev => ⟨a, vs, ev, hq, h1 W tk G1 σ H1 _ trivial (r.mono st.g) st.sta (fun _ _ _ _ _ _ st2 => hE _ _ _ _ _ _ (st.trans st2)) fun G2 H2 O2 ds ws st2 rw2 q => hQ _ _ _ _ _ (st.trans st2) ((rl.mono st2.g).append rw2) q⟩
    rcases ed with rfl | rfl
    · cases rd with
      | tup hq rl => exact go _ _ (.inl (st.sta.sub.seqT hq)) rl rfl
    · cases rd with
      | lst hq rl => exact go _ _ (.inr (.inl (.inl (st.sta.sub _ _ hq)))) rl rfl
/-- a new list: frozen, or one's own -/
def NewL (ds : List D) (O : Own) (Q : D → Own → Prop) : Prop := Q (.lst ds) O ∨ ∀ a, Q (.ref a) ((a, .lst ds) :: O)
/-- where a new list of what vs tells is laid -/
theorem m_newL {K : PySem.W.Frag} {G H : Hp} {ds : List D} {vs : List V} {Q' : VK} (s : Sta K G O H) (rl : RepL K G ds vs) (n : NewL ds O Q)
    (hQ : ∀ G' H' O' d v, Step K G O H G' O' H' → Rep K G' d v → Q d O' → Q' v H') (p : Addr) (hp : H p = none) : Q' (.ref p) (upd H p (.lst vs)) := by
  have gp : G p = none := by
    cases q : G p with
    | none => rfl
    | some u => rw [s.sub p u q] at hp; cases hp
  rcases n with n | n
  · exact hQ _ _ _ _ _ (Step.new s hp) (.lst upd_same (rl.mono (Ex.new gp))) n
  · exact hQ _ _ _ _ _ (Step.newO s (c := .lst ds) hp rl) (.ref p) (n p)
theorem m_newT {K : PySem.W.Frag} {G H : Hp} {ds : List D} {vs : List V} {Q' : VK} (s : Sta K G O H) (rl : RepL K G ds vs) (n : Q (.tup ds) O)
    (hQ : ∀ G' H' O' d v, Step K G O H G' O' H' → Rep K G' d v → Q d O' → Q' v H') (p : Addr) (hp : H p = none) : Q' (.ref p) (upd H p (.tup vs)) := by
  have gp : G p = none := by
    cases q : G p with
    | none => rfl
    | some u => rw [s.sub p u q] at hp; cases hp
  exact hQ _ _ _ _ _ (Step.new s hp) (.tup (SqT.of upd_same) (rl.mono (Ex.new gp))) n
theorem de_tup {es : List Expr} {x1 : Nat} {pos : Pos} (h : DA X es δ O E fun ds O1 => ds.length ≤ 100000 ∧ Q (.tup ds) O1) : DE X (.Tuple es x1 pos) δ O E Q :=
  de_of (pe_tup pa_sem) fun W tk G σ H Q' p r s hE hQ => h W tk G σ H _ p r s hE fun G1 H1 O1 ds vs st rl ⟨hl, q⟩ =>
    ⟨by rw [rl.length]; exact Nat.le_trans hl (by decide), m_newT st.sta rl q fun _ _ _ _ _ st2 => hQ _ _ _ _ _ (st.trans st2)⟩
theorem de_lst {es : List Expr} {pos : Pos} (h : DA X es δ O E fun ds O1 => ds.length ≤ 100000 ∧ NewL ds O1 Q) : DE X (.List es pos) δ O E Q :=
  de_of (pe_lst pa_sem) fun W tk G σ H Q' p r s hE hQ => h W tk G σ H _ p r s hE fun G1 H1 O1 ds vs st rl ⟨hl, q⟩ =>
    ⟨by rw [rl.length]; exact Nat.le_trans hl (by decide), m_newL st.sta rl q fun _ _ _ _ _ st2 => hQ _ _ _ _ _ (st.trans st2)⟩
end
end DL

end

section
set_option maxRecDepth 100000
set_option maxHeartbeats 4000000
set_option autoImplicit false
/-! The data layer: statements, targets, loops, comprehensions, defs, calls. -/
namespace DL
open PySem PySem.Spec PyProof.Rows L2

structure Bk where
  rt : D → Own → Prop
  bk : DEnv → Own → Prop
  ct : DEnv → Own → Prop
  ex : XD → DEnv → Own → Prop
structure Lk (X : Cx) (W : WX) (G : Hp) (O : Own) (H : Hp) (B : Bk) (nx : DEnv → Own → Prop) (D : Ends) : Prop where
  nx : ∀ G' H' O' δ' σ', Step X.K G O H G' O' H' → REnv X.K G' δ' σ' → nx δ' O' → D.nx σ' H'
  rt : ∀ G' H' O' d v, Step X.K G O H G' O' H' → Rep X.K G' d v → B.rt d O' → D.rt v H'
  bk : ∀ G' H' O' δ' σ', Step X.K G O H G' O' H' → REnv X.K G' δ' σ' → B.bk δ' O' → D.bk σ' H'
  ct : ∀ G' H' O' δ' σ', Step X.K G O H G' O' H' → REnv X.K G' δ' σ' → B.ct δ' O' → D.ct σ' H'
  ex : ∀ G' H' O' δ' σ' x c dd, Step X.K G O H G' O' H' → REnv X.K G' δ' σ' → XRep X.K G' x c dd → B.ex x δ' O' → W c dd σ' H'
section
variable {X : Cx} {W : WX} {G G1 H H1 : Hp} {O O1 : Own} {B : Bk} {nx nx2 : DEnv → Own → Prop} {D : Ends}
theorem Lk.step (l : Lk X W G O H B nx D) (a : Step X.K G O H G1 O1 H1) : Lk X W G1 O1 H1 B nx D :=
  ⟨fun _ _ _ _ _ s => l.nx _ _ _ _ _ (a.trans s), fun _ _ _ _ _ s => l.rt _ _ _ _ _ (a.trans s), fun _ _ _ _ _ s => l.bk _ _ _ _ _ (a.trans s), fun _ _ _ _ _ s => l.ct _ _ _ _ _ (a.trans s), fun _ _ _ _ _ _ _ _ s => l.ex _ _ _ _ _ _ _ _ (a.trans s)⟩
end
def DS (X : Cx) (st : Stmt) (δ : DEnv) (O : Own) (B : Bk) (nx : DEnv → Own → Prop) : Prop :=
  ∀ (W : WX), Takes X W → ∀ (G : Hp) (σ : L2.St) (H : Hp) (D : Ends), REnv X.K G δ σ → Sta X.K G O H → Lk X W G O H B nx D → semS X st D σ H
def DSs (X : Cx) (st : List Stmt) (δ : DEnv) (O : Own) (B : Bk) (nx : DEnv → Own → Prop) : Prop :=
  ∀ (W : WX), Takes X W → ∀ (G : Hp) (σ : L2.St) (H : Hp) (D : Ends), REnv X.K G δ σ → Sta X.K G O H → Lk X W G O H B nx D → semSs X st D σ H

section
variable {X : Cx} {N : List Str} {sc : Scope} {δ : DEnv} {O : Own} {B : Bk} {nx : DEnv → Own → Prop} {pos : Pos}
theorem ds_of {st : Stmt} {t : TS} (hp : PS X st t) (h : ∀ (W : WX), Takes X W → ∀ (G : Hp) (σ : L2.St) (H : Hp) (D : Ends), REnv X.K G δ σ → Sta X.K G O H → Lk X W G O H B nx D → t D σ H) : DS X st δ O B nx :=
  fun W tk G σ H D r s l pins s' I => hp.run pins s' σ H D I (h W tk G σ H D r s l)
theorem dss_of {st : List Stmt} {t : TS} (hp : PSs X st t) (h : ∀ (W : WX), Takes X W → ∀ (G : Hp) (σ : L2.St) (H : Hp) (D : Ends), REnv X.K G δ σ → Sta X.K G O H → Lk X W G O H B nx D → t D σ H) : DSs X st δ O B nx :=
  fun W tk G σ H D r s l pins s' I => hp.run pins s' σ H D I (h W tk G σ H D r s l)
theorem dss_nil (q : nx δ O) : DSs X [] δ O B nx := dss_of pss_nil fun W tk G σ H D r s l => l.nx G H O δ σ (Step.refl s) r q
theorem dss_cons {st : Stmt} {rest : List Stmt} (h : DS X st δ O B fun δ1 O1 => DSs X rest δ1 O1 B nx) : DSs X (st :: rest) δ O B nx :=
  dss_of (pss_cons ps_sem pss_sem) fun W tk G σ H D r s l => h W tk G σ H _ r s
    ⟨fun G' H' O' δ' σ' st r' q => q W tk G' σ' H' D r' st.sta (l.step st), l.rt, l.bk, l.ct, l.ex⟩
theorem dss_one {st : Stmt} (h : DS X st δ O B nx) : DSs X [st] δ O B nx := dss_of (pss_one ps_sem) h
theorem DS.imp {st : Stmt} {nx2 : DEnv → Own → Prop} (h : DS X st δ O B nx) (w : ∀ δ' O', nx δ' O' → nx2 δ' O') : DS X st δ O B nx2 := fun W tk G σ H D r s l =>
  h W tk G σ H D r s ⟨fun _ _ _ _ _ s r q => l.nx _ _ _ _ _ s r (w _ _ q), l.rt, l.bk, l.ct, l.ex⟩
theorem ds_pass (q : nx δ O) : DS X (.Pass pos) δ O B nx := ds_of ps_pass fun W tk G σ H D r s l => l.nx G H O δ σ (Step.refl s) r q
theorem ds_break (q : B.bk δ O) : DS X (.Break pos) δ O B nx := ds_of ps_break fun W tk G σ H D r s l => l.bk G H O δ σ (Step.refl s) r q
theorem ds_continue (q : B.ct δ O) : DS X (.Continue pos) δ O B nx := ds_of ps_continue fun W tk G σ H D r s l => l.ct G H O δ σ (Step.refl s) r q
/-- an expression within a statement -/
theorem m_in {α β : Type} {P : Hp → Prop} {R : Hp → α → β → Prop} {t : TR β} {Q : α → Own → Prop} {W : WX} {G H : Hp} {σ : L2.St} {D : Ends} {K : β → Hp → Prop} (h : M X P R t δ O (fun x O' => B.ex x δ O') Q) (tk : Takes X W) (p : P G) (r : REnv X.K G δ σ) (s : Sta X.K G O H) (l : Lk X W G O H B nx D)
    (k : ∀ G' H' O' a b, Step X.K G O H G' O' H' → REnv X.K G' δ σ → Lk X W G' O' H' B nx D → R G' a b → Q a O' → K b H') : t σ H K :=
  h W tk G σ H K p r s (fun G' H' O' x c dd st xr e => l.ex G' H' O' δ σ x c dd st (r.mono st.g) xr e) fun G' H' O' a b st ra q => k G' H' O' a b st (r.mono st.g) (l.step st) ra q
theorem ds_expr {e : Expr} (h : DE X e δ O (fun x O' => B.ex x δ O') fun _ O1 => nx δ O1) (hs : swapsWith e none pos.line X.env = pure false := by with_unfolding_all rfl) : DS X (.Expr e pos) δ O B nx :=
  ds_of (ps_expr pe_sem hs) fun W tk G σ H D r s l => m_in h tk trivial r s l fun G' H' O' d v st r' l' rd q => l'.nx G' H' O' δ σ (Step.refl st.sta) r' q
theorem ds_doc {x : Str} {j : Nat} {pos' : Pos} (q : nx δ O) : DS X (.Expr (.Constant (.str x) j pos) pos') δ O B nx := ds_of ps_doc fun W tk G σ H D r s l => l.nx G H O δ σ (Step.refl s) r q
theorem ds_ret {e : Expr} (h : DE X e δ O (fun x O' => B.ex x δ O') fun d O1 => B.rt d O1) : DS X (.Return (some e) pos) δ O B nx :=
  ds_of (ps_ret pe_sem) fun W tk G σ H D r s l => m_in h tk trivial r s l fun G' H' O' d v st r' l' rd q => l'.rt G' H' O' d v (Step.refl st.sta) rd q
theorem ds_retN (q : B.rt .non O) : DS X (.Return none pos) δ O B nx := ds_of ps_retN fun W tk G σ H D r s l => l.rt G H O _ _ (Step.refl s) .non q
theorem ds_if {c : Expr} {a b : List Stmt} (h : DT X c δ O (fun x O' => B.ex x δ O') fun k O1 => (k = true → DSs X a δ O1 B nx) ∧ (k = false → DSs X b δ O1 B nx)) : DS X (.If c a b pos) δ O B nx :=
  ds_of (ps_if pt_sem pss_sem pss_sem) fun W tk G σ H D r s l => m_in h tk trivial r s l fun G' H' O' k k' st r' l' rd q => by
    obtain rfl : k = k' := rd
    cases k with
    | true => rw [if_pos rfl]; exact q.1 rfl W tk G' σ H' D r' st.sta l'
    | false => rw [if_neg Bool.false_ne_true]; exact q.2 rfl W tk G' σ H' D r' st.sta l'

/-! ### targets -/
def semG (X : Cx) (tg : Expr) : TG := fun v σ H Q => ∀ (pins : List (Addr × Obj)) (s : Shared) (u : Value), Inv X pins σ H s → RelV v u → wpAny (model X.prog X.w) X.A (assign tg X.env u) (fun _ s' => ∃ σ' H', Inv X pins σ' H' s' ∧ Q σ' H') X.xe s
theorem pg_sem {tg : Expr} : PG X tg (semG X tg) := ⟨fun pins s _ _ _ u _ I r h => h pins s u I r⟩
/-- d is assigned to the target; then k -/
def DG (X : Cx) (tg : Expr) (d : D) (δ : DEnv) (O : Own) (E : XD → DEnv → Own → Prop) (k : DEnv → Own → Prop) : Prop :=
  ∀ (W : WX), Takes X W → ∀ (v : V) (G : Hp) (σ : L2.St) (H : Hp) (Q : L2.St → Hp → Prop), Rep X.K G d v → REnv X.K G δ σ → Sta X.K G O H →
    (∀ G' H' O' δ' σ' x c dd, Step X.K G O H G' O' H' → REnv X.K G' δ' σ' → XRep X.K G' x c dd → E x δ' O' → W c dd σ' H') →
    (∀ G' H' O' δ' σ', Step X.K G O H G' O' H' → REnv X.K G' δ' σ' → k δ' O' → Q σ' H') → semG X tg v σ H Q
def semGs (X : Cx) (ts : List Expr) : TGs := fun vs σ H Q => ∀ (pins : List (Addr × Obj)) (s : Shared) (us : List Value), Inv X pins σ H s → Vals vs us → wpAny (model X.prog X.w) X.A (assignInOrder ((assignEach ts X.env).map (·.2)) us) (fun _ s' => ∃ σ' H', Inv X pins σ' H' s' ∧ Q σ' H') X.xe s
theorem pgs_sem {ts : List Expr} : PGs X ts (semGs X ts) := ⟨fun pins s _ _ _ us _ I r h => h pins s us I r⟩
def DGs (X : Cx) (ts : List Expr) (ds : List D) (δ : DEnv) (O : Own) (E : XD → DEnv → Own → Prop) (k : DEnv → Own → Prop) : Prop :=
  ∀ (W : WX), Takes X W → ∀ (vs : List V) (G : Hp) (σ : L2.St) (H : Hp) (Q : L2.St → Hp → Prop), RepL X.K G ds vs → REnv X.K G δ σ → Sta X.K G O H →
    (∀ G' H' O' δ' σ' x c dd, Step X.K G O H G' O' H' → REnv X.K G' δ' σ' → XRep X.K G' x c dd → E x δ' O' → W c dd σ' H') →
    (∀ G' H' O' δ' σ', Step X.K G O H G' O' H' → REnv X.K G' δ' σ' → k δ' O' → Q σ' H') → semGs X ts vs σ H Q
variable {E : XD → DEnv → Own → Prop} {k : DEnv → Own → Prop}
theorem dg_name {x : Str} {i : Nat} {d : D} {δ' : DEnv} (S : Sc X N sc) (hi : Ix x N i) (hs : SetD d δ i δ') (q : k δ' O) (hl : Nk x .local sc.names := by (repeat (with_reducible constructor))) : DG X (.Name x pos) d δ O E k := fun W tk v G σ H Q rd r s _ hk pins s' u I ru =>
  (pg_name S.hN (S.ix hi) (.inl (S.lo hl)) (.inr (S.lo hl))).run pins s' σ H v u Q I ru (hk G H O δ' _ (Step.refl s) (by rw [hs.eq]; exact r.set i rd) q)
/-- a name that an inner block captures -/
theorem dg_cell {x : Str} {i : Nat} {d : D} {δ' : DEnv} (S : Sc X N sc) (hf : ∀ x, X.fn x = true) (hi : Ix x N i) (hs : SetD d δ i δ') (q : k δ' O) (hl : Nk x .cell sc.names := by (repeat (with_reducible constructor))) : DG X (.Name x pos) d δ O E k := fun W tk v G σ H Q rd r s _ hk pins s' u I ru =>
  (pg_name S.hN (S.ix hi) (.inr (S.ce hl)) (.inl (hf x))).run pins s' σ H v u Q I ru (hk G H O δ' _ (Step.refl s) (by rw [hs.eq]; exact r.set i rd) q)
theorem dgs_nil (q : k δ O) : DGs X [] [] δ O E k := fun W tk vs G σ H Q rd r s _ hk pins s' us I ru => by
  cases rd
  exact pgs_nil.run pins s' σ H [] us Q I ru ⟨rfl, hk G H O δ σ (Step.refl s) r q⟩
theorem dgs_cons {t : Expr} {ts : List Expr} {d : D} {ds : List D} (h : DG X t d δ O E fun δ1 O1 => DGs X ts ds δ1 O1 E k) (hs : (assignEach (t :: ts) X.env).map (·.2) = assign t X.env :: (assignEach ts X.env).map (·.2) := by with_unfolding_all rfl) : DGs X (t :: ts) (d :: ds) δ O E k := fun W tk vs G σ H Q rd r s hE hk pins s' us I ru => by
  cases rd with
  | @cons _ v _ vs' r1 r2 =>
    exact (pgs_cons pg_sem pgs_sem hs).run pins s' σ H _ us Q I ru ⟨_, _, rfl, h W tk v G σ H _ r1 r s (fun _ _ _ _ _ _ _ _ => hE _ _ _ _ _ _ _ _) fun G1 H1 O1 δ1 σ1 st r' q => q W tk vs' G1 σ1 H1 Q (r2.mono st.g) r' st.sta (fun _ _ _ _ _ _ _ _ st2 => hE _ _ _ _ _ _ _ _ (st.trans st2)) fun _ _ _ _ _ st2 => hk _ _ _ _ _ (st.trans st2)⟩
theorem dg_tup {es : List Expr} {k' : Nat} {ds : List D} (S : Sc X N sc) (hl : ds.length = es.length) (h : DGs X es ds δ O E k) (hn : (assignEach es X.env).length = es.length := by with_unfolding_all rfl) (hst : (assignEach es X.env).findIdx? (·.1) = none := by with_unfolding_all rfl) : DG X (.Tuple es k' pos) (.tup ds) δ O E k := fun W tk v G σ H Q rd r s hE hk pins s' u I ru => by
  cases rd with
  | @tup _ a vs hq rl =>
    exact (pg_tup S.calm pgs_sem hn hst).run pins s' σ H _ u Q I ru ⟨a, vs, rfl, s.sub.seqT hq, by rw [rl.length, hl], h W tk vs G σ H Q rl r s hE hk⟩
/-- target = e -/
theorem ds_asg {tg e : Expr} (h : DE X e δ O (fun x O' => B.ex x δ O') fun d O1 => DG X tg d δ O1 B.ex nx) (hs : swapsWithSole [tg] e pos.line X.env = pure false := by with_unfolding_all rfl) (hw : swappedStores [tg] e X.env = pure none := by with_unfolding_all rfl)
    (h1 : (assignEach [tg] X.env).map (·.2) = [assign tg X.env] := by with_unfolding_all rfl) : DS X (.Assign [tg] e pos) δ O B nx :=
  ds_of (ps_asg pe_sem pg_sem hs hw h1) fun W tk G σ H D r s l => m_in h tk trivial r s l fun G' H' O' d v st r' l' rd q => q W tk v G' σ H' D.nx rd r' st.sta l'.ex l'.nx
theorem ds_set {x : Str} {i : Nat} {e : Expr} {pos' : Pos} (S : Sc X N sc) (hi : Ix x N i) (h : DE X e δ O (fun x O' => B.ex x δ O') fun d O1 => ∃ δ', SetD d δ i δ' ∧ nx δ' O1) (hl : Nk x .local sc.names := by (repeat (with_reducible constructor))) (hs : swapsWith e (some (.Name x pos')) pos.line X.env = pure false := by with_unfolding_all rfl) : DS X (.Assign [.Name x pos'] e pos) δ O B nx :=
  ds_of (ps_set S.hN (S.ix hi) (.inl (S.lo hl)) pe_sem hs (.inr (S.lo hl))) fun W tk G σ H D r s l => m_in h tk trivial r s l fun G' H' O' d v st r' l' rd ⟨δ', hd, q⟩ => l'.nx G' H' O' δ' _ (Step.refl st.sta) (by rw [hd.eq]; exact r'.set i rd) q
theorem ds_setC {x : Str} {i : Nat} {e : Expr} {pos' : Pos} (S : Sc X N sc) (hf : ∀ x, X.fn x = true) (hi : Ix x N i) (h : DE X e δ O (fun x O' => B.ex x δ O') fun d O1 => ∃ δ', SetD d δ i δ' ∧ nx δ' O1) (hl : Nk x .cell sc.names := by (repeat (with_reducible constructor))) (hs : swapsWith e (some (.Name x pos')) pos.line X.env = pure false := by with_unfolding_all rfl) : DS X (.Assign [.Name x pos'] e pos) δ O B nx :=
  ds_of (ps_set S.hN (S.ix hi) (.inr (S.ce hl)) pe_sem hs (.inl (hf x))) fun W tk G σ H D r s l => m_in h tk trivial r s l fun G' H' O' d v st r' l' rd ⟨δ', hd, q⟩ => l'.nx G' H' O' δ' _ (Step.refl st.sta) (by rw [hd.eq]; exact r'.set i rd) q
/-- a, b = e1, e2 -/
theorem ds_par {x y : Str} {a b : Expr} {i j : Nat} {px py pt : Pos} {kt k2 : Nat} {pt2 : Pos} (S : Sc X N sc) (hi : Ix x N i) (hj : Ix y N j) (h : DA X [a, b] δ O (fun x O' => B.ex x δ O') fun ds O1 => ∃ d e δ' δ'', ds = [d, e] ∧ SetD d δ i δ' ∧ SetD e δ' j δ'' ∧ nx δ'' O1) (hij : i ≠ j := by decide)
    (hx : Nk x .local sc.names := by (repeat (with_reducible constructor))) (hy : Nk y .local sc.names := by (repeat (with_reducible constructor))) (hw : ∀ env : Env, swappedStores [.Tuple [.Name x px, .Name y py] kt pt] (.Tuple [a, b] k2 pt2) env = pure (some [x, y]))
    (hs : swapsWithSole [.Tuple [.Name x px, .Name y py] kt pt] (.Tuple [a, b] k2 pt2) pos.line X.env = pure false := by with_unfolding_all rfl) : DS X (.Assign [.Tuple [.Name x px, .Name y py] kt pt] (.Tuple [a, b] k2 pt2) pos) δ O B nx :=
  ds_of (ps_par S.calm S.hN (S.ix hi) (S.ix hj) hij (S.lo hx) (S.lo hy) pa_sem (hw _) hs) fun W tk G σ H D r s l => m_in h tk trivial r s l fun G' H' O' ds vs st r' l' rd ⟨d, e, δ', δ'', ed, h1, h2, q⟩ => by
    subst ed
    cases rd with
    | cons r1 rr =>
      cases rr with
      | cons r2 rr =>
        cases rr
        exact ⟨_, _, rfl, l'.nx G' H' O' δ'' _ (Step.refl st.sta) (by rw [h2.eq, h1.eq]; exact (r'.set i r1).set j r2) q⟩
/-- x op= e -/
theorem ds_aug {x : Str} {i : Nat} {e : Expr} {op : Operator} {pos' : Pos} {d : D} (S : Sc X N sc) (hi : Ix x N i) (hd : Sl δ i d) (h : DE X e δ O (fun x O' => B.ex x δ O') fun y O1 => DB X (inplaceOp op) d y δ O1 (fun x O' => B.ex x δ O') fun z O2 => ∃ δ', SetD z δ i δ' ∧ nx δ' O2) (hl : Nk x .local sc.names := by (repeat (with_reducible constructor))) :
    DS X (.AugAssign (.Name x pos') op e pos) δ O B nx := by
  intro W tk G σ H D r s l pins s' I
  obtain ⟨v, ev, rv⟩ := r.2 i d hd.get
  have hlo := S.lo hl
  obtain ⟨m, hn, hl'⟩ := I.loc
  obtain ⟨u, ru, lk⟩ := hl' i x v (S.ix hi) ev (.inl hlo)
  refine wpAny_AugAssign_Name ?_
  have go : wpAny (model X.prog X.w) X.A (eval e X.env) (fun w s₂ => wpAny (model X.prog X.w) X.A (inplaceOp op u w) (fun r s₃ => wpAny (model X.prog X.w) X.A (storeName X.env x r) (fun _ => SP X pins D .next) X.xe s₃) X.xe s₂) X.xe s' := by
    refine thn (m_in (K := fun v2 H1 => semB X (inplaceOp op) v v2 σ H1 fun v3 H2 => D.nx (σ.set i (some v3)) H2) h tk trivial r s l (fun G1 H1 O1 y w1 st r1 l1 ry q => m_in (q v w1) tk ⟨rv.mono st.g, ry⟩ r1 st.sta l1 fun G2 H2 O2 z w2 st2 r2 l2 rz ⟨δ', hz, q2⟩ => l2.nx G2 H2 O2 δ' _ (Step.refl st2.sta) (by rw [hz.eq]; exact r2.set i rz) q2) pins s' I) fun w s1 ⟨y, H1, I1, ry, q1⟩ => ?_
    refine thn (q1 pins s1 u w I1 ru ry) fun z s2 ⟨zv, H2, I2, rz, q2⟩ => ?_
    exact store_ok I2 S.hN (S.ix hi) (.inl hlo) rz (fun s3 I3 => ⟨_, H2, I3, q2⟩) (.inr hlo)
  rcases lk with ⟨hk, hm⟩ | ⟨hk, c, hc, hcell⟩
  · exact wpAny_loadName_local I.ok.kind hk hn hm go
  · rcases hk with hk | hk <;> (have z : X.env.scope.names.lookup x = _ := hk; rw [hlo] at z; cases z)

/-! ### what is walked -/
structure JRep (K : PySem.W.Frag) (G : Hp) (ds : List D) (J : It) : Prop where
  go : ∀ i G1 H, Ex G G1 → Ex G1 H → i < ds.length → J.go i H
  stop : ∀ i G1 H, Ex G G1 → Ex G1 H → ds.length = i → J.stop i H
  yld : ∀ i G1 H x H' d, Ex G G1 → Ex G1 H → ds[i]? = some d → J.yld i H x H' → (H' = H ∧ Rep K G1 d x) ∨ (∃ p vs es, H p = none ∧ H' = upd H p (.tup vs) ∧ d = .tup es ∧ RepL K G1 es vs ∧ x = .ref p)
theorem JRep.mono {K : PySem.W.Frag} {G G' : Hp} {ds : List D} {J : It} (e : Ex G G') (h : JRep K G ds J) : JRep K G' ds J :=
  ⟨fun i G1 H a => h.go i G1 H (e.trans a), fun i G1 H a => h.stop i G1 H (e.trans a), fun i G1 H x H' d a => h.yld i G1 H x H' d (e.trans a)⟩
def semI (X : Cx) (tg iter : Expr) : TI := fun σ H R => ∀ (pins : List (Addr × Obj)) (s : Shared), Inv X pins σ H s → wpAny (model X.prog X.w) X.A (eval iter X.env) (fun v s1 => wpAny (model X.prog X.w) X.A (pyIter v) (PIE X pins σ tg R) X.xe s1) X.xe s
theorem pi_sem {tg iter : Expr} : PI X tg iter (semI X tg iter) := ⟨fun pins s _ _ _ I h => h pins s I⟩
def DI (X : Cx) (tg iter : Expr) (δ : DEnv) (O : Own) (E : XD → Own → Prop) (Q : List D → Own → Prop) : Prop := M X PT0 (fun G ds J => JRep X.K G ds J) (semI X tg iter) δ O E Q
theorem di_of {tg iter : Expr} {t : TI} {E : XD → Own → Prop} {Q : List D → Own → Prop} (hp : PI X tg iter t) (h : M X PT0 (fun G ds J => JRep X.K G ds J) t δ O E Q) : DI X tg iter δ O E Q := fun W tk G σ H Q' p r s hE hQ pins s' I => hp.run pins s' σ H Q' I (h W tk G σ H Q' p r s hE hQ)
theorem jrep_list {K : PySem.W.Frag} {G : Hp} {a : Addr} {ds : List D} {vs : List V} (hq : SqL K G a vs) (rl : RepL K G ds vs) : JRep K G ds (Itl K a) where
  go := fun i G1 H e1 e2 hi => by
    have hv : i < vs.length := by rw [rl.length]; exact hi
    exact ⟨vs, vs[i], e2.seqL (e1.seqL hq), by simp [hv]⟩
  stop := fun i G1 H e1 e2 hi => ⟨vs, e2.seqL (e1.seqL hq), by rw [rl.length]; exact Nat.le_of_eq hi⟩
  yld := fun i G1 H x H' d e1 e2 hd ⟨eH, hy⟩ => by
    obtain ⟨v, hv, rv⟩ := rl.get hd
    have := hy vs (e2.seqL (e1.seqL hq))
    rw [hv] at this
    cases this
    exact .inl ⟨eH, rv.mono e1⟩
theorem jrep_tup {K : PySem.W.Frag} {G : Hp} {a : Addr} {ds : List D} {vs : List V} (hq : SqT K G a vs) (rl : RepL K G ds vs) : JRep K G ds (Itt K a) where
  go := fun i G1 H e1 e2 hi => by
    have hv : i < vs.length := by rw [rl.length]; exact hi
    exact ⟨vs, vs[i], e2.seqT (e1.seqT hq), by simp [hv]⟩
  stop := fun i G1 H e1 e2 hi => ⟨vs, e2.seqT (e1.seqT hq), by rw [rl.length]; exact Nat.le_of_eq hi⟩
  yld := fun i G1 H x H' d e1 e2 hd ⟨eH, hy⟩ => by
    obtain ⟨v, hv, rv⟩ := rl.get hd
    have := hy vs (e2.seqT (e1.seqT hq))
    rw [hv] at this
    cases this
    exact .inl ⟨eH, rv.mono e1⟩
theorem jrep_range {K : PySem.W.Frag} {G : Hp} {lo : Int} {n : Nat} : JRep K G ((List.range n).map fun i => D.int (lo + (i : Nat))) (Itr lo n) where
  go := fun i G1 H _ _ hi => by simp at hi; exact hi
  stop := fun i G1 H _ _ hi => by simp at hi; exact Nat.le_of_eq hi
  yld := fun i G1 H x H' d _ _ hd ⟨eH, ex⟩ => by
    rw [List.getElem?_map] at hd
    cases q : (List.range n)[i]? with
    | none => rw [q] at hd; cases hd
    | some j =>
      rw [q] at hd
      cases hd
      have : j = i := by
        obtain ⟨h1, h2⟩ := List.getElem?_eq_some_iff.mp q
        rw [List.getElem_range] at h2
        exact h2.symm
      subst this
      subst ex
      exact .inl ⟨eH, .int _⟩
end
end DL

end

section
set_option maxRecDepth 100000
set_option maxHeartbeats 4000000
set_option autoImplicit false
/-! The data layer: loops, comprehensions, defs, calls. -/
namespace DL
open PySem PySem.Spec PyProof.Rows L2

section
variable {X : Cx} {N : List Str} {sc : Scope} {δ : DEnv} {O : Own} {E : XD → Own → Prop} {Q : D → Own → Prop} {QT : Bool → Own → Prop} {QA : List D → Own → Prop} {B : Bk} {nx : DEnv → Own → Prop} {pos : Pos}

/-! ### sources -/
theorem di_list {tg l : Expr} {QI : List D → Own → Prop} (h : DE X l δ O E fun d O1 => ∃ ds, (d = .lst ds ∨ d = .fz ds) ∧ QI ds O1) : DI X tg l δ O E QI :=
  di_of (pi_list pe_sem) fun W tk G σ H Q' p r s hE hQ => h W tk G σ H _ p r s hE fun G' H' O' d v st rd ⟨ds, ed, q⟩ => by
    have go : ∀ a vs, SqL X.K G' a vs → RepL X.K G' ds vs → v = .ref a → ∃ a, v = .ref a ∧ (∃ xs, SqL X.K H' a xs) ∧ Q' (Itl X.K a) H' := fun a vs hq rl ev => ⟨a, ev, ⟨vs, st.sta.sub.seqL hq⟩, hQ _ _ _ _ _ st (jrep_list hq rl) q⟩
    rcases ed with rfl | rfl
    · cases rd with
      | lst hq rl => exact go _ _ (.inl (.inl hq)) rl rfl
    · cases rd with
      | fz hq rl => exact go _ _ hq rl rfl
theorem di_tup {tg l : Expr} {QI : List D → Own → Prop} (h : DE X l δ O E fun d O1 => ∃ ds, d = .tup ds ∧ QI ds O1) : DI X tg l δ O E QI :=
  di_of (pi_tup pe_sem) fun W tk G σ H Q' p r s hE hQ => h W tk G σ H _ p r s hE fun G' H' O' d v st rd ⟨ds, ed, q⟩ => by
    subst ed
    cases rd with
    | tup hq rl => exact ⟨_, rfl, ⟨_, st.sta.sub.seqT hq⟩, hQ _ _ _ _ _ st (jrep_tup hq rl) q⟩
def dInts (lo : Int) (n : Nat) : List D := (List.range n).map fun i => D.int (lo + (i : Nat))
theorem dInts_length {lo : Int} {n : Nat} : (dInts lo n).length = n := by simp [dInts]
theorem dInts_get {lo : Int} {n i : Nat} {d : D} (h : (dInts lo n)[i]? = some d) : d = .int (lo + (i : Nat)) ∧ i < n := by
  unfold dInts at h
  rw [List.getElem?_map] at h
  cases q : (List.range n)[i]? with
  | none => rw [q] at h; cases h
  | some j =>
    rw [q] at h
    cases h
    obtain ⟨h1, h2⟩ := List.getElem?_eq_some_iff.mp q
    rw [List.getElem_range] at h2
    subst h2
    exact ⟨rfl, by simpa using h1⟩
theorem di_range1 {tg a : Expr} {QI : List D → Own → Prop} {p : Pos} (S : Sc X N sc) (hm : X.mg "range" = none) (h : DA X [a] δ O E fun ds O1 => ∃ j, ds = [.int j] ∧ -(2 ^ 62) ≤ j ∧ j < 2 ^ 62 ∧ QI (dInts 0 j.toNat) O1) (hg : Nk ("range" : Str) .globalImplicit sc.names := by (repeat (with_reducible constructor))) (h1 : starEach [a] X.env = [(false, eval a X.env)] := by with_unfolding_all rfl) :
    DI X tg (.Call (.Name "range" p) [a] [] pos) δ O E QI :=
  di_of (pi_range1 (S.gl hg) hm pa_sem h1) fun W tk G σ H Q' p r s hE hQ => h W tk G σ H _ p r s hE fun G' H' O' ds vs st rl ⟨j, e, h1, h2, q⟩ => by
    subst e
    cases rl with
    | cons r1 rr =>
      cases r1
      cases rr
      exact ⟨j, rfl, h1, h2, hQ _ _ _ _ _ st jrep_range q⟩
theorem di_range2 {tg a b : Expr} {QI : List D → Own → Prop} {p : Pos} (S : Sc X N sc) (hm : X.mg "range" = none) (h : DA X [a, b] δ O E fun ds O1 => ∃ i j, ds = [.int i, .int j] ∧ (-(2 ^ 62) ≤ i ∧ i < 2 ^ 62 ∧ -(2 ^ 62) ≤ j ∧ j < 2 ^ 62) ∧ QI (dInts i (j - i).toNat) O1) (hg : Nk ("range" : Str) .globalImplicit sc.names := by (repeat (with_reducible constructor))) (h1 : starEach [a, b] X.env = [(false, eval a X.env), (false, eval b X.env)] := by with_unfolding_all rfl) (h2 : starEach [b] X.env = [(false, eval b X.env)] := by with_unfolding_all rfl) :
    DI X tg (.Call (.Name "range" p) [a, b] [] pos) δ O E QI :=
  di_of (pi_range2 (S.gl hg) hm pa_sem h1 h2) fun W tk G σ H Q' p r s hE hQ => h W tk G σ H _ p r s hE fun G' H' O' ds vs st rl ⟨i, j, e, h1, q⟩ => by
    subst e
    cases rl with
    | cons r1 rr =>
      cases r1
      cases rr with
      | cons r2 rr =>
        cases r2
        cases rr
        exact ⟨i, j, rfl, h1, hQ _ _ _ _ _ st jrep_range q⟩

/-! ### for -/
/-- what the turn's item is, where it is drawn -/
theorem drawn {K : PySem.W.Frag} {G1 H1 G H H' : Hp} {O1 O : Own} {ds : List D} {J : It} {i : Nat} {x : V} {d : D} (jr : JRep K G1 ds J) (st : Step K G1 O1 H1 G O H) (hd : ds[i]? = some d) (hy : J.yld i H x H') :
    ∃ G', Step K G1 O1 H1 G' O H' ∧ Ex G G' ∧ Rep K G' d x := by
  rcases jr.yld i G H x H' d st.g st.sta.sub hd hy with ⟨e, r⟩ | ⟨p, vs, es, hp, eH, ed, rl, ex⟩
  · subst e
    exact ⟨G, st, Ex.refl _, r⟩
  · subst eH ed ex
    have s2 := Step.new st.sta (o := .tup vs) hp
    exact ⟨_, st.trans s2, s2.g, .tup (SqT.of upd_same) (rl.mono s2.g)⟩
theorem ds_for {tg iter : Expr} {body : List Stmt} (S : Sc X N sc) (po : PassesOwn (model X.prog X.w) X.A X.env X.xe)
    (h : DI X tg iter δ O (fun x O' => B.ex x δ O') fun ds O1 => ∃ P : Nat → DEnv → Own → Prop, P 0 δ O1 ∧
      (∀ i d δ' O', ds[i]? = some d → P i δ' O' → DG X tg d δ' O' B.ex fun δ2 O2 => DSs X body δ2 O2 { B with bk := nx, ct := P (i + 1) } (P (i + 1))) ∧ ∀ δ' O', P ds.length δ' O' → nx δ' O')
    (hs : ∀ x, foldedSetIterable iter X.env x = pure x := by intro _; with_unfolding_all rfl) : DS X (.For tg iter body [] pos) δ O B nx :=
  ds_of (ps_for po S.calm pi_sem pg_sem pss_sem hs) fun W tk G σ H D r s l => m_in h tk trivial r s l fun G1 H1 O1 ds J st r1 l1 jr ⟨P, h0, hs, hd⟩ => by
    refine ⟨fun i m σ' H' => m = ds.length - i ∧ i ≤ ds.length ∧ ∃ G' O' δ', Step X.K G1 O1 H1 G' O' H' ∧ REnv X.K G' δ' σ' ∧ P i δ' O', ⟨_, rfl, Nat.zero_le _, G1, O1, δ, Step.refl st.sta, r1, h0⟩, ?_⟩
    rintro i m σ' H' ⟨rfl, hi, G', O', δ', st', r', p⟩
    by_cases hlt : i < ds.length
    · refine .inr ⟨jr.go i G' H' st'.g st'.sta.sub hlt, fun σ2 H2 => ∃ G2 O2 δ2, Step X.K G1 O1 H1 G2 O2 H2 ∧ REnv X.K G2 δ2 σ2 ∧ P (i + 1) δ2 O2, fun σ2 H2 ⟨G2, O2, δ2, s2, r2, p2⟩ => ⟨ds.length - (i + 1), by omega, rfl, hlt, G2, O2, δ2, s2, r2, p2⟩, fun x H2 hy => ?_⟩
      have hdi : ds[i]? = some ds[i] := by simp [hlt]
      obtain ⟨G2, st2, e2, rx⟩ := drawn jr st' hdi hy
      refine hs i _ δ' O' hdi p W tk x G2 σ' H2 _ rx (r'.mono e2) st2.sta (fun _ _ _ _ _ _ _ _ s3 => (l1.step st2).ex _ _ _ _ _ _ _ _ s3) fun G3 H3 O3 δ3 σ3 s3 r3 q => ?_
      have l3 := l1.step (st2.trans s3)
      refine q W tk G3 σ3 H3 _ r3 s3.sta ⟨fun G4 H4 O4 δ4 σ4 s4 r4 q4 => ⟨G4, O4, δ4, (st2.trans s3).trans s4, r4, q4⟩, l3.rt, l3.nx, fun G4 H4 O4 δ4 σ4 s4 r4 q4 => ⟨G4, O4, δ4, (st2.trans s3).trans s4, r4, q4⟩, l3.ex⟩
    · have e : i = ds.length := by omega
      subst e
      exact .inl ⟨jr.stop _ G' H' st'.g st'.sta.sub rfl, (l1.step st').nx G' H' O' δ' σ' (Step.refl st'.sta) r' (hd δ' O' p)⟩

/-! ### while -/
theorem ds_while {c : Expr} {body : List Stmt} (po : PassesOwn (model X.prog X.w) X.A X.env X.xe) (P : Nat → DEnv → Own → Prop) (m0 : Nat) (h0 : P m0 δ O)
    (h : ∀ m δ' O', P m δ' O' → DT X c δ' O' (fun x O' => B.ex x δ' O') fun k O1 => (k = true → DSs X body δ' O1 { B with bk := nx, ct := fun δ2 O2 => ∃ m', m' < m ∧ P m' δ2 O2 } fun δ2 O2 => ∃ m', m' < m ∧ P m' δ2 O2) ∧ (k = false → nx δ' O1)) : DS X (.While c body [] pos) δ O B nx :=
  ds_of (ps_while po pt_sem pss_sem) fun W tk G σ H D r s l => by
    refine ⟨fun m σ' H' => ∃ G' O' δ', Step X.K G O H G' O' H' ∧ REnv X.K G' δ' σ' ∧ P m δ' O', ⟨m0, G, O, δ, Step.refl s, r, h0⟩, ?_⟩
    rintro m σ' H' ⟨G', O', δ', st', r', p⟩
    refine m_in (h m δ' O' p) tk trivial r' st'.sta (l.step st') fun G2 H2 O2 k k' st2 r2 l2 rk q => ?_
    obtain rfl : k = k' := rk
    cases k with
    | true =>
      rw [if_pos rfl]
      refine ⟨fun σ3 H3 => ∃ m', m' < m ∧ ∃ G3 O3 δ3, Step X.K G O H G3 O3 H3 ∧ REnv X.K G3 δ3 σ3 ∧ P m' δ3 O3, fun _ _ z => z, ?_⟩
      exact q.1 rfl W tk G2 σ' H2 _ r2 st2.sta ⟨fun G4 H4 O4 δ4 σ4 s4 r4 ⟨m', hm, q4⟩ => ⟨m', hm, G4, O4, δ4, (st'.trans st2).trans s4, r4, q4⟩, l2.rt, l2.nx, fun G4 H4 O4 δ4 σ4 s4 r4 ⟨m', hm, q4⟩ => ⟨m', hm, G4, O4, δ4, (st'.trans st2).trans s4, r4, q4⟩, l2.ex⟩
    | false =>
      rw [if_neg Bool.false_ne_true]
      exact l2.nx G2 H2 O2 δ' σ' (Step.refl st2.sta) r2 (q.2 rfl)

/-! ### another cell beside -/
theorem Sta.less {K : PySem.W.Frag} {G H : Hp} {p : Addr × Cell} {O : Own} (s : Sta K G (p :: O) H) : Sta K G O H := ⟨s.sub, (List.nodup_cons.mp s.nd).2, fun a c m => s.own a c (List.mem_cons_of_mem _ m)⟩
theorem Step.frame {K : PySem.W.Frag} {G G' H H' : Hp} {p : Addr × Cell} {O O' : Own} (s : Sta K G (p :: O) H) (st : Step K G O H G' O' H') : Step K G (p :: O) H G' (p :: O') H' := by
  obtain ⟨gp, o, ho, rc⟩ := s.own p.1 p.2 List.mem_cons_self
  have np : p.1 ∉ O.map (·.1) := (List.nodup_cons.mp s.nd).1
  have hp' : H' p.1 = some o := st.fr _ _ ho np
  have gp' : G' p.1 = none := by
    cases q : G' p.1 with
    | none => rfl
    | some u =>
      rcases st.gn p.1 gp (by rw [q]; exact fun z => nomatch z) with z | z
      · rw [ho] at z; cases z
      · exact absurd z np
  refine ⟨st.g, ⟨st.sta.sub, ?_, fun a c m => ?_⟩, fun a u h n => st.fr a u h fun m => n (List.mem_cons_of_mem _ m), fun a h n => (st.gn a h n).imp id fun m => List.mem_cons_of_mem _ m, fun a m => ?_⟩
  · rw [List.map_cons, List.nodup_cons]
    refine ⟨fun m => ?_, st.sta.nd⟩
    rcases st.on _ m with z | z
    · exact np z
    · rw [ho] at z; cases z
  · rcases List.mem_cons.mp m with e | m
    · cases e
      exact ⟨gp', o, hp', rc.mono st.g⟩
    · exact st.sta.own a c m
  · rw [List.map_cons] at m
    rcases List.mem_cons.mp m with e | m
    · exact .inl (by rw [e]; exact List.mem_cons_self)
    · exact (st.on a m).imp (fun z => List.mem_cons_of_mem _ z) id

/-! ### list comprehensions -/
inductive SetN : DEnv → Nat → DEnv → Prop
  | head {y : Option D} {l : DEnv} : SetN (y :: l) 0 (none :: l)
  | tail {y : Option D} {l l' : DEnv} {n : Nat} : SetN l n l' → SetN (y :: l) (n + 1) (y :: l')
theorem SetN.eq {l l' : DEnv} {n : Nat} (h : SetN l n l') : l' = l.set n none := by
  induction h with
  | head => rfl
  | tail _ ih => rw [ih]; rfl
inductive Wp : DEnv → List Nat → DEnv → Prop
  | nil {δ : DEnv} : Wp δ [] δ
  | cons {δ δ1 δ2 : DEnv} {v : Nat} {vs : List Nat} : Wp δ vs δ1 → SetN δ1 v δ2 → Wp δ (v :: vs) δ2
theorem wipe_rep {K : PySem.W.Frag} {G : Hp} {vs : List Nat} {δ δ' : DEnv} {σ : L2.St} (h : Wp δ vs δ') (r : REnv K G δ σ) : REnv K G δ' (wipe σ vs) := by
  induction h with
  | nil => exact r
  | @cons δ1 δ2 v vs hw hs ih =>
    have r1 := ih
    rw [hs.eq]
    refine ⟨by show _ = ((wipe σ vs).set v none).length; simpa using r1.1, fun i d e => ?_⟩
    show ∃ u, ((wipe σ vs).set v none)[i]? = _ ∧ _
    by_cases hi : v = i
    · subst hi
      by_cases hv : v < δ1.length
      · rw [List.getElem?_set_self hv] at e; cases e
      · rw [List.getElem?_eq_none (by simpa using hv)] at e; cases e
    · rw [List.getElem?_set_ne hi] at e ⊢
      exact r1.2 i d e
/-- the context of a comprehension's block -/
abbrev blkX (X : Cx) (scope : Scope) (s : Shared) (H : Hp) (C : Addr) (cl : List (Str × Addr)) (fp : List Addr) : Cx := X.blk s H scope (compEnvC scope cl C X.env) fp
theorem blk_sc (S : Sc X N sc) {scope : Scope} {s : Shared} {H : Hp} {C : Addr} {cl : List (Str × Addr)} {fp : List Addr} (hnm : nmOk (relS scope sc) = true) : Sc (blkX X scope s H C cl fp) N (relS scope sc) :=
  ⟨hnm, S.hn, by show relS scope X.env.scope = _; rw [S.hsc], S.nd, S.calm⟩
/-- slots that a block's own names turn -/
def Other (vs : List Nat) (σ σ' : L2.St) : Prop := wipe σ' vs = wipe σ vs
def semTs (X : Cx) (ifs : List Expr) : TT := fun σ H Q => ∀ (pins : List (Addr × Obj)) (s : Shared), Inv X pins σ H s → wpAny (model X.prog X.w) X.A (forIn ifs true fun c r => if r = true then do let ok ← isTrue c X.env (eval c X.env); pure (ForInStep.yield ok) else pure (ForInStep.yield r)) (TP X pins σ Q) X.xe s
def DTs (X : Cx) (ifs : List Expr) (δ : DEnv) (O : Own) (E : XD → Own → Prop) (Q : Bool → Own → Prop) : Prop := M X PT0 REq (semTs X ifs) δ O E Q
theorem dts_nil (q : QT true O) : DTs X [] δ O E QT := fun W tk G σ H Q' p r s hE hQ pins s' I => pts_nil.run pins s' σ H Q' I (hQ G H O true true (Step.refl s) rfl q)
theorem dts_one {c : Expr} (h : DT X c δ O E QT) : DTs X [c] δ O E QT := fun W tk G σ H Q' p r s hE hQ pins s' I => (pts_one pt_sem).run pins s' σ H Q' I (h W tk G σ H Q' p r s hE hQ)
/-- the target of a comprehension stores the block's own names alone -/
def OwnTg (tg : Expr) (vs : List Nat) : Prop := ∀ (X' : Cx) (v : V) (σ : L2.St) (H : Hp) (Q : L2.St → Hp → Prop), semG X' tg v σ H Q → semG X' tg v σ H fun σ' H' => Q σ' H' ∧ wipe σ' vs = wipe σ vs
abbrev noE : XD → Own → Prop := fun _ _ => False
abbrev noEx : XD → DEnv → Own → Prop := fun _ _ _ => False
/-- the store of a comprehension's item: what the slots are behind it -/
def DGc (X : Cx) (tg : Expr) (d : D) (vs : List Nat) (δ : DEnv) (O : Own) (k : DEnv → Own → Prop) : Prop :=
  ∀ (v : V) (G : Hp) (σ : L2.St) (H : Hp) (Q : L2.St → Hp → Prop), Rep X.K G d v → REnv X.K G δ σ → Sta X.K G O H →
    (∀ G' H' O' δ' σ', Step X.K G O H G' O' H' → REnv X.K G' δ' σ' → wipe σ' vs = wipe σ vs → k δ' O' → Q σ' H') → semG X tg v σ H Q
theorem wipe_set {σ : L2.St} {i : Nat} {v : V} : ∀ {vs : List Nat}, i ∈ vs → wipe (σ.set i (some v)) vs = wipe σ vs
  | w :: vs, h => by
    show (wipe (σ.set i (some v)) vs).set w none = (wipe σ vs).set w none
    by_cases hw : w = i
    · subst hw
      by_cases hm : w ∈ vs
      · rw [wipe_set hm]
      · have e : ∀ {vs : List Nat} {σ : L2.St}, w ∉ vs → wipe (σ.set w (some v)) vs = (wipe σ vs).set w (some v) := by
          intro vs
          induction vs with
          | nil => intro σ _; rfl
          | cons u us ih =>
            intro σ hn
            show (wipe (σ.set w (some v)) us).set u none = ((wipe σ us).set u none).set w (some v)
            rw [ih fun m => hn (List.mem_cons_of_mem _ m), List.set_comm _ _ fun z => hn (by rw [z]; exact List.mem_cons_self)]
        rw [e hm, List.set_set]
    · rcases List.mem_cons.mp h with z | z
      · exact absurd z.symm hw
      · rw [wipe_set z]
theorem dgc_name {x : Str} {i : Nat} {d : D} {δ' : DEnv} {vs : List Nat} {k : DEnv → Own → Prop} (S : Sc X N sc) (hi : Ix x N i) (hs : SetD d δ i δ') (hv : i ∈ vs) (q : k δ' O) (hl : Nk x .local sc.names := by (repeat (with_reducible constructor))) : DGc X (.Name x pos) d vs δ O k := fun v G σ H Q rd r s hk pins s' u I ru =>
  (pg_name S.hN (S.ix hi) (.inl (S.lo hl)) (.inr (S.lo hl))).run pins s' σ H v u Q I ru (hk G H O δ' _ (Step.refl s) (by rw [hs.eq]; exact r.set i rd) (wipe_set hv) q)
def DGcs (X : Cx) (ts : List Expr) (ds : List D) (vs : List Nat) (δ : DEnv) (O : Own) (k : DEnv → Own → Prop) : Prop :=
  ∀ (ws : List V) (G : Hp) (σ : L2.St) (H : Hp) (Q : L2.St → Hp → Prop), RepL X.K G ds ws → REnv X.K G δ σ → Sta X.K G O H →
    (∀ G' H' O' δ' σ', Step X.K G O H G' O' H' → REnv X.K G' δ' σ' → wipe σ' vs = wipe σ vs → k δ' O' → Q σ' H') → semGs X ts ws σ H Q
theorem dgcs_nil {vs : List Nat} {k : DEnv → Own → Prop} (q : k δ O) : DGcs X [] [] vs δ O k := fun ws G σ H Q rd r s hk pins s' us I ru => by
  cases rd
  exact pgs_nil.run pins s' σ H [] us Q I ru ⟨rfl, hk G H O δ σ (Step.refl s) r rfl q⟩
theorem dgcs_cons {t : Expr} {ts : List Expr} {d : D} {ds : List D} {vs : List Nat} {k : DEnv → Own → Prop} (h : DGc X t d vs δ O fun δ1 O1 => DGcs X ts ds vs δ1 O1 k) (hs : (assignEach (t :: ts) X.env).map (·.2) = assign t X.env :: (assignEach ts X.env).map (·.2) := by with_unfolding_all rfl) : DGcs X (t :: ts) (d :: ds) vs δ O k := fun ws G σ H Q rd r s hk pins s' us I ru => by
  cases rd with
  | @cons _ v _ vs' r1 r2 =>
    exact (pgs_cons pg_sem pgs_sem hs).run pins s' σ H _ us Q I ru ⟨_, _, rfl, h v G σ H _ r1 r s fun G1 H1 O1 δ1 σ1 st r' w q => q vs' G1 σ1 H1 Q (r2.mono st.g) r' st.sta fun _ _ _ _ _ st2 r3 w2 => hk _ _ _ _ _ (st.trans st2) r3 (w2.trans w)⟩
theorem dgc_tup {es : List Expr} {k' : Nat} {ds : List D} {vs : List Nat} {k : DEnv → Own → Prop} (S : Sc X N sc) (hl : ds.length = es.length) (h : DGcs X es ds vs δ O k) (hn : (assignEach es X.env).length = es.length := by with_unfolding_all rfl) (hst : (assignEach es X.env).findIdx? (·.1) = none := by with_unfolding_all rfl) : DGc X (.Tuple es k' pos) (.tup ds) vs δ O k := fun v G σ H Q rd r s hk pins s' u I ru => by
  cases rd with
  | @tup _ a ws hq rl =>
    exact (pg_tup S.calm pgs_sem hn hst).run pins s' σ H _ u Q I ru ⟨a, ws, rfl, s.sub.seqT hq, by rw [rl.length, hl], h ws G σ H Q rl r s hk⟩
/-- [elt for tg in iter if ..]; P: the items so far, the cells -/
def LcBody (X : Cx) (elt tg : Expr) (ifs : List Expr) (scope : Scope) (vs : List Nat) (δw : DEnv) (ds : List D) (P : Nat → List D → Own → Prop) : Prop :=
  ∀ i d acc O', ds[i]? = some d → P i acc O' → ∀ (s : Shared) (H : Hp) (C : Addr) (cl : List (Str × Addr)) (fp : List Addr),
    DGc (blkX X scope s H C cl fp) tg d vs δw O' fun δ2 O2 => ∀ (s : Shared) (H : Hp) (C : Addr) (cl : List (Str × Addr)) (fp : List Addr), DTs (blkX X scope s H C cl fp) ifs δ2 O2 noE fun b O3 =>
      (b = true → ∀ (s : Shared) (H : Hp) (C : Addr) (cl : List (Str × Addr)) (fp : List Addr), DE (blkX X scope s H C cl fp) elt δ2 O3 noE fun y O4 => acc.length < 100000 ∧ P (i + 1) (acc ++ [y]) O4) ∧ (b = false → P (i + 1) acc O3)
theorem lc_turns {elt tg iter : Expr} {ifs : List Expr} {scope : Scope} {vs : List Nat} {δw : DEnv} {ds : List D} {J : It} {G1 H1 : Hp} {O1 : Own} {σ : L2.St} {Q' : VK} (hw : Wp δ vs δw) (s1 : Sta X.K G1 O1 H1) (r1 : REnv X.K G1 δ σ) (jr : JRep X.K G1 ds J) (P : Nat → List D → Own → Prop) (h0 : P 0 [] O1)
    (hb : LcBody X elt tg ifs scope vs δw ds P) (hd : ∀ acc O', P ds.length acc O' → NewL acc O' Q) (hQ : ∀ G' H' O' d v, Step X.K G1 O1 H1 G' O' H' → Rep X.K G' d v → Q d O' → Q' v H') :
    ∀ Dl, H1 Dl = none → ∃ W : Nat → Nat → Hp → Prop, (∃ m, W 0 m (upd H1 Dl (.lst []))) ∧ ∀ i m H, W i m H →
      (J.stop i H ∧ Q' (.ref Dl) H) ∨ (J.go i H ∧ ∃ Nx : Hp → Prop, (∀ H', Nx H' → ∃ m', m' < m ∧ W (i + 1) m' H') ∧ ∀ x H', J.yld i H x H' → (fun v σ H K => ∀ s0 H0 C cl fp, semG (blkX X scope s0 H0 C cl fp) tg v σ H K : TG) x (wipe σ vs) H' fun σ2 H2 => wipe σ2 vs = wipe σ vs ∧ (fun σ H K => ∀ s0 H0 C cl fp, semTs (blkX X scope s0 H0 C cl fp) ifs σ H K : TT) σ2 H2 fun b H3 =>
        if b = true then (fun σ H K => ∀ s0 H0 C cl fp, sem (blkX X scope s0 H0 C cl fp) elt σ H K : TE) σ2 H3 fun y H4 => ∃ acc, H4 Dl = some (.lst acc) ∧ acc.length < sizeLine ∧ Nx (upd H4 Dl (.lst (acc ++ [y]))) else Nx H3) := by
  intro Dl hD
  have S0 := Step.newO s1 (c := .lst []) (o := .lst []) hD .nil
  refine ⟨fun i m H' => m = ds.length - i ∧ i ≤ ds.length ∧ ∃ G' O' acc, Step X.K G1 O1 H1 G' ((Dl, .lst acc) :: O') H' ∧ P i acc O', ⟨_, rfl, Nat.zero_le _, G1, O1, [], S0, h0⟩, ?_⟩
  rintro i m H' ⟨rfl, hi, G', O', acc, st', p⟩
  have hwip : wipe (wipe σ vs) vs = wipe σ vs := by
    have : ∀ {vs ws : List Nat}, (∀ i ∈ vs, i ∈ ws) → wipe (wipe σ ws) vs = wipe σ ws := by
      intro vs
      induction vs with
      | nil => intro ws _; rfl
      | cons v vs ih =>
        intro ws hm
        show (wipe (wipe σ ws) vs).set v none = _
        rw [ih fun i m => hm i (List.mem_cons_of_mem _ m)]
        have hv := hm v List.mem_cons_self
        have : ∀ {ws : List Nat}, v ∈ ws → (wipe σ ws).set v none = wipe σ ws := by
          intro ws
          induction ws with
          | nil => intro h; exact nomatch h
          | cons u us ih2 =>
            intro h
            show ((wipe σ us).set u none).set v none = (wipe σ us).set u none
            by_cases huv : u = v
            · subst huv; rw [List.set_set]
            · rcases List.mem_cons.mp h with z | z
              · exact absurd z.symm huv
              · rw [List.set_comm _ _ huv, ih2 z]
        exact this hv
    exact this fun i m => m
  by_cases hlt : i < ds.length
  · refine .inr ⟨jr.go i G' H' st'.g st'.sta.sub hlt, fun H2 => ∃ G2 O2 acc2, Step X.K G1 O1 H1 G2 ((Dl, .lst acc2) :: O2) H2 ∧ P (i + 1) acc2 O2, fun H2 ⟨G2, O2, acc2, s2, p2⟩ => ⟨ds.length - (i + 1), by omega, rfl, hlt, G2, O2, acc2, s2, p2⟩, fun x H2 hy s0 H0 C cl fp => ?_⟩
    have hdi : ds[i]? = some ds[i] := by simp [hlt]
    obtain ⟨G2, st2, e2, rx⟩ := drawn jr st' hdi hy
    have rw2 : REnv X.K G2 δw (wipe σ vs) := wipe_rep hw (r1.mono st2.g)
    refine hb i _ acc O' hdi p s0 H0 C cl fp x G2 (wipe σ vs) H2 _ rx rw2 st2.sta.less fun G3 H3 O3 δ3 σ3 s3 r3 w3 q3 => ⟨w3.trans hwip, fun s0 H0 C cl fp => ?_⟩
    have f3 := Step.frame st2.sta s3
    refine q3 s0 H0 C cl fp (fun _ _ _ _ => False) takes0 G3 σ3 H3 _ trivial r3 s3.sta (fun _ _ _ _ _ _ _ _ z => z.elim) fun G4 H4 O4 b b' s4 eb q4 => ?_
    obtain rfl : b = b' := eb
    have f4 := Step.frame f3.sta s4
    have t4 := (st2.trans f3).trans f4
    cases b with
    | false =>
      rw [if_neg Bool.false_ne_true]
      exact ⟨G4, O4, acc, t4, q4.2 rfl⟩
    | true =>
      rw [if_pos rfl]
      intro s0 H0 C cl fp
      refine q4.1 rfl s0 H0 C cl fp (fun _ _ _ _ => False) takes0 G4 σ3 H4 _ trivial (r3.mono s4.g) s4.sta (fun _ _ _ _ _ _ _ _ z => z.elim) fun G5 H5 O5 y v s5 ry ⟨hz, p5⟩ => ?_
      have f5 := Step.frame f4.sta s5
      obtain ⟨_, o, ho, rc⟩ := f5.sta.own Dl _ List.mem_cons_self
      cases o with
      | lst ws =>
        have rl : RepL X.K G5 acc ws := rc
        have f6 := Step.put f5.sta (c := .lst (acc ++ [y])) (o := .lst (ws ++ [v])) Put.head (rl.append (.cons ry .nil))
        exact ⟨ws, ho, by rw [rl.length]; exact Nat.lt_of_lt_of_le hz (by decide), G5, O5, acc ++ [y], (t4.trans f5).trans f6, p5⟩
      | _ => exact rc.elim
  · have e : i = ds.length := by omega
    subst e
    refine .inl ⟨jr.stop _ G' H' st'.g st'.sta.sub rfl, ?_⟩
    rcases hd acc O' p with n | n
    · obtain ⟨_, o, ho, rc⟩ := st'.sta.own Dl _ List.mem_cons_self
      obtain ⟨fz, rc'⟩ := Step.freeze st'.sta (c := .lst acc) At.head Del.head ho
      cases o with
      | lst ws => exact hQ _ _ _ _ _ (st'.trans fz) (.lst upd_same rc') n
      | _ => exact rc.elim
    · exact hQ _ _ _ _ _ st' (.ref Dl) (n Dl)
theorem de_lc {elt tg iter : Expr} {ifs : List Expr} {scope : Scope} (own : List (Str × Nat)) (S : Sc X N sc) (ok : BlkOk N sc scope own)
    (h : DI X tg iter δ O E fun ds O1 => ∃ δw, Wp δ (own.map (·.2)) δw ∧ ∃ P : Nat → List D → Own → Prop, P 0 [] O1 ∧ LcBody X elt tg ifs scope (own.map (·.2)) δw ds P ∧ ∀ acc O', P ds.length acc O' → NewL acc O' Q)
    (hs : ∀ x, foldedSetIterable iter X.env x = pure x := by intro _; with_unfolding_all rfl) : DE X (.ListComp elt [⟨tg, iter, ifs, 0⟩] scope pos) δ O E Q := by
  refine de_of (pe_lc (own := own) (g := fun v σ H K => ∀ s0 H0 C cl fp, semG (blkX X scope s0 H0 C cl fp) tg v σ H K) (tt := fun σ H K => ∀ s0 H0 C cl fp, semTs (blkX X scope s0 H0 C cl fp) ifs σ H K) (te := fun σ H K => ∀ s0 H0 C cl fp, sem (blkX X scope s0 H0 C cl fp) elt σ H K)
    S.calm S.hN pi_sem (by rw [S.hn, S.hsc]; exact ok) (fun s0 H0 C cl fp => ⟨fun pins s' σ H v u K I r q => q s0 H0 C cl fp pins s' u I r⟩) (fun s0 H0 C cl fp => ⟨fun pins s' σ H K I q => q s0 H0 C cl fp pins s' I⟩) (fun s0 H0 C cl fp => ⟨fun pins s' σ H K I q => q s0 H0 C cl fp pins s' I⟩) hs) ?_
  intro W tk G σ H Q' p r s hE hQ
  refine h W tk G σ H _ p r s hE fun G1 H1 O1 ds J st jr ⟨δw, hw, P, h0, hb, hd⟩ => ?_
  exact lc_turns (iter := iter) hw st.sta (r.mono st.g) jr P h0 hb hd fun G' H' O' d v s2 => hQ G' H' O' d v (st.trans s2)
/-- name = [..] on one line -/
theorem ds_setLc {x : Str} {i : Nat} {py : Pos} {elt tg iter : Expr} {ifs : List Expr} {scope : Scope} {lpos : Pos} (own : List (Str × Nat)) (S : Sc X N sc) (hi : Ix x N i) (ok : BlkOk N sc scope own)
    (h : DI X tg iter δ O (fun x O' => B.ex x δ O') fun ds O1 => ∃ δw, Wp δ (own.map (·.2)) δw ∧ ∃ P : Nat → List D → Own → Prop, P 0 [] O1 ∧ LcBody X elt tg ifs scope (own.map (·.2)) δw ds P ∧ ∀ acc O', P ds.length acc O' → NewL acc O' fun d O2 => ∃ δ', SetD d δ i δ' ∧ nx δ' O2)
    (hk : sc.kind = .function := by with_unfolding_all rfl) (hl : Nk x .local sc.names := by (repeat (with_reducible constructor))) (hln : (py.line == lpos.line) = true := by with_unfolding_all rfl) (ha : (scope.names.any fun (n, k) => n == x && (k == .local || k == .cell)) = false := by decide +kernel) (hs : ∀ x, foldedSetIterable iter X.env x = pure x := by intro _; with_unfolding_all rfl) :
    DS X (.Assign [.Name x py] (.ListComp elt [⟨tg, iter, ifs, 0⟩] scope lpos) pos) δ O B nx := by
  refine ds_of (ps_setLc (own := own) (i := i) (g := fun v σ H K => ∀ s0 H0 C cl fp, semG (blkX X scope s0 H0 C cl fp) tg v σ H K) (tt := fun σ H K => ∀ s0 H0 C cl fp, semTs (blkX X scope s0 H0 C cl fp) ifs σ H K) (te := fun σ H K => ∀ s0 H0 C cl fp, sem (blkX X scope s0 H0 C cl fp) elt σ H K)
    S.calm S.hN (S.ix hi) (S.lo hl) (sw_true (by rw [S.hsc]; exact hk) (S.lo hl) hln ha) pi_sem (by rw [S.hn, S.hsc]; exact ok) (fun s0 H0 C cl fp => ⟨fun pins s' σ H v u K I r q => q s0 H0 C cl fp pins s' u I r⟩) (fun s0 H0 C cl fp => ⟨fun pins s' σ H K I q => q s0 H0 C cl fp pins s' I⟩) (fun s0 H0 C cl fp => ⟨fun pins s' σ H K I q => q s0 H0 C cl fp pins s' I⟩) hs) ?_
  intro W tk G σ H D r s l
  refine m_in (t := semI X tg iter) h tk trivial r s l fun G1 H1 O1 ds J st r1 l1 jr ⟨δw, hw, P, h0, hb, hd⟩ => ?_
  exact lc_turns (Q' := fun v H' => D.nx (σ.set i (some v)) H') (iter := iter) hw st.sta r1 jr P h0 hb hd fun G' H' O' d v s2 rd ⟨δ', hδ, q⟩ => (l1.step s2).nx G' H' O' δ' _ (Step.refl s2.sta) (by rw [hδ.eq]; exact (r1.mono s2.g).set i rd) q

/-! ### defs, calls -/
abbrev DSp := List D → Own → (XD → Own → Prop) → (D → Own → Prop) → Prop
def lift (K : PySem.W.Frag) (sp : DSp) : Sp := fun vs H Q' E' => ∃ (G : Hp) (ds : List D) (O : Own) (E : XD → Own → Prop) (Q : D → Own → Prop), RepL K G ds vs ∧ Sta K G O H ∧
  (∀ G' H' O' x c dd, Step K G O H G' O' H' → XRep K G' x c dd → E x O' → E' c dd H') ∧ (∀ G' H' O' d v, Step K G O H G' O' H' → Rep K G' d v → Q d O' → Q' v H') ∧ sp ds O E Q
abbrev DFn (P : Program) (w : World) (K : PySem.W.Frag) (mg : Str → Option Value) (base : Heap) (k : Nat) (f : Addr) (sp : DSp) : Prop := FnR P w K mg base (L2.CX P w) k f (lift K sp)
end
end DL

end

section
set_option maxRecDepth 100000
set_option maxHeartbeats 4000000
set_option autoImplicit false
/-! The data layer: defs, calls, attributes. -/
namespace DL
open PySem PySem.Spec PyProof.Rows L2

/-- what a def's body knows besides -/
structure Df (X : Cx) : Prop where
  fn : ∀ x, X.fn x = true
  stk : X.stack = X.env :: X.outer
  frm : X.env.frame = some X.env.locals
  ex : X.ex = []
  po : PassesOwn (model X.prog X.w) X.A X.env X.xe
structure Is (X : Cx) (P : Program) (w : World) (K : PySem.W.Frag) (mg : Str → Option Value) (base : Heap) : Prop where
  p : X.prog = P
  w : X.w = w
  k : X.K = K
  mg : X.mg = mg
  base : X.base = base
def startD (N : List Str) (ds : List D) : DEnv := ds.map some ++ List.replicate (N.length - ds.length) none
theorem start_rep {K : PySem.W.Frag} {G : Hp} {N : List Str} {ds : List D} {vs : List V} (r : RepL K G ds vs) : REnv K G (startD N ds) (L2.start N vs) := by
  refine ⟨by simp [startD, L2.start, r.length], fun i d e => ?_⟩
  unfold startD at e
  unfold L2.start
  by_cases hi : i < ds.length
  · rw [List.getElem?_append_left (by simpa using hi), List.getElem?_map] at e
    cases q : ds[i]? with
    | none => rw [q] at e; cases e
    | some x =>
      rw [q] at e
      cases e
      obtain ⟨v, hv, rv⟩ := r.get q
      exact ⟨v, by rw [List.getElem?_append_left (by simpa [r.length] using hi), List.getElem?_map, hv]; rfl, rv⟩
  · rw [List.getElem?_append_right (by simpa using hi), List.getElem?_replicate] at e
    split at e <;> cases e
abbrev bkOf (Q : D → Own → Prop) (E : XD → Own → Prop) : Bk := ⟨Q, fun _ _ => False, fun _ _ => False, fun x _ O' => E x O'⟩
/-- what a def's body must do -/
def BodyOk (P : Program) (w : World) (K : PySem.W.Frag) (mg : Str → Option Value) (base : Heap) (k : Nat) (N : List Str) (st : Stmt) (sp : DSp) : Prop :=
  ∀ (X : Cx), Is X P w K mg base → Sc X N (defScope st) → Df X → Room k X.A → ∀ ds O E Q, sp ds O E Q → DSs X (defBody st) (startD N ds) O (bkOf Q E) fun _ O' => Q .non O'
section
variable {P : Program} {w : World} {K : PySem.W.Frag} {mg : Str → Option Value} {base : Heap} {x qual : Str} {st : Stmt} {f : Addr} {fd : FuncData} {N ps : List Str} {k : Nat} {sp sp' : DSp}
theorem DFn.imp (F : DFn P w K mg base k f sp) (h : ∀ ds O E Q, sp' ds O E Q → sp ds O E Q) : DFn P w K mg base k f sp' := FnR.imp F fun vs H Q E ⟨G, ds, O, E', Q', a, b, c, d, e⟩ => ⟨G, ds, O, E', Q', a, b, c, d, h _ _ _ _ e⟩
/-- the body, from the model's words -/
theorem body_run (S : FnS N ps (defScope st)) (h : BodyOk P w K mg base k N st sp) (cdv : Value) (A : Around) (outer : List Env) (s : Shared) (H : Hp) (vs : List V) (Q : VK) (E : XK) (hr : Room k (A.deeper (envOfC qual (defScope st) s.heap.objs.size f cdv)))
    (hsp : lift K sp vs H Q E) : ∃ t, PSs (cxOf (L2.CX P w) P w K mg base N qual (defScope st) f cdv A outer s H E) (defBody st) t ∧ t { nx := fun _ H' => Q .non H', rt := Q } (L2.start N vs) H := by
  obtain ⟨G, ds, O, E', Q', rl, sta, hE, hQ, hs⟩ := hsp
  refine ⟨_, pss_sem, ?_⟩
  exact h (cxOf (L2.CX P w) P w K mg base N qual (defScope st) f cdv A outer s H E) ⟨rfl, rfl, rfl, rfl, rfl⟩ ⟨S.nm, rfl, rfl, S.nd, rfl⟩ ⟨fun _ => rfl, rfl, rfl, rfl, passes_of rfl⟩ hr ds O E' Q' hs _ (takes_of rfl rfl rfl rfl) G _ H _ (start_rep rl) sta
    ⟨fun G' H' O' δ' σ' s' r' q => hQ G' H' O' .non .non s' .non q, hQ, fun _ _ _ _ _ _ _ z => z.elim, fun _ _ _ _ _ _ _ z => z.elim, fun G' H' O' δ' σ' x c dd s' r' xr e => hE G' H' O' x c dd s' xr e⟩
theorem dfn_of (F : Fun K x qual st f fd) (S : FnS N ps (defScope st)) (hb : Binds K fd ps []) (len : ∀ ds O E Q, sp ds O E Q → ds.length = ps.length) (h : BodyOk P w K mg base k N st sp) : DFn P w K mg base (k + 1) f sp := by
  have F1 : FnOk P w K mg base (L2.CX P w) (k + 1) f fd ps (lift K sp) := F.okX S.toFnScope (fun vs H Q E ⟨G, ds, O, E', Q', rl, _, _, _, hs⟩ => by rw [rl.length]; exact len _ _ _ _ hs) fun cdv A outer s H vs Q E hr hsp => body_run S h cdv A outer s H vs Q E hr hsp
  exact FnR.imp (F1.raw hb .nil) fun vs H Q E z => by rw [List.append_nil]; exact z
/-- def f(a, .., *r) -/
def starSp (n : Nat) (sp : DSp) : DSp := fun ds O E Q => ∃ ws rest, ds = ws ++ rest ∧ ws.length = n ∧ rest.length ≤ 100000 ∧ sp (ws ++ [.tup rest]) O E Q
theorem dfn_star {pv : Str} (F : Fun K x qual st f fd) (S : FnS N (ps ++ [pv]) (defScope st)) (hb : ∀ us rest : List Value, us.length = ps.length → bindArgs fd ⟨us ++ rest, []⟩ = (newTuple rest >>= fun t => pure (ps.zip us ++ [(pv, t)])))
    (h : BodyOk P w K mg base k N st sp) : DFn P w K mg base (k + 1) f (starSp ps.length sp) := by
  obtain ⟨oc, od, kV, doc, pm, an, cdv, ct, osl, rfl, lk, hcd⟩ := F.ex
  refine FnR.imp (StX.fn_star (sp := lift K sp) lk hcd S.toFnScope StX.cxUp hb fun A outer s H vs Q E hr hsp => body_run S h cdv A outer s H vs Q E hr hsp) fun vs H Q E hsp => ?_
  obtain ⟨G, ds, O, E', Q', rl, sta, hE, hQ, ws, rest, ed, hl, hz, hs⟩ := hsp
  subst ed
  obtain ⟨v1, v2, ev, r1, r2⟩ := rl.split
  subst ev
  refine ⟨v1, v2, rfl, by rw [r1.length]; exact hl, by rw [r2.length]; exact Nat.le_trans hz (by decide), fun p hp => ?_⟩
  have s1 := Step.new sta (o := .tup v2) hp
  exact ⟨_, ws ++ [.tup rest], O, E', Q', (r1.mono s1.g).append (.cons (.tup (SqT.of upd_same) (r2.mono s1.g)) .nil), s1.sta, fun _ _ _ _ _ _ s2 => hE _ _ _ _ _ _ (s1.trans s2), fun _ _ _ _ _ s2 => hQ _ _ _ _ _ (s1.trans s2), hs⟩
end
theorem Is.fn {X : Cx} {P : Program} {w : World} {K : PySem.W.Frag} {mg : Str → Option Value} {base : Heap} (I : Is X P w K mg base) {k j : Nat} {f : Addr} {sp : DSp} (F : DFn P w K mg base k f sp) (h : k ≤ j := by decide) : DFn X.prog X.w X.K X.mg X.base j f sp := by
  obtain ⟨h1, h2, h3, h4, h5⟩ := I
  subst h1 h2 h3 h4 h5
  exact FnR.mono F h

section
variable {X : Cx} {N : List Str} {sc : Scope} {δ : DEnv} {O : Own} {E : XD → Own → Prop} {Q : D → Own → Prop} {QT : Bool → Own → Prop} {QA : List D → Own → Prop} {pos p apos : Pos} {f : Value} {ds : List D}

/-! ### the call of a value -/
def semC (X : Cx) (f : Value) (vs : List V) : TE := fun σ H Q => ∀ (pins : List (Addr × Obj)) (s : Shared) (us : List Value), Inv X pins σ H s → Vals vs us → wpAny (model X.prog X.w) X.A (call f us) (EP X pins σ Q) X.xe s
def DC (X : Cx) (f : Value) (ds : List D) (δ : DEnv) (O : Own) (E : XD → Own → Prop) (Q : D → Own → Prop) : Prop := ∀ vs, M X (fun G => RepL X.K G ds vs) (Rep X.K) (semC X f vs) δ O E Q
theorem run_fnD {k : Nat} {a : Addr} {sp : DSp} (F : DFn X.prog X.w X.K X.mg X.base k a sp) (hr : Room k X.A) (h : sp ds O E Q) {vs : List V} {W : WX} (tk : Takes X W) {G H : Hp} {σ : L2.St} {Q' : VK} (rl : RepL X.K G ds vs) (s : Sta X.K G O H)
    (hE : ∀ G' H' O' x c dd, Step X.K G O H G' O' H' → XRep X.K G' x c dd → E x O' → W c dd σ H') (hQ : ∀ G' H' O' d v, Step X.K G O H G' O' H' → Rep X.K G' d v → Q d O' → Q' v H') {pins : List (Addr × Obj)} {s' : Shared} {us : List Value} (I : Inv X pins σ H s') (rv : Vals vs us) :
    codeAny (model X.prog X.w) X.A (.call (.ref a) ⟨us, []⟩) (fun r s' => match r with | .ok (.ret v) => EP X pins σ Q' v s' | .ok _ => False | .error e => X.xe e s') s' := by
  refine codeAny_mono (F X.A X.stack s' H us vs Q' (fun c dd H' => W c dd σ H') hr I.env0 rv ⟨G, ds, O, E, Q, rl, s, hE, hQ, h⟩) fun r s2 hq => ?_
  cases r with
  | error e => exact tk e s2 (XE.of_call I (fun _ _ _ z => z) hq)
  | ok fl =>
    cases fl with
    | ret u => exact I.after hq
    | next => exact False.elim hq
    | brk => exact False.elim hq
    | cont => exact False.elim hq
theorem dc_fn {k : Nat} {a : Addr} {sp : DSp} (F : DFn X.prog X.w X.K X.mg X.base k a sp) (hr : Room k X.A) (h : sp ds O E Q) : DC X (.ref a) ds δ O E Q := fun vs W tk G σ H Q' rl r s hE hQ pins s' us I rv => wpAny_call (run_fnD F hr h tk rl s hE hQ I rv)
theorem dc_of {r : List V → Hp → VK → Prop} (hc : CallR X f r) (h : ∀ vs, M X (fun G => RepL X.K G ds vs) (Rep X.K) (fun _ H K => r vs H K) δ O E Q) : DC X f ds δ O E Q := fun vs W tk G σ H Q' rl r' s hE hQ pins s' us I rv => hc pins s' σ H vs us Q' I rv (h vs W tk G σ H Q' rl r' s hE hQ)
theorem m_args {α β : Type} {R : Hp → α → β → Prop} {es : List Expr} {t : List V → TR β} {Qa : α → Own → Prop} (h : DA X es δ O E fun ds O1 => ∀ vs, M X (fun G => RepL X.K G ds vs) R (t vs) δ O1 E Qa) :
    M X PT0 R (fun σ H K => semA X es σ H fun vs H1 => t vs σ H1 K) δ O E Qa := M.bind mono0 h fun ds O1 vs h1 => M.weak (h1 vs) fun _ p => p.2
/-- x(e, ..): x the module's own def (or class) -/
theorem de_call {x : Str} {e : Expr} {es : List Expr} (S : Sc X N sc) (hm : X.mg x = some f) (hk : PySem.W.keepIn X.K f = true) (h : DA X (e :: es) δ O E fun ds O1 => DC X f ds δ O1 E Q) (hg : Nk x .globalImplicit sc.names := by (repeat (with_reducible constructor)))
    (he : starEach (e :: es) X.env = (false, eval e X.env) :: starEach es X.env := by with_unfolding_all rfl) (hpl : (backTo pos (starEach es X.env)).any (·.1) = false := by with_unfolding_all rfl) : DE X (.Call (.Name x p) (e :: es) [] pos) δ O E Q :=
  de_of (t := fun σ H K => semA X (e :: es) σ H fun vs H1 => semC X f vs σ H1 K) ⟨fun pins s σ H K I q => by
    refine wpAny_Call_Name_kw (ld_glob I (S.gl hg) hm ?_ (S.dbg hg))
    exact PySem.W.callWith_K (h₀ := X.base) I.ok.mod.kin hk (thn (q pos pins s I) fun us s1 ⟨vs, H1, I1, r, q1⟩ => ⟨I1.kIn, q1 pins s1 us I1 r⟩) he hpl⟩ (m_args h)
theorem de_call0 {x : Str} (S : Sc X N sc) (hm : X.mg x = some f) (hk : PySem.W.keepIn X.K f = true) (h : DC X f [] δ O E Q) (hg : Nk x .globalImplicit sc.names := by (repeat (with_reducible constructor))) : DE X (.Call (.Name x p) [] [] pos) δ O E Q :=
  de_of (t := semC X f []) ⟨fun pins s σ H K I q => by
    refine wpAny_Call_Name_kw (ld_glob I (S.gl hg) hm ?_ (S.dbg hg))
    exact PySem.W.callWith_K0 I.kIn hk (q pins s [] I .nil)⟩ (M.weak (h []) fun _ _ => .nil)
/-- x(*e) -/
theorem m_star {α β : Type} {R : Hp → α → β → Prop} {e : Expr} {t : List V → TR β} {Qa : α → Own → Prop} (h : DE X e δ O E fun d O1 => ∃ xs, (d = .tup xs ∨ d = .lst xs) ∧ ∀ vs, M X (fun G => RepL X.K G xs vs) R (t vs) δ O1 E Qa) :
    M X PT0 R (fun σ H K => sem X e σ H fun y H1 => ∃ a xs, y = V.ref a ∧ (SqT X.K H1 a xs ∨ SqL X.K H1 a xs) ∧ t xs σ H1 K) δ O E Qa :=
  fun W tk G σ H Q' p r s hE hQ => h W tk G σ H _ p r s hE fun G1 H1 O1 d v st rd ⟨xs, ed, h1⟩ => by
    have go : ∀ a vs, (SqT X.K H1 a vs ∨ SqL X.K H1 a vs) → RepL X.K G1 xs vs → v = .ref a → ∃ a vs, v = V.ref a ∧ (SqT X.K H1 a vs ∨ SqL X.K H1 a vs) ∧ t vs σ H1 Q' := fun a vs hq rl ev => ⟨a, vs, ev, hq, h1 vs W tk G1 σ H1 _ rl (r.mono st.g) st.sta (fun _ _ _ _ _ _ st2 => hE _ _ _ _ _ _ (st.trans st2)) fun _ _ _ _ _ st2 => hQ _ _ _ _ _ (st.trans st2)⟩
    rcases ed with rfl | rfl
    · cases rd with
      | tup hq rl => exact go _ _ (.inl (st.sta.sub.seqT hq)) rl rfl
    · cases rd with
      | lst hq rl => exact go _ _ (.inr (.inl (.inl (st.sta.sub _ _ hq)))) rl rfl
theorem de_callS {x : Str} {e : Expr} {sp_ : Pos} (S : Sc X N sc) (hm : X.mg x = some f) (hk : PySem.W.keepIn X.K f = true) (h : DE X e δ O E fun d O1 => ∃ xs, (d = .tup xs ∨ d = .lst xs) ∧ DC X f xs δ O1 E Q) (hg : Nk x .globalImplicit sc.names := by (repeat (with_reducible constructor)))
    (hst : starEach [.Starred e sp_] X.env = [(true, eval e X.env)] := by with_unfolding_all rfl) : DE X (.Call (.Name x p) [.Starred e sp_] [] pos) δ O E Q :=
  de_of (t := fun σ H K => sem X e σ H fun y H1 => ∃ a xs, y = V.ref a ∧ (SqT X.K H1 a xs ∨ SqL X.K H1 a xs) ∧ semC X f xs σ H1 K) ⟨fun pins s σ H K I q => by
    refine wpAny_Call_Name_kw (ld_glob I (S.gl hg) hm ?_ (S.dbg hg))
    refine PySem.W.callWith_S (h₀ := X.base) I.ok.mod.kin hk (thn (q pins s I) fun v s1 ⟨y, H1, I1, ry, a, xs, ey, hxs, q1⟩ => ?_) hst
    subst ey
    obtain rfl : v = Value.ref a := ry
    exact StX.star_any I1 hxs fun us s2 I2 rv => ⟨I2.kIn, q1 pins s2 us I2 rv⟩⟩ (m_star h)
/-- x(*e), x a name of the def's own that holds a thing of the module -/
theorem de_callVS {x : Str} {e : Expr} {sp_ : Pos} {i : Nat} {a : Addr} (S : Sc X N sc) (hi : Ix x N i) (hd : Sl δ i (.ref a)) (hk : PySem.W.keepIn X.K (.ref a) = true) (h : DE X e δ O E fun d O1 => ∃ xs, (d = .tup xs ∨ d = .lst xs) ∧ DC X (.ref a) xs δ O1 E Q) (hv : LkV x sc.names := by (repeat (with_reducible constructor)))
    (hst : starEach [.Starred e sp_] X.env = [(true, eval e X.env)] := by with_unfolding_all rfl) : DE X (.Call (.Name x p) [.Starred e sp_] [] pos) δ O E Q :=
  de_of (t := fun σ H K => sem X (.Name x p) σ H fun z H0 => z = V.ref a ∧ sem X e σ H0 fun y H1 => ∃ a' xs, y = V.ref a' ∧ (SqT X.K H1 a' xs ∨ SqL X.K H1 a' xs) ∧ semC X (.ref a) xs σ H1 K) ⟨fun pins s σ H K I q => by
    refine wpAny_Call_Name_kw (thn (q pins s I) fun u s0 ⟨z, H0, I0, rz, ez, q0⟩ => ?_)
    subst ez
    obtain rfl : u = Value.ref a := rz
    refine PySem.W.callWith_S (h₀ := X.base) I.ok.mod.kin hk (thn (q0 pins s0 I0) fun v s1 ⟨y, H1, I1, ry, a, xs, ey, hxs, q1⟩ => ?_) hst
    subst ey
    obtain rfl : v = Value.ref a := ry
    exact StX.star_any I1 hxs fun us s2 I2 rv => ⟨I2.kIn, q1 pins s2 us I2 rv⟩⟩
    fun W tk G σ H Q' pp r s hE hQ => (de_name (Q := fun d O' => d = .ref a ∧ O' = O) S hi hd ⟨rfl, rfl⟩ hv : DE X (.Name x p) δ O E _) W tk G σ H _ trivial r s hE fun G1 H1 O1 d v st rd ⟨e1, e2⟩ => by
      subst e1 e2
      cases rd
      exact ⟨rfl, m_star h W tk G1 σ H1 Q' trivial (r.mono st.g) st.sta (fun _ _ _ _ _ _ st2 => hE _ _ _ _ _ _ (st.trans st2)) fun _ _ _ _ _ st2 => hQ _ _ _ _ _ (st.trans st2)⟩
/-- x(e, ..): a built-in function, a built-in class -/
theorem de_callB {x : Str} {e : Expr} {es : List Expr} {id : String} (S : Sc X N sc) (hm : X.mg x = none) (hv : bootBuiltins x = some (.builtin id)) (h : DA X (e :: es) δ O E fun ds O1 => DC X (.builtin id) ds δ O1 E Q) (hg : Nk x .globalImplicit sc.names := by (repeat (with_reducible constructor)))
    (he : starEach (e :: es) X.env = (false, eval e X.env) :: starEach es X.env := by with_unfolding_all rfl) (hpl : (backTo pos (starEach es X.env)).any (·.1) = false := by with_unfolding_all rfl) : DE X (.Call (.Name x p) (e :: es) [] pos) δ O E Q :=
  de_of (t := fun σ H K => semA X (e :: es) σ H fun vs H1 => semC X (.builtin id) vs σ H1 K) ⟨fun pins s σ H K I q => by
    refine wpAny_Call_Name_kw (ld_blt I (S.gl hg) hm hv ?_ (S.nme hg) (S.dbg hg))
    exact PyProof.Rows.callWith_builtin1 (thn (q pos pins s I) fun us s1 ⟨vs, H1, I1, r, q1⟩ => q1 pins s1 us I1 r) he hpl⟩ (m_args h)
theorem de_callT {x : Str} {e : Expr} {es : List Expr} {T : String} (S : Sc X N sc) (hm : X.mg x = none) (hv : bootBuiltins x = some (.type T)) (h : DA X (e :: es) δ O E fun ds O1 => DC X (.type T) ds δ O1 E Q) (hg : Nk x .globalImplicit sc.names := by (repeat (with_reducible constructor)))
    (he : starEach (e :: es) X.env = (false, eval e X.env) :: starEach es X.env := by with_unfolding_all rfl) (hpl : (backTo pos (starEach es X.env)).any (·.1) = false := by with_unfolding_all rfl) : DE X (.Call (.Name x p) (e :: es) [] pos) δ O E Q :=
  de_of (t := fun σ H K => semA X (e :: es) σ H fun vs H1 => semC X (.type T) vs σ H1 K) ⟨fun pins s σ H K I q => by
    refine wpAny_Call_Name_kw (ld_blt I (S.gl hg) hm hv ?_ (S.nme hg) (S.dbg hg))
    exact PyProof.Rows.callWith_type1 (thn (q pos pins s I) fun us s1 ⟨vs, H1, I1, r, q1⟩ => q1 pins s1 us I1 r) he hpl⟩ (m_args h)

/-! ### instances: fields, methods, properties, making -/
/-- d is an instance: frozen, or a cell of ours -/
inductive IsIns : D → Own → Addr → List (Str × D) → Prop
  | fz {C : Addr} {fs : List (Str × D)} {O : Own} : IsIns (.ins C fs) O C fs
  | own {a C : Addr} {fs : List (Str × D)} {O : Own} : At a (.ins C fs) O → IsIns (.ref a) O C fs
theorem IsIns.get {K : PySem.W.Frag} {G H : Hp} {d : D} {v : V} {C : Addr} {fs : List (Str × D)} (i : IsIns d O C fs) (r : Rep K G d v) (s : Sta K G O H) : ∃ a dx vs, v = .ref a ∧ H a = some (.ins C dx vs) ∧ RepF K G fs vs := by
  cases i with
  | fz =>
    cases r with
    | ins h rf => exact ⟨_, _, _, rfl, s.sub _ _ h, rf⟩
  | own m =>
    cases r
    obtain ⟨_, o, ho, rc⟩ := s.at_ m
    cases o with
    | ins C' dx vs => obtain ⟨e, rf⟩ := rc; subst e; exact ⟨_, _, _, rfl, ho, rf⟩
    | _ => exact rc.elim
theorem de_fld {e : Expr} {g : Str} (h : DE X e δ O E fun d O1 => ∃ C fs x, IsIns d O1 C fs ∧ Cls X.K C ∧ NoAttr X.K C g ∧ fs.lookup g = some x ∧ Q x O1) (hb : attributeBase e g X.env (eval e X.env) = eval e X.env := by with_unfolding_all rfl) : DE X (.Attribute e g pos) δ O E Q :=
  de_of (pe_fld pe_sem hb) fun W tk G σ H Q' p r s hE hQ => h W tk G σ H _ p r s hE fun G1 H1 O1 d v st rd ⟨C, fs, x, i, c, n, l, q⟩ => by
    obtain ⟨a, dx, vs, ev, ha, rf⟩ := i.get rd st.sta
    obtain ⟨y, hy, ry⟩ := rf.look.1 x l
    exact ⟨a, C, dx, vs, y, ev, ha, c, n, hy, hQ G1 H1 O1 x y st ry q⟩
/-- C.NAME, C a class -/
theorem de_cval {e : Expr} {g : Str} (h : DE X e δ O E fun d O1 => ∃ C mc x v u, d = .ref C ∧ ClX.CRead X.K C mc ∧ ClX.CVal X.K C mc g v u ∧ (∀ G, Rep X.K G x v) ∧ Q x O1) (hb : attributeBase e g X.env (eval e X.env) = eval e X.env := by with_unfolding_all rfl) : DE X (.Attribute e g pos) δ O E Q :=
  de_of (ClX.pe_cval pe_sem hb) fun W tk G σ H Q' p r s hE hQ => h W tk G σ H _ p r s hE fun G1 H1 O1 d v st rd ⟨C, mc, x, w, u, ed, r1, k, rx, q⟩ => by
    subst ed
    cases rd
    exact ⟨C, mc, w, u, rfl, r1, k, hQ G1 H1 O1 x w st (rx G1) q⟩
/-- o.m(e, ..), m a method of the instance's class -/
theorem de_meth {o e : Expr} {es : List Expr} {m : Str} {pl : Sem Bool} (h : DE X o δ O E fun d O1 => ∃ C fs g, IsIns d O1 C fs ∧ Cls X.K C ∧ Meth X.K C m g ∧ fs.lookup m = none ∧ DA X (e :: es) δ O1 E fun ds O2 => DC X (.ref g) (d :: ds) δ O2 E Q)
    (hst : starEach (e :: es) X.env = (false, eval e X.env) :: starEach es X.env := by with_unfolding_all rfl) (hpl : (backTo pos (starEach es X.env)).any (·.1) = false := by with_unfolding_all rfl)
    (ht : eval (.Call (.Attribute o m apos) (e :: es) [] pos) X.env = (do
      let ov ← eval o X.env
      standAt apos.atName
      let (f, first) ← holding [ov] (getMethod ov m pl)
      callWith pos f first (backTo pos (starEach (e :: es) X.env)) (backToKw pos (keywordEach [] X.env))) := by with_unfolding_all rfl) : DE X (.Call (.Attribute o m apos) (e :: es) [] pos) δ O E Q :=
  de_of (t := fun σ H K => sem X o σ H fun x H1 => ∃ a C dx fs g, x = .ref a ∧ H1 a = some (.ins C dx fs) ∧ Cls X.K C ∧ Meth X.K C m g ∧ fs.lookup m = none ∧ semA X (e :: es) σ H1 fun vs H2 => semC X (.ref g) (x :: vs) σ H2 K)
    ⟨fun pins s σ H K I q => by
      refine PySem.W.methodCall_KW (pl := pl) (thn (q pins s I) fun u s1 ⟨x, H1, I1, rx, a, C, dx, fs, g, ex, ea, c, hm, l, q⟩ => ?_) ht
      subst ex
      obtain rfl : u = Value.ref a := rx
      refine getmeth_ok I1 ea c hm l ?_
      exact PySem.W.callWith_K (first := [.ref a]) (h₀ := X.base) I.ok.mod.kin hm.kp (thn (q pos pins s1 I1) fun us s2 ⟨vs, H2, I2, r, q2⟩ => ⟨I2.kIn, q2 pins s2 (.ref a :: us) I2 (.cons rfl r)⟩) hst hpl⟩
    fun W tk G σ H Q' p r s hE hQ => h W tk G σ H _ p r s hE fun G1 H1 O1 d v st rd ⟨C, fs, g, i, c, hm, l, q⟩ => by
      obtain ⟨a, dx, vs, ev, ha, rf⟩ := i.get rd st.sta
      refine ⟨a, C, dx, vs, g, ev, ha, c, hm, rf.look.2 l, ?_⟩
      refine q W tk G1 σ H1 _ trivial (r.mono st.g) st.sta (fun _ _ _ _ _ _ st2 => hE _ _ _ _ _ _ (st.trans st2)) fun G2 H2 O2 ds ws st2 rl q2 => ?_
      exact q2 (v :: ws) W tk G2 σ H2 Q' (.cons (rd.mono st2.g) rl) (r.mono (st.trans st2).g) st2.sta (fun _ _ _ _ _ _ st3 => hE _ _ _ _ _ _ ((st.trans st2).trans st3)) fun _ _ _ _ _ st3 => hQ _ _ _ _ _ ((st.trans st2).trans st3)
theorem de_meth0 {o : Expr} {m : Str} {pl : Sem Bool} (h : DE X o δ O E fun d O1 => ∃ C fs g, IsIns d O1 C fs ∧ Cls X.K C ∧ Meth X.K C m g ∧ fs.lookup m = none ∧ DC X (.ref g) [d] δ O1 E Q)
    (ht : eval (.Call (.Attribute o m apos) [] [] pos) X.env = (do
      let ov ← eval o X.env
      standAt apos.atName
      let (f, first) ← holding [ov] (getMethod ov m pl)
      callWith pos f first (backTo pos (starEach [] X.env)) (backToKw pos (keywordEach [] X.env))) := by with_unfolding_all rfl) : DE X (.Call (.Attribute o m apos) [] [] pos) δ O E Q :=
  de_of (t := fun σ H K => sem X o σ H fun x H1 => ∃ a C dx fs g, x = .ref a ∧ H1 a = some (.ins C dx fs) ∧ Cls X.K C ∧ Meth X.K C m g ∧ fs.lookup m = none ∧ semC X (.ref g) [x] σ H1 K)
    ⟨fun pins s σ H K I q => by
      refine PySem.W.methodCall_KW (pl := pl) (thn (q pins s I) fun u s1 ⟨x, H1, I1, rx, a, C, dx, fs, g, ex, ea, c, hm, l, q⟩ => ?_) ht
      subst ex
      obtain rfl : u = Value.ref a := rx
      refine getmeth_ok I1 ea c hm l ?_
      exact PySem.W.callWith_K0 (first := [.ref a]) I1.kIn hm.kp (q pins s1 [.ref a] I1 (.cons rfl .nil))⟩
    fun W tk G σ H Q' p r s hE hQ => h W tk G σ H _ p r s hE fun G1 H1 O1 d v st rd ⟨C, fs, g, i, c, hm, l, q⟩ => by
      obtain ⟨a, dx, vs, ev, ha, rf⟩ := i.get rd st.sta
      refine ⟨a, C, dx, vs, g, ev, ha, c, hm, rf.look.2 l, ?_⟩
      exact q [v] W tk G1 σ H1 Q' (.cons rd .nil) (r.mono st.g) st.sta (fun _ _ _ _ _ _ st3 => hE _ _ _ _ _ _ (st.trans st3)) fun _ _ _ _ _ st3 => hQ _ _ _ _ _ (st.trans st3)
/-- the code of a def of the module, as it runs -/
def semK (X : Cx) (a : Addr) (vs : List V) : TE := fun σ H Q => ∀ (pins : List (Addr × Obj)) (s : Shared) (us : List Value), Inv X pins σ H s → Vals vs us →
  codeAny (model X.prog X.w) X.A (.call (.ref a) ⟨us, []⟩) (fun r s' => match r with | .ok (.ret v) => EP X pins σ Q v s' | .ok _ => False | .error e => X.xe e s') s
def DK (X : Cx) (a : Addr) (ds : List D) (δ : DEnv) (O : Own) (E : XD → Own → Prop) (Q : D → Own → Prop) : Prop := ∀ vs, M X (fun G => RepL X.K G ds vs) (Rep X.K) (semK X a vs) δ O E Q
theorem dk_fn {k : Nat} {a : Addr} {sp : DSp} (F : DFn X.prog X.w X.K X.mg X.base k a sp) (hr : Room k X.A) (h : sp ds O E Q) : DK X a ds δ O E Q := fun vs W tk G σ H Q' rl r s hE hQ pins s' us I rv => run_fnD F hr h tk rl s hE hQ I rv
/-- C.m(e, ..), m a classmethod of the class C -/
theorem de_cmeth {o e : Expr} {es : List Expr} {m : Str} {pl : Sem Bool} {C pr g : Addr} {mc : Value} (rd : ClX.CRead X.K C mc) (c : ClX.CMet X.K C mc m pr g)
    (h : DE X o δ O E fun d O1 => d = .ref C ∧ DA X (e :: es) δ O1 E fun ds O2 => DK X g (.ref C :: ds) δ O2 E Q)
    (hst : starEach (e :: es) X.env = (false, eval e X.env) :: starEach es X.env := by with_unfolding_all rfl) (hpl : (backTo pos (starEach es X.env)).any (·.1) = false := by with_unfolding_all rfl)
    (ht : eval (.Call (.Attribute o m apos) (e :: es) [] pos) X.env = (do
      let ov ← eval o X.env
      standAt apos.atName
      let (f, first) ← holding [ov] (getMethod ov m pl)
      callWith pos f first (backTo pos (starEach (e :: es) X.env)) (backToKw pos (keywordEach [] X.env))) := by with_unfolding_all rfl) : DE X (.Call (.Attribute o m apos) (e :: es) [] pos) δ O E Q :=
  de_of (t := fun σ H K => sem X o σ H fun x H1 => x = .ref C ∧ semA X (e :: es) σ H1 fun vs H2 => semK X g (.ref C :: vs) σ H2 K)
    ⟨fun pins s σ H K I q => by
      refine PySem.W.methodCall_KW (pl := pl) (thn (q pins s I) fun u s1 ⟨x, H1, I1, rx, ex, q⟩ => ?_) ht
      subst ex
      obtain rfl : u = Value.ref C := rx
      refine ClX.getmethcm_ok I1 rd c fun s2 I2 => ?_
      refine ClX.callwith_cm I2 (ClX.base_none I1 (Nat.le_refl _)) c.fi (thn (q pos _ s2 I2) fun us s3 ⟨vs, H2, I3, rv, q2⟩ => ⟨⟨ClX.pin_at I3, I3.kIn⟩, ?_⟩) hst hpl
      exact thn (wpAny_call (PySem.W.method_call (ClX.pin_at I3) (q2 _ s3 (.ref C :: us) I3 (.cons rfl rv)))) fun _ _ y => ClX.unpinE y⟩
    fun W tk G σ H Q' p r s hE hQ => h W tk G σ H _ p r s hE fun G1 H1 O1 d v st rd ⟨ed, q⟩ => by
      subst ed
      cases rd
      refine ⟨rfl, ?_⟩
      refine q W tk G1 σ H1 _ trivial (r.mono st.g) st.sta (fun _ _ _ _ _ _ st2 => hE _ _ _ _ _ _ (st.trans st2)) fun G2 H2 O2 ds ws st2 rl q2 => ?_
      exact q2 (.ref C :: ws) W tk G2 σ H2 Q' (.cons (.ref C) rl) (r.mono (st.trans st2).g) st2.sta (fun _ _ _ _ _ _ st3 => hE _ _ _ _ _ _ ((st.trans st2).trans st3)) fun _ _ _ _ _ st3 => hQ _ _ _ _ _ ((st.trans st2).trans st3)
/-- e.f, a property -/
theorem getprop_D {k : Nat} {C pr g a dx : Addr} {fs : List (Str × V)} {nm : Str} {d : D} {sp : DSp} {pins : List (Addr × Obj)} {σ : L2.St} {H G : Hp} {s : Shared} {Q' : VK} {b : Bool} {E' : Value → Shared → Prop} (I : Inv X pins σ H s) (ea : H a = some (.ins C dx fs)) (c : Cls X.K C) (hp : PropOf X.K C nm pr g)
    (F : DFn X.prog X.w X.K X.mg X.base k g sp) (hr : Room (k + 1) X.A) (rd : Rep X.K G d (.ref a)) (sta : Sta X.K G O H) (hQ : ∀ G' H' O' d v, Step X.K G O H G' O' H' → Rep X.K G' d v → Q d O' → Q' v H') (h : sp [d] O noE Q) :
    wpAny (model X.prog X.w) X.A (getAttr (.ref a) nm b) (EP X pins σ Q') E' s := by
  obtain ⟨mA, O2, _, _, _, _⟩ := ins_get I.hok ea
  obtain ⟨od, J, _⟩ := O2.look
  obtain ⟨rest, hrec⟩ := hp.rec_
  have I1 := I.tok (s.toks + 1)
  have hc : (PySem.W.clsIn X.K C).isSome = true := by
    obtain ⟨cd, hc, _⟩ := PySem.W.any_some c.hd
    rw [hc]
    rfl
  refine PySem.W.get_bind I.kIn J (PySem.W.plainGet_of (c.get nm)).1 (PySem.W.findObj_data hc hp.at_ hp.get hp.tak) (PySem.W.plainGet_of (c.get nm)).2 (wpAny_call (PySem.W.prop_get (s := { s with toks := s.toks + 1 }) I.kIn hrec ?_))
  refine codeAny_mono (F X.A.in1 X.stack { s with toks := s.toks + 1 } H [.ref a] [.ref a] Q' (fun _ _ _ => False) hr.in1 I1.env0.in1 (.cons rfl .nil) ⟨G, [d], O, noE, Q, .cons rd .nil, sta, fun _ _ _ _ _ _ _ _ z => z, hQ, h⟩) fun r s' hq => ?_
  cases r with
  | error er =>
    obtain ⟨_, _, _, _, _, _, _, _, _, _, _, _, z⟩ := hq
    exact z.elim
  | ok fl =>
    cases fl with
    | ret u =>
      obtain ⟨v, H', I3, rv, q3⟩ := I1.after hq
      show wpAny _ _ (handedOut u) _ _ _
      rw [PySem.W.handedOut_of (handed_of rv)]
      exact wpAny_pure ⟨v, H', I3, rv, q3⟩
    | next => exact False.elim hq
    | brk => exact False.elim hq
    | cont => exact False.elim hq
theorem de_prop {e : Expr} {nm : Str} (h : DE X e δ O E fun d O1 => ∃ C fs pr g k sp, IsIns d O1 C fs ∧ Cls X.K C ∧ PropOf X.K C nm pr g ∧ DFn X.prog X.w X.K X.mg X.base k g sp ∧ Room (k + 1) X.A ∧ sp [d] O1 noE Q) (hb : attributeBase e nm X.env (eval e X.env) = eval e X.env := by with_unfolding_all rfl) : DE X (.Attribute e nm pos) δ O E Q :=
  de_of (t := fun σ H K => sem X e σ H fun x H1 => ∃ (G : Hp) (O1 : Own) (d : D) (a C dx : Addr) (fs : List (Str × V)) (pr g : Addr) (k : Nat) (sp : DSp), x = .ref a ∧ H1 a = some (.ins C dx fs) ∧ Cls X.K C ∧ PropOf X.K C nm pr g ∧ DFn X.prog X.w X.K X.mg X.base k g sp ∧ Room (k + 1) X.A ∧ Rep X.K G d x ∧ Sta X.K G O1 H1 ∧
      sp [d] O1 noE Q ∧ ∀ G' H' O' d v, Step X.K G O1 H1 G' O' H' → Rep X.K G' d v → Q d O' → K v H')
    ⟨fun pins s σ H K I q => by
      refine attr_of hb (thn (q pins s I) fun u s1 ⟨x, H1, I1, rx, G, O1, d, a, C, dx, fs, pr, g, k, sp, ex, ea, c, hp, F, hr, rd, sta, hs, hq⟩ => ?_)
      subst ex
      obtain rfl : u = Value.ref a := rx
      exact getprop_D I1 ea c hp F hr rd sta hq hs⟩
    fun W tk G σ H Q' p r s hE hQ => h W tk G σ H _ p r s hE fun G1 H1 O1 d v st rd ⟨C, fs, pr, g, k, sp, i, c, hp, F, hr, hs⟩ => by
      obtain ⟨a, dx, vs, ev, ha, rf⟩ := i.get rd st.sta
      exact ⟨G1, O1, d, a, C, dx, vs, pr, g, k, sp, ev, ha, c, hp, F, hr, rd, st.sta, hs, fun _ _ _ _ _ st2 => hQ _ _ _ _ _ (st.trans st2)⟩
/-- a new instance: __init__'s promise at the new cell -/
theorem dc_make {k : Nat} {C g : Addr} {sp : DSp} (Mc : Mk X.K C g) (F : DFn X.prog X.w X.K X.mg X.base k g sp) (hr : Room (k + 1) X.A) (h : ∀ a, sp (.ref a :: ds) ((a, .ins C []) :: O) E fun d O' => d = .non ∧ ((∃ fs O2, O' = (a, .ins C fs) :: O2 ∧ Q (.ins C fs) O2) ∨ Q (.ref a) O')) : DC X (.ref C) ds δ O E Q := by
  intro vs W tk G σ H Q' rl r s hE hQ pins s' us I rv
  have I2 := Inv.made (C := C) I
  have hx : H (s'.heap.objs.size + 1) = none := I.hok.fresh (Nat.le_succ _)
  have hdx : H s'.heap.objs.size = none := I.hok.fresh (Nat.le_refl _)
  have hx2 : upd H s'.heap.objs.size (.own (s'.heap.objs.size + 1)) (s'.heap.objs.size + 1) = none := by rw [upd_ne (Nat.ne_of_gt (Nat.lt_succ_self _))]; exact hx
  -- the dict of the instance is nobody's
  have s0 : Sta X.K G O (upd H s'.heap.objs.size (.own (s'.heap.objs.size + 1))) := ⟨fun a o e => by rw [upd_ne (ne_of_none (s.sub a o e) hdx)]; exact s.sub a o e, s.nd, fun a c m => by
    obtain ⟨h1, o, h2, h3⟩ := s.own a c m
    exact ⟨h1, o, by rw [upd_ne (ne_of_none h2 hdx)]; exact h2, h3⟩⟩
  have st0 : Step X.K G O H G O (upd H s'.heap.objs.size (.own (s'.heap.objs.size + 1))) := ⟨Ex.refl _, s0, fun a o e _ => by rw [upd_ne (ne_of_none e hdx)]; exact e, fun a h n => absurd h n, fun a m => .inl m⟩
  have st1 := Step.newO s0 (c := .ins C []) (o := .ins C s'.heap.objs.size []) hx2 ⟨rfl, .nil⟩
  have st := st0.trans st1
  refine wpAny_call (make_map (f := g) I.kIn Mc.makes Mc.init (beq_iff_eq.mp Mc.fn) (codeAny_mono (F _ X.stack _ _ (Value.ref (s'.heap.objs.size + 1) :: us) (V.ref (s'.heap.objs.size + 1) :: vs) (fun v H2 => v = .non ∧ Q' (.ref (s'.heap.objs.size + 1)) H2) (fun c dd H' => W c dd σ H') (hr.make C us []) (I2.env0.make C us []) (.cons rfl rv)
    ⟨G, .ref (s'.heap.objs.size + 1) :: ds, _, E, _, .cons (.ref _) rl, st.sta, fun _ _ _ _ _ _ st2 => hE _ _ _ _ _ _ (st.trans st2), fun G' H' O' d v st2 rd q => ?_, h _⟩) fun r s2 hq => ?_))
  · obtain ⟨e1, q⟩ := q
    subst e1
    cases rd
    refine ⟨rfl, ?_⟩
    rcases q with ⟨fs, O2, eO, q⟩ | q
    · subst eO
      obtain ⟨_, o, ho, rc⟩ := st2.sta.own _ _ List.mem_cons_self
      obtain ⟨fz, rc'⟩ := Step.freeze st2.sta (c := .ins C fs) At.head Del.head ho
      cases o with
      | ins C' dx vs => obtain ⟨e, rf⟩ := rc'; subst e; exact hQ _ _ _ _ _ ((st.trans st2).trans fz) (.ins upd_same rf) q
      | _ => exact rc.elim
    · exact hQ _ _ _ _ _ (st.trans st2) (.ref _) q
  · cases r with
    | error e => exact tk e s2 (XE.of_call I2 (fun _ _ _ z => z) hq)
    | ok fl =>
      cases fl with
      | ret u =>
        obtain ⟨v, H', I3, rv, ev, q3⟩ := I2.after hq
        subst ev
        exact ⟨rv, ⟨V.ref (s'.heap.objs.size + 1), H', I3, rfl, q3⟩⟩
      | next => exact False.elim hq
      | brk => exact False.elim hq
      | cont => exact False.elim hq
end

section
variable {X : Cx} {N : List Str} {sc : Scope} {δ : DEnv} {O : Own} {B : Bk} {nx : DEnv → Own → Prop} {pos : Pos}
theorem putF_rep {K : PySem.W.Frag} {G : Hp} {f : Str} {d : D} {v : V} (r : Rep K G d v) : ∀ {fs : List (Str × D)} {vs : List (Str × V)}, RepF K G fs vs → RepF K G (putD f d fs) (putF f v vs)
  | _, _, .nil => .cons r .nil
  | (g, x) :: fs, (_, y) :: vs, .cons a b => by
    unfold putD putF
    by_cases h : g = f
    · rw [if_pos h, if_pos h]; exact .cons r b
    · rw [if_neg h, if_neg h]; exact .cons a (putF_rep r b)
/-- o.f = e -/
theorem ds_fld {o e : Expr} {g : Str} {pos' : Pos} (h : DE X e δ O (fun x O' => B.ex x δ O') fun y O1 => DE X o δ O1 (fun x O' => B.ex x δ O') fun d O2 => ∃ a C fs O3, d = .ref a ∧ At a (.ins C fs) O2 ∧ Cls X.K C ∧ NoAttr X.K C g ∧ fs.length < 900 ∧ Put a (.ins C (putD g y fs)) O2 O3 ∧ nx δ O3)
    (hs : swapsWith e (some (.Attribute o g pos')) pos.line X.env = pure false := by with_unfolding_all rfl) : DS X (.Assign [.Attribute o g pos'] e pos) δ O B nx :=
  ds_of (ps_fld pe_sem pe_sem hs) fun W tk G σ H D r s l => m_in h tk trivial r s l fun G1 H1 O1 y v st1 r1 l1 ry q => m_in q tk trivial r1 st1.sta l1 fun G2 H2 O2 d u st2 r2 l2 rd ⟨a, C, fs, O3, ed, at_, c, n, hl, pt, q2⟩ => by
    subst ed
    cases rd
    obtain ⟨_, o, ho, rc⟩ := st2.sta.at_ at_
    cases o with
    | ins C' dx vs =>
      obtain ⟨e, rf⟩ := rc
      subst e
      have st3 := Step.put st2.sta pt (o := .ins C dx (putF g v vs)) ⟨rfl, putF_rep (ry.mono st2.g) rf⟩
      exact ⟨a, C, dx, vs, rfl, ho, c, n, by rw [rf.length]; omega, l2.nx _ _ _ _ _ st3 (r2.mono st3.g) q2⟩
    | _ => exact rc.elim
end
end DL

end

section
set_option maxRecDepth 100000
set_option maxHeartbeats 4000000
set_option autoImplicit false
/-! The data layer: operations on data. -/
namespace DL
open PySem PySem.Spec PyProof.Rows L2

section
variable {X : Cx} {N : List Str} {sc : Scope} {δ : DEnv} {O : Own} {E : XD → Own → Prop} {Q : D → Own → Prop} {QT : Bool → Own → Prop} {QA : List D → Own → Prop} {pos p apos : Pos} {f : Value → Value → Sem Value} {i j : Int}

/-! ### ints -/
theorem db_I0 {g : Int → Int → V} {d : D} (ho : OpR X f (rI0 g)) (hr : ∀ G, Rep X.K G d (g i j)) (q : Q d O) : DB X f (.int i) (.int j) δ O E Q := db_of ho fun v u W tk G σ H Q' p r s hE hQ => by
  obtain ⟨p1, p2⟩ := p
  cases p1
  cases p2
  exact ⟨i, j, rfl, rfl, hQ G H O d _ (Step.refl s) (hr G) q⟩
theorem db_I {C : Int → Int → Prop} {g : Int → Int → V} {d : D} (ho : OpR X f (rI C g)) (hc : C i j) (hr : ∀ G, Rep X.K G d (g i j)) (q : Q d O) : DB X f (.int i) (.int j) δ O E Q := db_of ho fun v u W tk G σ H Q' p r s hE hQ => by
  obtain ⟨p1, p2⟩ := p
  cases p1
  cases p2
  exact ⟨i, j, rfl, rfl, hc, hQ G H O d _ (Step.refl s) (hr G) q⟩
theorem db_add (q : Q (.int (i + j)) O) : DB X (binaryOp .Add) (.int i) (.int j) δ O E Q := db_I0 op_add (fun _ => .int _) q
theorem db_sub (q : Q (.int (i - j)) O) : DB X (binaryOp .Sub) (.int i) (.int j) δ O E Q := db_I0 op_sub (fun _ => .int _) q
theorem db_mul (hc : CMul i j) (q : Q (.int (i * j)) O) : DB X (binaryOp .Mult) (.int i) (.int j) δ O E Q := db_I op_mul hc (fun _ => .int _) q
theorem db_mod (hc : 0 < j) (q : Q (.int (i % j)) O) : DB X (binaryOp .Mod) (.int i) (.int j) δ O E Q := db_I op_mod hc (fun _ => .int _) q
theorem db_fdiv (hc : CDiv i j) (q : Q (.int (i / j)) O) : DB X (binaryOp .FloorDiv) (.int i) (.int j) δ O E Q := db_I op_fdiv hc (fun _ => .int _) q
theorem db_pow (hc : CPow i j) (q : Q (.int (i ^ j.toNat)) O) : DB X (binaryOp .Pow) (.int i) (.int j) δ O E Q := db_I op_pow hc (fun _ => .int _) q
theorem db_iadd (q : Q (.int (i + j)) O) : DB X (inplaceOp .Add) (.int i) (.int j) δ O E Q := db_I0 iop_add (fun _ => .int _) q
theorem db_isub (q : Q (.int (i - j)) O) : DB X (inplaceOp .Sub) (.int i) (.int j) δ O E Q := db_I0 iop_sub (fun _ => .int _) q
theorem db_lt (q : Q (.bl (decide (i < j))) O) : DB X (compareOp .Lt) (.int i) (.int j) δ O E Q := db_I0 op_lt (fun _ => .bl _) q
theorem db_le (q : Q (.bl (decide (i ≤ j))) O) : DB X (compareOp .LtE) (.int i) (.int j) δ O E Q := db_I0 op_le (fun _ => .bl _) q
theorem db_gt (q : Q (.bl (decide (j < i))) O) : DB X (compareOp .Gt) (.int i) (.int j) δ O E Q := db_I0 op_gt (fun _ => .bl _) q
theorem db_ge (q : Q (.bl (decide (j ≤ i))) O) : DB X (compareOp .GtE) (.int i) (.int j) δ O E Q := db_I0 op_ge (fun _ => .bl _) q
/-- two scalars compared by == -/
theorem db_eqS {x y : D} {b : Bool} (h : ∀ G v u, Rep X.K G x v → Rep X.K G y u → scal v u = true ∧ decide (v = u) = b) (q : Q (.bl b) O) : DB X (compareOp .Eq) x y δ O E Q := db_of op_eq fun v u W tk G σ H Q' p r s hE hQ =>
  ⟨(h G v u p.1 p.2).1, by rw [(h G v u p.1 p.2).2]; exact hQ G H O _ _ (Step.refl s) (.bl b) q⟩
theorem db_neS {x y : D} {b : Bool} (h : ∀ G v u, Rep X.K G x v → Rep X.K G y u → scal v u = true ∧ decide (v = u) = b) (q : Q (.bl (!b)) O) : DB X (compareOp .NotEq) x y δ O E Q := db_of op_ne fun v u W tk G σ H Q' p r s hE hQ =>
  ⟨(h G v u p.1 p.2).1, by rw [(h G v u p.1 p.2).2]; exact hQ G H O _ _ (Step.refl s) (.bl _) q⟩
theorem sc_int : ∀ (G : Hp) v u, Rep X.K G (.int i) v → Rep X.K G (.int j) u → scal v u = true ∧ decide (v = u) = decide (i = j) := fun G v u a b => by
  cases a; cases b
  exact ⟨rfl, by by_cases h : i = j <;> simp [h]⟩
theorem sc_str {x y : Str} : ∀ (G : Hp) v u, Rep X.K G (.str x) v → Rep X.K G (.str y) u → scal v u = true ∧ decide (v = u) = decide (x = y) := fun G v u a b => by
  cases a; cases b
  exact ⟨rfl, by by_cases h : x = y <;> simp [h]⟩
theorem sc_bl {x y : Bool} : ∀ (G : Hp) v u, Rep X.K G (.bl x) v → Rep X.K G (.bl y) u → scal v u = true ∧ decide (v = u) = decide (x = y) := fun G v u a b => by
  cases a; cases b
  exact ⟨rfl, by by_cases h : x = y <;> simp [h]⟩
theorem db_eq_int (q : Q (.bl (decide (i = j))) O) : DB X (compareOp .Eq) (.int i) (.int j) δ O E Q := db_eqS sc_int q
theorem db_ne_int (q : Q (.bl (!decide (i = j))) O) : DB X (compareOp .NotEq) (.int i) (.int j) δ O E Q := db_neS sc_int q
theorem db_eq_str {x y : Str} (q : Q (.bl (decide (x = y))) O) : DB X (compareOp .Eq) (.str x) (.str y) δ O E Q := db_eqS sc_str q
theorem db_ne_str {x y : Str} (q : Q (.bl (!decide (x = y))) O) : DB X (compareOp .NotEq) (.str x) (.str y) δ O E Q := db_neS sc_str q
theorem db_eq_bl {x y : Bool} (q : Q (.bl (decide (x = y))) O) : DB X (compareOp .Eq) (.bl x) (.bl y) δ O E Q := db_eqS sc_bl q
theorem db_ne_bl {x y : Bool} (q : Q (.bl (!decide (x = y))) O) : DB X (compareOp .NotEq) (.bl x) (.bl y) δ O E Q := db_neS sc_bl q
def isNon : D → Bool
  | .non => true
  | _ => false
theorem isNon_v {G : Hp} {d : D} {v : V} (r : Rep X.K G d v) : decide (v = .non) = isNon d := by cases r <;> rfl
theorem db_isN {x : D} (q : Q (.bl (isNon x)) O) : DB X (compareOp .Is) x .non δ O E Q := db_of op_isN fun v u W tk G σ H Q' p r s hE hQ => by
  obtain ⟨p1, p2⟩ := p
  cases p2
  exact ⟨rfl, by rw [isNon_v p1]; exact hQ G H O _ _ (Step.refl s) (.bl _) q⟩
theorem db_notN {x : D} (q : Q (.bl (!isNon x)) O) : DB X (compareOp .IsNot) x .non δ O E Q := db_of op_notN fun v u W tk G σ H Q' p r s hE hQ => by
  obtain ⟨p1, p2⟩ := p
  cases p2
  exact ⟨rfl, by rw [isNon_v p1]; exact hQ G H O _ _ (Step.refl s) (.bl _) q⟩

/-! ### chains -/
theorem m_chain {op op' : CmpOp} {r r' : R2} {a b c : Expr} (ho : OpR X (compareOp op) r) (ho' : OpR X (compareOp op') r')
    (h : DE X a δ O E fun x O1 => DE X b δ O1 E fun y O2 => ∀ v u, M X (fun G => Rep X.K G x v ∧ Rep X.K G y u) (Rep X.K) (fun σ H K => r v u H fun z H3 => ∃ k, z = .bl k ∧ (if k = true then sem X c σ H3 fun w' H4 => r' u w' H4 K else K (.bl false) H3)) δ O2 E Q)
    (hm : lastMarks [op, op'] [b, c] = false := by with_unfolding_all rfl) : DE X (.Compare a [op, op'] [b, c] pos) δ O E Q := de_of (pe_chain ho ho' pe_sem pe_sem pe_sem hm) (m_two h)
/-- lo <= x <= hi over ints -/
theorem de_lele {a b c : Expr} (h : DE X a δ O E fun x O1 => DE X b δ O1 E fun y O2 => ∃ i j, x = .int i ∧ y = .int j ∧ (i ≤ j → DE X c δ O2 E fun z O3 => ∃ k, z = .int k ∧ Q (.bl (decide (j ≤ k))) O3) ∧ (¬ i ≤ j → Q (.bl false) O2))
    (hm : lastMarks [.LtE, .LtE] [b, c] = false := by with_unfolding_all rfl) : DE X (.Compare a [.LtE, .LtE] [b, c] pos) δ O E Q :=
  m_chain op_le op_le (M.imp h fun x O1 h1 => M.imp h1 fun y O2 ⟨i, j, ex, ey, h2, h3⟩ => by
    subst ex ey
    intro v u W tk G σ H Q' p r s hE hQ
    obtain ⟨p1, p2⟩ := p
    cases p1
    cases p2
    refine ⟨i, j, rfl, rfl, _, rfl, ?_⟩
    by_cases hij : i ≤ j
    · rw [decide_eq_true hij, if_pos rfl]
      exact h2 hij W tk G σ H _ trivial r s hE fun G1 H1 O1 d v st rd ⟨k, ed, q⟩ => by
        subst ed
        cases rd
        exact ⟨j, k, rfl, rfl, hQ _ _ _ _ _ st (.bl _) q⟩
    · rw [decide_eq_false hij, if_neg Bool.false_ne_true]
      exact hQ _ _ _ _ _ (Step.refl s) (.bl _) (h3 hij)) hm

/-! ### lists, tuples -/
theorem repL_map {K : PySem.W.Frag} {G : Hp} {α : Type} {g : α → D} {g' : α → V} (h : ∀ a, Rep K G (g a) (g' a)) : ∀ l : List α, RepL K G (l.map g) (l.map g')
  | [] => .nil
  | a :: l => .cons (h a) (repL_map h l)
theorem repL_int {K : PySem.W.Frag} {G : Hp} : ∀ {l : List Int} {vs : List V}, RepL K G (l.map D.int) vs → vs = l.map V.int
  | [], _, .nil => rfl
  | a :: l, _, .cons x y => by cases x; rw [repL_int y]; rfl
theorem repL_str {K : PySem.W.Frag} {G : Hp} : ∀ {l : List Str} {vs : List V}, RepL K G (l.map D.str) vs → vs = l.map V.str
  | [], _, .nil => rfl
  | a :: l, _, .cons x y => by cases x; rw [repL_str y]; rfl
theorem repL_bl {K : PySem.W.Frag} {G : Hp} : ∀ {l : List Bool} {vs : List V}, RepL K G (l.map D.bl) vs → vs = l.map V.bl
  | [], _, .nil => rfl
  | a :: l, _, .cons x y => by cases x; rw [repL_bl y]; rfl
theorem repL_rep {K : PySem.W.Frag} {G : Hp} {ds : List D} {vs : List V} (r : RepL K G ds vs) : ∀ n : Nat, RepL K G (List.replicate n ds).flatten (List.replicate n vs).flatten
  | 0 => .nil
  | n + 1 => by
    rw [List.replicate_succ, List.replicate_succ, List.flatten_cons, List.flatten_cons]
    exact r.append (repL_rep r n)
theorem db_cat {xs ys : List D} (hz : xs.length + ys.length ≤ 100000) (q : NewL (xs ++ ys) O Q) : DB X (binaryOp .Add) (.lst xs) (.lst ys) δ O E Q := db_of op_cat fun v u W tk G σ H Q' p r s hE hQ => by
  obtain ⟨p1, p2⟩ := p
  cases p1 with
  | lst h1 r1 =>
    cases p2 with
    | lst h2 r2 => exact ⟨_, _, _, _, rfl, rfl, s.sub _ _ h1, s.sub _ _ h2, by rw [r1.length, r2.length]; exact Nat.le_trans hz (by decide), m_newL s (r1.append r2) q hQ⟩
theorem db_rep {xs : List D} {k : Int} (h1 : -(2 ^ 63) ≤ k) (h2 : k < 2 ^ 63) (hz : xs.length * k.toNat ≤ 100000) (q : NewL (List.replicate k.toNat xs).flatten O Q) : DB X (binaryOp .Mult) (.lst xs) (.int k) δ O E Q := db_of op_rep fun v u W tk G σ H Q' p r s hE hQ => by
  obtain ⟨p1, p2⟩ := p
  cases p2
  cases p1 with
  | lst h0 r1 => exact ⟨_, _, _, rfl, rfl, s.sub _ _ h0, h1, h2, by rw [r1.length]; exact Nat.le_trans hz (by decide), m_newL s (repL_rep r1 _) q hQ⟩
theorem db_catS {x y : Str} (hz : x.length + y.length ≤ 1000000) (q : Q (.str (x ++ y)) O) : DB X (binaryOp .Add) (.str x) (.str y) δ O E Q := db_of op_add_str fun v u W tk G σ H Q' p r s hE hQ => by
  obtain ⟨p1, p2⟩ := p
  cases p1
  cases p2
  exact ⟨x, y, rfl, rfl, Nat.le_trans hz (by decide), hQ _ _ _ _ _ (Step.refl s) (.str _) q⟩
/-! ### subscripts -/
/-- a subscript's node by values -/
def semX (X : Cx) (a b : Expr) (x y : V) : TE := fun σ H Q => ∀ (pins : List (Addr × Obj)) (s : Shared) (v u : Value), Inv X pins σ H s → RelV x v → RelV y u → wpAny (model X.prog X.w) X.A (subscriptTail a b v u) (EP X pins σ Q) X.xe s
/-- what an own __getitem__ asks of the node -/
def PlainIxO (b : Expr) : Prop := ∀ o i, subscripted b true o i = runValue (.builtin "lifetime.subscript" ⟨[o, i], []⟩)
structure DX (X : Cx) (x y : D) (δ : DEnv) (O : Own) (E : XD → Own → Prop) (Q : D → Own → Prop) : Prop where
  run : ∀ (a b : Expr), PlainIx b → PlainIxO b → ∀ v u, M X (fun G => Rep X.K G x v ∧ Rep X.K G y u) (Rep X.K) (semX X a b v u) δ O E Q
theorem dx_of {x y : D} {r : R2} (hr : IxR X r) (h : ∀ v u, M X (fun G => Rep X.K G x v ∧ Rep X.K G y u) (Rep X.K) (fun σ H K => r v u H K) δ O E Q) : DX X x y δ O E Q :=
  ⟨fun a b hs _ v u W tk G σ H Q' p r' s hE hQ pins s' v' u' I rv ru => hr a b pins s' σ H v u v' u' Q' I rv ru (h v u W tk G σ H Q' p r' s hE hQ) (hs _ _)⟩
theorem de_ix {a b : Expr} (h : DE X a δ O E fun x O1 => DE X b δ O1 E fun y O2 => DX X x y δ O2 E Q) (hs : PlainIx b := by intro _ _; with_unfolding_all rfl) (hs2 : PlainIxO b := by intro _ _; with_unfolding_all rfl) : DE X (.Subscript a b pos) δ O E Q := by
  refine de_of (t := fun σ H K => sem X a σ H fun v H1 => sem X b σ H1 fun u H2 => semX X a b v u σ H2 K) ⟨fun pins s σ H K I q => ?_⟩ (m_two (M.imp h fun x O1 h1 => M.imp h1 fun y O2 h2 v u => h2.run a b hs hs2 v u))
  exact Subscript_ (bin pe_sem pe_sem I q fun v u s2 x y H2 I2 rx ry q2 => q2 pins s2 v u I2 rx ry)
theorem atI_rep {K : PySem.W.Frag} {G : Hp} {ds : List D} {vs : List V} {d : D} (r : RepL K G ds vs) (h : atI ds i = some d) : ∃ v, atI vs i = some v ∧ Rep K G d v := by
  unfold atI at h ⊢
  rw [r.length]
  cases q : ixN ds.length i with
  | none => rw [q] at h; cases h
  | some j => rw [q] at h; exact r.get h
theorem dx_lst {xs : List D} {d : D} (h : atI xs i = some d) (q : Q d O) : DX X (.lst xs) (.int i) δ O E Q := dx_of ix_list fun v u W tk G σ H Q' p r s hE hQ => by
  obtain ⟨p1, p2⟩ := p
  cases p2
  cases p1 with
  | lst h0 r1 =>
    obtain ⟨w, hw, rw'⟩ := atI_rep r1 h
    exact ⟨_, _, i, w, rfl, rfl, .inl (.inl (s.sub _ _ h0)), hw, hQ _ _ _ _ _ (Step.refl s) rw' q⟩
theorem dx_tup {xs : List D} {d : D} (h : atI xs i = some d) (q : Q d O) : DX X (.tup xs) (.int i) δ O E Q := dx_of ix_tup fun v u W tk G σ H Q' p r s hE hQ => by
  obtain ⟨p1, p2⟩ := p
  cases p2
  cases p1 with
  | tup h0 r1 =>
    obtain ⟨w, hw, rw'⟩ := atI_rep r1 h
    exact ⟨_, _, i, w, rfl, rfl, s.sub.seqT h0, hw, hQ _ _ _ _ _ (Step.refl s) rw' q⟩
theorem dx_str {z : Str} {c : Nat} (hz : z.length ≤ 1000000) (h : atI z.cps.toList i = some c) (q : Q (.str ⟨#[c]⟩) O) : DX X (.str z) (.int i) δ O E Q := dx_of ix_str fun v u W tk G σ H Q' p r s hE hQ => by
  obtain ⟨p1, p2⟩ := p
  cases p1
  cases p2
  exact ⟨z, i, c, rfl, rfl, Nat.le_trans hz (by decide), h, hQ _ _ _ _ _ (Step.refl s) (.str _) q⟩
/-- a list of one's own -/
theorem dx_own {a : Addr} {xs : List D} {d : D} (m : At a (.lst xs) O) (h : atI xs i = some d) (q : Q d O) : DX X (.ref a) (.int i) δ O E Q := dx_of ix_list fun v u W tk G σ H Q' p r s hE hQ => by
  obtain ⟨p1, p2⟩ := p
  cases p1
  cases p2
  obtain ⟨_, o, ho, rc⟩ := s.at_ m
  cases o with
  | lst vs =>
    obtain ⟨w, hw, rw'⟩ := atI_rep rc h
    exact ⟨_, _, i, w, rfl, rfl, .inl (.inl ho), hw, hQ _ _ _ _ _ (Step.refl s) rw' q⟩
  | _ => exact rc.elim
theorem atI_n {α : Type} {xs : List α} {j : Nat} {d : α} (h : xs[j]? = some d) : atI xs (j : Int) = some d := by
  have hj : j < xs.length := (List.getElem?_eq_some_iff.mp h).1
  unfold atI ixN
  rw [if_pos (by omega), if_pos (by omega)]
  simpa using h

/-! ### built-in functions -/
variable {ds : List D}
theorem dc_len {xs : List D} (q : Q (.int xs.length) O) (d : D) (hd : d = .lst xs ∨ d = .tup xs) : DC X (.builtin "len") [d] δ O E Q := dc_of call_len_seq fun vs W tk G σ H Q' p r s hE hQ => by
  cases p with
  | cons p1 pr =>
    cases pr
    have fin : ∀ {ws : List V}, RepL X.K G xs ws → Q' (.int ws.length) H := fun rl => by rw [rl.length]; exact hQ _ _ _ _ _ (Step.refl s) (.int _) q
    rcases hd with rfl | rfl
    · cases p1 with
      | lst h0 r1 => exact ⟨_, _, rfl, .inl (.inl (.inl (s.sub _ _ h0))), fin r1⟩
    · cases p1 with
      | tup h0 r1 => exact ⟨_, _, rfl, .inr (s.sub.seqT h0), fin r1⟩
theorem dc_len_lst {xs : List D} (q : Q (.int xs.length) O) : DC X (.builtin "len") [.lst xs] δ O E Q := dc_len q _ (.inl rfl)
theorem dc_len_tup {xs : List D} (q : Q (.int xs.length) O) : DC X (.builtin "len") [.tup xs] δ O E Q := dc_len q _ (.inr rfl)
theorem dc_len_own {a : Addr} {xs : List D} (m : At a (.lst xs) O) (q : Q (.int xs.length) O) : DC X (.builtin "len") [.ref a] δ O E Q := dc_of call_len_seq fun vs W tk G σ H Q' p r s hE hQ => by
  cases p with
  | cons p1 pr =>
    cases pr
    cases p1
    obtain ⟨_, o, ho, rc⟩ := s.at_ m
    cases o with
    | lst vs => exact ⟨_, _, rfl, .inl (.inl (.inl ho)), by rw [rc.length]; exact hQ _ _ _ _ _ (Step.refl s) (.int _) q⟩
    | _ => exact rc.elim
theorem dc_len_str {x : Str} (hz : x.length ≤ 1000000) (q : Q (.int x.length) O) : DC X (.builtin "len") [.str x] δ O E Q := dc_of call_len_str fun vs W tk G σ H Q' p r s hE hQ => by
  cases p with
  | cons p1 pr =>
    cases pr
    cases p1
    exact ⟨x, rfl, Nat.le_trans hz (by decide), hQ _ _ _ _ _ (Step.refl s) (.int _) q⟩
theorem dc_abs (q : Q (.int (if i < 0 then -i else i)) O) : DC X (.builtin "abs") [.int i] δ O E Q := dc_of call_abs fun vs W tk G σ H Q' p r s hE hQ => by
  cases p with
  | cons p1 pr =>
    cases pr
    cases p1
    exact ⟨i, rfl, hQ _ _ _ _ _ (Step.refl s) (.int _) q⟩
theorem dc_int (q : Q (.int i) O) : DC X (.type "int") [.int i] δ O E Q := dc_of call_int1 fun vs W tk G σ H Q' p r s hE hQ => by
  cases p with
  | cons p1 pr =>
    cases pr
    cases p1
    exact .inl ⟨i, rfl, hQ _ _ _ _ _ (Step.refl s) (.int _) q⟩
theorem dc_int_str {x : Str} {n : Int} (hn : PySem.intText? x = some n) (hz : x.length ≤ 640) (q : Q (.int n) O) : DC X (.type "int") [.str x] δ O E Q := dc_of call_int_str fun vs W tk G σ H Q' p r s hE hQ => by
  cases p with
  | cons p1 pr =>
    cases pr
    cases p1
    exact ⟨x, n, rfl, hn, hz, hQ _ _ _ _ _ (Step.refl s) (.int _) q⟩
theorem dc_str_int (hz : i.natAbs.log2 < 1920) (q : Q (.str (toString i : String)) O) : DC X (.type "str") [.int i] δ O E Q := dc_of call_str_int fun vs W tk G σ H Q' p r s hE hQ => by
  cases p with
  | cons p1 pr =>
    cases pr
    cases p1
    exact ⟨i, rfl, hz, hQ _ _ _ _ _ (Step.refl s) (.str _) q⟩
theorem dc_sum {ns : List Int} (hc : X.calm = true) (q : Q (.int ns.sum) O) : DC X (.builtin "sum") [.lst (ns.map D.int)] δ O E Q := dc_of (cr_sum hc) fun vs W tk G σ H Q' p r s hE hQ => by
  cases p with
  | cons p1 pr =>
    cases pr
    cases p1 with
    | lst h0 r1 =>
      have e := repL_int r1
      subst e
      exact ⟨_, ns, rfl, .inl (.inl (s.sub _ _ h0)), hQ _ _ _ _ _ (Step.refl s) (.int _) q⟩
theorem dc_sum_own {a : Addr} {ns : List Int} (hc : X.calm = true) (m : At a (.lst (ns.map D.int)) O) (q : Q (.int ns.sum) O) : DC X (.builtin "sum") [.ref a] δ O E Q := dc_of (cr_sum hc) fun vs W tk G σ H Q' p r s hE hQ => by
  cases p with
  | cons p1 pr =>
    cases pr
    cases p1
    obtain ⟨_, o, ho, rc⟩ := s.at_ m
    cases o with
    | lst ws =>
      have e := repL_int rc
      subst e
      exact ⟨_, ns, rfl, .inl (.inl ho), hQ _ _ _ _ _ (Step.refl s) (.int _) q⟩
    | _ => exact rc.elim
theorem dc_any {bs : List Bool} (hc : X.calm = true) (q : Q (.bl (bs.any id)) O) : DC X (.builtin "any") [.lst (bs.map D.bl)] δ O E Q := dc_of (cr_any hc) fun vs W tk G σ H Q' p r s hE hQ => by
  cases p with
  | cons p1 pr =>
    cases pr
    cases p1 with
    | lst h0 r1 =>
      have e := repL_bl r1
      subst e
      exact ⟨_, bs, rfl, .inl (.inl (s.sub _ _ h0)), hQ _ _ _ _ _ (Step.refl s) (.bl _) q⟩
theorem dc_all {bs : List Bool} (hc : X.calm = true) (q : Q (.bl (bs.all id)) O) : DC X (.builtin "all") [.lst (bs.map D.bl)] δ O E Q := dc_of (cr_all hc) fun vs W tk G σ H Q' p r s hE hQ => by
  cases p with
  | cons p1 pr =>
    cases pr
    cases p1 with
    | lst h0 r1 =>
      have e := repL_bl r1
      subst e
      exact ⟨_, bs, rfl, .inl (.inl (s.sub _ _ h0)), hQ _ _ _ _ _ (Step.refl s) (.bl _) q⟩
theorem dc_tuple {xs : List D} (q : Q (.tup xs) O) : DC X (.type "tuple") [.lst xs] δ O E Q := dc_of call_tuple_of fun vs W tk G σ H Q' p r s hE hQ => by
  cases p with
  | cons p1 pr =>
    cases pr
    cases p1 with
    | lst h0 r1 => exact ⟨_, _, rfl, .inl ⟨.inl (.inl (s.sub _ _ h0)), m_newT s r1 q hQ⟩⟩
theorem dc_list {xs : List D} (q : NewL xs O Q) : DC X (.type "list") [.lst xs] δ O E Q := dc_of call_list_of fun vs W tk G σ H Q' p r s hE hQ => by
  cases p with
  | cons p1 pr =>
    cases pr
    cases p1 with
    | lst h0 r1 => exact ⟨_, _, rfl, .inl (.inl (.inl (s.sub _ _ h0))), m_newL s r1 q hQ⟩
theorem dc_list_own {a : Addr} {xs : List D} (m : At a (.lst xs) O) (q : NewL xs O Q) : DC X (.type "list") [.ref a] δ O E Q := dc_of call_list_of fun vs W tk G σ H Q' p r s hE hQ => by
  cases p with
  | cons p1 pr =>
    cases pr
    cases p1
    obtain ⟨_, o, ho, rc⟩ := s.at_ m
    cases o with
    | lst ws => exact ⟨_, _, rfl, .inl (.inl (.inl ho)), m_newL s rc q hQ⟩
    | _ => exact rc.elim

/-! ### isinstance -/
/-- of what built-in class a value is -/
def tyD : D → String
  | .non => "NoneType" | .bl _ => "bool" | .int _ => "int" | .str _ => "str" | .tup _ => "tuple" | .lst _ => "list" | .fz _ => "list" | _ => ""
theorem tyD_x {K : PySem.W.Frag} {G H : Hp} {d : D} {v : V} (r : Rep K G d v) (e : Ex G H) (h : tyD d ≠ "") : TyX K H v (.type (tyD d)) := by
  cases r with
  | non => exact .base .non
  | bl b => exact .base (.bl b)
  | int i => exact .base (.int i)
  | str x => exact .base (.str x)
  | ty n => exact absurd rfl h
  | ref a => exact absurd rfl h
  | tup hq _ =>
    rcases e.seqT hq with (z | ⟨o, z⟩) | ⟨o, its, n, z, c, _⟩
    · exact .base (.tup z)
    · exact .fTuple z
    · exact .kTuple z c
  | lst hq _ => exact .base (.lst (e _ _ hq))
  | fz hq _ =>
    rcases e.seqL hq with (z | ⟨o, z⟩) | ⟨o, its, n, z, c, _⟩
    · exact .base (.lst z)
    · exact .base (.frz z)
    · exact .kList z c
  | ins _ _ => exact absurd rfl h
  | exc _ _ => exact absurd rfl h
/-- isinstance(x, T), both built-in -/
theorem dc_isi {d : D} {T : String} {b : Bool} (h : tyD d ≠ "") (hk : kitB (tyD d) T = some b) (q : Q (.bl b) O) : DC X (.builtin "isinstance") [d, .ty T] δ O E Q := dc_of call_isi fun vs W tk G σ H Q' p r s hE hQ => by
  cases p with
  | cons p1 pr =>
    cases pr with
    | cons p2 pr =>
      cases pr
      cases p2
      exact ⟨_, _, _, _, b, rfl, .ty T, tyD_x p1 s.sub h, kit_ty hk, hQ _ _ _ _ _ (Step.refl s) (.bl _) q⟩
theorem dc_isi_own {a : Addr} {xs : List D} {T : String} {b : Bool} (m : At a (.lst xs) O) (hk : kitB "list" T = some b) (q : Q (.bl b) O) : DC X (.builtin "isinstance") [.ref a, .ty T] δ O E Q := dc_of call_isi fun vs W tk G σ H Q' p r s hE hQ => by
  cases p with
  | cons p1 pr =>
    cases pr with
    | cons p2 pr =>
      cases pr
      cases p1
      cases p2
      obtain ⟨_, o, ho, rc⟩ := s.at_ m
      cases o with
      | lst ws => exact ⟨_, _, _, _, b, rfl, .ty T, .base (.lst ho), kit_ty hk, hQ _ _ _ _ _ (Step.refl s) (.bl _) q⟩
      | _ => exact rc.elim
/-- a built-in class by its name, as a value -/
theorem de_bltn {x : Str} {T : String} (S : Sc X N sc) (hm : X.mg x = none) (hv : bootBuiltins x = some (.type T)) (q : Q (.ty T) O) (hg : Nk x .globalImplicit sc.names := by (repeat (with_reducible constructor))) : DE X (.Name x pos) δ O E Q :=
  de_const (pe_bltn (v := .ty T) (S.gl hg) hm hv rfl (S.nme hg) (S.dbg hg)) (fun _ => .ty T) q

/-! ### methods of lists of one's own -/
theorem rep_ref {K : PySem.W.Frag} {G : Hp} {a : Addr} {v : V} (r : Rep K G (.ref a) v) : v = .ref a := by cases r; rfl
/-- o.m(e), o a list of one's own; what the method does: rule -/
theorem m_own1 {o e : Expr} {r : V → List V → Hp → VK → Prop} {k : Addr → List D → D → Own → Prop}
    (rule : ∀ (a : Addr) (xs : List D) (y : D) (O2 : Own) (v : V) (G H : Hp) (Q' : VK), k a xs y O2 → At a (.lst xs) O2 → Sta X.K G O2 H → Rep X.K G y v → (∀ G' H' O' d v, Step X.K G O2 H G' O' H' → Rep X.K G' d v → Q d O' → Q' v H') → r (.ref a) [v] H Q')
    (h : DE X o δ O E fun d O1 => ∃ a zs, d = .ref a ∧ At a (.lst zs) O1 ∧ DE X e δ O1 E fun y O2 => ∃ xs, At a (.lst xs) O2 ∧ k a xs y O2) : M X PT0 (Rep X.K) (tBM X.K "list" r (sem X o) (tCons (sem X e) tNil)) δ O E Q :=
  fun W tk G σ H Q' p r s hE hQ => h W tk G σ H _ p r s hE fun G1 H1 O1 d v st rd ⟨a, zs, ed, m, h1⟩ => by
    subst ed
    have ev := rep_ref rd
    subst ev
    obtain ⟨_, oz, hoz, rcz⟩ := st.sta.at_ m
    cases oz with
    | lst wz =>
      refine ⟨.inl ⟨rfl, wz, .inl (.inl hoz)⟩, ?_⟩
      exact h1 W tk G1 σ H1 _ trivial (r.mono st.g) st.sta (fun _ _ _ _ _ _ st2 => hE _ _ _ _ _ _ (st.trans st2)) fun G2 H2 O2 y v2 st2 ry ⟨xs, m2, hk⟩ => rule a xs y O2 v2 G2 H2 Q' hk m2 st2.sta ry fun _ _ _ _ _ st3 => hQ _ _ _ _ _ ((st.trans st2).trans st3)
    | _ => exact rcz.elim
theorem de_append {o e : Expr} (h : DE X o δ O E fun d O1 => ∃ a zs, d = .ref a ∧ At a (.lst zs) O1 ∧ DE X e δ O1 E fun y O2 => ∃ xs, At a (.lst xs) O2 ∧ ∃ O3, xs.length < 100000 ∧ Put a (.lst (xs ++ [y])) O2 O3 ∧ Q .non O3)
    (hbase : attributeBase o "append" X.env (eval o X.env) = eval o X.env := by with_unfolding_all rfl)
    (hfew : ((backTo pos (starEach [e] X.env)).all (fun x => !x.1) && (backToKw pos (keywordEach [] X.env)).all (fun x => x.1.isSome)
      && decide ([e].length + ([] : List Keyword).length + (if ([] : List Keyword).isEmpty then 0 else 1) < 30)) = true := by with_unfolding_all rfl)
    (hline : (apos.endLine == pos.line) = true := by with_unfolding_all rfl) (hs : starEach [e] X.env = (false, eval e X.env) :: starEach [] X.env := by with_unfolding_all rfl) (hplain : (backTo pos (starEach [] X.env)).any (·.1) = false := by with_unfolding_all rfl) :
    DE X (.Call (.Attribute o "append" apos) [e] [] pos) δ O E Q :=
  de_of (pe_bm PySem.F.plainAttrs_list PySem.F.slot_list_append PySem.F.type_list_append mt_append pe_sem (pa_cons pe_sem pa_nil hs) hbase hfew hline hs hplain) (m_own1 (k := fun a xs y O2 => ∃ O3, xs.length < 100000 ∧ Put a (.lst (xs ++ [y])) O2 O3 ∧ Q .non O3) (fun a xs y O2 v G H Q' ⟨O3, hz, pt, q⟩ m s ry hQ => by
    obtain ⟨_, o, ho, rc⟩ := s.at_ m
    cases o with
    | lst ws =>
      have rl : RepL X.K G xs ws := rc
      exact ⟨a, ws, v, rfl, rfl, ho, by rw [rl.length]; exact Nat.lt_of_lt_of_le hz (by decide), hQ _ _ _ _ _ (Step.put s pt (o := .lst (ws ++ [v])) (rl.append (.cons ry .nil))) .non q⟩
    | _ => exact rc.elim) h)
theorem de_extend {o e : Expr} (h : DE X o δ O E fun d O1 => ∃ a zs, d = .ref a ∧ At a (.lst zs) O1 ∧ DE X e δ O1 E fun y O2 => ∃ xs, At a (.lst xs) O2 ∧ ∃ ys O3, y = .lst ys ∧ xs.length + ys.length ≤ 100000 ∧ Put a (.lst (xs ++ ys)) O2 O3 ∧ Q .non O3)
    (hbase : attributeBase o "extend" X.env (eval o X.env) = eval o X.env := by with_unfolding_all rfl)
    (hfew : ((backTo pos (starEach [e] X.env)).all (fun x => !x.1) && (backToKw pos (keywordEach [] X.env)).all (fun x => x.1.isSome)
      && decide ([e].length + ([] : List Keyword).length + (if ([] : List Keyword).isEmpty then 0 else 1) < 30)) = true := by with_unfolding_all rfl)
    (hline : (apos.endLine == pos.line) = true := by with_unfolding_all rfl) (hs : starEach [e] X.env = (false, eval e X.env) :: starEach [] X.env := by with_unfolding_all rfl) (hplain : (backTo pos (starEach [] X.env)).any (·.1) = false := by with_unfolding_all rfl) :
    DE X (.Call (.Attribute o "extend" apos) [e] [] pos) δ O E Q :=
  de_of (pe_bm PySem.F.plainAttrs_list PySem.F.slot_list_extend PySem.F.type_list_extend mt_extend pe_sem (pa_cons pe_sem pa_nil hs) hbase hfew hline hs hplain) (m_own1 (k := fun a xs y O2 => ∃ ys O3, y = .lst ys ∧ xs.length + ys.length ≤ 100000 ∧ Put a (.lst (xs ++ ys)) O2 O3 ∧ Q .non O3) (fun a xs y O2 v G H Q' ⟨ys, O3, ey, hz, pt, q⟩ m s ry hQ => by
    subst ey
    obtain ⟨_, o, ho, rc⟩ := s.at_ m
    cases o with
    | lst ws =>
      have rl : RepL X.K G xs ws := rc
      cases ry with
      | lst hy ry' => exact ⟨a, _, ws, _, rfl, rfl, ho, s.sub _ _ hy, by rw [rl.length, ry'.length]; exact Nat.le_trans hz (by decide), hQ _ _ _ _ _ (Step.put s pt (o := .lst (ws ++ _)) (rl.append ry')) .non q⟩
    | _ => exact rc.elim) h)
theorem RepL.eraseIdx {K : PySem.W.Frag} {G : Hp} : ∀ {xs : List D} {us : List V} (i : Nat), RepL K G xs us → RepL K G (xs.eraseIdx i) (us.eraseIdx i)
  | _, _, _, .nil => .nil
  | _, _, 0, .cons _ t => t
  | _, _, i + 1, .cons q t => .cons q (RepL.eraseIdx i t)
/-- l.pop(i) -/
theorem de_popAt {o e : Expr} (h : DE X o δ O E fun d O1 => ∃ a zs, d = .ref a ∧ At a (.lst zs) O1 ∧ DE X e δ O1 E fun y O2 => ∃ xs, At a (.lst xs) O2 ∧ ∃ (n : Nat) (z : D) (O3 : Own), y = .int (n : Int) ∧ xs[n]? = some z ∧ xs.length ≤ 100000 ∧ Put a (.lst (xs.eraseIdx n)) O2 O3 ∧ Q z O3)
    (hbase : attributeBase o "pop" X.env (eval o X.env) = eval o X.env := by with_unfolding_all rfl)
    (hfew : ((backTo pos (starEach [e] X.env)).all (fun x => !x.1) && (backToKw pos (keywordEach [] X.env)).all (fun x => x.1.isSome)
      && decide ([e].length + ([] : List Keyword).length + (if ([] : List Keyword).isEmpty then 0 else 1) < 30)) = true := by with_unfolding_all rfl)
    (hline : (apos.endLine == pos.line) = true := by with_unfolding_all rfl) (hs : starEach [e] X.env = (false, eval e X.env) :: starEach [] X.env := by with_unfolding_all rfl) (hplain : (backTo pos (starEach [] X.env)).any (·.1) = false := by with_unfolding_all rfl) :
    DE X (.Call (.Attribute o "pop" apos) [e] [] pos) δ O E Q :=
  de_of (pe_bm PySem.F.plainAttrs_list PySem.F.slot_list_pop PySem.F.type_list_pop mt_popAt pe_sem (pa_cons pe_sem pa_nil hs) hbase hfew hline hs hplain) (m_own1 (k := fun a xs y O2 => ∃ (n : Nat) (z : D) (O3 : Own), y = .int (n : Int) ∧ xs[n]? = some z ∧ xs.length ≤ 100000 ∧ Put a (.lst (xs.eraseIdx n)) O2 O3 ∧ Q z O3) (fun a xs y O2 v G H Q' ⟨n, z, O3, ey, hn, hz, pt, q⟩ m s ry hQ => by
    subst ey
    obtain ⟨_, o, ho, rc⟩ := s.at_ m
    cases o with
    | lst ws =>
      have rl : RepL X.K G xs ws := rc
      cases ry
      obtain ⟨w, hw, rw'⟩ := rl.get hn
      have hn' : n < xs.length := (List.getElem?_eq_some_iff.mp hn).1
      have hl := rl.length
      exact ⟨a, ws, _, n, w, rfl, rfl, ho, by omega, by omega, by rw [seqIndex_of (by omega) (by omega)]; simp, hw, hQ _ _ _ _ _ (Step.put s pt (o := .lst (ws.eraseIdx n)) (RepL.eraseIdx n rl)) rw' q⟩
    | _ => exact rc.elim) h)
/-- l[i] = .. -/
theorem dg_sub {o ie : Expr} {d : D} {Ex' : XD → DEnv → Own → Prop} {k : DEnv → Own → Prop} (h : DE X o δ O (fun x O' => Ex' x δ O') fun y O1 => ∃ a, y = .ref a ∧ DE X ie δ O1 (fun x O' => Ex' x δ O') fun z O2 => ∃ (n : Nat) (xs : List D) (O3 : Own), z = .int (n : Int) ∧ At a (.lst xs) O2 ∧ n < xs.length ∧ Put a (.lst (xs.set n d)) O2 O3 ∧ k δ O3)
    (ha : ∀ v, assign (.Subscript o ie pos) X.env v = (do
      let ov ← holding [v] (eval o X.env)
      let iv ← holding [v, ov] (eval ie X.env)
      standAt pos
      holding [v, ov, iv] (setItem ov iv v)
      release [v, ov, iv] []) := by intro _; with_unfolding_all rfl) : DG X (.Subscript o ie pos) d δ O Ex' k := fun W tk v G σ H Q' rd r s hE hk pins s' u I ru => by
  refine (pg_sub pe_sem pe_sem set_list ha).run pins s' σ H v u Q' I ru ?_
  refine h W tk G σ H _ trivial r s (fun G' H' O' x c dd st xr e => hE G' H' O' δ σ x c dd st (r.mono st.g) xr e) fun G1 H1 O1 y w st ry ⟨a, ey, h1⟩ => ?_
  subst ey
  have ew := rep_ref ry
  subst ew
  refine h1 W tk G1 σ H1 _ trivial (r.mono st.g) st.sta (fun G' H' O' x c dd st2 xr e => hE G' H' O' δ σ x c dd (st.trans st2) (r.mono (st.trans st2).g) xr e) fun G2 H2 O2 z w st2 rz ⟨n, xs, O3, ez, m, hn, pt, q⟩ => ?_
  subst ez
  cases rz
  obtain ⟨_, o, ho, rc⟩ := st2.sta.at_ m
  cases o with
  | lst ws =>
    have rl : RepL X.K G2 xs ws := rc
    have hl := rl.length
    exact ⟨a, ws, _, n, rfl, rfl, ho, by unfold ixN; rw [if_pos (by omega), if_pos (by omega)]; simp, hk _ _ _ _ _ ((st.trans st2).trans (Step.put st2.sta pt (o := .lst (ws.set n v)) (RepL.set (rd.mono (st.trans st2).g) n rl))) (r.mono (st.trans st2).g) q⟩
  | _ => exact rc.elim
/-- what was one's own stands still from here on -/
theorem DSs.freeze {sts : List Stmt} {B : Bk} {nx : DEnv → Own → Prop} {a : Addr} {ds : List D} {O' : Own} {δ' : DEnv} (m : At a (.lst ds) O) (dl : Del a O O') (hδ : ∀ (i : Nat) (d : D), δ'[i]? = some (some d) → δ[i]? = some (some d) ∨ (d = .lst ds ∧ δ[i]? = some (some (.ref a)))) (hl : δ'.length = δ.length)
    (h : DSs X sts δ' O' B nx) : DSs X sts δ O B nx := fun W tk G σ H D r s l => by
  obtain ⟨_, o, ho, rc⟩ := s.at_ m
  obtain ⟨fz, rc'⟩ := Step.freeze s m dl ho
  cases o with
  | lst ws =>
    refine h W tk _ σ H D ⟨hl.trans r.1, fun i d e => ?_⟩ fz.sta (l.step fz)
    rcases hδ i d e with z | ⟨z1, z2⟩
    · obtain ⟨v, hv, rv⟩ := r.2 i d z
      exact ⟨v, hv, rv.mono fz.g⟩
    · obtain ⟨v, hv, rv⟩ := r.2 i _ z2
      subst z1
      have ev := rep_ref rv
      subst ev
      exact ⟨_, hv, .lst upd_same rc'⟩
  | _ => exact rc.elim
end
end DL

end

section
set_option maxRecDepth 100000
set_option maxHeartbeats 4000000
set_option autoImplicit false
/-! The data layer: more sources, texts, equality of data, slices. -/
namespace DL
open PySem PySem.Spec PyProof.Rows L2
open AutoSeq1 (wpAny_loadPart')

/-! ### enumerate of a tuple -/
theorem meets_enumerate_newB1 {v : Value} {o : Obj} {H : Heap → Prop} (B : Begins v o H) (hv : ∃ a, v = .ref a) :
    Meets (Builtin.«enumerate.__new__» ⟨[.type "enumerate", v], []⟩) (fun _ R s => H s.heap ∧
      R (.ok (.ret (.ref (s.heap.push o).objs.size))) { s with heap := (s.heap.push o).push { cls := .type "enumerate", data := .fields #[.none, .bool false, .ref s.heap.objs.size, rawInt 0, .none, .none] } }) :=
  .of_wp fun prog w A R s h => by
    obtain ⟨a, rfl⟩ := hv
    obtain ⟨hp, g, d, tk, os⟩ := s; obtain ⟨h1, h⟩ := h
    have hsub := sub_enumerate
    have q1 : ∀ {A' : Around} {E : Value → Shared → Prop} {Q : Value → Shared → Prop}, Q (.ref hp.objs.size) ⟨hp.push o, g, d, tk, os⟩ → wpAny (model prog w) A' (pyIter (.ref a)) Q E ⟨hp, g, d, tk, os⟩ :=
      fun q => B.iter prog w _ _ ⟨hp, g, d, tk, os⟩ _ h1 q
    wp_walk using q1
    refine wpAny_stack_any fun st => wpAny_pure ?_
    split
    · rename_i c _ _ _ _ _
      cases (c == Value.type "enumerate")
      · wp_walk using q1
        exact ⟨_, rfl, h⟩
      · wp_walk using q1
        exact ⟨_, rfl, h⟩
    · wp_walk using q1
      exact ⟨_, rfl, h⟩
theorem call_enumerate_tuple {prog : Program} {w : World} {A : Around} {E : Value → Shared → Prop} {s : Shared} {l : Addr} {items : Array Value} {Q : Value → Shared → Prop} (hL : s.heap.IsTuple l items)
    (h : ∀ h', IsEnum h' (s.heap.objs.size + 1) s.heap.objs.size 0 .none → h'.IsTupleIter s.heap.objs.size l 0 → h'.objs.size = s.heap.objs.size + 2 →
      (∀ b o, s.heap.get? b = some o → h'.get? b = some o) → Q (.ref (s.heap.objs.size + 1)) { s with heap := h' }) :
    wpAny (model prog w) A (call (.type "enumerate") [.ref l]) Q E s := by
  refine callType_new F.called_enumerate (by decide) (F.typeCall_enumerate_1 _) (F.newCall_enumerate_1 _) (fun obj => F.args_object_init_2 obj _) F.entry_enumerate_new
    (meets_enumerate_newB1 (begins_tuple l items) ⟨l, rfl⟩) ⟨hL, ?_⟩
  have hz : (s.heap.push { cls := .type "tuple_iterator", data := .fields #[.ref l, .int 0 0] }).objs.size = s.heap.objs.size + 1 := Heap.size_push ..
  show _ ∧ _
  rw [hz]
  have he : IsEnum ((s.heap.push { cls := .type "tuple_iterator", data := .fields #[.ref l, .int 0 0] }).push
      { cls := .type "enumerate", data := .fields #[.none, .bool false, .ref s.heap.objs.size, rawInt 0, .none, .none] }) (s.heap.objs.size + 1) s.heap.objs.size 0 .none := by
    have := Heap.get?_push_size (s.heap.push { cls := .type "tuple_iterator", data := .fields #[.ref l, .int 0 0] })
      (o := { cls := .type "enumerate", data := .fields #[.none, .bool false, .ref s.heap.objs.size, rawInt 0, .none, .none] }) rfl
    rw [hz] at this; exact this
  refine ⟨⟨_, he, rfl⟩, h _ he ⟨_, Heap.get?_push_of_some _ (Heap.get?_push_size _ rfl), rfl, rfl⟩ (by rw [Heap.size_push, hz]) fun b o x => Heap.get?_push_of_some _ (Heap.get?_push_of_some _ x)⟩
theorem enumT_end {prog : Program} {w : World} {A : Around} {E : Value → Shared → Prop} {s : Shared} {e it l : Addr} {i : Nat} {items : Array Value} {old : Value} {Q : Option Value → Shared → Prop} (hh : A.handled = none)
    (he : IsEnum s.heap e it i old) (hit : s.heap.IsTupleIter it l i) (hl : s.heap.IsTuple l items) (hx : items[i]? = none)
    (hQ : ∀ h', Heap.ExtBut it s.heap h' → Q none { s with heap := h' }) : wpAny (model prog w) A (pyNext (.ref e)) Q E s := by
  have hT : s.TypeIs (.ref e) "enumerate" := ⟨_, he, rfl⟩
  unfold pyNext
  refine wpAny_bind (wpAny_attempt (wpAny_callSpecial?_slot (name := Str.ofString "__next__") hT F.slot_enumerate_next
    (wpAny_call_entry F.slot_enumerate_next hT F.entry_enumerate_next ?_ (F.args_enumerate_next_1 _))))
  show wpAny _ _ (field (.ref e) 2 >>= _) _ _ _
  refine wpAny_bind (wpAny_field he rfl (x := .ref it) rfl ?_)
  refine wpAny_bind (wpAny_nextOf_tuple_end hh hit hl hx fun h' x he' hx' => ?_)
  obtain ⟨o, ho, hc⟩ := hx'
  refine wpAny_bind (wpAny_isInstance (T := "StopIteration") (b := true) ⟨o, ho, hc⟩ isSubtype_stop ?_)
  exact wpAny_pure (hQ _ he')
/-- the tuple at a, each item in a new pair -/
def IteT (K : PySem.W.Frag) (a : Addr) : It :=
  ⟨fun i H => ∃ (xs : List V) (x : V), SqT K H a xs ∧ xs[i]? = some x, fun i H v H' => ∃ T x, v = .ref T ∧ H T = none ∧ H' = upd H T (.tup [.int (i : Nat), x]) ∧ ∀ xs, SqT K H a xs → xs[i]? = some x, fun i H => ∃ xs : List V, SqT K H a xs ∧ xs.length ≤ i⟩
theorem turn_enumT {P : Program} {w : World} {K : PySem.W.Frag} {elts : List Expr} {kk : Nat} {tpos : Pos} (a e it : Addr) :
    Turn P w K (.Tuple elts kk tpos) (IteT K a) [e, it] e (fun i h => (∃ old, IsEnum h e it ((i : Nat) : Int) old) ∧ h.IsTupleIter it a i ∧ e ≠ it) where
  mem := by simp
  obj := fun i h st b hb => by
    obtain ⟨⟨old, he⟩, ⟨o, ho, hc, hd⟩, _⟩ := st
    have e' : b = e ∨ b = it := by simpa using hb
    rcases e' with z | z
    · rw [z]; exact ⟨_, he, fun v q => nomatch q⟩
    · rw [z]; exact ⟨o, ho, fun v q => by rw [hd] at q; cases q⟩
  keep := fun i h h' st k => let ⟨⟨old, he⟩, hi, hne⟩ := st; ⟨⟨old, k e (by simp) _ he⟩, hi.at fun o q => k it (by simp) o q, hne⟩
  item := by
    intro X hP hw hK hc i pins s σ H E I hf st hg
    subst hP hw hK
    obtain ⟨⟨old, he⟩, hit, hne⟩ := st
    obtain ⟨xs, x, hq, hx⟩ := hg
    obtain ⟨its, rv, p, hz⟩ := I.tuple hq
    obtain ⟨u, hu, ru⟩ := rv.get hx
    have hel : e < s.heap.objs.size := Heap.lt_size he
    have hil : it < s.heap.objs.size := by obtain ⟨_, q, _⟩ := hit; exact Heap.lt_size q
    have hae : e ≠ a := fun z => by
      obtain ⟨o, ho, hcl, _⟩ := p
      rw [← z, he] at ho; cases ho; exact absurd (show Value.type "enumerate" = .type "tuple" from hcl) (by decide)
    have hai : a ≠ it := fun z => by
      obtain ⟨o, ho, hcl, _⟩ := p
      obtain ⟨o2, ho2, hc2, _⟩ := hit
      rw [z, ho2] at ho; cases ho; rw [hc2] at hcl; exact absurd hcl (by decide)
    have D := Draws.tuple (prog := X.prog) (w := X.w) (A := X.A.in1) (I.ok.hd hc) it a hai its.toArray
    refine wpAny_pyNext_enum_itemD D he ⟨hit, show s.heap.IsTuple a its.toArray from p⟩ (by
      have := (List.getElem?_eq_some_iff.mp hu).1
      simpa using this) hne (by simp [hne, hae]) fun x' h' tk hx' ho hit' hT hsz hk => ?_
    have eu : x' = u := by
      have z : its[i]? = some x' := by simpa using hx'
      rw [hu] at z; exact (Option.some.inj z).symm
    subst eu
    refine ⟨_, rfl, wpAny_letOwnedTupleGo_enum (s := { s with heap := h', toks := tk + 1 }) ho fun h'' he' sb => ?_⟩
    have hT2 : h''.get? s.heap.objs.size = some { cls := .type "tuple", data := .seq #[.int i tk, x'] } := (sb.2 _ (Nat.ne_of_gt hel)).trans hT
    have new : ObjOk X.prog X.w (upd H s.heap.objs.size (.tup [.int (i : Nat), x])) h'' s.heap.objs.size (.tup [.int (i : Nat), x]) :=
      ⟨by show 2 ≤ sizeLine; decide, [.int i tk, x'], .cons ⟨_, rfl⟩ (.cons ru .nil), ⟨_, hT2, rfl, _, rfl⟩⟩
    have I1 : Inv X pins σ (upd H s.heap.objs.size (.tup [.int (i : Nat), x])) { s with heap := h'', toks := tk + 1 } :=
      I.turnedNew (ch := [e, it]) (fun b ob hb q => (sb.2 b (fun z => hb (by simp [z]))).trans (hk b ob (fun z => hb (by simp [z])) (fun z => hb (by simp [z])) q)) hf (Nat.le_refl _) new
    refine ⟨.ref s.heap.objs.size, _, I1, rfl, ⟨_, x, rfl, I.hok.fresh (Nat.le_refl _), rfl, fun ys hy => by rw [I.tuple_inj hy hq]; exact hx⟩, ⟨⟨x', ?_⟩, hit'.1.at fun o q => (sb.2 it (Ne.symm hne)).trans q, hne⟩, fun b hb => ?_⟩
    · have e1 : ((i + 1 : Nat) : Int) = (i : Int) + 1 := by omega
      rw [e1]; exact he'
    · have hb' : b < s.heap.objs.size := by
        have e' : b = e ∨ b = it := by simpa using hb
        rcases e' with z | z
        · rw [z]; exact hel
        · rw [z]; exact hil
      rw [upd_ne (Nat.ne_of_lt hb')]
      exact (hf b hb).1
  done := by
    intro X hP hw hK hc i pins s σ H E I hf st hg
    subst hP hw hK
    obtain ⟨⟨old, he⟩, hit, hne⟩ := st
    obtain ⟨xs, hq, hx⟩ := hg
    obtain ⟨its, rv, p, hz⟩ := I.tuple hq
    obtain ⟨f0, f1, f2, f3, f4, f5⟩ := hf it (by simp)
    have hl := rv.length
    have hai : a ≠ it := fun z => by
      obtain ⟨o, ho, hcl, _⟩ := p
      obtain ⟨o2, ho2, hc2, _⟩ := hit
      rw [z, ho2] at ho; cases ho; rw [hc2] at hcl; exact absurd hcl (by decide)
    exact enumT_end (I.ok.hd hc) he hit (show s.heap.IsTuple a its.toArray from p) (by simp; omega) fun h' eb => ⟨rfl, I.turned (t' := s.toks) (fun b o hb q => eb b o hb q) f0 f1 f3 f4 f5⟩
  self := fun A i s Q E st h => let ⟨⟨_, he⟩, _⟩ := st; wpAny_pyIter_enum he h

def iEnumT (K : PySem.W.Frag) (ta : TA) : TI := fun σ H R => ta σ H fun vs H1 => ∃ a xs, vs = [.ref a] ∧ SqT K H1 a xs ∧ R (IteT K a) H1
theorem pi_enumT {X : Cx} {e : Expr} {ta : TA} {p pos tpos : Pos} {elts : List Expr} {kk : Nat} (hg : Gl X "enumerate") (hm : X.mg "enumerate" = none) (ha : PA X [e] ta) (hs : starEach [e] X.env = [(false, eval e X.env)] := by with_unfolding_all rfl) :
    PI X (.Tuple elts kk tpos) (.Call (.Name "enumerate" p) [e] [] pos) (iEnumT X.K ta) := by
  refine ⟨fun pins s σ H R I h => ?_⟩
  refine Call_ (ld_blt I hg hm boot_enumerate (PyProof.Rows.callWith_type1 (thn (ha.run pos pins s σ H _ I h) fun us s1 ⟨vs, H1, I1, r1, q1⟩ => ?_) hs rfl))
  obtain ⟨a, xs, ex, hq, q⟩ := q1
  subst ex
  cases r1 with
  | cons r rr =>
    cases rr
    cases r
    obtain ⟨its, rv, p', hz⟩ := I1.tuple hq
    refine call_enumerate_tuple (show s1.heap.IsTuple a its.toArray from p') fun h' he hit hsz hk => wpAny_pyIter_enum he ?_
    have I2 : Inv X pins σ H1 { s1 with heap := h' } := I1.kept (t' := s1.toks) hk
    refine ⟨s1.heap.objs.size + 1, [s1.heap.objs.size + 1, s1.heap.objs.size], _, _, H1, rfl, I2, turn_enumT a (s1.heap.objs.size + 1) s1.heap.objs.size, ⟨⟨.none, he⟩, hit, Nat.succ_ne_self _⟩, fun b hb => ?_, q⟩
    have e' : b = s1.heap.objs.size + 1 ∨ b = s1.heap.objs.size := by simpa using hb
    have hle : s1.heap.objs.size ≤ b := by
      rcases e' with z | z
      · rw [z]; exact Nat.le_add_right _ _
      · rw [z]; exact Nat.le_refl _
    exact I1.fpOk hle (I1.hok.fresh hle)
/-- the pairs (0, x0), (1, x1) .. -/
def enumD (xs : List D) : List D := xs.zipIdx.map fun p => D.tup [.int (p.2 : Nat), p.1]
theorem enumD_length {xs : List D} : (enumD xs).length = xs.length := by simp [enumD]
theorem enumD_get {xs : List D} {i : Nat} {d : D} (h : (enumD xs)[i]? = some d) : ∃ x, xs[i]? = some x ∧ d = .tup [.int (i : Nat), x] := by
  unfold enumD at h
  rw [List.getElem?_map, List.getElem?_zipIdx] at h
  cases q : xs[i]? with
  | none => rw [q] at h; cases h
  | some x =>
    rw [q] at h
    cases h
    exact ⟨x, rfl, by simp⟩
theorem jrep_enum {K : PySem.W.Frag} {G : Hp} {a : Addr} {ds : List D} {vs : List V} (hq : SqL K G a vs) (rl : RepL K G ds vs) : JRep K G (enumD ds) (Ite K a) where
  go := fun i G1 H e1 e2 hi => by
    rw [enumD_length] at hi
    have hv : i < vs.length := by rw [rl.length]; exact hi
    exact ⟨vs, vs[i], e2.seqL (e1.seqL hq), by simp [hv]⟩
  stop := fun i G1 H e1 e2 hi => ⟨vs, e2.seqL (e1.seqL hq), by rw [rl.length]; rw [enumD_length] at hi; exact Nat.le_of_eq hi⟩
  yld := fun i G1 H x H' d e1 e2 hd ⟨T, y, ex, hT, eH, hy⟩ => by
    obtain ⟨d0, h0, ed⟩ := enumD_get hd
    obtain ⟨v, hv, rv⟩ := rl.get h0
    have := hy vs (e2.seqL (e1.seqL hq))
    rw [hv] at this
    cases this
    exact .inr ⟨T, _, _, hT, eH, ed, .cons (.int _) (.cons (rv.mono e1) .nil), ex⟩
theorem jrep_enumT {K : PySem.W.Frag} {G : Hp} {a : Addr} {ds : List D} {vs : List V} (hq : SqT K G a vs) (rl : RepL K G ds vs) : JRep K G (enumD ds) (IteT K a) where
  go := fun i G1 H e1 e2 hi => by
    rw [enumD_length] at hi
    have hv : i < vs.length := by rw [rl.length]; exact hi
    exact ⟨vs, vs[i], e2.seqT (e1.seqT hq), by simp [hv]⟩
  stop := fun i G1 H e1 e2 hi => ⟨vs, e2.seqT (e1.seqT hq), by rw [rl.length]; rw [enumD_length] at hi; exact Nat.le_of_eq hi⟩
  yld := fun i G1 H x H' d e1 e2 hd ⟨T, y, ex, hT, eH, hy⟩ => by
    obtain ⟨d0, h0, ed⟩ := enumD_get hd
    obtain ⟨v, hv, rv⟩ := rl.get h0
    have := hy vs (e2.seqT (e1.seqT hq))
    rw [hv] at this
    cases this
    exact .inr ⟨T, _, _, hT, eH, ed, .cons (.int _) (.cons (rv.mono e1) .nil), ex⟩

section
variable {X : Cx} {N : List Str} {sc : Scope} {δ : DEnv} {O : Own} {E : XD → Own → Prop} {Q : D → Own → Prop} {QT : Bool → Own → Prop} {QA : List D → Own → Prop} {pos p apos : Pos} {i j : Int}
theorem m_one {e : Expr} {es : List Expr} {Qa : List D → Own → Prop} : True := trivial
theorem di_enum {e : Expr} {elts : List Expr} {kk : Nat} {tpos : Pos} {QI : List D → Own → Prop} (S : Sc X N sc) (hm : X.mg "enumerate" = none) (h : DA X [e] δ O E fun ds O1 => ∃ xs, ds = [.lst xs] ∧ QI (enumD xs) O1) (hg : Nk ("enumerate" : Str) .globalImplicit sc.names := by (repeat (with_reducible constructor))) (hs : starEach [e] X.env = [(false, eval e X.env)] := by with_unfolding_all rfl) :
    DI X (.Tuple elts kk tpos) (.Call (.Name "enumerate" p) [e] [] pos) δ O E QI :=
  di_of (pi_enum (S.gl hg) hm pa_sem hs) fun W tk G σ H Q' p r s hE hQ => h W tk G σ H _ p r s hE fun G' H' O' ds vs st rl ⟨xs, e, q⟩ => by
    subst e
    cases rl with
    | cons r1 rr =>
      cases rr
      cases r1 with
      | lst hq rl => exact ⟨_, _, rfl, .inl (.inl (st.sta.sub _ _ hq)), hQ _ _ _ _ _ st (jrep_enum (.inl (.inl hq)) rl) q⟩
theorem di_enumT {e : Expr} {elts : List Expr} {kk : Nat} {tpos : Pos} {QI : List D → Own → Prop} (S : Sc X N sc) (hm : X.mg "enumerate" = none) (h : DA X [e] δ O E fun ds O1 => ∃ xs, ds = [.tup xs] ∧ QI (enumD xs) O1) (hg : Nk ("enumerate" : Str) .globalImplicit sc.names := by (repeat (with_reducible constructor))) (hs : starEach [e] X.env = [(false, eval e X.env)] := by with_unfolding_all rfl) :
    DI X (.Tuple elts kk tpos) (.Call (.Name "enumerate" p) [e] [] pos) δ O E QI :=
  di_of (pi_enumT (S.gl hg) hm pa_sem hs) fun W tk G σ H Q' p r s hE hQ => h W tk G σ H _ p r s hE fun G' H' O' ds vs st rl ⟨xs, e, q⟩ => by
    subst e
    cases rl with
    | cons r1 rr =>
      cases rr
      cases r1 with
      | tup hq rl => exact ⟨_, _, rfl, st.sta.sub.seqT hq, hQ _ _ _ _ _ st (jrep_enumT hq rl) q⟩
/-! ### texts -/
def signs (x : Str) : List D := x.cps.toList.map fun c => D.str ⟨#[c]⟩
theorem jrep_str {K : PySem.W.Frag} {G : Hp} {x : Str} : JRep K G (signs x) (Its x) where
  go := fun i G1 H e1 e2 hi => by simp [signs] at hi; exact hi
  stop := fun i G1 H e1 e2 hi => by simp [signs] at hi; exact Nat.le_of_eq hi
  yld := fun i G1 H y H' d e1 e2 hd ⟨eH, c, hc, ey⟩ => by
    unfold signs at hd
    rw [List.getElem?_map] at hd
    have hc' : x.cps.toList[i]? = some c := by simpa using hc
    rw [hc'] at hd
    cases hd
    subst ey
    exact .inl ⟨eH, .str _⟩
theorem di_str {tg e : Expr} {QI : List D → Own → Prop} (h : DE X e δ O E fun d O1 => ∃ x, d = .str x ∧ QI (signs x) O1) : DI X tg e δ O E QI :=
  di_of (pi_str pe_sem) fun W tk G σ H Q' p r s hE hQ => h W tk G σ H _ p r s hE fun G' H' O' d v st rd ⟨x, e, q⟩ => by
    subst e
    cases rd
    exact ⟨x, rfl, hQ _ _ _ _ _ st jrep_str q⟩
theorem de_split {o e : Expr} (h : DE X o δ O E fun d O1 => ∃ x, d = .str x ∧ DE X e δ O1 E fun y O2 => ∃ z, y = .str z ∧ (z.length == 0) = false ∧ x.length + 2 ≤ 1000000 ∧ NewL ((Txt.split x z).map D.str) O2 Q)
    (hs : starEach [e] X.env = [(false, eval e X.env)] := by with_unfolding_all rfl) (hbase : attributeBase o "split" X.env (eval o X.env) = eval o X.env := by with_unfolding_all rfl) (hline : (apos.endLine == pos.line) = true := by with_unfolding_all rfl) : DE X (.Call (.Attribute o "split" apos) [e] [] pos) δ O E Q :=
  de_of (pe_split pe_sem pe_sem hs hbase hline) fun W tk G σ H Q' p r s hE hQ => h W tk G σ H _ p r s hE fun G1 H1 O1 d v st rd ⟨x, ed, h1⟩ => by
    subst ed
    cases rd
    refine ⟨⟨x, rfl⟩, h1 W tk G1 σ H1 _ trivial (r.mono st.g) st.sta (fun _ _ _ _ _ _ st2 => hE _ _ _ _ _ _ (st.trans st2)) fun G2 H2 O2 y u st2 ry ⟨z, ey, hz, hl, q⟩ => ?_⟩
    subst ey
    cases ry
    exact ⟨x, z, rfl, rfl, hz, Nat.le_trans hl (by decide), m_newL st2.sta (repL_map (fun _ => .str _) _) q fun _ _ _ _ _ st3 => hQ _ _ _ _ _ ((st.trans st2).trans st3)⟩
theorem de_join {o e : Expr} (h : DE X o δ O E fun d O1 => ∃ x, d = .str x ∧ DE X e δ O1 E fun y O2 => ∃ zs : List Str, y = .lst (zs.map D.str) ∧ (zs.map (·.length)).sum + zs.length * x.length ≤ 1000000 ∧ Q (.str (Txt.join x zs)) O2)
    (hs : starEach [e] X.env = [(false, eval e X.env)] := by with_unfolding_all rfl) (hbase : attributeBase o "join" X.env (eval o X.env) = eval o X.env := by with_unfolding_all rfl) (hline : (apos.endLine == pos.line) = true := by with_unfolding_all rfl) : DE X (.Call (.Attribute o "join" apos) [e] [] pos) δ O E Q :=
  de_of (pe_join pe_sem pe_sem hs hbase hline) fun W tk G σ H Q' p r s hE hQ => h W tk G σ H _ p r s hE fun G1 H1 O1 d v st rd ⟨x, ed, h1⟩ => by
    subst ed
    cases rd
    refine ⟨⟨x, rfl⟩, h1 W tk G1 σ H1 _ trivial (r.mono st.g) st.sta (fun _ _ _ _ _ _ st2 => hE _ _ _ _ _ _ (st.trans st2)) fun G2 H2 O2 y u st2 ry ⟨zs, ey, hl, q⟩ => ?_⟩
    subst ey
    cases ry with
    | lst hq rl =>
      have e2 := repL_str rl
      subst e2
      exact ⟨x, _, zs, rfl, rfl, .inl (.inl (.inl (st2.sta.sub _ _ hq))), Nat.le_trans hl (by decide), hQ _ _ _ _ _ (st.trans st2) (.str _) q⟩
/-- one sign in a text -/
theorem db_in_sign {c : Nat} {z : Str} (q : Q (.bl (decide (c ∈ z.cps.toList))) O) : DB X (compareOp .In) (.str ⟨#[c]⟩) (.str z) δ O E Q := db_of op_in_sign fun v u W tk G σ H Q' p r s hE hQ => by
  obtain ⟨p1, p2⟩ := p
  cases p1
  cases p2
  exact ⟨c, z, rfl, rfl, hQ _ _ _ _ _ (Step.refl s) (.bl _) q⟩
theorem db_notin_sign {c : Nat} {z : Str} (q : Q (.bl (!decide (c ∈ z.cps.toList))) O) : DB X (compareOp .NotIn) (.str ⟨#[c]⟩) (.str z) δ O E Q := db_of op_notIn_sign fun v u W tk G σ H Q' p r s hE hQ => by
  obtain ⟨p1, p2⟩ := p
  cases p1
  cases p2
  exact ⟨c, z, rfl, rfl, hQ _ _ _ _ _ (Step.refl s) (.bl _) q⟩

/-! ### == of data -/
mutual
def toP : D → PyData
  | .non => .none | .bl b => .bool b | .int i => .int i | .str x => .str x | .tup ds => .tuple (toPs ds) | .lst ds => .list (toPs ds) | .fz _ => .none | .ty _ => .none | .ref _ => .none | .ins _ _ => .none | .exc _ _ _ => .none
def toPs : List D → List PyData
  | [] => []
  | d :: ds => toP d :: toPs ds
end
mutual
def plainD : D → Bool
  | .non => true | .bl _ => true | .int _ => true | .str x => PySem.PyData.strOk x | .tup ds => plainDs ds | .lst ds => plainDs ds | .fz _ => false | .ty _ => false | .ref _ => false | .ins _ _ => false | .exc _ _ _ => false
def plainDs : List D → Bool
  | [] => true
  | d :: ds => plainD d && plainDs ds
end
mutual
theorem rep_dp {K : PySem.W.Frag} {G H : Hp} (e : Ex G H) : ∀ (d : D) (v : V), plainD d = true → Rep K G d v → Dp K H v (toP d)
  | .non, _, _, r => by cases r; exact .non
  | .bl b, _, _, r => by cases r; exact .bl b
  | .int i, _, _, r => by cases r; exact .int i
  | .str x, _, _, r => by cases r; exact .str x
  | .tup ds, _, h, r => by
    cases r with
    | tup hq rl => exact .tup (e.seqT hq) (rep_dps e ds _ h rl)
  | .lst ds, _, h, r => by
    cases r with
    | lst hq rl => exact .lst (.inl (.inl (e _ _ hq))) (rep_dps e ds _ h rl)
theorem rep_dps {K : PySem.W.Frag} {G H : Hp} (e : Ex G H) : ∀ (ds : List D) (vs : List V), plainDs ds = true → RepL K G ds vs → DpAll K H vs (toPs ds)
  | [], _, _, r => by cases r; exact .nil
  | d :: ds, _, h, r => by
    have h' : plainD d = true ∧ plainDs ds = true := by simpa [plainDs] using h
    cases r with
    | cons r1 r2 => exact .cons (rep_dp e d _ h'.1 r1) (rep_dps e ds _ h'.2 r2)
end
/-- what == asks of data: plain, not deep -/
def okD (d : D) : Prop := plainD d = true ∧ SeqAt.shaped (toP d) = true
theorem db_eqD {k : Nat} {x y : D} (hr : Room k X.A) (hx : okD x) (hy : okD y) (q : Q (.bl (PyData.eqv (toP x) (toP y))) O) : DB X (compareOp .Eq) x y δ O E Q := db_of (op_eqD hr.units) fun v u W tk G σ H Q' p r s hE hQ =>
  ⟨toP x, toP y, rep_dp s.sub x v hx.1 p.1, rep_dp s.sub y u hy.1 p.2, hx.2, hy.2, hQ _ _ _ _ _ (Step.refl s) (.bl _) q⟩
theorem db_neD {k : Nat} {x y : D} (hr : Room k X.A) (hx : okD x) (hy : okD y) (q : Q (.bl (!PyData.eqv (toP x) (toP y))) O) : DB X (compareOp .NotEq) x y δ O E Q := db_of (op_neD hr.units) fun v u W tk G σ H Q' p r s hE hQ =>
  ⟨toP x, toP y, rep_dp s.sub x v hx.1 p.1, rep_dp s.sub y u hy.1 p.2, hx.2, hy.2, hQ _ _ _ _ _ (Step.refl s) (.bl _) q⟩

/-! ### slices -/
def semPO (X : Cx) (e : Option Expr) : TO := fun σ H Q => ∀ (pins : List (Addr × Obj)) (s : Shared), Inv X pins σ H s → wpAny (model X.prog X.w) X.A (evalPart e X.env) (fun u s' => ∃ o H', Inv X pins σ H' s' ∧ IsPart u o ∧ Q o H') X.xe s
def DPo (X : Cx) (e : Option Expr) (δ : DEnv) (O : Own) (E : XD → Own → Prop) (Q : Option Int → Own → Prop) : Prop := M X PT0 REq (semPO X e) δ O E Q
theorem po_sem {e : Option Expr} : PO X e (semPO X e) := ⟨fun pins s _ _ _ I h => h pins s I⟩
theorem dpo_none {QP : Option Int → Own → Prop} (q : QP none O) : DPo X none δ O E QP := fun W tk G σ H Q' p r s hE hQ pins s' I => po_none.run pins s' σ H Q' I (hQ G H O none none (Step.refl s) rfl q)
theorem dpo_some {e : Expr} {QP : Option Int → Own → Prop} (h : DE X e δ O E fun d O1 => ∃ i, d = .int i ∧ QP (some i) O1) : DPo X (some e) δ O E QP := fun W tk G σ H Q' p r s hE hQ pins s' I => (po_some pe_sem).run pins s' σ H Q' I (h W tk G σ H _ p r s hE fun G1 H1 O1 d v st rd ⟨i, ed, q⟩ => by
  subst ed
  cases rd
  exact ⟨i, rfl, hQ _ _ _ _ _ st rfl q⟩)
def cutD (xs : List D) (lo hi : Option Int) : List D := (xs.drop (HT.sIx xs.length 0 lo)).take (HT.sIx xs.length xs.length hi - HT.sIx xs.length 0 lo)
theorem cut_rep {K : PySem.W.Frag} {G : Hp} {ds : List D} {vs : List V} (r : RepL K G ds vs) (lo hi : Option Int) : RepL K G (cutD ds lo hi) (cutV vs lo hi) := by
  unfold cutD cutV
  rw [r.length]
  exact RepL.take _ (RepL.drop _ r)
theorem m_slice {a : Expr} {lo hi : Option Expr} {r : V → Option Int → Option Int → Hp → VK → Prop} {kd : D → Own → Option Int → Option Int → Own → Prop}
    (rule : ∀ (x : D) (v : V) (l u : Option Int) (G H : Hp) (O1 O2 : Own) (Q' : VK), kd x O1 l u O2 → Rep X.K G x v → Sta X.K G O2 H → (∀ G' H' O' d v, Step X.K G O2 H G' O' H' → Rep X.K G' d v → Q d O' → Q' v H') → r v l u H Q')
    (h : DE X a δ O E fun x O1 => DPo X lo δ O1 E fun l O2 => DPo X hi δ O2 E fun u O3 => kd x O1 l u O3) : M X PT0 (Rep X.K) (tSl r (sem X a) (semPO X lo) (semPO X hi)) δ O E Q :=
  fun W tk G σ H Q' p r s hE hQ => h W tk G σ H _ p r s hE fun G1 H1 O1 x v st rx h1 => h1 W tk G1 σ H1 _ trivial (r.mono st.g) st.sta (fun _ _ _ _ _ _ st2 => hE _ _ _ _ _ _ (st.trans st2)) fun G2 H2 O2 l l' st2 el h2 => by
    obtain rfl : l = l' := el
    exact h2 W tk G2 σ H2 _ trivial (r.mono (st.trans st2).g) st2.sta (fun _ _ _ _ _ _ st3 => hE _ _ _ _ _ _ ((st.trans st2).trans st3)) fun G3 H3 O3 u u' st3 eu h3 => by
      obtain rfl : u = u' := eu
      exact rule x v l u G3 H3 O1 O3 Q' h3 (rx.mono (st2.trans st3).g) st3.sta fun _ _ _ _ _ st4 => hQ _ _ _ _ _ (((st.trans st2).trans st3).trans st4)
/-- xs[lo:hi] -/
theorem de_sliceL {a : Expr} {lo hi : Option Expr} {p2 : Pos} (h : DE X a δ O E fun x O1 => DPo X lo δ O1 E fun l O2 => DPo X hi δ O2 E fun u O3 => ∃ xs, x = .lst xs ∧ NewL (cutD xs l u) O3 Q) : DE X (.Subscript a (.Slice lo hi none p2) pos) δ O E Q :=
  de_of (pe_slice sl_list pe_sem po_sem po_sem) (m_slice (kd := fun x _ l u O3 => ∃ xs, x = .lst xs ∧ NewL (cutD xs l u) O3 Q) (fun x v l u G H O1 O2 Q' ⟨xs, ex, n⟩ rx s hQ => by
    subst ex
    cases rx with
    | lst hq rl => exact ⟨_, _, rfl, .inl (.inl (s.sub _ _ hq)), m_newL s (cut_rep rl l u) n hQ⟩) h)
theorem de_sliceO {a : Expr} {lo hi : Option Expr} {p2 : Pos} (h : DE X a δ O E fun x O1 => DPo X lo δ O1 E fun l O2 => DPo X hi δ O2 E fun u O3 => ∃ b xs, x = .ref b ∧ At b (.lst xs) O3 ∧ NewL (cutD xs l u) O3 Q) : DE X (.Subscript a (.Slice lo hi none p2) pos) δ O E Q :=
  de_of (pe_slice sl_list pe_sem po_sem po_sem) (m_slice (kd := fun x _ l u O3 => ∃ b xs, x = .ref b ∧ At b (.lst xs) O3 ∧ NewL (cutD xs l u) O3 Q) (fun x v l u G H O1 O2 Q' ⟨b, xs, ex, m, n⟩ rx s hQ => by
    subst ex
    cases rx
    obtain ⟨_, o, ho, rc⟩ := s.at_ m
    cases o with
    | lst ws => exact ⟨_, _, rfl, .inl (.inl ho), m_newL s (cut_rep rc l u) n hQ⟩
    | _ => exact rc.elim) h)

/-! ### isinstance by the data -/
def isIntD : D → Bool | .int _ => true | .bl _ => true | _ => false
def isBlD : D → Bool | .bl _ => true | _ => false
def isStrD : D → Bool | .str _ => true | _ => false
def isTupD : D → Bool | .tup _ => true | _ => false
def isLstD : D → Bool | .lst _ => true | .fz _ => true | _ => false
theorem dc_isi_int {d : D} (h : tyD d ≠ "") (q : Q (.bl (isIntD d)) O) : DC X (.builtin "isinstance") [d, .ty "int"] δ O E Q := dc_isi h (by
  cases d <;> first | exact absurd rfl h | (show kitB _ "int" = some _; first | exact (by decide +kernel : kitB "NoneType" "int" = some false) | exact (by decide +kernel : kitB "bool" "int" = some true) | exact (by decide +kernel : kitB "int" "int" = some true) | exact (by decide +kernel : kitB "str" "int" = some false) | exact (by decide +kernel : kitB "tuple" "int" = some false) | exact (by decide +kernel : kitB "list" "int" = some false))) q
theorem dc_isi_bl {d : D} (h : tyD d ≠ "") (q : Q (.bl (isBlD d)) O) : DC X (.builtin "isinstance") [d, .ty "bool"] δ O E Q := dc_isi h (by
  cases d <;> first | exact absurd rfl h | (show kitB _ "bool" = some _; first | exact (by decide +kernel : kitB "NoneType" "bool" = some false) | exact (by decide +kernel : kitB "bool" "bool" = some true) | exact (by decide +kernel : kitB "int" "bool" = some false) | exact (by decide +kernel : kitB "str" "bool" = some false) | exact (by decide +kernel : kitB "tuple" "bool" = some false) | exact (by decide +kernel : kitB "list" "bool" = some false))) q
theorem dc_isi_str {d : D} (h : tyD d ≠ "") (q : Q (.bl (isStrD d)) O) : DC X (.builtin "isinstance") [d, .ty "str"] δ O E Q := dc_isi h (by
  cases d <;> first | exact absurd rfl h | (show kitB _ "str" = some _; first | exact (by decide +kernel : kitB "NoneType" "str" = some false) | exact (by decide +kernel : kitB "bool" "str" = some false) | exact (by decide +kernel : kitB "int" "str" = some false) | exact (by decide +kernel : kitB "str" "str" = some true) | exact (by decide +kernel : kitB "tuple" "str" = some false) | exact (by decide +kernel : kitB "list" "str" = some false))) q
theorem dc_isi_tup {d : D} (h : tyD d ≠ "") (q : Q (.bl (isTupD d)) O) : DC X (.builtin "isinstance") [d, .ty "tuple"] δ O E Q := dc_isi h (by
  cases d <;> first | exact absurd rfl h | (show kitB _ "tuple" = some _; first | exact (by decide +kernel : kitB "NoneType" "tuple" = some false) | exact (by decide +kernel : kitB "bool" "tuple" = some false) | exact (by decide +kernel : kitB "int" "tuple" = some false) | exact (by decide +kernel : kitB "str" "tuple" = some false) | exact (by decide +kernel : kitB "tuple" "tuple" = some true) | exact (by decide +kernel : kitB "list" "tuple" = some false))) q
theorem dc_isi_lst {d : D} (h : tyD d ≠ "") (q : Q (.bl (isLstD d)) O) : DC X (.builtin "isinstance") [d, .ty "list"] δ O E Q := dc_isi h (by
  cases d <;> first | exact absurd rfl h | (show kitB _ "list" = some _; first | exact (by decide +kernel : kitB "NoneType" "list" = some false) | exact (by decide +kernel : kitB "bool" "list" = some false) | exact (by decide +kernel : kitB "int" "list" = some false) | exact (by decide +kernel : kitB "str" "list" = some false) | exact (by decide +kernel : kitB "tuple" "list" = some false) | exact (by decide +kernel : kitB "list" "list" = some true))) q

/-! ### small words -/
theorem ex_bl {b : Bool} {Qb : Bool → Prop} (h : Qb b) : ∃ k, D.bl b = D.bl k ∧ Qb k := ⟨b, rfl, h⟩
theorem br_t {A C : Prop} (h : A) : (true = true → A) ∧ (true = false → C) := ⟨fun _ => h, fun z => nomatch z⟩
theorem br_f {A C : Prop} (h : C) : (false = true → A) ∧ (false = false → C) := ⟨fun z => (nomatch z), fun _ => h⟩
theorem rb_t {A C : Prop} (h : A) : (true = false → C) ∧ (true = true → A) := ⟨fun z => (nomatch z), fun _ => h⟩
theorem rb_f {A C : Prop} (h : C) : (false = false → C) ∧ (false = true → A) := ⟨fun _ => h, fun z => nomatch z⟩
end
end DL

end

section
set_option maxRecDepth 100000
set_option maxHeartbeats 4000000
set_option autoImplicit false
/-! The data layer: what the top has written, by kinds. -/
namespace DL
open PySem PySem.Spec PyProof.Rows L2

/-- a def of the module -/
structure Def (K : PySem.W.Frag) (mg : Str → Option Value) (nm : Str) (st : Stmt) (ps : List Str) (f : Addr) : Prop where
  g : mg nm = some (.ref f)
  k : PySem.W.keepIn K (.ref f) = true
  fn : ∃ fd, Fun K nm nm st f fd ∧ Binds K fd ps []
/-- a method -/
structure MDef (K : PySem.W.Frag) (C : Addr) (m qual : Str) (st : Stmt) (ps : List Str) (f : Addr) : Prop where
  mt : Meth K C m f
  fn : ∃ fd, Fun K m qual st f fd ∧ Binds K fd ps []
/-- a method that takes what is left over -/
structure SDef (K : PySem.W.Frag) (C : Addr) (m qual : Str) (st : Stmt) (ps : List Str) (pv : Str) (f : Addr) : Prop where
  mt : Meth K C m f
  fn : ∃ fd, Fun K m qual st f fd ∧ ∀ us rest : List Value, us.length = ps.length → bindArgs fd ⟨us ++ rest, []⟩ = (newTuple rest >>= fun t => pure (ps.zip us ++ [(pv, t)]))
/-- a property -/
structure PDef (K : PySem.W.Frag) (C : Addr) (m qual : Str) (st : Stmt) (pr g : Addr) : Prop where
  p : PropOf K C m pr g
  fn : ∃ fd, Fun K m qual st g fd ∧ Binds K fd ["self"] []
/-- a classmethod -/
structure CDef (K : PySem.W.Frag) (C : Addr) (m qual : Str) (st : Stmt) (ps : List Str) (pr g : Addr) : Prop where
  c : ClX.CMet K C (.type "type") m pr g
  fn : ∃ fd, Fun K m qual st g fd ∧ Binds K fd ps []
/-- a class whose instances are made and read -/
structure ClD (K : PySem.W.Frag) (mg : Str → Option Value) (nm : Str) (C : Addr) : Prop where
  g : mg nm = some (.ref C)
  k : PySem.W.keepIn K (.ref C) = true
  cl : Cls K C
  mks : PySem.W.makesIn K C = true
  rd : ClX.CRead K C (.type "type")
  i1 : PySem.W.findIn K (.ref C) "__class__" = some (some (.builtin "object.__class__"))
  i2 : PySem.W.specialIn K (.builtin "object.__class__") "__get__" = some (some (.builtin "getset_descriptor.__get__"))
  i3 : PySem.W.takesIn K (.builtin "object.__class__") = some true
  i4 : PySem.W.mroIn K C (.type "object") = some true
theorem ClD.make {K : PySem.W.Frag} {mg : Str → Option Value} {nm : Str} {C f : Addr} (c : ClD K mg nm C) (h : Meth K C "__init__" f) : Mk K C f := ⟨c.mks, h.at_, h.fn, c.k⟩
section
variable {P : Program} {w : World} {K : PySem.W.Frag} {mg : Str → Option Value} {base : Heap} {nm qual m pv : Str} {st : Stmt} {f C pr g : Addr} {N ps : List Str} {k : Nat} {sp : DSp}
theorem Def.ok (D : Def K mg nm st ps f) (S : FnS N ps (defScope st)) (len : ∀ ds O E Q, sp ds O E Q → ds.length = ps.length) (h : BodyOk P w K mg base k N st sp) : DFn P w K mg base (k + 1) f sp :=
  let ⟨_, F, b⟩ := D.fn
  dfn_of F S b len h
theorem MDef.ok (D : MDef K C m qual st ps f) (S : FnS N ps (defScope st)) (len : ∀ ds O E Q, sp ds O E Q → ds.length = ps.length) (h : BodyOk P w K mg base k N st sp) : DFn P w K mg base (k + 1) f sp :=
  let ⟨_, F, b⟩ := D.fn
  dfn_of F S b len h
theorem PDef.ok (D : PDef K C m qual st pr g) (S : FnS N ["self"] (defScope st)) (len : ∀ ds O E Q, sp ds O E Q → ds.length = 1) (h : BodyOk P w K mg base k N st sp) : DFn P w K mg base (k + 1) g sp :=
  let ⟨_, F, b⟩ := D.fn
  dfn_of F S b len h
theorem CDef.ok (D : CDef K C m qual st ps pr g) (S : FnS N ps (defScope st)) (len : ∀ ds O E Q, sp ds O E Q → ds.length = ps.length) (h : BodyOk P w K mg base k N st sp) : DFn P w K mg base (k + 1) g sp :=
  let ⟨_, F, b⟩ := D.fn
  dfn_of F S b len h
theorem SDef.ok (D : SDef K C m qual st ps pv f) (S : FnS N (ps ++ [pv]) (defScope st)) (h : BodyOk P w K mg base k N st sp) : DFn P w K mg base (k + 1) f (starSp ps.length sp) :=
  let ⟨_, F, b⟩ := D.fn
  dfn_star F S b h
end
section
variable {X : Cx} {N : List Str} {sc : Scope} {δ : DEnv} {O : Own} {E : XD → Own → Prop} {Q : D → Own → Prop} {pos p apos : Pos}
/-- C.NAME, an int of the class -/
theorem de_cconst {cls nm : Str} {C : Addr} {n : Int} (S : Sc X N sc) (c : ClD X.K X.mg cls C) (h : ∃ u, ClX.CVal X.K C (.type "type") nm (.int n) u) (q : Q (.int n) O) (hg : Nk cls .globalImplicit sc.names := by (repeat (with_reducible constructor)))
    (hb : attributeBase (.Name cls p) nm X.env (eval (.Name cls p) X.env) = eval (.Name cls p) X.env := by with_unfolding_all rfl) : DE X (.Attribute (.Name cls p) nm pos) δ O E Q :=
  let ⟨u, hu⟩ := h
  de_cval (de_glob (v := .ref C) S c.g rfl (fun _ => .ref C) ⟨C, _, .int n, .int n, u, rfl, c.rd, hu, fun _ => .int n, q⟩ hg) hb
/-- a constant of the module -/
theorem de_cint {x : Str} {n : Int} (S : Sc X N sc) (h : ∃ t, X.mg x = some (.int n t)) (q : Q (.int n) O) (hg : Nk x .globalImplicit sc.names := by (repeat (with_reducible constructor))) : DE X (.Name x pos) δ O E Q :=
  let ⟨t, ht⟩ := h
  de_glob (v := .int n) S ht ⟨t, rfl⟩ (fun _ => .int n) q hg
theorem de_cstr {x z : Str} (S : Sc X N sc) (h : ∃ t, X.mg x = some (.str z t)) (q : Q (.str z) O) (hg : Nk x .globalImplicit sc.names := by (repeat (with_reducible constructor))) : DE X (.Name x pos) δ O E Q :=
  let ⟨t, ht⟩ := h
  de_glob (v := .str z) S ht ⟨t, rfl⟩ (fun _ => .str z) q hg
end
section
variable {a : Addr} {c c1 c2 : Cell} {O O' : Own}
theorem Put.mid (h : Put a c2 O O') : ∀ c1, ∃ O1, Put a c1 O O1 ∧ Put a c2 O1 O' := fun c1 => by
  induction h with
  | head => exact ⟨_, .head, .head⟩
  | tail _ ih => obtain ⟨O1, h1, h2⟩ := ih; exact ⟨_, .tail h1, .tail h2⟩
theorem Put.at' (h : Put a c O O') : At a c O' := by
  induction h with
  | head => exact .head
  | tail _ ih => exact .tail ih
end
section
variable {X : Cx} {δ : DEnv} {O O1 : Own} {E : XD → Own → Prop}
theorem DE.via {e : Expr} {d : D} {Q : D → Own → Prop} (q : Q d O1) (h : DE X e δ O E fun x O' => x = d ∧ O' = O1) : DE X e δ O E Q := M.imp h fun x O' ⟨e1, e2⟩ => by rw [e1, e2]; exact q
theorem DT.via {e : Expr} {k : Bool} {Q : Bool → Own → Prop} (q : Q k O1) (h : DT X e δ O E fun x O' => x = k ∧ O' = O1) : DT X e δ O E Q := M.imp h fun x O' ⟨e1, e2⟩ => by rw [e1, e2]; exact q
end
section
variable {X : Cx} {δ : DEnv} {O : Own} {E : XD → Own → Prop} {E' : XD → DEnv → Own → Prop} {Q : D → Own → Prop} {QT : Bool → Own → Prop} {QA : List D → Own → Prop} {B : Bk} {nx : DEnv → Own → Prop}
theorem as_DE {e : Expr} (h : DE X e δ O E Q) : DE X e δ O E Q := h
theorem as_call {f : Expr} {es : List Expr} {ks : List Keyword} {pos : Pos} (h : DE X (.Call f es ks pos) δ O E Q) : DE X (.Call f es ks pos) δ O E Q := h
theorem as_name {x : Str} {pos : Pos} (h : DE X (.Name x pos) δ O E Q) : DE X (.Name x pos) δ O E Q := h
theorem as_con {c : Const} {k : Nat} {pos : Pos} (h : DE X (.Constant c k pos) δ O E Q) : DE X (.Constant c k pos) δ O E Q := h
theorem as_attr {o : Expr} {m : Str} {pos : Pos} (h : DE X (.Attribute o m pos) δ O E Q) : DE X (.Attribute o m pos) δ O E Q := h
theorem as_DA {es : List Expr} (h : DA X es δ O E QA) : DA X es δ O E QA := h
theorem as_DT {e : Expr} (h : DT X e δ O E QT) : DT X e δ O E QT := h
theorem as_DW {e : Expr} (h : DW X e δ O E QT) : DW X e δ O E QT := h
theorem as_DSs {st : List Stmt} (h : DSs X st δ O B nx) : DSs X st δ O B nx := h
theorem as_DS {st : Stmt} (h : DS X st δ O B nx) : DS X st δ O B nx := h
theorem as_DG {e : Expr} {d : D} (h : DG X e d δ O E' nx) : DG X e d δ O E' nx := h
theorem as_DC {f : Value} {ds : List D} (h : DC X f ds δ O E Q) : DC X f ds δ O E Q := h
theorem as_DB {f : Value → Value → Sem Value} {x y : D} (h : DB X f x y δ O E Q) : DB X f x y δ O E Q := h
end
theorem br_nt {A C : Prop} (h : C) : ((!true) = true → A) ∧ ((!true) = false → C) := ⟨fun z => (nomatch z), fun _ => h⟩
theorem br_nf {A C : Prop} (h : A) : ((!false) = true → A) ∧ ((!false) = false → C) := ⟨fun _ => h, fun z => nomatch z⟩
theorem rb_nt {A C : Prop} (h : C) : ((!true) = false → C) ∧ ((!true) = true → A) := ⟨fun _ => h, fun z => nomatch z⟩
theorem rb_nf {A C : Prop} (h : A) : ((!false) = false → C) ∧ ((!false) = true → A) := ⟨fun z => (nomatch z), fun _ => h⟩
theorem len_and {n : Nat} {A : Prop} (h : Nat.ble n 100000 = true) (a : A) : n ≤ 100000 ∧ A := ⟨Nat.le_of_ble_eq_true h, a⟩
inductive Fz (a : Addr) (ds : List D) : DEnv → DEnv → Prop
  | nil : Fz a ds [] []
  | swap {l l' : DEnv} : Fz a ds l l' → Fz a ds (some (.ref a) :: l) (some (.lst ds) :: l')
  | keep {l l' : DEnv} {x : Option D} : Fz a ds l l' → Fz a ds (x :: l) (x :: l')
theorem Fz.len {a : Addr} {ds : List D} {l l' : DEnv} (h : Fz a ds l l') : l'.length = l.length := by
  induction h <;> simp_all
theorem Fz.get {a : Addr} {ds : List D} {l l' : DEnv} (h : Fz a ds l l') : ∀ (i : Nat) (d : D), l'[i]? = some (some d) → l[i]? = some (some d) ∨ (d = .lst ds ∧ l[i]? = some (some (.ref a))) := by
  induction h with
  | nil => intro i d h; simp at h
  | swap h ih =>
    intro i d e
    cases i with
    | zero => simp at e; right; exact ⟨e.symm, rfl⟩
    | succ i => exact ih i d e
  | keep h ih =>
    intro i d e
    cases i with
    | zero => left; exact e
    | succ i => exact ih i d e
theorem dss_fz {X : Cx} {δ δ' : DEnv} {O O' : Own} {sts : List Stmt} {B : Bk} {nx : DEnv → Own → Prop} (a : Addr) {ds : List D} (m : At a (.lst ds) O) (dl : Del a O O') (f : Fz a ds δ δ') (h : DSs X sts δ' O' B nx) : DSs X sts δ O B nx := DSs.freeze m dl f.get f.len h
theorem nl_own {ds : List D} {O : Own} {Q : D → Own → Prop} (h : ∀ a, Q (.ref a) ((a, .lst ds) :: O)) : NewL ds O Q := .inr h
theorem nl_fz {ds : List D} {O : Own} {Q : D → Own → Prop} (h : Q (.lst ds) O) : NewL ds O Q := .inl h
theorem sd_in {d : D} {δ δ' : DEnv} {i : Nat} {C : DEnv → Prop} (hs : SetD d δ i δ') (q : C δ') : ∃ δ', SetD d δ i δ' ∧ C δ' := ⟨δ', hs, q⟩
theorem wp_in {δ δ' : DEnv} {vs : List Nat} {C : DEnv → Prop} (hs : Wp δ vs δ') (q : C δ') : ∃ δ', Wp δ vs δ' ∧ C δ' := ⟨δ', hs, q⟩
end DL

end

section
set_option maxRecDepth 100000
set_option maxHeartbeats 4000000
set_option autoImplicit false
/-! The program's data: notes, melodies. -/
namespace DL
open PySem PySem.Spec PyProof.Rows L2

/-- lo <= i <= hi, an int and no bool -/
def isIn (d : D) (lo hi : Int) : Bool := match d with
  | .int i => decide (lo ≤ i) && decide (i ≤ hi)
  | _ => false
theorem isIn_int {i lo hi : Int} : isIn (.int i) lo hi = decide (lo ≤ i ∧ i ≤ hi) := by simp [isIn]
abbrev Note := Option Int × Int
def dOpt : Option Int → D
  | none => .non
  | some i => .int i
abbrev dNote (n : Note) : D := .tup [dOpt n.1, .int n.2]
def okNote (n : Note) : Bool := (match n.1 with | none => true | some p => decide (0 ≤ p ∧ p ≤ 127)) && decide (1 ≤ n.2 ∧ n.2 ≤ 16)
/-- what sounds in each beat, with the number of the note -/
def rowFrom (k : Nat) : List Note → List (Option Int × Nat)
  | [] => []
  | n :: r => List.replicate n.2.toNat (n.1, k) ++ rowFrom (k + 1) r
def rowOf (ns : List Note) : List (Option Int × Nat) := rowFrom 0 ns
def dRow (r : List (Option Int × Nat)) : List D := r.map fun p => .tup [dOpt p.1, .int (p.2 : Int)]
/-- a melody: its notes are good, one at least, 32 at most -/
structure Mel (ns : List Note) : Prop where
  ok : ∀ n ∈ ns, okNote n = true
  pos : 1 ≤ ns.length
  le : ns.length ≤ 32
def melFs (ns : List Note) : List (Str × D) := [("given", .tup (ns.map dNote)), ("row", .lst (dRow (rowOf ns)))]
abbrev dMel (C : Addr) (ns : List Note) : D := .ins C (melFs ns)
theorem rowFrom_length : ∀ (ns : List Note) (k : Nat), (rowFrom k ns).length = (ns.map fun n => n.2.toNat).sum
  | [], _ => rfl
  | n :: r, k => by simp [rowFrom, rowFrom_length r]
theorem rowFrom_append : ∀ (ns ms : List Note) (k : Nat), rowFrom k (ns ++ ms) = rowFrom k ns ++ rowFrom (k + ns.length) ms
  | [], ms, k => by simp [rowFrom]
  | n :: r, ms, k => by simp [rowFrom, rowFrom_append r ms, Nat.add_assoc, Nat.add_comm 1]
theorem okNote_le {n : Note} (h : okNote n = true) : 1 ≤ n.2 ∧ n.2 ≤ 16 := by
  unfold okNote at h
  simp only [Bool.and_eq_true, decide_eq_true_eq] at h
  exact h.2
theorem sum_le : ∀ (ns : List Note), (∀ n ∈ ns, okNote n = true) → (ns.map fun n => n.2.toNat).sum ≤ 16 * ns.length ∧ ns.length ≤ (ns.map fun n => n.2.toNat).sum
  | [], _ => by simp
  | n :: r, h => by
    have h1 := okNote_le (h n List.mem_cons_self)
    have h2 := sum_le r fun m hm => h m (List.mem_cons_of_mem _ hm)
    simp only [List.map_cons, List.sum_cons, List.length_cons]
    omega
theorem Mel.row_len {ns : List Note} (m : Mel ns) : 1 ≤ (rowOf ns).length ∧ (rowOf ns).length ≤ 512 := by
  have h := sum_le ns m.ok
  have h1 := m.pos
  have h2 := m.le
  unfold rowOf
  rw [rowFrom_length]
  omega
theorem tyD_opt (o : Option Int) : tyD (dOpt o) ≠ "" := by
  cases o with
  | none => exact (by decide : "NoneType" ≠ "")
  | some i => exact (by decide : "int" ≠ "")
end DL

end

section
set_option maxRecDepth 100000
set_option maxHeartbeats 4000000
set_option autoImplicit false
namespace DL
open PySem PySem.Spec PyProof.Rows L2
mutual
def depthD : D → Nat
  | .tup ds => depthDs ds + 1
  | .lst ds => depthDs ds + 1
  | _ => 0
def depthDs : List D → Nat
  | [] => 0
  | d :: ds => max (depthD d) (depthDs ds)
end
mutual
theorem lay_of : ∀ d : D, plainD d = true → PyData.canLay0 (toP d) = true
  | .non, _ => rfl
  | .bl _, _ => rfl
  | .int _, _ => rfl
  | .str x, h => h
  | .tup ds, h => lays_of ds h
  | .lst ds, h => lays_of ds h
  | .fz _, h => nomatch h
  | .ty _, h => nomatch h
  | .ref _, h => nomatch h
  | .ins _ _, h => nomatch h
theorem lays_of : ∀ ds : List D, plainDs ds = true → PyData.canLayAll0 (toPs ds) = true
  | [], _ => rfl
  | d :: ds, h => by
    simp only [plainDs, Bool.and_eq_true] at h
    simp only [toPs, PyData.canLayAll0, lay_of d h.1, lays_of ds h.2, Bool.and_self]
end
mutual
theorem dep_of : ∀ d : D, PyData.depth (toP d) = depthD d
  | .non | .bl _ | .int _ | .str _ | .fz _ | .ty _ | .ref _ | .ins _ _ | .exc _ _ _ => by simp [toP, PyData.depth, depthD]
  | .tup ds => by simp only [toP, PyData.depth, depthD, deps_of ds]
  | .lst ds => by simp only [toP, PyData.depth, depthD, deps_of ds]
theorem deps_of : ∀ ds : List D, PyData.depthAll (toPs ds) = depthDs ds
  | [] => rfl
  | d :: ds => by simp only [toPs, PyData.depthAll, depthDs, dep_of d, deps_of ds]
end
theorem okD_of {d : D} (h : plainD d = true) (hd : depthD d ≤ 64) : okD d := ⟨h, by
  unfold SeqAt.shaped
  rw [lay_of d h, dep_of d, decide_eq_true hd]
  rfl⟩
/-- plain, and at most so deep -/
def okN (n : Nat) (d : D) : Prop := plainD d = true ∧ depthD d ≤ n
theorem okN.ok {n : Nat} {d : D} (h : okN n d) (hn : n ≤ 64 := by decide) : okD d := okD_of h.1 (Nat.le_trans h.2 hn)
theorem okNs {n : Nat} : ∀ {ds : List D}, (∀ d ∈ ds, okN n d) → plainDs ds = true ∧ depthDs ds ≤ n
  | [], _ => ⟨rfl, Nat.zero_le _⟩
  | d :: ds, h => by
    have h1 := h d List.mem_cons_self
    have h2 := okNs fun e he => h e (List.mem_cons_of_mem _ he)
    refine ⟨by simp only [plainDs, h1.1, h2.1, Bool.and_self], ?_⟩
    simp only [depthDs]
    exact Nat.max_le.2 ⟨h1.2, h2.2⟩
theorem okN_tup {n : Nat} {ds : List D} (h : ∀ d ∈ ds, okN n d) : okN (n + 1) (.tup ds) := ⟨(okNs h).1, Nat.succ_le_succ (okNs h).2⟩
theorem okN_lst {n : Nat} {ds : List D} (h : ∀ d ∈ ds, okN n d) : okN (n + 1) (.lst ds) := ⟨(okNs h).1, Nat.succ_le_succ (okNs h).2⟩
theorem okN_int {n : Nat} {i : Int} : okN n (.int i) := ⟨rfl, Nat.zero_le _⟩
theorem okN_bl {n : Nat} {i : Bool} : okN n (.bl i) := ⟨rfl, Nat.zero_le _⟩
theorem okN_non {n : Nat} : okN n .non := ⟨rfl, Nat.zero_le _⟩
theorem okN_opt {n : Nat} (o : Option Int) : okN n (dOpt o) := by cases o <;> exact ⟨rfl, Nat.zero_le _⟩
theorem okN.mono {n m : Nat} {d : D} (h : okN n d) (hn : n ≤ m) : okN m d := ⟨h.1, Nat.le_trans h.2 hn⟩
theorem okN_note (n : Note) : okN 1 (dNote n) := okN_tup (n := 0) fun d hd => by
  simp at hd
  rcases hd with rfl | rfl
  · exact okN_opt _
  · exact okN_int
theorem okN_notes (ns : List Note) : okN 2 (.tup (ns.map dNote)) := okN_tup fun d hd => by
  obtain ⟨n, _, rfl⟩ := List.mem_map.1 hd
  exact okN_note n
theorem okN_notesL (ns : List Note) : okN 2 (.lst (ns.map dNote)) := okN_lst fun d hd => by
  obtain ⟨n, _, rfl⟩ := List.mem_map.1 hd
  exact okN_note n
mutual
/-- no truth value within -/
def noBl : D → Bool
  | .bl _ => false
  | .tup ds => noBls ds
  | .lst ds => noBls ds
  | _ => true
def noBls : List D → Bool
  | [] => true
  | d :: ds => noBl d && noBls ds
end
mutual
theorem eqv_iff : ∀ x y : D, plainD x = true → plainD y = true → noBl x = true → noBl y = true → (PyData.eqv (toP x) (toP y) = true ↔ x = y)
  | .non, y, hx, hy, bx, by' => by cases y <;> simp_all [toP, PyData.eqv, plainD, noBl]
  | .bl _, _, _, _, h, _ => nomatch h
  | .int i, y, hx, hy, bx, by' => by cases y <;> simp_all [toP, PyData.eqv, plainD, noBl]
  | .str i, y, hx, hy, bx, by' => by cases y <;> simp_all [toP, PyData.eqv, plainD, noBl]
  | .tup xs, .tup ys, hx, hy, bx, by' => by
    simp only [toP, PyData.eqv, D.tup.injEq]
    exact eqvs_iff xs ys hx hy bx by'
  | .lst xs, .lst ys, hx, hy, bx, by' => by
    simp only [toP, PyData.eqv, D.lst.injEq]
    exact eqvs_iff xs ys hx hy bx by'
  | .tup xs, .non, hx, hy, bx, by' | .tup xs, .bl _, hx, hy, bx, by' | .tup xs, .int _, hx, hy, bx, by' | .tup xs, .str _, hx, hy, bx, by' | .tup xs, .lst _, hx, hy, bx, by' | .tup xs, .fz _, hx, hy, bx, by' | .tup xs, .ty _, hx, hy, bx, by' | .tup xs, .ref _, hx, hy, bx, by' | .tup xs, .ins _ _, hx, hy, bx, by' | .tup xs, .exc _ _ _, hx, hy, bx, by' => by
    simp_all [toP, PyData.eqv, plainD, noBl]
  | .lst xs, .non, hx, hy, bx, by' | .lst xs, .bl _, hx, hy, bx, by' | .lst xs, .int _, hx, hy, bx, by' | .lst xs, .str _, hx, hy, bx, by' | .lst xs, .tup _, hx, hy, bx, by' | .lst xs, .fz _, hx, hy, bx, by' | .lst xs, .ty _, hx, hy, bx, by' | .lst xs, .ref _, hx, hy, bx, by' | .lst xs, .ins _ _, hx, hy, bx, by' | .lst xs, .exc _ _ _, hx, hy, bx, by' => by
    simp_all [toP, PyData.eqv, plainD, noBl]
  | .fz _, _, h, _, _, _ => nomatch h
  | .ty _, _, h, _, _, _ => nomatch h
  | .ref _, _, h, _, _, _ => nomatch h
  | .ins _ _, _, h, _, _, _ => nomatch h
  | .exc _ _ _, _, h, _, _, _ => nomatch h
theorem eqvs_iff : ∀ x y : List D, plainDs x = true → plainDs y = true → noBls x = true → noBls y = true → (PyData.eqvAll (toPs x) (toPs y) = true ↔ x = y)
  | [], [], _, _, _, _ => by simp [toPs, PyData.eqvAll]
  | [], _ :: _, _, _, _, _ => by simp [toPs, PyData.eqvAll]
  | _ :: _, [], _, _, _, _ => by simp [toPs, PyData.eqvAll]
  | x :: xs, y :: ys, hx, hy, bx, by' => by
    simp only [plainDs, noBls, Bool.and_eq_true] at hx hy bx by'
    simp only [toPs, PyData.eqvAll, Bool.and_eq_true, List.cons.injEq]
    rw [eqv_iff x y hx.1 hy.1 bx.1 by'.1, eqvs_iff xs ys hx.2 hy.2 bx.2 by'.2]
end
theorem noBls_of : ∀ {ds : List D}, (∀ d ∈ ds, noBl d = true) → noBls ds = true
  | [], _ => rfl
  | d :: ds, h => by simp only [noBls, h d List.mem_cons_self, noBls_of fun e he => h e (List.mem_cons_of_mem _ he), Bool.and_self]
theorem noBl_opt (o : Option Int) : noBl (dOpt o) = true := by cases o <;> rfl
theorem noBl_note (n : Note) : noBl (dNote n) = true := noBls_of fun d hd => by
  simp at hd
  rcases hd with rfl | rfl
  · exact noBl_opt _
  · rfl
theorem noBl_notes (ns : List Note) : noBl (.tup (ns.map dNote)) = true := noBls_of fun d hd => by
  obtain ⟨n, _, rfl⟩ := List.mem_map.1 hd
  exact noBl_note n
theorem dOpt_inj {a b : Option Int} (h : dOpt a = dOpt b) : a = b := by
  cases a <;> cases b <;> simp_all [dOpt]
theorem dNote_inj {a b : Note} (h : dNote a = dNote b) : a = b := by
  obtain ⟨p, q⟩ := a
  obtain ⟨r, s⟩ := b
  simp at h
  rw [dOpt_inj h.1, h.2]
theorem map_inj {α β : Type} {f : α → β} (hf : ∀ a b, f a = f b → a = b) : ∀ {xs ys : List α}, xs.map f = ys.map f → xs = ys
  | [], [], _ => rfl
  | [], _ :: _, h => by simp at h
  | _ :: _, [], h => by simp at h
  | x :: xs, y :: ys, h => by
    simp only [List.map_cons, List.cons.injEq] at h
    rw [hf x y h.1, map_inj hf h.2]
section
variable {X : Cx} {δ : DEnv} {O : Own} {E : XD → Own → Prop} {Q : D → Own → Prop}
theorem db_eqP {k n m : Nat} {x y : D} (hr : Room k X.A) (hx : okN n x) (hy : okN m y) (bx : noBl x = true) (hb : noBl y = true) (q : ∀ b, (b = true ↔ x = y) → Q (.bl b) O) (hn : n ≤ 64 := by decide) (hm : m ≤ 64 := by decide) : DB X (compareOp .Eq) x y δ O E Q :=
  db_eqD hr (hx.ok hn) (hy.ok hm) (q _ (eqv_iff x y hx.1 hy.1 bx hb))
theorem db_neP {k n m : Nat} {x y : D} (hr : Room k X.A) (hx : okN n x) (hy : okN m y) (bx : noBl x = true) (hb : noBl y = true) (q : ∀ b, (b = true ↔ x ≠ y) → Q (.bl b) O) (hn : n ≤ 64 := by decide) (hm : m ≤ 64 := by decide) : DB X (compareOp .NotEq) x y δ O E Q :=
  db_neD hr (hx.ok hn) (hy.ok hm) (q _ (by rw [Bool.not_eq_true', ← Bool.not_eq_true, eqv_iff x y hx.1 hy.1 bx hb]))
end
theorem row_next {ns : List Note} {i : Nat} {n : Note} (h : ns[i]? = some n) : dRow (rowOf (ns.take (i + 1))) = dRow (rowOf (ns.take i)) ++ (List.replicate n.2.toNat [D.tup [dOpt n.1, .int (i : Int)]]).flatten := by
  have hi : i < ns.length := (List.getElem?_eq_some_iff.1 h).1
  rw [List.take_add_one, h]
  simp only [Option.toList, rowOf, rowFrom_append, rowFrom, dRow, List.map_append, List.append_nil, List.map_replicate, List.length_take, Nat.min_eq_left (Nat.le_of_lt hi), Nat.zero_add]
  congr 1
  generalize n.2.toNat = k
  induction k with
  | zero => rfl
  | succ k ih => rw [List.replicate_succ, List.replicate_succ, List.flatten_cons, ih]; rfl
theorem row_take_le {ns : List Note} (m : Mel ns) (i : Nat) : (dRow (rowOf (ns.take i))).length ≤ 512 := by
  have h := sum_le (ns.take i) fun n hn => m.ok n (List.mem_of_mem_take hn)
  have h2 := m.le
  have h3 : (ns.take i).length ≤ ns.length := by rw [List.length_take]; exact Nat.min_le_right _ _
  have e : (dRow (rowOf (ns.take i))).length = ((ns.take i).map fun n => n.2.toNat).sum := by
    unfold dRow rowOf
    rw [List.length_map, rowFrom_length]
  omega
end DL

end

section
set_option maxRecDepth 100000
set_option maxHeartbeats 4000000
set_option autoImplicit false
namespace DL
open PySem PySem.Spec PyProof.Rows L2
/-- the context of a comprehension's block, forgotten but for what its rules need -/
structure Blk (X X' : Cx) (N : List Str) (sc' : Scope) : Prop where
  sc : Sc X' N sc'
  K : X'.K = X.K
  mg : X'.mg = X.mg
  A : X'.A = X.A
  pr : X'.prog = X.prog
  w : X'.w = X.w
  base : X'.base = X.base
theorem Blk.fn {X X' : Cx} {N : List Str} {sc' : Scope} (b : Blk X X' N sc') {k : Nat} {f : Addr} {sp : DSp} (F : DFn X.prog X.w X.K X.mg X.base k f sp) : DFn X'.prog X'.w X'.K X'.mg X'.base k f sp := by rw [b.pr, b.w, b.K, b.mg, b.base]; exact F
theorem Blk.room {X X' : Cx} {N : List Str} {sc' : Scope} (b : Blk X X' N sc') {k : Nat} (h : Room k X.A) : Room k X'.A := by rw [b.A]; exact h
theorem blk_of {X : Cx} {N : List Str} {sc scope : Scope} {sc' : Scope} (S : Sc X N sc) (hr : relS scope sc = sc') (hnm : nmOk sc' = true) {s : Shared} {H : Hp} {C : Addr} {cl : List (Str × Addr)} {fp : List Addr} : Blk X (blkX X scope s H C cl fp) N sc' := ⟨(by have h := blk_sc S (scope := scope) (s := s) (H := H) (C := C) (cl := cl) (fp := fp) (by rw [hr]; exact hnm); rw [hr] at h; exact h), rfl, rfl, rfl, rfl, rfl, rfl⟩
/-- what a comprehension's item does: nothing with the cells, and one value or none -/
def LcX (X : Cx) (N : List Str) (sc : Scope) (elt tg : Expr) (ifs : List Expr) (vs : List Nat) (δw : DEnv) (O : Own) {α : Type} (xs : List α) (enc : α → D) (g : α → List D) : Prop :=
  ∀ x ∈ xs, ∀ X', Blk X X' N sc → DGc X' tg (enc x) vs δw O fun δ2 O2 => ∀ X', Blk X X' N sc → DTs X' ifs δ2 O2 noE fun b O3 =>
    (b = true → ∀ X', Blk X X' N sc → DE X' elt δ2 O3 noE fun y O4 => O4 = O ∧ g x = [y]) ∧ (b = false → O3 = O ∧ g x = [])
section
variable {X : Cx} {N : List Str} {sc scope : Scope} {δ : DEnv} {O : Own} {E : XD → Own → Prop} {Q : D → Own → Prop} {QT : Bool → Own → Prop} {pos : Pos} {B : Bk} {nx : DEnv → Own → Prop}
theorem lcX_body {sc' : Scope} {elt tg : Expr} {ifs : List Expr} {vs : List Nat} {δw : DEnv} {α : Type} {xs : List α} {enc : α → D} {g : α → List D} (S : Sc X N sc) (hrel : relS scope sc = sc') (hnm : nmOk sc' = true) (hl : xs.length ≤ 100000) (h : LcX X N sc' elt tg ifs vs δw O xs enc g) :
    LcBody X elt tg ifs scope vs δw (xs.map enc) fun i acc O' => acc = (xs.take i).flatMap g ∧ acc.length ≤ i ∧ O' = O := by
  rintro i d acc O' hd ⟨ea, la, rfl⟩ s H C cl fp
  rw [List.getElem?_map] at hd
  cases hx : xs[i]? with
  | none => rw [hx] at hd; simp at hd
  | some x =>
    rw [hx] at hd
    simp only [Option.map_some, Option.some.injEq] at hd
    subst hd
    have hi : i < xs.length := (List.getElem?_eq_some_iff.1 hx).1
    have nxt : ∀ ys, g x = ys → (xs.take (i + 1)).flatMap g = acc ++ ys := fun ys e => by
      rw [List.take_add_one, hx, ea, ← e]
      simp
    have h1 := h x (List.mem_of_getElem? hx) _ (blk_of S hrel hnm (s := s) (H := H) (C := C) (cl := cl) (fp := fp))
    intro v G σ H2 Q2 rd r s2 hk
    refine h1 v G σ H2 Q2 rd r s2 fun G' H' O1 δ' σ' st r' w q => hk G' H' O1 δ' σ' st r' w ?_
    intro s3 H3 C3 cl3 fp3
    refine M.imp (q _ (blk_of S hrel hnm (s := s3) (H := H3) (C := C3) (cl := cl3) (fp := fp3))) fun b O3 ⟨qt, qf⟩ => ⟨fun hb s4 H4 C4 cl4 fp4 => ?_, fun hb => ?_⟩
    · refine M.imp (qt hb _ (blk_of S hrel hnm (s := s4) (H := H4) (C := C4) (cl := cl4) (fp := fp4))) fun y O4 ⟨e1, e2⟩ => ?_
      subst e1
      exact ⟨by omega, (nxt _ e2).symm, by simp; omega, rfl⟩
    · obtain ⟨e1, e2⟩ := qf hb
      subst e1
      exact ⟨by rw [nxt _ e2, List.append_nil], by omega, rfl⟩
/-- [elt for tg in iter if ..], its items without effect: own, the block's names with their slots -/
theorem de_lcXc {elt tg iter : Expr} {ifs : List Expr} (own : List (Str × Nat)) (sc' : Scope) (S : Sc X N sc)
    (h : DI X tg iter δ O E fun ds O1 => ∃ δw, Wp δ (own.map (·.2)) δw ∧ ∃ (α : Type) (xs : List α) (enc : α → D) (g : α → List D), ds = xs.map enc ∧ xs.length ≤ 100000 ∧ LcX X N sc' elt tg ifs (own.map (·.2)) δw O1 xs enc g ∧ NewL (xs.flatMap g) O1 Q)
    (ok : blkC N sc scope own = true := by decide +kernel) (hrel : relS scope sc = sc' := by with_unfolding_all rfl) (hnm : nmOk sc' = true := by decide +kernel) (hs : ∀ x, foldedSetIterable iter X.env x = pure x := by intro _; with_unfolding_all rfl) : DE X (.ListComp elt [⟨tg, iter, ifs, 0⟩] scope pos) δ O E Q := by
  refine de_lc own S (blkOk_by ok) ?_ hs
  refine M.imp h fun ds O1 ⟨δw, hw, α, xs, enc, g, e, hl, hb, n⟩ => ?_
  subst e
  refine ⟨δw, hw, _, ⟨rfl, Nat.le_refl _, rfl⟩, lcX_body S hrel hnm hl hb, ?_⟩
  rintro acc O' ⟨rfl, _, rfl⟩
  rw [List.length_map, List.take_length]
  exact n
theorem de_lcX {elt tg iter : Expr} {ifs : List Expr} (own : List (Str × Nat)) (S : Sc X N sc)
    (h : DI X tg iter δ O E fun ds O1 => ∃ δw, Wp δ (own.map (·.2)) δw ∧ ∃ (α : Type) (xs : List α) (enc : α → D) (g : α → List D), ds = xs.map enc ∧ xs.length ≤ 100000 ∧ LcX X N scope elt tg ifs (own.map (·.2)) δw O1 xs enc g ∧ NewL (xs.flatMap g) O1 Q)
    (ok : blkC N sc scope own = true := by decide +kernel) (hrel : relS scope sc = scope := by with_unfolding_all rfl) (hnm : nmOk scope = true := by decide +kernel) (hs : ∀ x, foldedSetIterable iter X.env x = pure x := by intro _; with_unfolding_all rfl) : DE X (.ListComp elt [⟨tg, iter, ifs, 0⟩] scope pos) δ O E Q :=
  de_lcXc own scope S h ok hrel hnm hs
theorem ds_setLcX {x : Str} {i : Nat} {py : Pos} {elt tg iter : Expr} {ifs : List Expr} {lpos : Pos} (own : List (Str × Nat)) (S : Sc X N sc) (hi : Ix x N i)
    (h : DI X tg iter δ O (fun x O' => B.ex x δ O') fun ds O1 => ∃ δw, Wp δ (own.map (·.2)) δw ∧ ∃ (α : Type) (xs : List α) (enc : α → D) (g : α → List D), ds = xs.map enc ∧ xs.length ≤ 100000 ∧ LcX X N scope elt tg ifs (own.map (·.2)) δw O1 xs enc g ∧ NewL (xs.flatMap g) O1 fun d O2 => ∃ δ', SetD d δ i δ' ∧ nx δ' O2)
    (ok : blkC N sc scope own = true := by decide +kernel) (hrel : relS scope sc = scope := by with_unfolding_all rfl) (hnm : nmOk scope = true := by decide +kernel)
    (hk : sc.kind = .function := by with_unfolding_all rfl) (hl : Nk x .local sc.names := by (repeat (with_reducible constructor))) (hln : (py.line == lpos.line) = true := by with_unfolding_all rfl) (ha : (scope.names.any fun (n, k) => n == x && (k == .local || k == .cell)) = false := by decide +kernel) (hs : ∀ x, foldedSetIterable iter X.env x = pure x := by intro _; with_unfolding_all rfl) :
    DS X (.Assign [.Name x py] (.ListComp elt [⟨tg, iter, ifs, 0⟩] scope lpos) pos) δ O B nx := by
  refine ds_setLc own S hi (blkOk_by ok) ?_ hk hl hln ha hs
  refine M.imp h fun ds O1 ⟨δw, hw, α, xs, enc, g, e, hl, hb, n⟩ => ?_
  subst e
  refine ⟨δw, hw, _, ⟨rfl, Nat.le_refl _, rfl⟩, lcX_body S hrel hnm hl hb, ?_⟩
  rintro acc O' ⟨rfl, _, rfl⟩
  rw [List.length_map, List.take_length]
  exact n
theorem dts_in {P' : Prop} (h : P') : (true = true → P') ∧ (true = false → O = O ∧ P') := ⟨fun _ => h, fun z => nomatch z⟩
theorem fm_map {α β : Type} {f : α → β} : ∀ {xs : List α}, (xs.flatMap fun x => [f x]) = xs.map f
  | [] => rfl
  | x :: xs => by rw [List.flatMap_cons, fm_map (xs := xs)]; rfl
theorem fm_fil {α β : Type} {f : α → β} {p : α → Bool} : ∀ {xs : List α}, (xs.flatMap fun x => if p x then [f x] else []) = (xs.filter p).map f
  | [] => rfl
  | x :: xs => by
    rw [List.flatMap_cons, fm_fil (xs := xs)]
    cases h : p x <;> simp [h]
theorem fm_id {α β : Type} {f : α → β} {g : α → List β} {xs : List α} (h : ∀ x, g x = [f x]) : xs.flatMap g = xs.map f := by
  rw [show g = fun x => [f x] from funext h, fm_map]
/-- o.g, a field of an instance -/
theorem de_fldG {e : Expr} {g : Str} {C : Addr} (c : Cls X.K C) (n : NoAttr X.K C g) (h : DE X e δ O E fun d O1 => ∃ fs x, IsIns d O1 C fs ∧ fs.lookup g = some x ∧ Q x O1) (hb : attributeBase e g X.env (eval e X.env) = eval e X.env := by with_unfolding_all rfl) : DE X (.Attribute e g pos) δ O E Q :=
  de_fld (M.imp h fun d O1 ⟨fs, x, i, l, q⟩ => ⟨C, fs, x, i, c, n, l, q⟩) hb
theorem fld_ins {C : Addr} {fs : List (Str × D)} {g : Str} {x : D} {P' : D → Prop} (l : fs.lookup g = some x) (q : P' x) : ∃ fs' x, IsIns (.ins C fs) O C fs' ∧ fs'.lookup g = some x ∧ P' x := ⟨fs, x, .fz, l, q⟩
theorem fld_own {a C : Addr} {fs : List (Str × D)} {g : Str} {x : D} {P' : D → Prop} (m : At a (.ins C fs) O) (l : fs.lookup g = some x) (q : P' x) : ∃ fs' x, IsIns (.ref a) O C fs' ∧ fs'.lookup g = some x ∧ P' x := ⟨fs, x, .own m, l, q⟩
end
section
variable {X : Cx} {δ : DEnv} {O : Own} {E : XD → Own → Prop} {QT : Bool → Own → Prop} {pos : Pos}
theorem dt_chain {op op' : CmpOp} {r r' : R2} {a b c : Expr} (ho : OpR X (compareOp op) r) (ho' : OpR X (compareOp op') r')
    (h : DE X a δ O E fun x O1 => DE X b δ O1 E fun y O2 => ∀ v u, M X (fun G => Rep X.K G x v ∧ Rep X.K G y u) (Rep X.K) (fun σ H K => r v u H fun z H3 => ∃ k, z = .bl k ∧ (if k = true then sem X c σ H3 fun w' H4 => r' u w' H4 K else K (.bl false) H3)) δ O2 E fun d O3 => ∃ k, d = .bl k ∧ QT k O3)
    (hm : lastMarks [op, op'] [b, c] = false := by with_unfolding_all rfl) : DT X (.Compare a [op, op'] [b, c] pos) δ O E QT := dt_of (pt_chain ho ho' pe_sem pe_sem pe_sem hm) (m_bool (m_two h))
theorem dt_lele {a b c : Expr} (h : DE X a δ O E fun x O1 => DE X b δ O1 E fun y O2 => ∃ i j, x = .int i ∧ y = .int j ∧ (i ≤ j → DE X c δ O2 E fun z O3 => ∃ k, z = .int k ∧ QT (decide (j ≤ k)) O3) ∧ (¬ i ≤ j → QT false O2))
    (hm : lastMarks [.LtE, .LtE] [b, c] = false := by with_unfolding_all rfl) : DT X (.Compare a [.LtE, .LtE] [b, c] pos) δ O E QT :=
  dt_chain op_le op_le (M.imp h fun x O1 h1 => M.imp h1 fun y O2 ⟨i, j, ex, ey, h2, h3⟩ => by
    subst ex ey
    intro v u W tk G σ H Q' p r s hE hQ
    obtain ⟨p1, p2⟩ := p
    cases p1
    cases p2
    refine ⟨i, j, rfl, rfl, _, rfl, ?_⟩
    by_cases hij : i ≤ j
    · rw [decide_eq_true hij, if_pos rfl]
      exact h2 hij W tk G σ H _ trivial r s hE fun G1 H1 O1 d v st rd ⟨k, ed, q⟩ => by
        subst ed
        cases rd
        exact ⟨j, k, rfl, rfl, hQ _ _ _ _ _ st (.bl _) ⟨_, rfl, q⟩⟩
    · rw [decide_eq_false hij, if_neg Bool.false_ne_true]
      exact hQ _ _ _ _ _ (Step.refl s) (.bl _) ⟨_, rfl, h3 hij⟩) hm
theorem int_in {i : Int} {P' : Int → Prop} (h : P' i) : ∃ k, D.int i = .int k ∧ P' k := ⟨i, rfl, h⟩
theorem int_in2 {i j : Int} {P' : Int → Int → Prop} (h : P' i j) : ∃ i' j', D.int i = .int i' ∧ D.int j = .int j' ∧ P' i' j' := ⟨i, j, rfl, rfl, h⟩
theorem str_in {i : Str} {P' : Str → Prop} (h : P' i) : ∃ k, D.str i = .str k ∧ P' k := ⟨i, rfl, h⟩
end
theorem atI_0 {α : Type} {x : α} {l : List α} : atI (x :: l) 0 = some x := atI_nat (j := 0) rfl
theorem atI_1 {α : Type} {x y : α} {l : List α} : atI (x :: y :: l) 1 = some y := atI_nat (j := 1) rfl
theorem atI_2 {α : Type} {x y z : α} {l : List α} : atI (x :: y :: z :: l) 2 = some z := atI_nat (j := 2) rfl
theorem atI_3 {α : Type} {x y z t : α} {l : List α} : atI (x :: y :: z :: t :: l) 3 = some t := atI_nat (j := 3) rfl
theorem map_get {α β : Type} {f : α → β} {xs : List α} {i : Nat} {y : β} (h : (xs.map f)[i]? = some y) : ∃ x, xs[i]? = some x ∧ y = f x := by
  rw [List.getElem?_map] at h
  cases e : xs[i]? with
  | none => rw [e] at h; simp at h
  | some x => rw [e] at h; simp at h; exact ⟨x, rfl, h.symm⟩
theorem cm_r {i j : Int} (h1 : -18446744073709551616 < j) (h2 : j < 18446744073709551616) : CMul i j := .inr ⟨h1, h2⟩
theorem cm_l {i j : Int} (h1 : -18446744073709551616 < i) (h2 : i < 18446744073709551616) : CMul i j := .inl ⟨h1, h2⟩
theorem cdiv_ {i j : Int} (h1 : 0 < j) (h2 : j < 1073741824) : CDiv i j := ⟨h1, h2⟩
theorem cpow_ {i j : Int} (h1 : 0 ≤ j) (h2 : j ≤ 1000000) (h3 : i.natAbs < 18446744073709551616) : CPow i j := ⟨h1, h2, h3⟩
section
variable {X : Cx} {δ : DEnv} {O : Own} {B : Bk} {nx : DEnv → Own → Prop} {a : Addr} {d : D}
theorem dss_via {st : Stmt} {rest : List Stmt} (P' : DEnv → Own → Prop) (h : DS X st δ O B P') (q : ∀ δ1 O1, P' δ1 O1 → DSs X rest δ1 O1 B nx) : DSs X (st :: rest) δ O B nx := dss_cons (DS.imp h q)
theorem ref_in {C : Addr → Prop} (h : C a) : ∃ a', D.ref a = .ref a' ∧ C a' := ⟨a, rfl, h⟩
theorem own_in {C : Prop} {zs : List D} (m : At a (.lst zs) O) (h : C) : ∃ zs, D.ref a = .ref a ∧ At a (.lst zs) O ∧ C := ⟨zs, rfl, m, h⟩
end
theorem as_DX {X : Cx} {δ : DEnv} {O : Own} {E : XD → Own → Prop} {Q : D → Own → Prop} {x y : D} (h : DX X x y δ O E Q) : DX X x y δ O E Q := h
/-- a cell of ours, and the others around it -/
structure Hole (r : Addr) (K : Cell → Own) : Prop where
  at_ : ∀ c, At r c (K c)
  put : ∀ c c', Put r c' (K c) (K c')
theorem Hole.cons {r : Addr} {K : Cell → Own} (h : Hole r K) {p : Addr × Cell} : Hole r (fun c => p :: K c) := ⟨fun c => .tail (h.at_ c), fun c c' => .tail (h.put c c')⟩
theorem Hole.here {r : Addr} {O : Own} : Hole r (fun c => (r, c) :: O) := ⟨fun c => .head, fun c c' => .head⟩
def starry : Expr → Bool
  | .Starred .. => true
  | _ => false
theorem swap2 {env : Env} {x y : Str} {px py pt pt2 : Pos} {kt k2 : Nat} {a b : Expr} (hk : env.scope.kind = .function) (hx : env.scope.names.lookup x = some .local) (hy : env.scope.names.lookup y = some .local) (hne : x ≠ y) (hl : (py.line == px.line) = true)
    (ha : starry a = false) (hb : starry b = false) (hf : (foldedForSure 8 a && foldedForSure 8 b) = false) (hc : (constantsAlone 8 a && constantsAlone 8 b) = false) : swappedStores [.Tuple [.Name x px, .Name y py] kt pt] (.Tuple [a, b] k2 pt2) env = pure (some [x, y]) := by
  have hbk : env.blockKind = .function := by
    unfold Env.blockKind
    rw [hk]
    rfl
  have kx : (env.kindOf x == some .local) = true := by unfold Env.kindOf; rw [hx]; rfl
  have ky : (env.kindOf y == some .local) = true := by unfold Env.kindOf; rw [hy]; rfl
  have hbk2 : (env.blockKind != .function) = false := by rw [hbk]; rfl
  have dd : [x, y].eraseDups = [x, y] := by
    rw [List.eraseDups_cons]
    have : (List.filter (fun b => !b == x) [y]) = [y] := by simp [beq_eq_false_iff_ne.2 (Ne.symm hne)]
    rw [this, List.eraseDups_cons]
    simp
  unfold swappedStores
  simp only [List.length_cons, List.length_nil, hbk2, List.any_cons, List.any_nil, List.head?_cons, Option.map_some, Option.getD_some, List.filterMap_cons, List.filterMap_nil, kx, ky, Expr.pos, beq_self_eq_true, Bool.and_self, hl, dd, List.all_cons, List.all_nil, Bool.and_true, if_true]
  refine (if_neg (by decide)).trans ?_
  refine (if_neg ?h).trans ?_
  case h =>
    show ¬ ((starry a || (starry b || false)) = true)
    rw [ha, hb]
    decide
  refine (if_neg (by decide)).trans ?_
  refine (if_neg (by rw [hf]; exact Bool.false_ne_true)).trans ?_
  exact if_neg (by rw [hc]; exact Bool.false_ne_true)
section
variable {X : Cx} {N : List Str} {sc : Scope} {δ : DEnv} {O : Own} {B : Bk} {nx : DEnv → Own → Prop} {pos : Pos}
theorem ds_par2 {x y : Str} {a b : Expr} {i j : Nat} {px py pt : Pos} {kt k2 : Nat} {pt2 : Pos} (S : Sc X N sc) (hi : Ix x N i) (hj : Ix y N j) (hij : Nat.beq i j = false) (h : DA X [a, b] δ O (fun x O' => B.ex x δ O') fun ds O1 => ∃ d e δ' δ'', ds = [d, e] ∧ SetD d δ i δ' ∧ SetD e δ' j δ'' ∧ nx δ'' O1)
    (hx : Nk x .local sc.names := by (repeat (with_reducible constructor))) (hy : Nk y .local sc.names := by (repeat (with_reducible constructor))) (hk : sc.kind = .function := by with_unfolding_all rfl) (hl : (py.line == px.line) = true := by with_unfolding_all rfl)
    (ha : starry a = false := by with_unfolding_all rfl) (hb : starry b = false := by with_unfolding_all rfl) (hf : (foldedForSure 8 a && foldedForSure 8 b) = false := by with_unfolding_all rfl) (hc : (constantsAlone 8 a && constantsAlone 8 b) = false := by with_unfolding_all rfl)
    (hs : swapsWithSole [.Tuple [.Name x px, .Name y py] kt pt] (.Tuple [a, b] k2 pt2) pos.line X.env = pure false := by with_unfolding_all rfl) : DS X (.Assign [.Tuple [.Name x px, .Name y py] kt pt] (.Tuple [a, b] k2 pt2) pos) δ O B nx := by
  have hij' : i ≠ j := fun e => by rw [e, Nat.beq_refl] at hij; cases hij
  have hne : x ≠ y := fun e => hij' (by
    have h1 := List.getElem?_eq_some_iff.1 hi.get
    have h2 := List.getElem?_eq_some_iff.1 hj.get
    obtain ⟨p1, q1⟩ := h1
    obtain ⟨p2, q2⟩ := h2
    exact (List.getElem_inj S.nd).1 (by rw [q1, q2, e]))
  refine ds_of (ps_par S.calm S.hN (S.ix hi) (S.ix hj) hij' (S.lo hx) (S.lo hy) pa_sem (swap2 (by rw [S.hsc]; exact hk) (S.lo hx) (S.lo hy) hne hl ha hb hf hc) hs) fun W tk G σ H D r s l => m_in h tk trivial r s l fun G' H' O' ds vs st r' l' rd ⟨d, e, δ', δ'', ed, h1, h2, q⟩ => by
    subst ed
    cases rd with
    | cons r1 rr =>
      cases rr with
      | cons r2 rr =>
        cases rr
        exact ⟨_, _, rfl, l'.nx G' H' O' δ'' _ (Step.refl st.sta) (by rw [h2.eq, h1.eq]; exact (r'.set i r1).set j r2) q⟩
theorem par_in {d e : D} {i j : Nat} {δ' δ'' : DEnv} {C : DEnv → Prop} (h1 : SetD d δ i δ') (h2 : SetD e δ' j δ'') (q : C δ'') : ∃ d' e' δ' δ'', [d, e] = [d', e'] ∧ SetD d' δ i δ' ∧ SetD e' δ' j δ'' ∧ C δ'' := ⟨d, e, δ', δ'', rfl, h1, h2, q⟩
end
theorem DE.cut {X : Cx} {δ : DEnv} {O : Own} {E : XD → Own → Prop} {Q : D → Own → Prop} {e : Expr} (P' : D → Own → Prop) (h : DE X e δ O E P') (q : ∀ d O', P' d O' → Q d O') : DE X e δ O E Q := M.imp h q
theorem br_et {b : Bool} {A C : Prop} (e : b = true) (h : A) : (b = true → A) ∧ (b = false → C) := ⟨fun _ => h, fun z => absurd (e.symm.trans z) Bool.noConfusion⟩
theorem br_ef {b : Bool} {A C : Prop} (e : b = false) (h : C) : (b = true → A) ∧ (b = false → C) := ⟨fun z => absurd (e.symm.trans z) Bool.noConfusion, fun _ => h⟩
theorem rb_et {b : Bool} {A C : Prop} (e : b = true) (h : A) : (b = false → C) ∧ (b = true → A) := ⟨fun z => absurd (e.symm.trans z) Bool.noConfusion, fun _ => h⟩
theorem rb_ef {b : Bool} {A C : Prop} (e : b = false) (h : C) : (b = false → C) ∧ (b = true → A) := ⟨fun _ => h, fun z => absurd (e.symm.trans z) Bool.noConfusion⟩
theorem as_br {b : Bool} {A C : Prop} (h : (b = true → A) ∧ (b = false → C)) : (b = true → A) ∧ (b = false → C) := h
theorem as_rb {b : Bool} {A C : Prop} (h : (b = false → C) ∧ (b = true → A)) : (b = false → C) ∧ (b = true → A) := h
theorem own2_in {a : Addr} {O : Own} {zs : List D} {C : Addr → Prop} (m : At a (.lst zs) O) (h : C a) : ∃ a' zs, D.ref a = .ref a' ∧ At a' (.lst zs) O ∧ C a' := ⟨a, zs, rfl, m, h⟩
end DL

end

section
set_option maxRecDepth 100000
set_option maxHeartbeats 4000000
set_option autoImplicit false
namespace DL
open PySem PySem.Spec PyProof.Rows L2
/-! ### the texts of notes -/
def numT (i : Int) : Str := Str.ofString (toString i)
def isDigN (c : Nat) : Bool := decide (48 ≤ c ∧ c ≤ 57)
def isNumL (z : List Nat) (m : Int) : Bool := decide (1 ≤ (z.length : Int) ∧ (z.length : Int) ≤ m) && z.all isDigN && (decide (z.length = 1) || decide (z[0]? ≠ some 48))
theorem numT_tl (n : Nat) : (numT (n : Int)).cps.toList = TL.numL n := TL.tl_num n
theorem num3 : ∀ n, n < 128 → isNumL (TL.numL n) 3 = true ∧ (TL.numL n).length ≤ 3 ∧ TL.numL n ≠ [45] := by decide +kernel
theorem num2 : ∀ n, n < 17 → isNumL (TL.numL n) 2 = true ∧ (TL.numL n).length ≤ 2 := by decide +kernel
def headT : Option Int → Str
  | none => "-"
  | some p => numT p
def wordOf (n : Note) : Str := headT n.1 ++ "/" ++ numT n.2
def textOf (ns : List Note) : Str := Txt.join " " (ns.map wordOf)
theorem numT_free {i : Int} (h0 : 0 ≤ i) (h1 : i < 128) {c : Nat} (hc : c ∈ (numT i).cps.toList) : 48 ≤ c ∧ c ≤ 57 := by
  obtain ⟨n, rfl⟩ := Int.eq_ofNat_of_zero_le h0
  rw [numT_tl] at hc
  have h := (num3 n (by omega)).1
  unfold isNumL at h
  simp only [Bool.and_eq_true, List.all_eq_true] at h
  have h2 := h.1.2 c hc
  unfold isDigN at h2
  exact of_decide_eq_true h2
theorem headT_free {o : Option Int} (h : ∀ p, o = some p → 0 ≤ p ∧ p ≤ 127) {c : Nat} (hc : c ∈ (headT o).cps.toList) : c = 45 ∨ (48 ≤ c ∧ c ≤ 57) := by
  cases o with
  | none =>
    left
    have e : (headT none).cps.toList = [45] := by decide
    rw [e] at hc
    exact List.mem_singleton.1 hc
  | some p => right; exact numT_free (h p rfl).1 (by have := (h p rfl).2; omega) hc
theorem ok_p {n : Note} (h : okNote n = true) : ∀ p, n.1 = some p → 0 ≤ p ∧ p ≤ 127 := fun p e => by
  unfold okNote at h
  rw [e] at h
  simp only [Bool.and_eq_true, decide_eq_true_eq] at h
  exact h.1
theorem word_join (n : Note) : wordOf n = Txt.join "/" [headT n.1, numT n.2] := by
  rw [TL.join_eq]
  unfold wordOf
  refine TL.ext_tl ?_
  rw [TL.tl_join, TL.tl_append, TL.tl_append]
  simp [TL.joinL]
theorem word_split {n : Note} (h : okNote n = true) : Txt.split (wordOf n) "/" = [headT n.1, numT n.2] := by
  rw [word_join]
  refine TL.split_join (s := 47) (S := []) rfl (by decide +kernel) (by simp) fun p hp hc => ?_
  have hb := okNote_le h
  simp only [List.mem_cons, List.not_mem_nil, or_false] at hp
  rcases hp with rfl | rfl
  · rcases headT_free (ok_p h) hc with h1 | h1 <;> omega
  · have := numT_free (by omega) (by omega) hc
    omega
theorem word_free {n : Note} (h : okNote n = true) : 32 ∉ (wordOf n).cps.toList := fun hc => by
  have hb := okNote_le h
  have e : (wordOf n).cps.toList = (headT n.1).cps.toList ++ [47] ++ (numT n.2).cps.toList := by
    show TL.tl (wordOf n) = _
    unfold wordOf
    rw [TL.tl_append, TL.tl_append]
    rfl
  rw [e] at hc
  simp only [List.mem_append, List.mem_singleton] at hc
  rcases hc with (hc | hc) | hc
  · rcases headT_free (ok_p h) hc with h1 | h1 <;> omega
  · omega
  · have := numT_free (by omega) (by omega) hc
    omega
theorem text_split {ns : List Note} (h : ∀ n ∈ ns, okNote n = true) (hne : ns ≠ []) : Txt.split (textOf ns) " " = ns.map wordOf :=
  TL.split_join (s := 32) (S := []) rfl (by decide +kernel) (by simpa using hne) fun p hp => by
    obtain ⟨n, hn, rfl⟩ := List.mem_map.1 hp
    exact word_free (h n hn)
theorem numT_len {i : Int} (h0 : 0 ≤ i) (h1 : i < 128) : (numT i).length ≤ 3 := by
  obtain ⟨n, rfl⟩ := Int.eq_ofNat_of_zero_le h0
  show (numT (n : Int)).cps.toList.length ≤ 3
  rw [numT_tl]
  exact (num3 n (by omega)).2.1
theorem numT_int {i : Int} (h0 : 0 ≤ i) (h1 : i < 128) : PySem.intText? (numT i) = some i := PySem.W.KIN.num_reads h0 (by omega)
theorem headT_len {o : Option Int} (h : ∀ p, o = some p → 0 ≤ p ∧ p ≤ 127) : (headT o).length ≤ 3 := by
  cases o with
  | none => decide
  | some p => exact numT_len (h p rfl).1 (by have := (h p rfl).2; omega)
theorem len_app (x y : Str) : (x ++ y).length = x.length + y.length := by
  show (TL.tl (x ++ y)).length = _
  rw [TL.tl_append, List.length_append]
  rfl
theorem word_len {n : Note} (h : okNote n = true) : (wordOf n).length ≤ 7 := by
  have hb := okNote_le h
  have h1 := headT_len (ok_p h)
  have h2 := numT_len (i := n.2) (by omega) (by omega)
  unfold wordOf
  rw [len_app, len_app]
  have : ("/" : Str).length = 1 := by decide
  omega
theorem words_sum {ns : List Note} (h : ∀ n ∈ ns, okNote n = true) : ((ns.map wordOf).map (·.length)).sum ≤ 7 * ns.length := by
  induction ns with
  | nil => simp
  | cons n r ih =>
    have h2 := word_len (h n List.mem_cons_self)
    have h3 := ih fun m hm => h m (List.mem_cons_of_mem _ hm)
    simp only [List.map_cons, List.sum_cons, List.length_cons]
    omega
theorem text_len {ns : List Note} (h : ∀ n ∈ ns, okNote n = true) : (textOf ns).length ≤ 8 * ns.length := by
  have h1 : ((ns.map wordOf).map (·.length)).sum ≤ 7 * ns.length := by
    induction ns with
    | nil => simp
    | cons n r ih =>
      have h2 := word_len (h n List.mem_cons_self)
      have h3 := ih fun m hm => h m (List.mem_cons_of_mem _ hm)
      simp only [List.map_cons, List.sum_cons, List.length_cons]
      omega
  have h2 := StrLaws.join_length_le " " (ns.map wordOf)
  rw [← TL.join_eq] at h2
  have h3 : (" " : Str).length = 1 := by decide
  rw [h3, List.length_map] at h2
  show (Txt.join " " (ns.map wordOf)).length ≤ _
  omega
theorem log_small {i : Int} (h0 : 0 ≤ i) (h1 : i < 1900) : i.natAbs.log2 < 1920 := by
  have := Nat.log2_le_self i.natAbs
  omega
/-- d is a list with these items: frozen, or a cell of ours -/
inductive Lst : D → Own → List D → Prop
  | fz {xs : List D} {O : Own} : Lst (.lst xs) O xs
  | own {a : Addr} {xs : List D} {O : Own} : At a (.lst xs) O → Lst (.ref a) O xs
section
variable {X : Cx} {δ : DEnv} {O : Own} {E : XD → Own → Prop} {Q : D → Own → Prop} {d e : D} {xs : List D} {i : Int}
theorem dc_lenL (m : Lst d O xs) (q : Q (.int xs.length) O) : DC X (.builtin "len") [d] δ O E Q := by
  cases m with
  | fz => exact dc_len_lst q
  | own m => exact dc_len_own m q
theorem dx_L (m : Lst d O xs) (h : atI xs i = some e) (q : Q e O) : DX X d (.int i) δ O E Q := by
  cases m with
  | fz => exact dx_lst h q
  | own m => exact dx_own m h q
theorem dc_isiL {T : String} {b : Bool} (m : Lst d O xs) (hk : kitB "list" T = some b) (q : Q (.bl b) O) : DC X (.builtin "isinstance") [d, .ty T] δ O E Q := by
  cases m with
  | fz => exact dc_isi (by simp [tyD]) hk q
  | own m => exact dc_isi_own m hk q
theorem dc_sumL {ns : List Int} (hc : X.calm = true) (m : Lst d O (ns.map D.int)) (q : Q (.int ns.sum) O) : DC X (.builtin "sum") [d] δ O E Q := by
  generalize e : ns.map D.int = xs at m
  cases m with
  | fz => rw [← e]; exact dc_sum hc q
  | own m => rw [← e] at m; exact dc_sum_own hc m q
theorem de_sliceA {a : Expr} {lo hi : Option Expr} {p2 pos : Pos} (h : DE X a δ O E fun x O1 => DPo X lo δ O1 E fun l O2 => DPo X hi δ O2 E fun u O3 => ∃ b xs, x = .ref b ∧ At b (.lst xs) O3 ∧ NewL (cutD xs l u) O3 Q) : DE X (.Subscript a (.Slice lo hi none p2) pos) δ O E Q := de_sliceO h
end
theorem Lst.cons {d : D} {O : Own} {xs : List D} (h : Lst d O xs) {p : Addr × Cell} : Lst d (p :: O) xs := by
  cases h with
  | fz => exact .fz
  | own m => exact .own (.tail m)
theorem cut_take {xs : List D} {n : Nat} (h : n ≤ xs.length) : cutD xs none (some (n : Int)) = xs.take n := by
  unfold cutD
  rw [HT.sIx_none, HT.sIx_nat, Nat.min_eq_left h, List.drop_zero, Nat.sub_zero]
end DL

end

section
set_option maxRecDepth 100000
set_option maxHeartbeats 4000000
set_option autoImplicit false
namespace DL
open PySem PySem.Spec PyProof.Rows L2
mutual
/-- d, read with the cells O, is the plain data p -/
inductive View (O : Own) : D → D → Prop
  | non : View O .non .non
  | bl (b : Bool) : View O (.bl b) (.bl b)
  | int (i : Int) : View O (.int i) (.int i)
  | str (x : Str) : View O (.str x) (.str x)
  | tup {ds ps : List D} : ViewL O ds ps → View O (.tup ds) (.tup ps)
  | lst {ds ps : List D} : ViewL O ds ps → View O (.lst ds) (.lst ps)
  | own {a : Addr} {ds ps : List D} : At a (.lst ds) O → ViewL O ds ps → View O (.ref a) (.lst ps)
inductive ViewL (O : Own) : List D → List D → Prop
  | nil : ViewL O [] []
  | cons {d p : D} {ds ps : List D} : View O d p → ViewL O ds ps → ViewL O (d :: ds) (p :: ps)
end
mutual
theorem rep_vw {K : PySem.W.Frag} {G H : Hp} {O : Own} (s : Sta K G O H) : ∀ {d p : D} {v : V}, View O d p → Rep K G d v → Dp K H v (toP p)
  | _, _, _, .non, r => by cases r; exact .non
  | _, _, _, .bl b, r => by cases r; exact .bl b
  | _, _, _, .int i, r => by cases r; exact .int i
  | _, _, _, .str x, r => by cases r; exact .str x
  | _, _, _, .tup h, r => by
    cases r with
    | tup hq rl => exact .tup (s.sub.seqT hq) (rep_vws s h rl)
  | _, _, _, .lst h, r => by
    cases r with
    | lst hq rl => exact .lst (.inl (.inl (s.sub _ _ hq))) (rep_vws s h rl)
  | _, _, _, .own m h, r => by
    cases r
    obtain ⟨_, o, ho, rc⟩ := s.at_ m
    cases o with
    | lst ws => exact .lst (.inl (.inl ho)) (rep_vws s h rc)
    | _ => exact rc.elim
theorem rep_vws {K : PySem.W.Frag} {G H : Hp} {O : Own} (s : Sta K G O H) : ∀ {ds ps : List D} {vs : List V}, ViewL O ds ps → RepL K G ds vs → DpAll K H vs (toPs ps)
  | _, _, _, .nil, r => by cases r; exact .nil
  | _, _, _, .cons h1 h2, r => by
    cases r with
    | cons r1 r2 => exact .cons (rep_vw s h1 r1) (rep_vws s h2 r2)
end
mutual
theorem view_plain {O : Own} : ∀ (d : D), plainD d = true → View O d d
  | .non, _ => .non
  | .bl b, _ => .bl b
  | .int i, _ => .int i
  | .str x, _ => .str x
  | .tup ds, h => .tup (view_plains ds h)
  | .lst ds, h => .lst (view_plains ds h)
  | .fz _, h => nomatch h
  | .ty _, h => nomatch h
  | .ref _, h => nomatch h
  | .ins _ _, h => nomatch h
theorem view_plains {O : Own} : ∀ (ds : List D), plainDs ds = true → ViewL O ds ds
  | [], _ => .nil
  | d :: ds, h => by
    have h' : plainD d = true ∧ plainDs ds = true := by simpa [plainDs] using h
    exact .cons (view_plain d h'.1) (view_plains ds h'.2)
end
section
variable {X : Cx} {δ : DEnv} {O : Own} {E : XD → Own → Prop} {Q : D → Own → Prop}
theorem db_eqV {k : Nat} {d e x y : D} (hr : Room k X.A) (vx : View O d x) (vy : View O e y) (hx : okD x) (hy : okD y) (q : Q (.bl (PyData.eqv (toP x) (toP y))) O) : DB X (compareOp .Eq) d e δ O E Q := db_of (op_eqD hr.units) fun v u W tk G σ H Q' p r s hE hQ =>
  ⟨toP x, toP y, rep_vw s vx p.1, rep_vw s vy p.2, hx.2, hy.2, hQ _ _ _ _ _ (Step.refl s) (.bl _) q⟩
theorem db_neV {k : Nat} {d e x y : D} (hr : Room k X.A) (vx : View O d x) (vy : View O e y) (hx : okD x) (hy : okD y) (q : Q (.bl (!PyData.eqv (toP x) (toP y))) O) : DB X (compareOp .NotEq) d e δ O E Q := db_of (op_neD hr.units) fun v u W tk G σ H Q' p r s hE hQ =>
  ⟨toP x, toP y, rep_vw s vx p.1, rep_vw s vy p.2, hx.2, hy.2, hQ _ _ _ _ _ (Step.refl s) (.bl _) q⟩
end
section
variable {X : Cx} {δ : DEnv} {O : Own} {E : XD → Own → Prop} {Q : D → Own → Prop} {d p : D}
theorem ViewL.length {O : Own} : ∀ {ds ps : List D}, ViewL O ds ps → ds.length = ps.length
  | _, _, .nil => rfl
  | _, _, .cons _ h => by rw [List.length_cons, List.length_cons, h.length]
theorem ViewL.get {O : Own} : ∀ {ds ps : List D} {i : Nat} {p : D}, ViewL O ds ps → ps[i]? = some p → ∃ d, ds[i]? = some d ∧ View O d p
  | _, _, _, _, .nil, h => by simp at h
  | _, _, 0, _, .cons h1 _, h => by simp at h; subst h; exact ⟨_, rfl, h1⟩
  | _, _, i + 1, _, .cons _ h2, h => by simp at h; obtain ⟨d, e, v⟩ := h2.get h; exact ⟨d, by simpa using e, v⟩
theorem dc_isiV {T : String} {b : Bool} (v : View O d p) (hk : kitB (tyD p) T = some b) (q : Q (.bl b) O) : DC X (.builtin "isinstance") [d, .ty T] δ O E Q := by
  cases v with
  | own m h => exact dc_isi_own m hk q
  | _ => exact dc_isi (by simp [tyD]) hk q
/-- the items of a sequence -/
def itemsD : D → List D
  | .tup ds => ds
  | .lst ds => ds
  | _ => []
theorem dc_lenV (v : View O d p) (hp : isTupD p = true ∨ isLstD p = true) (q : Q (.int (itemsD p).length) O) : DC X (.builtin "len") [d] δ O E Q := by
  cases v with
  | tup h => exact dc_len_tup (by rw [h.length]; exact q)
  | lst h => exact dc_len_lst (by rw [h.length]; exact q)
  | own m h => exact dc_len_own m (by rw [h.length]; exact q)
  | _ => rcases hp with h | h <;> cases h
theorem dx_V {i : Nat} {x : D} (v : View O d p) (hx : (itemsD p)[i]? = some x) (q : ∀ e, View O e x → Q e O) : DX X d (.int (i : Int)) δ O E Q := by
  cases v with
  | tup h => obtain ⟨e, he, ve⟩ := h.get hx; exact dx_tup (atI_nat he) (q e ve)
  | lst h => obtain ⟨e, he, ve⟩ := h.get hx; exact dx_lst (atI_nat he) (q e ve)
  | own m h => obtain ⟨e, he, ve⟩ := h.get hx; exact dx_own m (atI_nat he) (q e ve)
  | _ => simp [itemsD] at hx
end
end DL

end

section
set_option maxRecDepth 100000
set_option maxHeartbeats 4000000
set_option autoImplicit false
/-! The data layer: a law's end. -/
namespace DL
open PySem PySem.Spec PyProof.Rows L2
def spLawD : DSp := fun ds O E Q => ∃ ns : List Int, ds = [.fz (ns.map D.int)] ∧ ns.length ≤ 63 ∧ O = [] ∧ ∀ O', Q (.bl true) O'
theorem spLaw_at {K : PySem.W.Frag} {H : Hp} {a : Addr} {ns : List Int} (hl : ns.length ≤ 63) (hS : SqL K H a (ns.map V.int)) : lift K spLawD [.ref a] H (fun v _ => v = .bl true) (fun _ _ _ => False) :=
  ⟨H, [.fz (ns.map D.int)], [], fun _ _ => False, fun d _ => d = .bl true, .cons (.fz hS (repL_map (fun _ => .int _) _)) .nil, ⟨Ex.refl _, List.nodup_nil, fun _ _ m => nomatch m⟩, fun _ _ _ _ _ _ _ _ z => z, fun _ _ _ d v _ r e => by subst e; cases r; rfl, ns, rfl, hl, rfl, fun _ => rfl⟩
theorem fnok_of {P : Program} {w : World} {K : PySem.W.Frag} {mg : Str → Option Value} {base : Heap} {x qual : Str} {st : Stmt} {f : Addr} {fd : FuncData} {N ps : List Str} {k : Nat} {sp : DSp} (F : Fun K x qual st f fd) (S : FnS N ps (defScope st)) (len : ∀ ds O E Q, sp ds O E Q → ds.length = ps.length) (h : BodyOk P w K mg base k N st sp) : FnOk P w K mg base (L2.CX P w) (k + 1) f fd ps (lift K sp) :=
  F.okX S.toFnScope (fun vs H Q E ⟨G, ds, O, E', Q', rl, _, _, _, hs⟩ => by rw [rl.length]; exact len _ _ _ _ hs) fun cdv A outer s H vs Q E hr hsp => body_run S h cdv A outer s H vs Q E hr hsp
theorem len_law : ∀ ds O E Q, spLawD ds O E Q → ds.length = 1 := fun ds O E Q ⟨_, e, _⟩ => by rw [e]; rfl
theorem walkD {l : PySem.W.OpenLaw} {q : Program} {loose : List Str} {XP : (Str → Option Value) → Heap → Prop} {YP : World → Heap → Prop} {d : DefRec} {K : Params → PySem.W.Frag} (hn : l.most = some 63) (hdf : d.params.defaults = [])
    (hY : ∀ (w : World) (h : Heap), YP w h → (K w.params).In h)
    (F : ∀ (w : World) (mg : Str → Option Value) (fa : Addr) (h : Heap), (K w.params).In h → h.Ns mainGlobals mg → mg d.name = some (.ref fa) →
      ∃ fd : FuncData, (∀ (s : Shared) (u : Value), BindsTo s fd ⟨[u], []⟩ [("_law_script", u)]) ∧ ∀ base : Heap, (K w.params).In base → base.Ns mainGlobals mg → FnOk l.prog w (K w.params) mg base (L2.CX l.prog w) 30 fa fd ["_law_script"] (lift (K w.params) spLawD)) :
    PySem.W.WalkO q loose XP YP l.row.toRowW d [] (fun f vs => PySem.call f vs) :=
  L2.walk_of (n := 63) (k := 30) (x := "_law_script") (CX := fun w => L2.CX l.prog w) (sp := fun w => lift (K w.params) spLawD) hn (by decide) hdf ⟨rfl, by decide, by decide⟩ hY F (fun _ _ a ns hl _ hS => spLaw_at hl hS) fun _ _ _ _ _ ⟨_, _, _, _, _, _, _, _, _, _, _, _, z⟩ => z
end DL

end

section
set_option maxRecDepth 100000
set_option maxHeartbeats 4000000
set_option autoImplicit false
/-! The data layer: cells are forgotten. -/
namespace DL
open PySem PySem.Spec PyProof.Rows L2
section
variable {K : PySem.W.Frag} {G G' H H' : Hp} {O O' O2 : Own}
theorem keys_sub (h : O2.Sublist O) {a : Addr} (m : a ∈ O2.map (·.1)) : a ∈ O.map (·.1) := (h.map _).subset m
theorem Sta.sub' (s : Sta K G O H) (h : O2.Sublist O) : Sta K G O2 H := ⟨s.sub, s.nd.sublist (h.map _), fun a c m => s.own a c (h.subset m)⟩
theorem Step.more (s : Step K G O2 H G' O' H') (h : O2.Sublist O) : Step K G O H G' O' H' :=
  ⟨s.g, s.sta, fun a o e n => s.fr a o e fun m => n (keys_sub h m), fun a e n => (s.gn a e n).imp id fun m => keys_sub h m, fun a m => (s.on a m).imp (fun m => keys_sub h m) id⟩
theorem Step.less (s : Step K G O H G' O' H') (h : O2.Sublist O') : Step K G O H G' O2 H' :=
  ⟨s.g, s.sta.sub' h, s.fr, s.gn, fun a m => s.on a (keys_sub h m)⟩
end
def LessD (P : DEnv → Own → Prop) (δ : DEnv) (O : Own) : Prop := ∃ O2, O2.Sublist O ∧ P δ O2
section
variable {X : Cx} {N : List Str} {sc : Scope} {δ : DEnv} {O O2 : Own} {B : Bk} {nx : DEnv → Own → Prop} {pos : Pos}
theorem Lk.drop {W : WX} {G H : Hp} {D : Ends} (l : Lk X W G O H B nx D) (h : O2.Sublist O) : Lk X W G O2 H B nx D :=
  ⟨fun _ _ _ _ _ s => l.nx _ _ _ _ _ (s.more h), fun _ _ _ _ _ s => l.rt _ _ _ _ _ (s.more h), fun _ _ _ _ _ s => l.bk _ _ _ _ _ (s.more h), fun _ _ _ _ _ s => l.ct _ _ _ _ _ (s.more h), fun _ _ _ _ _ _ _ _ s => l.ex _ _ _ _ _ _ _ _ (s.more h)⟩
theorem DSs.drop {sts : List Stmt} (h : O2.Sublist O) (q : DSs X sts δ O2 B nx) : DSs X sts δ O B nx := fun W tk G σ H D r s l => q W tk G σ H D r (s.sub' h) (l.drop h)
theorem DS.drop {st : Stmt} (h : O2.Sublist O) (q : DS X st δ O2 B nx) : DS X st δ O B nx := fun W tk G σ H D r s l => q W tk G σ H D r (s.sub' h) (l.drop h)
theorem DS.less {st : Stmt} (q : DS X st δ O B (LessD nx)) : DS X st δ O B nx := fun W tk G σ H D r s l => q W tk G σ H D r s ⟨fun G' H' O' δ' σ' st r' ⟨O2, h, n⟩ => l.nx _ _ _ _ _ (st.less h) r' n, l.rt, l.bk, l.ct, l.ex⟩
theorem DSs.less {sts : List Stmt} (q : DSs X sts δ O B (LessD nx)) : DSs X sts δ O B nx := fun W tk G σ H D r s l => q W tk G σ H D r s ⟨fun G' H' O' δ' σ' st r' ⟨O2, h, n⟩ => l.nx _ _ _ _ _ (st.less h) r' n, l.rt, l.bk, l.ct, l.ex⟩
theorem M.drop {α β : Type} {P : Hp → Prop} {R : Hp → α → β → Prop} {t : TR β} {E : XD → Own → Prop} {Q : α → Own → Prop} (h : O2.Sublist O) (q : M X P R t δ O2 E Q) : M X P R t δ O E Q :=
  fun W tk G σ H Q' p r s hE hQ => q W tk G σ H Q' p r (s.sub' h) (fun _ _ _ _ _ _ st => hE _ _ _ _ _ _ (st.more h)) fun _ _ _ _ _ st => hQ _ _ _ _ _ (st.more h)
theorem M.less {α β : Type} {P : Hp → Prop} {R : Hp → α → β → Prop} {t : TR β} {E : XD → Own → Prop} {Q : α → Own → Prop} (q : M X P R t δ O E fun d O' => ∃ O2, O2.Sublist O' ∧ Q d O2) : M X P R t δ O E Q :=
  fun W tk G σ H Q' p r s hE hQ => q W tk G σ H Q' p r s hE fun _ _ _ _ _ st rr ⟨O2, h, z⟩ => hQ _ _ _ _ _ (st.less h) rr z
theorem DG.drop {tg : Expr} {d : D} {E : XD → DEnv → Own → Prop} {k : DEnv → Own → Prop} (h : O2.Sublist O) (q : DG X tg d δ O2 E k) : DG X tg d δ O E k := fun W tk v G σ H Q rd r s hE hk =>
  q W tk v G σ H Q rd r (s.sub' h) (fun _ _ _ _ _ _ _ _ st => hE _ _ _ _ _ _ _ _ (st.more h)) fun _ _ _ _ _ st => hk _ _ _ _ _ (st.more h)
/-- for, whose turns may leave cells that nobody wants -/
theorem ds_forL {tg iter : Expr} {body : List Stmt} (S : Sc X N sc) (po : PassesOwn (model X.prog X.w) X.A X.env X.xe)
    (h : DI X tg iter δ O (fun x O' => B.ex x δ O') fun ds O1 => ∃ P : Nat → DEnv → Own → Prop, P 0 δ O1 ∧
      (∀ i d δ' O', ds[i]? = some d → P i δ' O' → DG X tg d δ' O' B.ex fun δ2 O2 => DSs X body δ2 O2 { B with bk := LessD nx, ct := LessD (P (i + 1)) } (LessD (P (i + 1)))) ∧ ∀ δ' O', P ds.length δ' O' → nx δ' O')
    (hs : ∀ x, foldedSetIterable iter X.env x = pure x := by intro _; with_unfolding_all rfl) : DS X (.For tg iter body [] pos) δ O B nx := by
  refine DS.less (ds_for S po (M.imp h fun ds O1 ⟨P, h0, hs, hd⟩ => ⟨fun i => LessD (P i), ⟨_, .refl _, h0⟩, fun i d δ' O' hd ⟨O2, hO, p⟩ => DG.drop hO (hs i d δ' O2 hd p), fun δ' O' ⟨O2, hO, p⟩ => ⟨O2, hO, hd _ _ p⟩⟩) hs)
theorem lessd {P : DEnv → Own → Prop} (h : P δ O) : LessD P δ O := ⟨O, .refl _, h⟩
end
/-! ### another view of a cell -/
section
variable {P : Program} {w : World} {K : PySem.W.Frag} {mg : Str → Option Value} {base : Heap} {G G' H H' : Hp} {O O' O2 : Own} {r f : Addr} {c c' : Cell} {k : Nat}
theorem At.put (h : At r c O) : ∀ c', ∃ O', Put r c' O O' := fun c' => by
  induction h with
  | head => exact ⟨_, .head⟩
  | tail _ ih => obtain ⟨O', p⟩ := ih; exact ⟨_, .tail p⟩
def setC (r : Addr) (c : Cell) (O : Own) : Own := O.map fun p => if p.1 = r then (r, c) else p
theorem setC_keys : (setC r c O).map (·.1) = O.map (·.1) := by
  unfold setC
  rw [List.map_map]
  refine List.map_congr_left fun p _ => ?_
  show (if p.1 = r then (r, c) else p).1 = p.1
  by_cases h : p.1 = r
  · rw [if_pos h, h]
  · rw [if_neg h]
theorem setC_at (h : At r c' O) : At r c (setC r c O) := by
  induction h with
  | head => unfold setC; rw [List.map_cons, if_pos rfl]; exact .head
  | @tail p O _ ih =>
    unfold setC
    rw [List.map_cons]
    exact .tail ih
theorem setC_put (p : Put r c' O O') : setC r c O' = setC r c O := by
  induction p with
  | head => unfold setC; rw [List.map_cons, List.map_cons, if_pos rfl, if_pos rfl]
  | @tail q O O' _ ih =>
    unfold setC at ih ⊢
    rw [List.map_cons, List.map_cons, ih]
theorem setC_set : setC r c (setC r c' O) = setC r c O := by
  unfold setC
  rw [List.map_map]
  refine List.map_congr_left fun p _ => ?_
  show (if (if p.1 = r then (r, c') else p).1 = r then (r, c) else (if p.1 = r then (r, c') else p)) = if p.1 = r then (r, c) else p
  by_cases h : p.1 = r
  · rw [if_pos h, if_pos rfl, if_pos h]
  · simp only [if_neg h]
theorem setC_id (h : At r c O) (nd : (O.map (·.1)).Nodup) : setC r c O = O := by
  unfold setC
  conv => rhs; rw [← List.map_id O]
  refine List.map_congr_left fun p hp => ?_
  by_cases e : p.1 = r
  · rw [if_pos e]
    have m : (r, p.2) ∈ O := by rw [← e]; exact hp
    have := nodup_key nd h.mem m
    rw [this, ← e]
    rfl
  · rw [if_neg e]; rfl
theorem Sta.recell (s : Sta K G O H) (h : ∀ o, H r = some o → RepC K G c o) : Sta K G (setC r c O) H := by
  refine ⟨s.sub, by rw [setC_keys]; exact s.nd, fun a d m => ?_⟩
  obtain ⟨p, hp, e⟩ := List.mem_map.1 m
  by_cases q : p.1 = r
  · rw [if_pos q] at e
    cases e
    obtain ⟨h1, o, h2, _⟩ := s.own p.1 p.2 hp
    rw [q] at h1 h2
    exact ⟨h1, o, h2, h o h2⟩
  · rw [if_neg q] at e
    rw [e] at hp
    exact s.own a d hp
theorem Step.recell (s : Step K G O2 H G' O' H') (e : O2.map (·.1) = O.map (·.1)) {O'' : Own} (sta : Sta K G' O'' H') (e2 : O''.map (·.1) = O'.map (·.1)) : Step K G O H G' O'' H' :=
  ⟨s.g, sta, fun a o h n => s.fr a o h (by rw [e]; exact n), fun a h n => by rw [← e]; exact s.gn a h n, fun a m => by rw [← e]; exact s.on a (by rw [← e2]; exact m)⟩
/-- a def's promise, seen over other cells -/
theorem DFn.view {sp sp' : DSp} (F : DFn P w K mg base k f sp) (h : ∀ ds O E Q, sp' ds O E Q → ∀ G H, Sta K G O H → ∃ O2 E2 Q2, Sta K G O2 H ∧ O2.map (·.1) = O.map (·.1) ∧ sp ds O2 E2 Q2 ∧
    (∀ x G' H' O', Sta K G' O' H' → E2 x O' → ∃ O'', Sta K G' O'' H' ∧ O''.map (·.1) = O'.map (·.1) ∧ E x O'') ∧ ∀ d G' H' O', Sta K G' O' H' → Q2 d O' → ∃ O'', Sta K G' O'' H' ∧ O''.map (·.1) = O'.map (·.1) ∧ Q d O'') : DFn P w K mg base k f sp' :=
  FnR.imp F fun vs H Q E ⟨G, ds, O, E', Q', rl, sta, hE, hQ, hs⟩ => by
    obtain ⟨O2, E2, Q2, s2, ek, hs2, tE, tQ⟩ := h ds O E' Q' hs G H sta
    refine ⟨G, ds, O2, E2, Q2, rl, s2, fun G' H' O' x c dd st xr e => ?_, fun G' H' O' d v st rd q => ?_, hs2⟩
    · obtain ⟨O'', s3, e3, q3⟩ := tE x G' H' O' st.sta e
      exact hE G' H' O'' x c dd (st.recell ek s3 e3) xr q3
    · obtain ⟨O'', s3, e3, q3⟩ := tQ d G' H' O' st.sta q
      exact hQ G' H' O'' d v (st.recell ek s3 e3) rd q3
end
/-! ### what is walked: any sequence -/
inductive Seq : D → List D → Prop
  | lst {ds : List D} : Seq (.lst ds) ds
  | fz {ds : List D} : Seq (.fz ds) ds
  | tup {ds : List D} : Seq (.tup ds) ds
theorem seq_lst {ds : List D} {C : List D → Prop} (h : C ds) : ∃ xs, Seq (.lst ds) xs ∧ C xs := ⟨_, .lst, h⟩
theorem seq_fz {ds : List D} {C : List D → Prop} (h : C ds) : ∃ xs, Seq (.fz ds) xs ∧ C xs := ⟨_, .fz, h⟩
theorem seq_tup {ds : List D} {C : List D → Prop} (h : C ds) : ∃ xs, Seq (.tup ds) xs ∧ C xs := ⟨_, .tup, h⟩
theorem seq_rep {K : PySem.W.Frag} {G : Hp} {d : D} {ds : List D} {v : V} (q : Seq d ds) (r : Rep K G d v) : ∃ a vs, v = .ref a ∧ (SqL K G a vs ∨ SqT K G a vs) ∧ RepL K G ds vs := by
  cases q with
  | lst => cases r with | lst h rl => exact ⟨_, _, rfl, .inl (.inl (.inl h)), rl⟩
  | fz => cases r with | fz h rl => exact ⟨_, _, rfl, .inl h, rl⟩
  | tup => cases r with | tup h rl => exact ⟨_, _, rfl, .inr h, rl⟩
section
variable {X : Cx} {N : List Str} {sc : Scope} {δ : DEnv} {O : Own} {E : XD → Own → Prop} {Q : D → Own → Prop} {pos p : Pos}
def iAny (K : PySem.W.Frag) (tl : TE) : TI := fun σ H R => tl σ H fun x H1 => ∃ a, x = .ref a ∧ (((∃ xs, SqL K H1 a xs) ∧ R (Itl K a) H1) ∨ ((∃ xs, SqT K H1 a xs) ∧ R (Itt K a) H1))
theorem pi_any {tg l : Expr} {tl : TE} (hl : PE X l tl) : PI X tg l (iAny X.K tl) := by
  refine ⟨fun pins s σ H R I h => ?_⟩
  refine thn (hl.run pins s σ H _ I h) fun v s1 ⟨x, H1, I1, r1, q1⟩ => ?_
  obtain ⟨a, e, q⟩ := q1
  subst e
  cases r1
  rcases q with ⟨⟨xs, hq⟩, q⟩ | ⟨⟨xs, hq⟩, q⟩
  · obtain ⟨its, rv, p, hz⟩ := I1.list hq
    refine wpAny_pyIter_list p.isList ?_
    refine ⟨s1.heap.objs.size, [s1.heap.objs.size], _, _, H1, rfl, I1.kept (t' := s1.toks) fun b o e => Heap.get?_push_of_some _ e, turn_list a _, ⟨_, Heap.get?_push_size _ rfl, rfl, rfl⟩, fun b hb => ?_, q⟩
    have e : b = s1.heap.objs.size := by simpa using hb
    subst e
    exact I1.fpOk (Nat.le_refl _) (I1.hok.fresh (Nat.le_refl _))
  · obtain ⟨its, rv, p, hz⟩ := I1.tuple hq
    refine wpAny_pyIter_tuple (show s1.heap.IsTuple a its.toArray from p) ?_
    refine ⟨s1.heap.objs.size, [s1.heap.objs.size], _, _, H1, rfl, I1.kept (t' := s1.toks) fun b o e => Heap.get?_push_of_some _ e, turn_tuple a _, ⟨_, Heap.get?_push_size _ rfl, rfl, rfl⟩, fun b hb => ?_, q⟩
    have e : b = s1.heap.objs.size := by simpa using hb
    subst e
    exact I1.fpOk (Nat.le_refl _) (I1.hok.fresh (Nat.le_refl _))
theorem di_seq {tg l : Expr} {QI : List D → Own → Prop} (h : DE X l δ O E fun d O1 => ∃ ds, Seq d ds ∧ QI ds O1) : DI X tg l δ O E QI :=
  di_of (pi_any pe_sem) fun W tk G σ H Q' p r s hE hQ => h W tk G σ H _ p r s hE fun G' H' O' d v st rd ⟨ds, sq, q⟩ => by
    obtain ⟨a, vs, e, hq, rl⟩ := seq_rep sq rd
    refine ⟨a, e, ?_⟩
    rcases hq with hq | hq
    · exact .inl ⟨⟨vs, st.sta.sub.seqL hq⟩, hQ _ _ _ _ _ st (jrep_list hq rl) q⟩
    · exact .inr ⟨⟨vs, st.sta.sub.seqT hq⟩, hQ _ _ _ _ _ st (jrep_tup hq rl) q⟩
def iEnumA (K : PySem.W.Frag) (ta : TA) : TI := fun σ H R => ta σ H fun vs H1 => ∃ a, vs = [.ref a] ∧ ((∃ xs, SqL K H1 a xs ∧ R (Ite K a) H1) ∨ ∃ xs, SqT K H1 a xs ∧ R (IteT K a) H1)
theorem pi_enumA {e : Expr} {ta : TA} {tpos : Pos} {elts : List Expr} {kk : Nat} (hg : Gl X "enumerate") (hm : X.mg "enumerate" = none) (ha : PA X [e] ta) (hs : starEach [e] X.env = [(false, eval e X.env)] := by with_unfolding_all rfl) :
    PI X (.Tuple elts kk tpos) (.Call (.Name "enumerate" p) [e] [] pos) (iEnumA X.K ta) := by
  refine ⟨fun pins s σ H R I h => ?_⟩
  refine Call_ (ld_blt I hg hm boot_enumerate (PyProof.Rows.callWith_type1 (thn (ha.run pos pins s σ H _ I h) fun us s1 ⟨vs, H1, I1, r1, q1⟩ => ?_) hs rfl))
  obtain ⟨a, ex, q⟩ := q1
  subst ex
  cases r1 with
  | cons r rr =>
    cases rr
    cases r
    have fin : ∀ b, b ∈ [s1.heap.objs.size + 1, s1.heap.objs.size] → FpOk X pins H1 b := fun b hb => by
      have e' : b = s1.heap.objs.size + 1 ∨ b = s1.heap.objs.size := by simpa using hb
      have hle : s1.heap.objs.size ≤ b := by
        rcases e' with z | z
        · rw [z]; exact Nat.le_add_right _ _
        · rw [z]; exact Nat.le_refl _
      exact I1.fpOk hle (I1.hok.fresh hle)
    rcases q with ⟨xs, hq, q⟩ | ⟨xs, hq, q⟩
    · obtain ⟨its, rv, p', hz⟩ := I1.list hq
      refine call_enumerate_list p'.isList fun h' he hit hsz hk => wpAny_pyIter_enum he ?_
      have I2 : Inv X pins σ H1 { s1 with heap := h' } := I1.kept (t' := s1.toks) hk
      exact ⟨s1.heap.objs.size + 1, [s1.heap.objs.size + 1, s1.heap.objs.size], _, _, H1, rfl, I2, turn_enum a (s1.heap.objs.size + 1) s1.heap.objs.size, ⟨⟨.none, he⟩, hit, Nat.succ_ne_self _⟩, fin, q⟩
    · obtain ⟨its, rv, p', hz⟩ := I1.tuple hq
      refine call_enumerate_tuple (show s1.heap.IsTuple a its.toArray from p') fun h' he hit hsz hk => wpAny_pyIter_enum he ?_
      have I2 : Inv X pins σ H1 { s1 with heap := h' } := I1.kept (t' := s1.toks) hk
      exact ⟨s1.heap.objs.size + 1, [s1.heap.objs.size + 1, s1.heap.objs.size], _, _, H1, rfl, I2, turn_enumT a (s1.heap.objs.size + 1) s1.heap.objs.size, ⟨⟨.none, he⟩, hit, Nat.succ_ne_self _⟩, fin, q⟩
theorem di_enumS {e : Expr} {elts : List Expr} {kk : Nat} {tpos : Pos} {QI : List D → Own → Prop} (S : Sc X N sc) (hm : X.mg "enumerate" = none) (h : DA X [e] δ O E fun ds O1 => ∃ d xs, ds = [d] ∧ Seq d xs ∧ QI (enumD xs) O1) (hg : Nk ("enumerate" : Str) .globalImplicit sc.names := by (repeat (with_reducible constructor))) (hs : starEach [e] X.env = [(false, eval e X.env)] := by with_unfolding_all rfl) :
    DI X (.Tuple elts kk tpos) (.Call (.Name "enumerate" p) [e] [] pos) δ O E QI :=
  di_of (pi_enumA (S.gl hg) hm pa_sem hs) fun W tk G σ H Q' p r s hE hQ => h W tk G σ H _ p r s hE fun G' H' O' ds vs st rl ⟨d, xs, e, sq, q⟩ => by
    subst e
    cases rl with
    | cons r1 rr =>
      cases rr
      obtain ⟨a, ws, e, hq, rl⟩ := seq_rep sq r1
      subst e
      refine ⟨a, rfl, ?_⟩
      rcases hq with hq | hq
      · exact .inl ⟨ws, st.sta.sub.seqL hq, hQ _ _ _ _ _ st (jrep_enum hq rl) q⟩
      · exact .inr ⟨ws, st.sta.sub.seqT hq, hQ _ _ _ _ _ st (jrep_enumT hq rl) q⟩
theorem seq1_lst {ds : List D} {C : List D → Prop} (h : C ds) : ∃ d xs, [D.lst ds] = [d] ∧ Seq d xs ∧ C xs := ⟨_, _, rfl, .lst, h⟩
theorem seq1_fz {ds : List D} {C : List D → Prop} (h : C ds) : ∃ d xs, [D.fz ds] = [d] ∧ Seq d xs ∧ C xs := ⟨_, _, rfl, .fz, h⟩
theorem seq1_tup {ds : List D} {C : List D → Prop} (h : C ds) : ∃ d xs, [D.tup ds] = [d] ∧ Seq d xs ∧ C xs := ⟨_, _, rfl, .tup, h⟩
theorem as_DI {tg l : Expr} {QI : List D → Own → Prop} (h : DI X tg l δ O E QI) : DI X tg l δ O E QI := h
end
end DL

end

section
set_option maxRecDepth 100000
set_option maxHeartbeats 4000000
set_option autoImplicit false
/-! The data layer: words for the walks. -/
namespace DL
open PySem PySem.Spec PyProof.Rows L2
/-- a new list that will be changed: it is to be owned -/
def OwnT (p : Prop) : Prop := p
section
variable {X : Cx} {N : List Str} {sc scope : Scope} {δ : DEnv} {O : Own} {E : XD → Own → Prop} {Q : D → Own → Prop} {QT : Bool → Own → Prop} {pos p : Pos} {B : Bk} {nx : DEnv → Own → Prop} {ds : List D}
theorem as_NL (h : NewL ds O Q) : NewL ds O Q := h
theorem nl_ownT {Q' : D → Own → Prop} (h : ∀ f, Q' (.ref f) ((f, .lst ds) :: O)) : NewL ds O fun d O1 => OwnT (Q' d O1) := .inr h
theorem nl_fzc {d : D} (h : Q (.lst (d :: ds)) O) : NewL (d :: ds) O Q := .inl h
theorem own_out {p : Prop} (h : p) : OwnT p := h
theorem ds_setO {x : Str} {i : Nat} {e : Expr} {pos' : Pos} (S : Sc X N sc) (hi : Ix x N i) (h : DE X e δ O (fun x O' => B.ex x δ O') fun d O1 => OwnT (∃ δ', SetD d δ i δ' ∧ nx δ' O1)) (hl : Nk x .local sc.names := by (repeat (with_reducible constructor))) (hs : swapsWith e (some (.Name x pos')) pos.line X.env = pure false := by with_unfolding_all rfl) : DS X (.Assign [.Name x pos'] e pos) δ O B nx := ds_set S hi h hl hs
theorem ds_setCO {x : Str} {i : Nat} {e : Expr} {pos' : Pos} (S : Sc X N sc) (Df : Df X) (hi : Ix x N i) (h : DE X e δ O (fun x O' => B.ex x δ O') fun d O1 => OwnT (∃ δ', SetD d δ i δ' ∧ nx δ' O1)) (hl : Nk x .cell sc.names) (hs : swapsWith e (some (.Name x pos')) pos.line X.env = pure false := by with_unfolding_all rfl) : DS X (.Assign [.Name x pos'] e pos) δ O B nx := ds_setC S Df.fn hi h hl hs
theorem ds_setCD {x : Str} {i : Nat} {e : Expr} {pos' : Pos} (S : Sc X N sc) (Df : Df X) (hi : Ix x N i) (h : DE X e δ O (fun x O' => B.ex x δ O') fun d O1 => ∃ δ', SetD d δ i δ' ∧ nx δ' O1) (hl : Nk x .cell sc.names) (hs : swapsWith e (some (.Name x pos')) pos.line X.env = pure false := by with_unfolding_all rfl) : DS X (.Assign [.Name x pos'] e pos) δ O B nx := ds_setC S Df.fn hi h hl hs
theorem dg_cellD {x : Str} {i : Nat} {d : D} {δ' : DEnv} {E : XD → DEnv → Own → Prop} {k : DEnv → Own → Prop} (S : Sc X N sc) (Df : Df X) (hi : Ix x N i) (hs : SetD d δ i δ') (q : k δ' O) (hl : Nk x .cell sc.names) : DG X (.Name x pos) d δ O E k := dg_cell S Df.fn hi hs q hl
theorem ds_setLcXc {x : Str} {i : Nat} {py : Pos} {elt tg iter : Expr} {ifs : List Expr} {lpos : Pos} (own : List (Str × Nat)) (sc' : Scope) (S : Sc X N sc) (hi : Ix x N i)
    (h : DI X tg iter δ O (fun x O' => B.ex x δ O') fun ds O1 => ∃ δw, Wp δ (own.map (·.2)) δw ∧ ∃ (α : Type) (xs : List α) (enc : α → D) (g : α → List D), ds = xs.map enc ∧ xs.length ≤ 100000 ∧ LcX X N sc' elt tg ifs (own.map (·.2)) δw O1 xs enc g ∧ NewL (xs.flatMap g) O1 fun d O2 => ∃ δ', SetD d δ i δ' ∧ nx δ' O2)
    (ok : blkC N sc scope own = true := by decide +kernel) (hrel : relS scope sc = sc' := by with_unfolding_all rfl) (hnm : nmOk sc' = true := by decide +kernel)
    (hk : sc.kind = .function := by with_unfolding_all rfl) (hl : Nk x .local sc.names := by (repeat (with_reducible constructor))) (hln : (py.line == lpos.line) = true := by with_unfolding_all rfl) (ha : (scope.names.any fun (n, k) => n == x && (k == .local || k == .cell)) = false := by decide +kernel) (hs : ∀ x, foldedSetIterable iter X.env x = pure x := by intro _; with_unfolding_all rfl) :
    DS X (.Assign [.Name x py] (.ListComp elt [⟨tg, iter, ifs, 0⟩] scope lpos) pos) δ O B nx := by
  refine ds_setLc own S hi (blkOk_by ok) ?_ hk hl hln ha hs
  refine M.imp h fun ds O1 ⟨δw, hw, α, xs, enc, g, e, hl, hb, n⟩ => ?_
  subst e
  refine ⟨δw, hw, _, ⟨rfl, Nat.le_refl _, rfl⟩, lcX_body S hrel hnm hl hb, ?_⟩
  rintro acc O' ⟨rfl, _, rfl⟩
  rw [List.length_map, List.take_length]
  exact n
theorem ds_setLcXO {x : Str} {i : Nat} {py : Pos} {elt tg iter : Expr} {ifs : List Expr} {lpos : Pos} (own : List (Str × Nat)) (sc' : Scope) (S : Sc X N sc) (hi : Ix x N i)
    (h : DI X tg iter δ O (fun x O' => B.ex x δ O') fun ds O1 => ∃ δw, Wp δ (own.map (·.2)) δw ∧ ∃ (α : Type) (xs : List α) (enc : α → D) (g : α → List D), ds = xs.map enc ∧ xs.length ≤ 100000 ∧ LcX X N sc' elt tg ifs (own.map (·.2)) δw O1 xs enc g ∧ NewL (xs.flatMap g) O1 fun d O2 => OwnT (∃ δ', SetD d δ i δ' ∧ nx δ' O2))
    (ok : blkC N sc scope own = true := by decide +kernel) (hrel : relS scope sc = sc' := by with_unfolding_all rfl) (hnm : nmOk sc' = true := by decide +kernel)
    (hk : sc.kind = .function := by with_unfolding_all rfl) (hl : Nk x .local sc.names := by (repeat (with_reducible constructor))) (hln : (py.line == lpos.line) = true := by with_unfolding_all rfl) (ha : (scope.names.any fun (n, k) => n == x && (k == .local || k == .cell)) = false := by decide +kernel) (hs : ∀ x, foldedSetIterable iter X.env x = pure x := by intro _; with_unfolding_all rfl) :
    DS X (.Assign [.Name x py] (.ListComp elt [⟨tg, iter, ifs, 0⟩] scope lpos) pos) δ O B nx := ds_setLcXc own sc' S hi h ok hrel hnm hk hl hln ha hs
/-- the ways of a test -/
theorem br_d {p : Prop} {i : Decidable p} {A C : Prop} (h1 : p → A) (h2 : ¬ p → C) : (@decide p i = true → A) ∧ (@decide p i = false → C) := ⟨fun e => h1 (of_decide_eq_true e), fun e => h2 (of_decide_eq_false e)⟩
theorem br_nd {p : Prop} {i : Decidable p} {A C : Prop} (h1 : ¬ p → A) (h2 : p → C) : ((!@decide p i) = true → A) ∧ ((!@decide p i) = false → C) :=
  ⟨fun e => h1 (of_decide_eq_false (by rw [Bool.not_eq_true'] at e; exact e)), fun e => h2 (of_decide_eq_true (by rw [Bool.not_eq_false'] at e; exact e))⟩
theorem rb_d {p : Prop} {i : Decidable p} {A C : Prop} (h1 : ¬ p → C) (h2 : p → A) : (@decide p i = false → C) ∧ (@decide p i = true → A) := ⟨fun e => h1 (of_decide_eq_false e), fun e => h2 (of_decide_eq_true e)⟩
theorem rb_nd {p : Prop} {i : Decidable p} {A C : Prop} (h1 : p → C) (h2 : ¬ p → A) : ((!@decide p i) = false → C) ∧ ((!@decide p i) = true → A) :=
  ⟨fun e => h1 (of_decide_eq_true (by rw [Bool.not_eq_false'] at e; exact e)), fun e => h2 (of_decide_eq_false (by rw [Bool.not_eq_true'] at e; exact e))⟩
/-- a method of an instance -/
theorem mt_in {K : PySem.W.Frag} {C g : Addr} {fs : List (Str × D)} {m : Str} {R : Addr → Prop} (c : Cls K C) (h : Meth K C m g) (l : fs.lookup m = none) (q : R g) : ∃ C' fs' g', IsIns (.ins C fs) O C' fs' ∧ Cls K C' ∧ Meth K C' m g' ∧ fs'.lookup m = none ∧ R g' := ⟨C, fs, g, .fz, c, h, l, q⟩
theorem mt_own {K : PySem.W.Frag} {a C g : Addr} {fs : List (Str × D)} {m : Str} {R : Addr → Prop} (at_ : At a (.ins C fs) O) (c : Cls K C) (h : Meth K C m g) (l : fs.lookup m = none) (q : R g) : ∃ C' fs' g', IsIns (.ref a) O C' fs' ∧ Cls K C' ∧ Meth K C' m g' ∧ fs'.lookup m = none ∧ R g' := ⟨C, fs, g, .own at_, c, h, l, q⟩
/-- a property of an instance -/
theorem pr_in {K : PySem.W.Frag} {P : Program} {w : World} {mg : Str → Option Value} {base : Heap} {A : Around} {C pr g : Addr} {fs : List (Str × D)} {nm : Str} {k : Nat} {sp : DSp} {R : DSp → Prop} (c : Cls K C) (h : PropOf K C nm pr g) (F : DFn P w K mg base k g sp) (hr : Room (k + 1) A) (q : R sp) :
    ∃ C' fs' pr' g' k' sp', IsIns (.ins C fs) O C' fs' ∧ Cls K C' ∧ PropOf K C' nm pr' g' ∧ DFn P w K mg base k' g' sp' ∧ Room (k' + 1) A ∧ R sp' := ⟨C, fs, pr, g, k, sp, .fz, c, h, F, hr, q⟩
theorem pr_own {K : PySem.W.Frag} {P : Program} {w : World} {mg : Str → Option Value} {base : Heap} {A : Around} {a C pr g : Addr} {fs : List (Str × D)} {nm : Str} {k : Nat} {sp : DSp} {R : DSp → Prop} (at_ : At a (.ins C fs) O) (c : Cls K C) (h : PropOf K C nm pr g) (F : DFn P w K mg base k g sp) (hr : Room (k + 1) A) (q : R sp) :
    ∃ C' fs' pr' g' k' sp', IsIns (.ref a) O C' fs' ∧ Cls K C' ∧ PropOf K C' nm pr' g' ∧ DFn P w K mg base k' g' sp' ∧ Room (k' + 1) A ∧ R sp' := ⟨C, fs, pr, g, k, sp, .own at_, c, h, F, hr, q⟩
theorem de_propS {e : Expr} {nm : Str} (h : DE X e δ O E fun d O1 => ∃ C fs pr g k sp, IsIns d O1 C fs ∧ Cls X.K C ∧ PropOf X.K C nm pr g ∧ DFn X.prog X.w X.K X.mg X.base k g sp ∧ Room (k + 1) X.A ∧ sp [d] O1 noE Q) (hb : attributeBase e nm X.env (eval e X.env) = eval e X.env := by with_unfolding_all rfl) : DE X (.Attribute e nm pos) δ O E Q := de_prop h hb
/-- what a comprehension's block knows -/
theorem lc_typed {α : Type} {xs : List α} {enc : α → D} {g : α → List D} {C : (α : Type) → List α → (α → D) → (α → List D) → Prop} {len : Prop} (hl : xs.length ≤ 100000) (h : C α xs enc g) : ∃ (α' : Type) (xs' : List α') (enc' : α' → D) (g' : α' → List D), xs.map enc = xs'.map enc' ∧ xs'.length ≤ 100000 ∧ C α' xs' enc' g' := ⟨α, xs, enc, g, rfl, hl, h⟩
theorem as_blk {X : Cx} {N : List Str} {sc' : Scope} {C : Cx → Prop} (h : ∀ X', Blk X X' N sc' → C X') : ∀ X', Blk X X' N sc' → C X' := h
theorem rng1_in {j : Int} {C : Int → Prop} (h1 : -(2 ^ 62) ≤ j) (h2 : j < 2 ^ 62) (q : C j) : ∃ j', [D.int j] = [.int j'] ∧ -(2 ^ 62) ≤ j' ∧ j' < 2 ^ 62 ∧ C j' := ⟨j, rfl, h1, h2, q⟩
theorem rng2_in {i j : Int} {C : Int → Int → Prop} (h1 : -(2 ^ 62) ≤ i) (h2 : i < 2 ^ 62) (h3 : -(2 ^ 62) ≤ j) (h4 : j < 2 ^ 62) (q : C i j) : ∃ i' j', [D.int i, D.int j] = [.int i', .int j'] ∧ (-(2 ^ 62) ≤ i' ∧ i' < 2 ^ 62 ∧ -(2 ^ 62) ≤ j' ∧ j' < 2 ^ 62) ∧ C i' j' := ⟨i, j, rfl, ⟨h1, h2, h3, h4⟩, q⟩
theorem app_in {a : Addr} {xs : List D} {y : D} {O' : Own} {C : Own → Prop} (h1 : At a (.lst xs) O) (h2 : xs.length < 100000) (h3 : Put a (.lst (xs ++ [y])) O O') (q : C O') : ∃ xs, At a (.lst xs) O ∧ ∃ O3, xs.length < 100000 ∧ Put a (.lst (xs ++ [y])) O O3 ∧ C O3 := ⟨xs, h1, O', h2, h3, q⟩
end
end DL

end

section
set_option maxRecDepth 100000
set_option maxHeartbeats 4000000
set_option autoImplicit false
/-! The data layer: a class's own operators. -/
namespace PySem.W
open PySem PySem.Calls PyProof.Rows Builtin
section
variable {prog : Program} {w : World} {A : Around} {E : Value → Shared → Prop} {s : Shared} {K : Frag} {x C L f : Addr} {h₀ : Heap} {m : Str → Option Value} {ox : Obj} {od : Option Obj}
/-- an operator of one's own, another type on the right -/
theorem bop1_KI {nm : String} {b : Value} {tb : String} {rb : Bool} {o : Option Value} {Q : Option Value → Shared → Prop} (F : Fr h₀ L s.heap m) (X₀ : K.In h₀) (I : InstAt s.heap x ox C od) (hb : Looks (model prog w) s.heap (typeOf b) (.type tb)) (hc : selfFirst K C = true)
    (hs : findIn K (.ref C) (PySem.dunder nm) = some (some (.ref f))) (hf : isFn K (.ref f) = true) (hrr : findIn K (.ref C) (dunderR nm) = some none)
    (hfill : fillsNumberSlot (.type tb) nm = pure rb) (hsub : subIn K (.type tb) (.ref C) = some false) (hnum : numberSlotInPython (.type tb) nm = pure false) (htl : typeLookup (.type tb) (dunderR nm) = pure o)
    (h : wpAny (model prog w) A (call (.ref f) [.ref x, b]) (CmpBack fun v => Q (some v)) E s) : wpAny (model prog w) A (binaryOp1 nm (.ref x) b) Q E s := by
  have X := X₀.keeps F.keep
  obtain ⟨cd, hcd, hm⟩ := any_some hc
  obtain ⟨rest, hm⟩ : ∃ rest, cd.mro = .ref C :: rest := by
    cases q : cd.mro with
    | nil => rw [q] at hm; cases hm
    | cons a r => rw [q] at hm; exact ⟨r, by rw [List.head?_cons] at hm; cases (beq_iff_eq.mp hm); rfl⟩
  have hne : (Value.ref C == Value.type tb) = false := rfl
  have hnp : Looks (model prog w) s.heap (numberSlotInPython (.ref C) nm) true := by
    intro A Q E s k q
    unfold numberSlotInPython
    refine wpAny_bind (looks_findIn X hs A _ E s k ?_)
    refine wpAny_bind (wpAny_pure ?_)
    refine wpAny_bind (looks_findIn X hrr A _ E s k ?_)
    refine wpAny_bind (wpAny_pure ?_)
    exact wpAny_pure q
  have step : ∀ {k : Option Value → Sem (Option Value)}, (∀ v s', Q (some v) s' → wpAny (model prog w) A (k (some v)) Q E s') →
      wpAny (model prog w) A (tryMethod (.ref x) (PySem.dunder nm) b >>= k) Q E s := fun {k} hk => by
    refine wpAny_bind ?_
    unfold tryMethod
    refine wpAny_bind (special_fn X I hs (beq_iff_eq.mp hf) (wpAny_mono h (fun v s' hv => ?_) fun _ _ e => e))
    cases v <;> first | exact hv.elim | exact wpAny_pure (hk _ _ hv)
  unfold binaryOp1
  refine wpAny_bind (I.type.here (wpAny_bind (hb.here (wpAny_bind ((fills_K X hcd hm hs).here ?_)))))
  rw [hne]
  simp only [Bool.false_eq_true, if_false]
  refine wpAny_bind (wpAny_of_eq hfill ?_)
  cases rb with
  | false =>
    simp only [Bool.and_false, Bool.false_eq_true, if_false, Bool.false_and]
    refine wpAny_bind (wpAny_pure ?_)
    simp only [Bool.false_eq_true, if_false]
    exact step fun v s' q => wpAny_pure q
  | true =>
    simp only [Bool.and_true, if_true]
    refine wpAny_bind ((looks_subIn X hsub).here ?_)
    simp only [Bool.false_eq_true, if_false, Bool.not_false, Bool.and_self, if_true]
    refine wpAny_bind (hnp.here ?_)
    simp only [if_true]
    refine wpAny_bind (wpAny_of_eq hnum ?_)
    simp only [Bool.not_false, if_true]
    refine wpAny_bind (wpAny_of_eq htl ?_)
    exact step fun v s' q => wpAny_pure q
theorem binop_KI {op : Operator} {b : Value} {tb : String} {rb : Bool} {o : Option Value} {Q : Value → Shared → Prop} (F : Fr h₀ L s.heap m) (X₀ : K.In h₀) (I : InstAt s.heap x ox C od) (hb : Looks (model prog w) s.heap (typeOf b) (.type tb)) (hc : selfFirst K C = true)
    (hs : findIn K (.ref C) (PySem.dunder op.info.2) = some (some (.ref f))) (hf : isFn K (.ref f) = true) (hrr : findIn K (.ref C) (dunderR op.info.2) = some none)
    (hfill : fillsNumberSlot (.type tb) op.info.2 = pure rb) (hsub : subIn K (.type tb) (.ref C) = some false) (hnum : numberSlotInPython (.type tb) op.info.2 = pure false) (htl : typeLookup (.type tb) (dunderR op.info.2) = pure o)
    (h : wpAny (model prog w) A (call (.ref f) [.ref x, b]) (CmpBack Q) E s) : wpAny (model prog w) A (binaryOp op (.ref x) b) Q E s := by
  unfold binaryOp
  refine wpAny_holding (wpAny_bind (wpAny_mono (Q := fun r s' => ∃ v, r = some v ∧ Q v s') (E := E) ?_ ?_ fun _ _ e => e))
  · refine bop1_KI F X₀ I hb hc hs hf hrr hfill hsub hnum htl (wpAny_mono h (fun v s' hv => ?_) fun _ _ e => e)
    cases v <;> first | exact hv.elim | exact ⟨_, rfl, hv⟩
  · rintro r s' ⟨v, rfl, q⟩
    exact wpAny_pure q
theorem unop_K {op : UnaryOp} {nm : Str} {Q : Value → Shared → Prop} (F : Fr h₀ L s.heap m) (X₀ : K.In h₀) (I : InstAt s.heap x ox C od) (hop : (op = .USub ∧ nm = "__neg__") ∨ (op = .Invert ∧ nm = "__invert__"))
    (hs : findIn K (.ref C) nm = some (some (.ref f))) (hf : isFn K (.ref f) = true) (h : wpAny (model prog w) A (call (.ref f) [.ref x]) Q E s) : wpAny (model prog w) A (unaryOp op (.ref x)) Q E s := by
  have X := X₀.keeps F.keep
  unfold unaryOp
  refine wpAny_holding ?_
  rcases hop with ⟨rfl, rfl⟩ | ⟨rfl, rfl⟩
  · exact wpAny_bind (special_fn X I hs (beq_iff_eq.mp hf) (wpAny_mono h (fun _ _ z => wpAny_pure z) fun _ _ z => z))
  · exact wpAny_bind (special_fn X I hs (beq_iff_eq.mp hf) (wpAny_mono h (fun _ _ z => wpAny_pure z) fun _ _ z => z))
end
end PySem.W

namespace DL
open PySem
theorem fs_int_rshift : fillsNumberSlot (.type "int") "rshift" = pure true := by unfold fillsNumberSlot; simp only [typeLookup_type, builtinLookup_eq_fast]; kernel_rfl
theorem fs_int_mul : fillsNumberSlot (.type "int") "mul" = pure true := by unfold fillsNumberSlot; simp only [typeLookup_type, builtinLookup_eq_fast]; kernel_rfl
theorem ns_type (T nm : String) : numberSlotInPython (.type T) nm = pure false := rfl
theorem tl_int_rshift : ∃ o, typeLookup (.type "int") (dunderR "rshift") = pure o := ⟨some (.builtin "int.__rrshift__"), by rw [typeLookup_type, builtinLookup_eq_fast]; kernel_rfl⟩
theorem tl_int_mul : ∃ o, typeLookup (.type "int") (dunderR "mul") = pure o := ⟨some (.builtin "int.__rmul__"), by rw [typeLookup_type, builtinLookup_eq_fast]; kernel_rfl⟩
open PySem PySem.Spec PyProof.Rows L2
section
variable {X : Cx} {N : List Str} {sc : Scope} {δ : DEnv} {O : Own} {E : XD → Own → Prop} {Q : D → Own → Prop} {QT : Bool → Own → Prop} {pos p apos : Pos} {d y : D} {C f : Addr} {fs : List (Str × D)} {k : Nat} {sp : DSp}
theorem looks_ty {G H : Hp} {pins : List (Addr × Obj)} {σ : L2.St} {s : Shared} {v : V} {u : Value} (I : Inv X pins σ H s) (rd : Rep X.K G y v) (e : Ex G H) (ru : RelV v u) (h : tyD y ≠ "") : PySem.W.Looks (model X.prog X.w) s.heap (typeOf u) (.type (tyD y)) := by
  obtain ⟨P, kx, hp, _⟩ := kit_of I ru (tyD_x rd e h)
  exact kx.ty _ _ I.kIn hp
/-- a def of ours, run within a builtin -/
theorem run_fnD1 {k : Nat} {a : Addr} {sp : DSp} (F : DFn X.prog X.w X.K X.mg X.base k a sp) (hr : Room (k + 1) X.A) {ds : List D} (h : sp ds O E Q) {vs : List V} {W : WX} (tk : Takes X W) {G H : Hp} {σ : L2.St} {Q' : VK} (rl : RepL X.K G ds vs) (s : Sta X.K G O H)
    (hE : ∀ G' H' O' x c dd, Step X.K G O H G' O' H' → XRep X.K G' x c dd → E x O' → W c dd σ H') (hQ : ∀ G' H' O' d v, Step X.K G O H G' O' H' → Rep X.K G' d v → Q d O' → Q' v H') {pins : List (Addr × Obj)} {s' : Shared} {us : List Value} (I : Inv X pins σ H s') (rv : Vals vs us) :
    codeAny (model X.prog X.w) X.A.in1 (.call (.ref a) ⟨us, []⟩) (fun r s' => match r with | .ok (.ret v) => EP X pins σ Q' v s' | .ok _ => False | .error e => X.xe e s') s' := by
  refine codeAny_mono (F X.A.in1 X.stack s' H us vs Q' (fun c dd H' => W c dd σ H') hr.in1 I.env0.in1 rv ⟨G, ds, O, E, Q, rl, s, hE, hQ, h⟩) fun r s2 hq => ?_
  cases r with
  | error e => exact tk e s2 (XE.of_call I (fun _ _ _ z => z) hq)
  | ok fl =>
    cases fl with
    | ret u => exact I.after hq
    | next => exact False.elim hq
    | brk => exact False.elim hq
    | cont => exact False.elim hq
/-- an operator of the class, another type on the right -/
structure OpI (K : PySem.W.Frag) (C : Addr) (nm : String) (f : Addr) : Prop where
  sf : PySem.W.selfFirst K C = true
  at_ : PySem.W.findIn K (.ref C) (PySem.dunder nm) = some (some (.ref f))
  fn : PySem.W.isFn K (.ref f) = true
  rr : PySem.W.findIn K (.ref C) (dunderR nm) = some none
theorem cmpb_of {Q' : VK} {pins : List (Addr × Obj)} {σ : L2.St} {v : Value} {s' : Shared} (h : EP X pins σ Q' v s') : PySem.W.CmpBack (EP X pins σ Q') v s' := by
  obtain ⟨x, H', I', r, q⟩ := h
  cases v <;> first | exact ⟨x, H', I', r, q⟩ | (cases x <;> first | (cases r; done) | (obtain ⟨t, z⟩ := r; cases z))
theorem db_ownI {op : Operator} {rb : Bool} (i : IsIns d O C fs) (hy : tyD y ≠ "") (T : OpI X.K C op.info.2 f) (F : DFn X.prog X.w X.K X.mg X.base k f sp) (hr : Room k X.A)
    (hfill : fillsNumberSlot (.type (tyD y)) op.info.2 = pure rb) (hsub : PySem.W.subIn X.K (.type (tyD y)) (.ref C) = some false) (hnum : numberSlotInPython (.type (tyD y)) op.info.2 = pure false) (htl : ∃ o, typeLookup (.type (tyD y)) (dunderR op.info.2) = pure o)
    (h : sp [d, y] O E Q) : DB X (binaryOp op) d y δ O E Q := by
  obtain ⟨o, htl⟩ := htl
  intro v u W tk G σ H Q' p r s hE hQ pins s' v' u' I rv ru
  obtain ⟨a, dx, vs, ev, ha, rf⟩ := i.get p.1 s
  subst ev
  obtain rfl : v' = Value.ref a := rv
  obtain ⟨mA, O2, _, _, _, _⟩ := ins_get I.hok ha
  obtain ⟨od, J, _⟩ := O2.look
  obtain ⟨m, fr⟩ := I.fr
  refine PySem.W.binop_KI fr I.ok.mod.kin J (looks_ty I p.2 s.sub ru hy) T.sf T.at_ T.fn T.rr hfill hsub hnum htl ?_
  exact wpAny_mono (wpAny_call (run_fnD F hr h tk (.cons p.1 (.cons p.2 .nil)) s hE hQ I (.cons rfl (.cons ru .nil)))) (fun _ _ z => cmpb_of z) fun _ _ z => z
/-- the same, another instance of the class on the right -/
theorem db_ownS {op : Operator} {gs : List (Str × D)} (i : IsIns d O C fs) (j : IsIns y O C gs) (sf : PySem.W.selfFirst X.K C = true) (hs : PySem.W.findIn X.K (.ref C) (PySem.dunder op.info.2) = some (some (.ref f))) (hf : PySem.W.isFn X.K (.ref f) = true)
    (F : DFn X.prog X.w X.K X.mg X.base k f sp) (hr : Room k X.A) (h : sp [d, y] O E Q) : DB X (binaryOp op) d y δ O E Q := by
  intro v u W tk G σ H Q' p r s hE hQ pins s' v' u' I rv ru
  obtain ⟨a, dx, vs, ev, ha, rf⟩ := i.get p.1 s
  obtain ⟨b, dy, ws, eu, hb, rg⟩ := j.get p.2 s
  subst ev eu
  obtain rfl : v' = Value.ref a := rv
  obtain rfl : u' = Value.ref b := ru
  obtain ⟨mA, O2, _, _, _, _⟩ := ins_get I.hok ha
  obtain ⟨od, J, _⟩ := O2.look
  obtain ⟨mB, O3, _, _, _, _⟩ := ins_get I.hok hb
  obtain ⟨od', J', _⟩ := O3.look
  obtain ⟨m, fr⟩ := I.fr
  refine PySem.W.binop_K fr I.ok.mod.kin J J'.type sf hs hf ?_
  exact wpAny_mono (wpAny_call (run_fnD F hr h tk (.cons p.1 (.cons p.2 .nil)) s hE hQ I (.cons rfl (.cons rfl .nil)))) (fun _ _ z => cmpb_of z) fun _ _ z => z
/-- -x, ~x -/
theorem de_unI {op : UnaryOp} {nm : Str} {e : Expr} (hop : (op = .USub ∧ nm = "__neg__") ∨ (op = .Invert ∧ nm = "__invert__"))
    (h : DE X e δ O E fun d O1 => ∃ C fs f k sp, IsIns d O1 C fs ∧ PySem.W.findIn X.K (.ref C) nm = some (some (.ref f)) ∧ PySem.W.isFn X.K (.ref f) = true ∧ DFn X.prog X.w X.K X.mg X.base k f sp ∧ Room k X.A ∧ sp [d] O1 E Q) : DE X (.UnaryOp op e pos) δ O E Q :=
  de_of (t := fun σ H K => sem X e σ H fun v H1 => ∀ (pins : List (Addr × Obj)) (s : Shared) (v' : Value), Inv X pins σ H1 s → RelV v v' → wpAny (model X.prog X.w) X.A (unaryOp op v') (EP X pins σ K) X.xe s)
    ⟨fun pins s σ H K I q => UnaryOp_ (thn (q pins s I) fun v s1 ⟨x, H1, I1, r1, q1⟩ => q1 pins s1 v I1 r1)⟩
    fun W tk G σ H Q' p r s hE hQ => h W tk G σ H _ p r s hE fun G1 H1 O1 d v st rd ⟨C, fs, f, k, sp, i, hs, hf, F, hr, q⟩ pins s' v' I rv => by
      obtain ⟨a, dx, vs, ev, ha, rf⟩ := i.get rd st.sta
      subst ev
      obtain rfl : v' = Value.ref a := rv
      obtain ⟨mA, O2, _, _, _, _⟩ := ins_get I.hok ha
      obtain ⟨od, J, _⟩ := O2.look
      obtain ⟨m, fr⟩ := I.fr
      refine PySem.W.unop_K fr I.ok.mod.kin J hop hs hf ?_
      exact wpAny_call (run_fnD F hr q tk (.cons rd .nil) st.sta (fun _ _ _ _ _ _ st2 => hE _ _ _ _ _ _ (st.trans st2)) (fun _ _ _ _ _ st2 => hQ _ _ _ _ _ (st.trans st2)) I (.cons rfl .nil))
/-- len(o), o's class has __len__ -/
theorem dc_lenI (i : IsIns d O C fs) (hs : PySem.W.findIn X.K (.ref C) "__len__" = some (some (.ref f))) (hf : PySem.W.isFn X.K (.ref f) = true) (F : DFn X.prog X.w X.K X.mg X.base k f sp) (hr : Room (k + 1) X.A)
    (h : sp [d] O E fun z O' => ∃ n : Int, z = .int n ∧ 0 ≤ n ∧ n < 2 ^ 63 ∧ Q (.int n) O') : DC X (.builtin "len") [d] δ O E Q := by
  intro vs W tk G σ H Q' p r s hE hQ pins s' us I rv
  cases p with
  | cons p1 pr =>
    cases pr
    obtain ⟨a, dx, ws, ev, ha, rf⟩ := i.get p1 s
    subst ev
    cases rv with
    | @cons _ u _ _ r1 rr =>
      cases rr
      obtain rfl : u = Value.ref a := r1
      obtain ⟨mA, O2, _, _, _, _⟩ := ins_get I.hok ha
      obtain ⟨od, J, _⟩ := O2.look
      obtain ⟨m, fr⟩ := I.fr
      refine PySem.W.len_K fr I.ok.mod.kin J hs hf ?_
      refine wpAny_mono (wpAny_call (run_fnD1 F hr h tk (.cons p1 .nil) s hE (Q' := fun v H' => ∃ n : Int, v = .int n ∧ 0 ≤ n ∧ n < 2 ^ 63 ∧ Q' (.int n) H') (fun G' H' O' d v st rd ⟨n, ed, h0, h1, q⟩ => ?_) I (.cons rfl .nil))) (fun z s2 ⟨x, H2, I2, rz, n, ex, h0, h1, q⟩ => ?_) fun _ _ z => z
      · subst ed
        cases rd
        exact ⟨n, rfl, h0, h1, hQ _ _ _ _ _ st (.int n) q⟩
      · subst ex
        obtain ⟨t, rfl⟩ := rz
        exact ⟨⟨h0, h1⟩, ⟨.int n, H2, I2.tok _, ⟨_, rfl⟩, q⟩⟩
end
end DL

end

section
set_option maxRecDepth 100000
set_option maxHeartbeats 4000000
set_option autoImplicit false
/-! The data layer: defaults, keywords. -/
namespace DL
open PySem PySem.Spec PyProof.Rows L2
/-- a def called with the keywords ks behind the positional values -/
def DFk (P : Program) (w : World) (K : PySem.W.Frag) (mg : Str → Option Value) (base : Heap) (k : Nat) (f : Addr) (ks : List Str) (sp : DSp) : Prop :=
  ∀ (A : Around) (outer : List Env) (s : Shared) (H : Hp) (us ws : List Value) (vs zs : List V) (Q : VK) (E : XK), Room k A → Env0 P w K mg base A outer s H → Vals vs us → Vals zs ws → zs.length = ks.length → lift K sp (vs ++ zs) H Q E →
    codeAny (model P w) A (.call (.ref f) ⟨us, ks.zip ws⟩) (CR (L2.CX P w) outer P w H s Q E) s
section
variable {P : Program} {w : World} {K : PySem.W.Frag} {mg : Str → Option Value} {base : Heap} {x qual : Str} {st : Stmt} {f : Addr} {N ps : List Str} {k n : Nat} {sp sp' : DSp} {pv kn : Str} {dV kV doc pm cdv ct oc : Value} {an od : Option Addr} {osl : Array (Option Value)}
theorem DFk.imp {ks : List Str} (F : DFk P w K mg base k f ks sp) (h : ∀ ds O E Q, sp' ds O E Q → sp ds O E Q) : DFk P w K mg base k f ks sp' := fun A outer s H us ws vs zs Q E hr e0 r1 r2 hl ⟨G, ds, O, E', Q', a, b, c, d, e⟩ => F A outer s H us ws vs zs Q E hr e0 r1 r2 hl ⟨G, ds, O, E', Q', a, b, c, d, h _ _ _ _ e⟩
theorem DFk.mono {ks : List Str} {j : Nat} (F : DFk P w K mg base k f ks sp) (h : k ≤ j) : DFk P w K mg base j f ks sp := fun A outer s H us ws vs zs Q E hr => F A outer s H us ws vs zs Q E (hr.mono h)
/-- a star parameter and one keyword-only parameter: the run, from how it binds -/
theorem starK_core {A : Around} {outer : List Env} {s : Shared} {H : Hp} {args : Args} {Q : VK} {E : XK} {ws rest : List V} {u2 us1 : List Value} (lk : K.lookup f = some ⟨oc, od, .func (PySem.W.fnOf x qual (defArgs st) (defBody st) (defScope st) dV kV doc pm an cdv ct), osl⟩) (hcd : PySem.W.codeIn K cdv qual = true)
    (S : FnS N (ps ++ [pv]) (defScope st)) (h : BodyOk P w K mg base k N st sp) (hr : Room (k + 1) A) (e0 : Env0 P w K mg base A outer s H) (r1 : Vals ws us1) (r2 : Vals rest u2) (hl : ws.length = ps.length) (hz : rest.length ≤ 100000)
    (hb : ∀ (M : Model) (A' : Around) (Ex : Value → Shared → Prop) (Q' : List (Str × Value) → Shared → Prop) (s' : Shared), K.In s'.heap → wpAny M A' (newTuple u2 >>= fun t => pure (ps.zip us1 ++ [(pv, t)])) Q' Ex s' → wpAny M A' (bindArgs (PySem.W.fnOf x qual (defArgs st) (defBody st) (defScope st) dV kV doc pm an cdv ct) args) Q' Ex s')
    (hq : ∀ p, H p = none → lift K sp (ws ++ [V.ref p]) (upd H p (.tup rest)) Q E) : codeAny (model P w) A (.call (.ref f) args) (CR (L2.CX P w) outer P w H s Q E) s := by
  have KX : K.In s.heap := e0.mod.kin.keeps fun b o e => (e0.bs b o e).1
  have hn : H s.heap.objs.size = none := e0.hok.fresh (Nat.le_refl _)
  have hl1 : us1.length = ps.length := by rw [← r1.length]; exact hl
  have hzs : rest.length ≤ sizeLine := Nat.le_trans hz (by decide)
  have hl2 : u2.length ≤ sizeLine := by rw [← r2.length]; exact hzs
  refine StX.run_bnd lk hcd S.toFnScope hr e0 (G := fun xs H2 => ∃ p, H p = none ∧ xs = ws ++ [V.ref p] ∧ H2 = upd H p (.tup rest)) (fun A' Ex Q' hk => ?_) fun s2 H2 xs ⟨p, hp, ex, eH⟩ hr' => ?_
  · refine hb _ _ _ _ _ KX ?_
    refine wpAny_bind (wpAny_newTuple (wpAny_pure ?_) hl2)
    have new : ObjOk P w (upd H s.heap.objs.size (.tup rest)) (s.heap.push ({ cls := .type "tuple", data := .seq u2.toArray } : Obj)) s.heap.objs.size (.tup rest) := ⟨hzs, u2, r2, ⟨_, Heap.get?_push_size _ rfl, rfl, _, rfl⟩⟩
    have un := StX.un_laid (fs := frs outer) (s := s) (o := ({ cls := .type "tuple", data := .seq u2.toArray } : Obj)) (u := .tup rest) hn
    have z := hk _ _ (ws ++ [V.ref s.heap.objs.size]) (us1 ++ [Value.ref s.heap.objs.size]) (StX.env0_laid e0 new) un rfl (fun e s' => StX.cxUp outer s H _ _ E e s' un (fun b o q => Heap.get?_push_of_some _ q) rfl) (r1.append (.cons rfl .nil))
      (by rw [List.length_append, List.length_append, hl] <;> rfl) ⟨_, hn, rfl, rfl⟩
    rw [List.zip_append hl1.symm] at z
    exact z
  · subst ex eH
    exact body_run S h cdv A outer s2 _ _ Q E hr' (hq p hp)
/-- def f(a, .., *r, k=..), called with k -/
def starKSp (n : Nat) (sp : DSp) : DSp := fun ds O E Q => ∃ ws rest c, ds = ws ++ rest ++ [c] ∧ ws.length = n ∧ rest.length ≤ 100000 ∧ sp (ws ++ [c] ++ [.tup rest]) O E Q
theorem lift_star {ws rest : List D} {c : D} {vs1 vs2 : List V} {cv : V} {G : Hp} {H : Hp} {O : Own} {E' : XD → Own → Prop} {Q' : D → Own → Prop} {Q : VK} {E : XK} (r1 : RepL K G ws vs1) (r2 : RepL K G rest vs2) (rc : Rep K G c cv) (sta : Sta K G O H)
    (hE : ∀ G' H' O' x c dd, Step K G O H G' O' H' → XRep K G' x c dd → E' x O' → E c dd H') (hQ : ∀ G' H' O' d v, Step K G O H G' O' H' → Rep K G' d v → Q' d O' → Q v H') (hs : sp (ws ++ [c] ++ [.tup rest]) O E' Q') (p : Addr) (hp : H p = none) :
    lift K sp (vs1 ++ [cv] ++ [V.ref p]) (upd H p (.tup vs2)) Q E := by
  have s1 := Step.new sta (o := .tup vs2) hp
  exact ⟨_, ws ++ [c] ++ [.tup rest], O, E', Q', ((r1.mono s1.g).append (.cons (rc.mono s1.g) .nil)).append (.cons (.tup (SqT.of upd_same) (r2.mono s1.g)) .nil), s1.sta, fun _ _ _ _ _ _ s2 => hE _ _ _ _ _ _ (s1.trans s2), fun _ _ _ _ _ s2 => hQ _ _ _ _ _ (s1.trans s2), hs⟩
theorem dfk_starK {ps0 : List Str} (lk : K.lookup f = some ⟨oc, od, .func (PySem.W.fnOf x qual (defArgs st) (defBody st) (defScope st) dV kV doc pm an cdv ct), osl⟩) (hcd : PySem.W.codeIn K cdv qual = true)
    (S : FnS N (ps0 ++ [kn] ++ [pv]) (defScope st)) (h : BodyOk P w K mg base k N st sp)
    (hb : ∀ (us rest : List Value) (z : Value), us.length = ps0.length → bindArgs (PySem.W.fnOf x qual (defArgs st) (defBody st) (defScope st) dV kV doc pm an cdv ct) ⟨us ++ rest, [(kn, z)]⟩ = (newTuple rest >>= fun t => pure ((ps0 ++ [kn]).zip (us ++ [z]) ++ [(pv, t)]))) :
    DFk P w K mg base (k + 1) f [kn] (starKSp ps0.length sp) := by
  intro A outer s H us ws vs zs Q E hr e0 r1 r2 hl hsp
  obtain ⟨G, ds, O, E', Q', rl, sta, hE, hQ, xs, rest, c, ed, hx, hz, hs⟩ := hsp
  subst ed
  obtain ⟨v12, v3, ev, q12, q3⟩ := rl.split
  obtain ⟨v1, v2, ev2, q1, q2⟩ := q12.split
  cases q3 with
  | @cons _ cv _ _ qc q4 =>
    cases q4
    subst ev2
    have e2 : vs = v1 ++ v2 ∧ zs = [cv] := by
      have := List.append_inj' ev (by simpa using hl)
      exact this
    obtain ⟨e2, e3⟩ := e2
    subst e2 e3
    obtain ⟨u1, u2, eu, a1, a2⟩ := StX.vals_split r1
    subst eu
    cases r2 with
    | @cons _ z _ _ rz rr =>
      cases rr
      refine starK_core (ps := ps0 ++ [kn]) lk hcd S h hr e0 (a1.append (.cons rz .nil)) a2 (by rw [List.length_append, List.length_append, q1.length, hx]; rfl) (by rw [q2.length]; exact hz) (fun M A' Ex Q2 s' _ hw => ?_) fun p hp => lift_star q1 q2 qc sta hE hQ hs p hp
      show wpAny M A' (bindArgs _ ⟨u1 ++ u2, [(kn, z)]⟩) Q2 Ex s'
      rw [hb u1 u2 z (by rw [← a1.length, q1.length]; exact hx)]
      exact hw
/-- .. called without k -/
theorem dfn_starK {ps0 : List Str} {D0 : Addr} {cw : Value} {cv : V} {cd : D} (lk : K.lookup f = some ⟨oc, od, .func (PySem.W.fnOf x qual (defArgs st) (defBody st) (defScope st) dV (.ref D0) doc pm an cdv ct), osl⟩) (hcd : PySem.W.codeIn K cdv qual = true)
    (S : FnS N (ps0 ++ [kn] ++ [pv]) (defScope st)) (h : BodyOk P w K mg base k N st sp) (hD : PySem.W.nsIn K D0 kn = some (some cw)) (rv : RelV cv cw) (rd : ∀ G, Rep K G cd cv)
    (hb : ∀ (us rest : List Value), us.length = ps0.length → ∃ (β γ : Type) (k1 : Option Value → Sem β) (k2 : β → Sem γ) (k3 : γ → Sem (List (Str × Value))) (c : β), bindArgs (PySem.W.fnOf x qual (defArgs st) (defBody st) (defScope st) dV (.ref D0) doc pm an cdv ct) ⟨us ++ rest, []⟩ = ((nsGet D0 kn >>= k1) >>= k2) >>= k3 ∧ k1 (some cw) = pure c ∧ (k2 c >>= k3) = (newTuple rest >>= fun t => pure ((ps0 ++ [kn]).zip (us ++ [cw]) ++ [(pv, t)]))) :
    DFn P w K mg base (k + 1) f (fun ds O E Q => ∃ ws rest, ds = ws ++ rest ∧ ws.length = ps0.length ∧ rest.length ≤ 100000 ∧ sp (ws ++ [cd] ++ [.tup rest]) O E Q) := by
  intro A outer s H us vs Q E hr e0 r1 hsp
  obtain ⟨G, ds, O, E', Q', rl, sta, hE, hQ, xs, rest, ed, hx, hz, hs⟩ := hsp
  subst ed
  obtain ⟨v1, v2, ev, q1, q2⟩ := rl.split
  subst ev
  obtain ⟨u1, u2, eu, a1, a2⟩ := StX.vals_split r1
  subst eu
  refine starK_core (ps := ps0 ++ [kn]) lk hcd S h hr e0 (a1.append (.cons rv .nil)) a2 (by rw [List.length_append, List.length_append, q1.length, hx]; rfl) (by rw [q2.length]; exact hz) (fun M A' Ex Q2 s' KX hw => ?_) fun p hp => lift_star q1 q2 (rd G) sta hE hQ hs p hp
  obtain ⟨β, γ, k1, k2, k3, c, e1, e2, e3⟩ := hb u1 u2 (by rw [← a1.length, q1.length]; exact hx)
  rw [e1, bind_assoc]
  refine wpAny_bind (PySem.W.Looks.here ((PySem.W.looks_nsIn KX hD).andThen (PySem.W.Looks.of_pure e2)) ?_)
  rw [e3]
  exact hw
/-- positional defaults: of the def's dflt the ones behind the first j fill up -/
theorem dfn_dflt {T : Addr} {o : Obj} {its : List Value} {m : Nat} {dvs : List V} {dds : List D} (lk : K.lookup f = some ⟨oc, od, .func (PySem.W.fnOf x qual (defArgs st) (defBody st) (defScope st) (.ref T) kV doc pm an cdv ct), osl⟩) (hcd : PySem.W.codeIn K cdv qual = true)
    (S : FnS N ps (defScope st)) (h : BodyOk P w K mg base k N st sp) (lT : K.lookup T = some o) (oT : o.data = .seq its.toArray m) (rT : Vals dvs its) (rd : ∀ G, RepL K G dds dvs) (hn : n + dds.length = ps.length)
    (hb : ∀ us : List Value, us.length = n → ∃ k, bindArgs (PySem.W.fnOf x qual (defArgs st) (defBody st) (defScope st) (.ref T) kV doc pm an cdv ct) ⟨us, []⟩ = seqItems? (.ref T) >>= k ∧ k (some its.toArray) = pure (ps.zip (us ++ its))) :
    DFn P w K mg base (k + 1) f (fun ds O E Q => ds.length = n ∧ sp (ds ++ dds) O E Q) := by
  have F1 : FnOk P w K mg base (L2.CX P w) (k + 1) f _ ps (fun vs H Q E => vs.length = ps.length ∧ lift K sp vs H Q E) := fn_of lk hcd S.toFnScope (fun vs H Q E h => h.1) fun A outer s H vs Q E hr hsp => body_run S h cdv A outer s H vs Q E hr hsp.2
  have hB : Binds K (PySem.W.fnOf x qual (defArgs st) (defBody st) (defScope st) (.ref T) kV doc pm an cdv ct) ps its := fun s us X hlen => by
    have lits : its.length = dds.length := by rw [← rT.length, (rd fun _ => none).length]
    have l2 : us.length = n := by
      rw [List.length_append] at hlen
      omega
    obtain ⟨k, e1, e2⟩ := hb us l2
    refine BindsTo.of_looks fun M => ?_
    rw [e1]
    exact looks_items X lT oT (.of_pure e2)
  refine FnR.imp (F1.raw hB rT) fun vs H Q E ⟨G, ds, O, E', Q', rl, sta, hE, hQ, hl, hs⟩ => ⟨?_, G, ds ++ dds, O, E', Q', rl.append (rd G), sta, hE, hQ, hs⟩
  rw [List.length_append, rl.length, hl, (rd G).length]
  exact hn
/-- .. all are written -/
theorem dfn_dfltN {T : Addr} {o : Obj} {its : List Value} {m : Nat} (lk : K.lookup f = some ⟨oc, od, .func (PySem.W.fnOf x qual (defArgs st) (defBody st) (defScope st) (.ref T) kV doc pm an cdv ct), osl⟩) (hcd : PySem.W.codeIn K cdv qual = true)
    (S : FnS N ps (defScope st)) (h : BodyOk P w K mg base k N st sp) (lT : K.lookup T = some o) (oT : o.data = .seq its.toArray m)
    (hb : ∀ us : List Value, us.length = ps.length → ∃ k, bindArgs (PySem.W.fnOf x qual (defArgs st) (defBody st) (defScope st) (.ref T) kV doc pm an cdv ct) ⟨us, []⟩ = seqItems? (.ref T) >>= k ∧ k (some its.toArray) = pure (ps.zip us)) :
    DFn P w K mg base (k + 1) f (fun ds O E Q => ds.length = ps.length ∧ sp ds O E Q) := by
  have F1 : FnOk P w K mg base (L2.CX P w) (k + 1) f _ ps (fun vs H Q E => vs.length = ps.length ∧ lift K sp vs H Q E) := fn_of lk hcd S.toFnScope (fun vs H Q E h => h.1) fun A outer s H vs Q E hr hsp => body_run S h cdv A outer s H vs Q E hr hsp.2
  have hB : Binds K (PySem.W.fnOf x qual (defArgs st) (defBody st) (defScope st) (.ref T) kV doc pm an cdv ct) ps [] := fun s us X hlen => by
    rw [List.append_nil] at hlen ⊢
    obtain ⟨k, e1, e2⟩ := hb us hlen
    refine BindsTo.of_looks fun M => ?_
    rw [e1]
    exact looks_items X lT oT (.of_pure e2)
  refine FnR.imp (F1.raw hB .nil) fun vs H Q E ⟨G, ds, O, E', Q', rl, sta, hE, hQ, hl, hs⟩ => ?_
  rw [List.append_nil]
  exact ⟨by rw [rl.length, hl], G, ds, O, E', Q', rl, sta, hE, hQ, hs⟩
/-- one keyword-only parameter with a default, no star: called with it, without it -/
theorem dfk_kw {ps0 : List Str} (lk : K.lookup f = some ⟨oc, od, .func (PySem.W.fnOf x qual (defArgs st) (defBody st) (defScope st) dV kV doc pm an cdv ct), osl⟩) (hcd : PySem.W.codeIn K cdv qual = true)
    (S : FnS N (ps0 ++ [kn]) (defScope st)) (h : BodyOk P w K mg base k N st sp)
    (hb : ∀ (us : List Value) (z : Value), us.length = ps0.length → bindArgs (PySem.W.fnOf x qual (defArgs st) (defBody st) (defScope st) dV kV doc pm an cdv ct) ⟨us, [(kn, z)]⟩ = pure ((ps0 ++ [kn]).zip (us ++ [z]))) :
    DFk P w K mg base (k + 1) f [kn] (fun ds O E Q => ds.length = ps0.length + 1 ∧ sp ds O E Q) := by
  have F1 : FnOk P w K mg base (L2.CX P w) (k + 1) f _ (ps0 ++ [kn]) (fun vs H Q E => vs.length = (ps0 ++ [kn]).length ∧ lift K sp vs H Q E) := fn_of lk hcd S.toFnScope (fun vs H Q E h => h.1) fun A outer s H vs Q E hr hsp => body_run S h cdv A outer s H vs Q E hr hsp.2
  intro A outer s H us ws vs zs Q E hr e0 r1 r2 hl ⟨G, ds, O, E', Q', rl, sta, hE, hQ, hdl, hs⟩
  have hlen : (vs ++ zs).length = (ps0 ++ [kn]).length := by rw [rl.length, hdl, List.length_append]; rfl
  match zs, ws, hl, r2 with
  | [z], [u], _, r2 =>
    refine F1.run A outer s H ⟨us, [kn].zip [u]⟩ (us ++ [u]) (vs ++ [z]) Q E hr e0 ?_ (r1.append r2) ⟨hlen, G, ds, O, E', Q', rl, sta, hE, hQ, hs⟩
    refine BindsTo.of_eq (hb us u ?_)
    rw [List.length_append, List.length_append] at hlen
    have := r1.length
    simp at hlen
    omega
theorem dfn_kw {ps0 : List Str} {D0 : Addr} {cw : Value} {cv : V} {cd : D} (lk : K.lookup f = some ⟨oc, od, .func (PySem.W.fnOf x qual (defArgs st) (defBody st) (defScope st) dV (.ref D0) doc pm an cdv ct), osl⟩) (hcd : PySem.W.codeIn K cdv qual = true)
    (S : FnS N (ps0 ++ [kn]) (defScope st)) (h : BodyOk P w K mg base k N st sp) (hD : PySem.W.nsIn K D0 kn = some (some cw)) (rv : RelV cv cw) (rd : ∀ G, Rep K G cd cv)
    (hb : ∀ (us : List Value), us.length = ps0.length → KwChain D0 [(kn, cw)] (bindArgs (PySem.W.fnOf x qual (defArgs st) (defBody st) (defScope st) dV (.ref D0) doc pm an cdv ct) ⟨us, []⟩) ((ps0 ++ [kn]).zip (us ++ [cw]))) :
    DFn P w K mg base (k + 1) f (fun ds O E Q => ds.length = ps0.length ∧ sp (ds ++ [cd]) O E Q) := by
  have F1 : FnOk P w K mg base (L2.CX P w) (k + 1) f _ (ps0 ++ [kn]) (fun vs H Q E => vs.length = (ps0 ++ [kn]).length ∧ lift K sp vs H Q E) := fn_of lk hcd S.toFnScope (fun vs H Q E h => h.1) fun A outer s H vs Q E hr hsp => body_run S h cdv A outer s H vs Q E hr hsp.2
  have hB : Binds K (PySem.W.fnOf x qual (defArgs st) (defBody st) (defScope st) dV (.ref D0) doc pm an cdv ct) (ps0 ++ [kn]) [cw] := fun s us X hlen => by
    have l2 : us.length = ps0.length := by
      rw [List.length_append, List.length_append] at hlen
      simpa using hlen
    exact BindsTo.of_looks fun M => KwChain.looks X (fun q hq => by rw [List.mem_singleton.1 hq]; exact hD) (hb us l2)
  refine FnR.imp (F1.raw hB (.cons rv .nil)) fun vs H Q E ⟨G, ds, O, E', Q', rl, sta, hE, hQ, hl, hs⟩ => ⟨?_, G, ds ++ [cd], O, E', Q', rl.append (.cons (rd G) .nil), sta, hE, hQ, hs⟩
  rw [List.length_append, List.length_append, rl.length, hl]
  rfl
end
section
variable {X : Cx} {N : List Str} {sc : Scope} {δ : DEnv} {O : Own} {E : XD → Own → Prop} {Q : D → Own → Prop} {pos p : Pos} {f : Value} {ks : List Str} {ds : List D}
def semCk (X : Cx) (f : Value) (ks : List Str) (vs zs : List V) : TE := fun σ H Q => ∀ (pins : List (Addr × Obj)) (s : Shared) (us ws : List Value), Inv X pins σ H s → Vals vs us → Vals zs ws → wpAny (model X.prog X.w) X.A (call f us (ks.zip ws)) (EP X pins σ Q) X.xe s
/-- the call of a value with keywords: ds the positional values, es those of the keywords -/
def DCk (X : Cx) (f : Value) (ks : List Str) (ds es : List D) (δ : DEnv) (O : Own) (E : XD → Own → Prop) (Q : D → Own → Prop) : Prop := es.length = ks.length ∧ ∀ vs zs, M X (fun G => RepL X.K G ds vs ∧ RepL X.K G es zs) (Rep X.K) (semCk X f ks vs zs) δ O E Q
def semK' (X : Cx) (kws : List Keyword) : TA := fun σ H Q => ∀ (pos : Pos) (pins : List (Addr × Obj)) (s : Shared), Inv X pins σ H s → wpAny (model X.prog X.w) X.A (evalAll ((backToKw pos (keywordEach kws X.env)).map (·.2))) (AP X pins σ Q) X.xe s
theorem pk_sem {kws : List Keyword} : PK X kws (semK' X kws) := ⟨fun pos pins s _ _ _ I h => h pos pins s I⟩
def DKw (X : Cx) (kws : List Keyword) (δ : DEnv) (O : Own) (E : XD → Own → Prop) (Q : List D → Own → Prop) : Prop := M X PT0 (RepL X.K) (semK' X kws) δ O E Q
theorem dkw_nil {QA : List D → Own → Prop} (q : QA [] O) : DKw X [] δ O E QA := fun W tk G σ H Q' p r s hE hQ pos pins s' I => pk_nil.run pos pins s' σ H Q' I (hQ G H O [] [] (Step.refl s) .nil q)
theorem dkw_cons {QA : List D → Own → Prop} {nm : Option Str} {e : Expr} {kpos : Pos} {kws : List Keyword} (h : DE X e δ O E fun d O1 => DKw X kws δ O1 E fun ds O2 => QA (d :: ds) O2) : DKw X (⟨nm, e, kpos⟩ :: kws) δ O E QA :=
  fun W tk G σ H Q' p r s hE hQ pos pins s' I => (pk_cons pe_sem pk_sem).run pos pins s' σ H Q' I (h W tk G σ H _ trivial r s hE fun G1 H1 O1 d v st rd h1 => h1 W tk G1 σ H1 _ trivial (r.mono st.g) st.sta (fun _ _ _ _ _ _ st2 => hE _ _ _ _ _ _ (st.trans st2)) fun G2 H2 O2 ds vs st2 rl q => hQ G2 H2 O2 (d :: ds) (v :: vs) (st.trans st2) (.cons (rd.mono st2.g) rl) q)
/-- x(e, .., k = v, ..), x the module's own def or class -/
theorem de_callKw {x : Str} {e : Expr} {es : List Expr} {kws : List Keyword} (S : Sc X N sc) (hm : X.mg x = some f) (hk : PySem.W.keepIn X.K f = true) (h : DA X (e :: es) δ O E fun ds O1 => DKw X kws δ O1 E fun zs O2 => DCk X f ks ds zs δ O2 E Q) (hg : Nk x .globalImplicit sc.names := by (repeat (with_reducible constructor)))
    (hall : (backToKw pos (keywordEach kws X.env)).all (·.1.isSome) = true := by with_unfolding_all rfl) (hks : (backToKw pos (keywordEach kws X.env)).filterMap (·.1) = ks := by with_unfolding_all rfl)
    (he : starEach (e :: es) X.env = (false, eval e X.env) :: starEach es X.env := by with_unfolding_all rfl) (hpl : ((backTo pos (starEach (e :: es) X.env)).any (·.1) || (backToKw pos (keywordEach kws X.env)).any (·.1.isNone)) = false := by with_unfolding_all rfl) : DE X (.Call (.Name x p) (e :: es) kws pos) δ O E Q :=
  de_of (t := fun σ H K => semA X (e :: es) σ H fun vs H1 => semK' X kws σ H1 fun zs H2 => semCk X f ks vs zs σ H2 K) ⟨fun pins s σ H K I q => by
    refine wpAny_Call_Name_kw (ld_glob I (S.gl hg) hm ?_ (S.dbg hg))
    refine PySem.W.callWith_KW (h₀ := X.base) I.ok.mod.kin hk hall (thn (q pos pins s I) fun us s1 ⟨vs, H1, I1, r, q1⟩ => ?_) hpl he
    refine thn (q1 pos pins s1 I1) fun ws s2 ⟨zs, H2, I2, rz, q2⟩ => ⟨I2.kIn, ?_⟩
    rw [hks]
    exact q2 pins s2 us ws I2 r rz⟩ fun W tk G σ H Q' p r s hE hQ => h W tk G σ H _ p r s hE fun G1 H1 O1 ds vs st rl h1 => h1 W tk G1 σ H1 _ trivial (r.mono st.g) st.sta (fun _ _ _ _ _ _ st2 => hE _ _ _ _ _ _ (st.trans st2)) fun G2 H2 O2 es zs st2 rl2 q =>
      q.2 vs zs W tk G2 σ H2 Q' ⟨rl.mono st2.g, rl2⟩ (r.mono (st.trans st2).g) st2.sta (fun _ _ _ _ _ _ st3 => hE _ _ _ _ _ _ ((st.trans st2).trans st3)) fun _ _ _ _ _ st3 => hQ _ _ _ _ _ ((st.trans st2).trans st3)
/-- C(e, .., k = v): a new instance, __init__'s promise at the new cell -/
theorem dck_make {k : Nat} {C g : Addr} {sp : DSp} {es : List D} (Mc : Mk X.K C g) (F : DFk X.prog X.w X.K X.mg X.base k g ks sp) (hr : Room (k + 1) X.A) (hl : es.length = ks.length) (h : ∀ a, sp (.ref a :: (ds ++ es)) ((a, .ins C []) :: O) E fun d O' => d = .non ∧ ((∃ fs O2, O' = (a, .ins C fs) :: O2 ∧ Q (.ins C fs) O2) ∨ Q (.ref a) O')) : DCk X (.ref C) ks ds es δ O E Q := by
  refine ⟨hl, ?_⟩
  intro vs zs W tk G σ H Q' rl r s hE hQ pins s' us ws I rv rz
  have I2 := Inv.made (C := C) I
  have hx : H (s'.heap.objs.size + 1) = none := I.hok.fresh (Nat.le_succ _)
  have hdx : H s'.heap.objs.size = none := I.hok.fresh (Nat.le_refl _)
  have hx2 : upd H s'.heap.objs.size (.own (s'.heap.objs.size + 1)) (s'.heap.objs.size + 1) = none := by rw [upd_ne (Nat.ne_of_gt (Nat.lt_succ_self _))]; exact hx
  have s0 : Sta X.K G O (upd H s'.heap.objs.size (.own (s'.heap.objs.size + 1))) := ⟨fun a o e => by rw [upd_ne (ne_of_none (s.sub a o e) hdx)]; exact s.sub a o e, s.nd, fun a c m => by
    obtain ⟨h1, o, h2, h3⟩ := s.own a c m
    exact ⟨h1, o, by rw [upd_ne (ne_of_none h2 hdx)]; exact h2, h3⟩⟩
  have st0 : Step X.K G O H G O (upd H s'.heap.objs.size (.own (s'.heap.objs.size + 1))) := ⟨Ex.refl _, s0, fun a o e _ => by rw [upd_ne (ne_of_none e hdx)]; exact e, fun a h n => absurd h n, fun a m => .inl m⟩
  have st1 := Step.newO s0 (c := .ins C []) (o := .ins C s'.heap.objs.size []) hx2 ⟨rfl, .nil⟩
  have st := st0.trans st1
  refine wpAny_call (make_map (f := g) I.kIn Mc.makes Mc.init (beq_iff_eq.mp Mc.fn) (codeAny_mono (F _ X.stack _ _ (Value.ref (s'.heap.objs.size + 1) :: us) ws (V.ref (s'.heap.objs.size + 1) :: vs) zs (fun v H2 => v = .non ∧ Q' (.ref (s'.heap.objs.size + 1)) H2) (fun c dd H' => W c dd σ H') (hr.make C us (ks.zip ws)) (I2.env0.make C us (ks.zip ws)) (.cons rfl rv) rz (by rw [rl.2.length, hl])
    ⟨G, .ref (s'.heap.objs.size + 1) :: (ds ++ es), _, E, _, .cons (.ref _) (rl.1.append rl.2), st.sta, fun _ _ _ _ _ _ st2 => hE _ _ _ _ _ _ (st.trans st2), fun G' H' O' d v st2 rd q => ?_, h _⟩) fun r s2 hq => ?_))
  · obtain ⟨e1, q⟩ := q
    subst e1
    cases rd
    refine ⟨rfl, ?_⟩
    rcases q with ⟨fs, O2, eO, q⟩ | q
    · subst eO
      obtain ⟨_, o, ho, rc⟩ := st2.sta.own _ _ List.mem_cons_self
      obtain ⟨fz, rc'⟩ := Step.freeze st2.sta (c := .ins C fs) At.head Del.head ho
      cases o with
      | ins C' dx vs => obtain ⟨e, rf⟩ := rc'; subst e; exact hQ _ _ _ _ _ ((st.trans st2).trans fz) (.ins upd_same rf) q
      | _ => exact rc.elim
    · exact hQ _ _ _ _ _ (st.trans st2) (.ref _) q
  · cases r with
    | error e => exact tk e s2 (XE.of_call I2 (fun _ _ _ z => z) hq)
    | ok fl =>
      cases fl with
      | ret u =>
        obtain ⟨v, H', I3, rv, ev, q3⟩ := I2.after hq
        subst ev
        exact ⟨rv, ⟨V.ref (s'.heap.objs.size + 1), H', I3, rfl, q3⟩⟩
      | next => exact False.elim hq
      | brk => exact False.elim hq
      | cont => exact False.elim hq
end
end DL
namespace DL
open PySem PySem.Spec PyProof.Rows L2
/-- a constant tuple of ints that the top has written -/
def CTup (K : PySem.W.Frag) (a : Addr) (is : List Int) : Prop := ∃ (dd : Option Addr) (its : List Value) (n : Nat) (sl : Array (Option Value)), K.lookup a = some ⟨.type "tuple", dd, .seq its.toArray n, sl⟩ ∧ Vals (is.map V.int) its ∧ is.length ≤ 1000
theorem CTup.rep {K : PySem.W.Frag} {a : Addr} {is : List Int} (h : CTup K a is) (G : Hp) : Rep K G (.tup (is.map D.int)) (.ref a) := by
  obtain ⟨dd, its, n, sl, l, v, hz⟩ := h
  have e := v.length
  rw [List.length_map] at e
  exact .tup (.inr ⟨_, _, _, l, rfl, rfl, by rw [List.size_toArray, ← e]; exact Nat.le_trans hz (by decide), v⟩) (repL_map (fun _ => .int _) _)
/-- def f(self, .., *r, k=..) -/
structure SKDef (K : PySem.W.Frag) (C : Addr) (m qual : Str) (st : Stmt) (ps0 : List Str) (kn pv : Str) (cd : D) (f : Addr) : Prop where
  mt : Meth K C m f
  fn : ∃ (oc doc pm cdv ct cw : Value) (cv : V) (od an : Option Addr) (osl : Array (Option Value)) (D0 : Addr), K.lookup f = some ⟨oc, od, .func (PySem.W.fnOf m qual (defArgs st) (defBody st) (defScope st) .none (.ref D0) doc pm an cdv ct), osl⟩ ∧ PySem.W.codeIn K cdv qual = true ∧
    PySem.W.nsIn K D0 kn = some (some cw) ∧ RelV cv cw ∧ (∀ G, Rep K G cd cv) ∧
    (∀ (us rest : List Value) (z : Value), us.length = ps0.length → bindArgs (PySem.W.fnOf m qual (defArgs st) (defBody st) (defScope st) .none (.ref D0) doc pm an cdv ct) ⟨us ++ rest, [(kn, z)]⟩ = (newTuple rest >>= fun t => pure ((ps0 ++ [kn]).zip (us ++ [z]) ++ [(pv, t)]))) ∧
    (∀ (us : List Value), us.length = ps0.length → ∃ (β γ : Type) (k1 : Option Value → Sem β) (k2 : β → Sem γ) (k3 : γ → Sem (List (Str × Value))) (c : β), bindArgs (PySem.W.fnOf m qual (defArgs st) (defBody st) (defScope st) .none (.ref D0) doc pm an cdv ct) ⟨us, []⟩ = ((nsGet D0 kn >>= k1) >>= k2) >>= k3 ∧ k1 (some cw) = pure c ∧ (k2 c >>= k3) = (newTuple [] >>= fun t => pure ((ps0 ++ [kn]).zip (us ++ [cw]) ++ [(pv, t)]))) ∧
    (∀ (us : List Value) (r0 : Value) (rs : List Value), us.length = ps0.length → ∃ (β γ : Type) (k1 : Option Value → Sem β) (k2 : β → Sem γ) (k3 : γ → Sem (List (Str × Value))) (c : β), bindArgs (PySem.W.fnOf m qual (defArgs st) (defBody st) (defScope st) .none (.ref D0) doc pm an cdv ct) ⟨us ++ r0 :: rs, []⟩ = ((nsGet D0 kn >>= k1) >>= k2) >>= k3 ∧ k1 (some cw) = pure c ∧ (k2 c >>= k3) = (newTuple (r0 :: rs) >>= fun t => pure ((ps0 ++ [kn]).zip (us ++ [cw]) ++ [(pv, t)])))
/-- def f(self, .., *, k=..) -/
structure KWDef (K : PySem.W.Frag) (C : Addr) (m qual : Str) (st : Stmt) (ps0 : List Str) (kn : Str) (cd : D) (f : Addr) : Prop where
  mt : Meth K C m f
  fn : ∃ (oc doc pm cdv ct cw : Value) (cv : V) (od an : Option Addr) (osl : Array (Option Value)) (D0 : Addr), K.lookup f = some ⟨oc, od, .func (PySem.W.fnOf m qual (defArgs st) (defBody st) (defScope st) .none (.ref D0) doc pm an cdv ct), osl⟩ ∧ PySem.W.codeIn K cdv qual = true ∧
    PySem.W.nsIn K D0 kn = some (some cw) ∧ RelV cv cw ∧ (∀ G, Rep K G cd cv) ∧
    (∀ (us : List Value) (z : Value), us.length = ps0.length → bindArgs (PySem.W.fnOf m qual (defArgs st) (defBody st) (defScope st) .none (.ref D0) doc pm an cdv ct) ⟨us, [(kn, z)]⟩ = pure ((ps0 ++ [kn]).zip (us ++ [z]))) ∧
    (∀ (us : List Value), us.length = ps0.length → KwChain D0 [(kn, cw)] (bindArgs (PySem.W.fnOf m qual (defArgs st) (defBody st) (defScope st) .none (.ref D0) doc pm an cdv ct) ⟨us, []⟩) ((ps0 ++ [kn]).zip (us ++ [cw])))
/-- def f(a, .., k=..) -/
structure PDDef (K : PySem.W.Frag) (mg : Str → Option Value) (nm : Str) (st : Stmt) (ps : List Str) (n : Nat) (dds : List D) (f : Addr) : Prop where
  g : mg nm = some (.ref f)
  k : PySem.W.keepIn K (.ref f) = true
  fn : ∃ (oc kV doc pm cdv ct : Value) (od an : Option Addr) (osl : Array (Option Value)) (T : Addr) (o : Obj) (its : List Value) (m : Nat) (dvs : List V), K.lookup f = some ⟨oc, od, .func (PySem.W.fnOf nm nm (defArgs st) (defBody st) (defScope st) (.ref T) kV doc pm an cdv ct), osl⟩ ∧ PySem.W.codeIn K cdv nm = true ∧
    K.lookup T = some o ∧ o.data = .seq its.toArray m ∧ Vals dvs its ∧ (∀ G, RepL K G dds dvs) ∧
    (∀ us : List Value, us.length = n → ∃ k, bindArgs (PySem.W.fnOf nm nm (defArgs st) (defBody st) (defScope st) (.ref T) kV doc pm an cdv ct) ⟨us, []⟩ = seqItems? (.ref T) >>= k ∧ k (some its.toArray) = pure (ps.zip (us ++ its))) ∧
    (∀ us : List Value, us.length = ps.length → ∃ k, bindArgs (PySem.W.fnOf nm nm (defArgs st) (defBody st) (defScope st) (.ref T) kV doc pm an cdv ct) ⟨us, []⟩ = seqItems? (.ref T) >>= k ∧ k (some its.toArray) = pure (ps.zip us))
section
variable {P : Program} {w : World} {K : PySem.W.Frag} {mg : Str → Option Value} {base : Heap} {nm qual m pv kn : Str} {st : Stmt} {f C : Addr} {N ps ps0 : List Str} {k n : Nat} {sp : DSp} {cd : D} {dds : List D}
/-- .. without k -/
def starSp0 (n : Nat) (cd : D) (sp : DSp) : DSp := fun ds O E Q => ∃ ws rest, ds = ws ++ rest ∧ ws.length = n ∧ rest.length ≤ 100000 ∧ sp (ws ++ [cd] ++ [.tup rest]) O E Q
theorem SKDef.okK (D : SKDef K C m qual st ps0 kn pv cd f) (S : FnS N (ps0 ++ [kn] ++ [pv]) (defScope st)) (h : BodyOk P w K mg base k N st sp) : DFk P w K mg base (k + 1) f [kn] (starKSp ps0.length sp) := by
  obtain ⟨oc, doc, pm, cdv, ct, cw, cv, od, an, osl, D0, lk, hcd, hD, rv, rd, hb, hb0, hb1⟩ := D.fn
  exact dfk_starK lk hcd S h hb
theorem SKDef.ok0 (D : SKDef K C m qual st ps0 kn pv cd f) (S : FnS N (ps0 ++ [kn] ++ [pv]) (defScope st)) (h : BodyOk P w K mg base k N st sp) : DFn P w K mg base (k + 1) f (starSp0 ps0.length cd sp) := by
  obtain ⟨oc, doc, pm, cdv, ct, cw, cv, od, an, osl, D0, lk, hcd, hD, rv, rd, hb, hb0, hb1⟩ := D.fn
  refine dfn_starK lk hcd S h hD rv rd fun us rest hl => ?_
  cases rest with
  | nil => rw [List.append_nil]; exact hb0 us hl
  | cons r0 rs => exact hb1 us r0 rs hl
theorem KWDef.okK (D : KWDef K C m qual st ps0 kn cd f) (S : FnS N (ps0 ++ [kn]) (defScope st)) (h : BodyOk P w K mg base k N st sp) : DFk P w K mg base (k + 1) f [kn] (fun ds O E Q => ds.length = ps0.length + 1 ∧ sp ds O E Q) := by
  obtain ⟨oc, doc, pm, cdv, ct, cw, cv, od, an, osl, D0, lk, hcd, hD, rv, rd, hb, hb0⟩ := D.fn
  exact dfk_kw lk hcd S h hb
theorem KWDef.ok0 (D : KWDef K C m qual st ps0 kn cd f) (S : FnS N (ps0 ++ [kn]) (defScope st)) (h : BodyOk P w K mg base k N st sp) : DFn P w K mg base (k + 1) f (fun ds O E Q => ds.length = ps0.length ∧ sp (ds ++ [cd]) O E Q) := by
  obtain ⟨oc, doc, pm, cdv, ct, cw, cv, od, an, osl, D0, lk, hcd, hD, rv, rd, hb, hb0⟩ := D.fn
  exact dfn_kw lk hcd S h hD rv rd hb0
theorem PDDef.ok0 (D : PDDef K mg nm st ps n dds f) (S : FnS N ps (defScope st)) (hn : n + dds.length = ps.length) (h : BodyOk P w K mg base k N st sp) : DFn P w K mg base (k + 1) f (fun ds O E Q => ds.length = n ∧ sp (ds ++ dds) O E Q) := by
  obtain ⟨oc, kV, doc, pm, cdv, ct, od, an, osl, T, o, its, m, dvs, lk, hcd, lT, oT, rT, rd, hb0, hb⟩ := D.fn
  exact dfn_dflt lk hcd S h lT oT rT rd hn hb0
theorem PDDef.okN (D : PDDef K mg nm st ps n dds f) (S : FnS N ps (defScope st)) (h : BodyOk P w K mg base k N st sp) : DFn P w K mg base (k + 1) f (fun ds O E Q => ds.length = ps.length ∧ sp ds O E Q) := by
  obtain ⟨oc, kV, doc, pm, cdv, ct, od, an, osl, T, o, its, m, dvs, lk, hcd, lT, oT, rT, rd, hb0, hb⟩ := D.fn
  exact dfn_dfltN lk hcd S h lT oT hb
end
end DL

end

section
set_option maxRecDepth 100000
set_option maxHeartbeats 4000000
set_option autoImplicit false
/-! The data layer: zip of any two sequences. -/
namespace DL
open PySem PySem.Spec PyProof.Rows L2
/-- a list or a tuple, seen from the abstract heap -/
def SqX (K : PySem.W.Frag) (t : Bool) (H : Hp) (a : Addr) (xs : List V) : Prop := if t = true then SqT K H a xs else SqL K H a xs
def IterX (t : Bool) (h : Heap) (it a : Addr) (i : Nat) : Prop := if t = true then h.IsTupleIter it a i else h.IsListIter it a i
def SeqX (t : Bool) (h : Heap) (a : Addr) (its : Array Value) : Prop := if t = true then h.IsTuple a its else h.IsList a its
theorem SqX.at_ {X : Cx} {pins : List (Addr × Obj)} {σ : L2.St} {H : Hp} {s : Shared} {t : Bool} {a : Addr} {xs : List V} (I : Inv X pins σ H s) (h : SqX X.K t H a xs) : ∃ its : List Value, Vals xs its ∧ SeqX t s.heap a its.toArray ∧ a < s.heap.objs.size := by
  cases t with
  | true =>
    obtain ⟨its, rv, p, _⟩ := I.tuple h
    obtain ⟨o, ho, _⟩ := id p
    exact ⟨its, rv, p, Heap.lt_size ho⟩
  | false =>
    obtain ⟨its, rv, p, _⟩ := I.list h
    exact ⟨its, rv, p.isList, p.lt⟩
theorem SqX.inj {X : Cx} {pins : List (Addr × Obj)} {σ : L2.St} {H : Hp} {s : Shared} {t : Bool} {a : Addr} {xs ys : List V} (I : Inv X pins σ H s) (h : SqX X.K t H a xs) (h' : SqX X.K t H a ys) : xs = ys := by
  cases t with
  | true => exact I.tuple_inj h h'
  | false => exact I.list_inj h h'
theorem draws_X {prog : Program} {w : World} {A : Around} (hh : A.handled = none) (t : Bool) (it a : Addr) (hne : a ≠ it) (its : Array Value) : Draws prog w A it [it, a] its.size (fun i v => its[i]? = some v) (fun i h => IterX t h it a i ∧ SeqX t h a its) := by
  cases t with
  | true => exact Draws.tuple hh it a hne its
  | false => exact Draws.list hh it a hne its
theorem iterX_obj {t : Bool} {h : Heap} {it a : Addr} {i : Nat} (x : IterX t h it a i) : ∃ o, h.get? it = some o ∧ ∀ v, o.data ≠ .cell v := by
  cases t with
  | true =>
    obtain ⟨o, e, _, d⟩ := (show h.IsTupleIter it a i from x)
    exact ⟨o, e, fun v q => by rw [d] at q; cases q⟩
  | false =>
    obtain ⟨o, e, _, d⟩ := (show h.IsListIter it a i from x)
    exact ⟨o, e, fun v q => by rw [d] at q; cases q⟩
theorem iterX_keep {t : Bool} {h h' : Heap} {it a : Addr} {i : Nat} (x : IterX t h it a i) (k : ∀ o, h.get? it = some o → h'.get? it = some o) : IterX t h' it a i := by
  cases t with
  | true => exact Heap.IsTupleIter.at (show h.IsTupleIter it a i from x) k
  | false => exact Heap.IsListIter.at (show h.IsListIter it a i from x) k
/-- the walk over two sequences at once -/
def ItX (K : PySem.W.Frag) (t u : Bool) (a b : Addr) : It :=
  ⟨fun i H => ∃ (xs ys : List V) (x y : V), SqX K t H a xs ∧ SqX K u H b ys ∧ xs[i]? = some x ∧ ys[i]? = some y,
    fun i H v H' => ∃ T x y, v = .ref T ∧ H T = none ∧ H' = upd H T (.tup [x, y]) ∧ (∀ xs, SqX K t H a xs → xs[i]? = some x) ∧ ∀ ys, SqX K u H b ys → ys[i]? = some y,
    fun i H => ∃ xs ys : List V, SqX K t H a xs ∧ SqX K u H b ys ∧ min xs.length ys.length = i⟩
structure Apart (z TI TO i1 i2 a b : Addr) : Prop where
  s : ZipSep2 z TI TO i1 i2 [i1, a] [i2, b]
  an : a ≠ i1
  bn : b ≠ i2
theorem turn_X {P : Program} {w : World} {K : PySem.W.Frag} {elts : List Expr} {kk : Nat} {tpos : Pos} {t u : Bool} {a b z TI TO i1 i2 : Addr} (D : Apart z TI TO i1 i2 a b) :
    Turn P w K (.Tuple elts kk tpos) (ItX K t u a b) [z, TI, TO, i1, i2] z (fun i h => IsZip h z TI TO .none ∧ IsTupOf2 h TI (.ref i1) (.ref i2) ∧ (∃ x y, IsTupOf2 h TO x y) ∧ IterX t h i1 a i ∧ IterX u h i2 b i) where
  mem := by simp
  obj := fun i h st c hc => by
    obtain ⟨hz, hTI, ⟨x, y, hTO⟩, h1, h2⟩ := st
    simp only [List.mem_cons, List.not_mem_nil, or_false] at hc
    rcases hc with rfl | rfl | rfl | rfl | rfl
    · exact ⟨_, hz, fun v q => nomatch q⟩
    · exact ⟨_, hTI, fun v q => nomatch q⟩
    · exact ⟨_, hTO, fun v q => nomatch q⟩
    · exact iterX_obj h1
    · exact iterX_obj h2
  keep := fun i h h' st k => by
    obtain ⟨hz, hTI, ⟨x, y, hTO⟩, h1, h2⟩ := st
    exact ⟨k z (by simp) _ hz, k TI (by simp) _ hTI, ⟨x, y, k TO (by simp) _ hTO⟩, iterX_keep h1 fun o q => k i1 (by simp) o q, iterX_keep h2 fun o q => k i2 (by simp) o q⟩
  item := by
    intro X hP hw hK hc i pins s σ H E I hf st hg
    subst hP hw hK
    obtain ⟨hz, hTI, hTO, h1, h2⟩ := st
    obtain ⟨xs, ys, x, y, hqx, hqy, hx, hy⟩ := hg
    obtain ⟨its, rv, p, _⟩ := SqX.at_ I hqx
    obtain ⟨its2, rv2, p2, _⟩ := SqX.at_ I hqy
    have l1 := rv.length
    have l2 := rv2.length
    have hi1 := (List.getElem?_eq_some_iff.1 hx).1
    have hi2 := (List.getElem?_eq_some_iff.1 hy).1
    have W := GoesN.zip2 (elts := elts) (x1 := kk) (pos := tpos) D.s (draws_X (prog := X.prog) (w := X.w) (A := X.A.in1) (I.ok.hd hc) t i1 a D.an its.toArray) (draws_X (prog := X.prog) (w := X.w) (A := X.A.in1) (I.ok.hd hc) u i2 b D.bn its2.toArray)
    refine W.goes i s _ E (by simp; omega) ⟨hz, hTI, hTO, ⟨h1, p⟩, ⟨h2, p2⟩⟩ fun v h' tk ⟨T, u1, u2, ev, hT, e1, e2, hTt⟩ st' k htk => ?_
    subst ev
    obtain ⟨o, ho, hoc, nn, hod⟩ := id hTt
    have e1' : its[i]? = some u1 := by simpa using e1
    have e2' : its2[i]? = some u2 := by simpa using e2
    obtain ⟨w1, g1, r1⟩ := rv.get hx
    obtain ⟨w2, g2, r2⟩ := rv2.get hy
    rw [e1'] at g1
    rw [e2'] at g2
    cases g1
    cases g2
    have new : ObjOk X.prog X.w (upd H T (.tup [x, y])) h' T (.tup [x, y]) := ⟨by show 2 ≤ sizeLine; decide, [u1, u2], .cons r1 (.cons r2 .nil), ⟨o, ho, hoc, nn, hod⟩⟩
    have hT0 : H T = none := I.hok.fresh hT
    refine ⟨.ref T, _, I.turnedNew (t' := tk) (ch := [z, TO, i1, i2]) k (fun b hb => hf b (by simp at hb ⊢; rcases hb with h | h | h | h <;> simp [h])) hT new, rfl, ⟨T, x, y, rfl, hT0, rfl, fun l hl => by rw [SqX.inj I hl hqx]; exact hx, fun l hl => by rw [SqX.inj I hl hqy]; exact hy⟩, ⟨st'.1, st'.2.1, st'.2.2.1, st'.2.2.2.1.1, st'.2.2.2.2.1⟩, fun c hcm => ?_⟩
    have hlt : c < s.heap.objs.size := by
      simp only [List.mem_cons, List.not_mem_nil, or_false] at hcm
      obtain ⟨x0, y0, hTO⟩ := hTO
      rcases hcm with rfl | rfl | rfl | rfl | rfl
      · exact Heap.lt_size hz
      · exact Heap.lt_size hTI
      · exact Heap.lt_size hTO
      · obtain ⟨_, e, _⟩ := iterX_obj h1; exact Heap.lt_size e
      · obtain ⟨_, e, _⟩ := iterX_obj h2; exact Heap.lt_size e
    rw [upd_ne (Nat.ne_of_lt (Nat.lt_of_lt_of_le hlt hT))]
    exact (hf c hcm).1
  done := by
    intro X hP hw hK hc i pins s σ H E I hf st hg
    subst hP hw hK
    obtain ⟨hz, hTI, hTO, h1, h2⟩ := st
    obtain ⟨xs, ys, hqx, hqy, hend⟩ := hg
    obtain ⟨its, rv, p, _⟩ := SqX.at_ I hqx
    obtain ⟨its2, rv2, p2, _⟩ := SqX.at_ I hqy
    have l1 := rv.length
    have l2 := rv2.length
    have W := GoesN.zip2 (elts := elts) (x1 := kk) (pos := tpos) D.s (draws_X (prog := X.prog) (w := X.w) (A := X.A.in1) (I.ok.hd hc) t i1 a D.an its.toArray) (draws_X (prog := X.prog) (w := X.w) (A := X.A.in1) (I.ok.hd hc) u i2 b D.bn its2.toArray)
    have en : min its.toArray.size its2.toArray.size = i := by simp; omega
    refine W.stops s (fun s1 => Inv X pins σ H s1) E (by rw [en]; exact ⟨hz, hTI, hTO, ⟨h1, p⟩, ⟨h2, p2⟩⟩) fun h' tk k htk => I.turnedL (t' := tk) (ch := [z, TO, i1, i2]) k (fun b hb => hf b (by simp at hb ⊢; rcases hb with h | h | h | h <;> simp [h]))
  self := fun A i s Q E st h => wpAny_pyIter_zip st.1 h
theorem nn {x y : Nat} (h : x ≠ y) : @Ne Addr x y := h
theorem nm2 {x y z : Nat} (h : x ≠ y) (h2 : x ≠ z) : @Membership.mem Addr (List Addr) _ [y, z] x → False := fun m => by
  simp only [List.mem_cons, List.not_mem_nil, or_false] at m
  rcases m with m | m
  · exact h m
  · exact h2 m
theorem apart_of {n a b : Nat} (ha : a < n) (hb : b < n) : Apart (n + 4) (n + 2) (n + 3) n (n + 1) a b where
  s := ⟨nn (by omega), nn (by omega), nn (by omega), nn (by omega), by simp, nm2 (by omega) (by omega), nm2 (by omega) (by omega), nn (by omega), by simp, nm2 (by omega) (by omega), nm2 (by omega) (by omega), nm2 (by omega) (by omega), nm2 (by omega) (by omega)⟩
  an := nn (by omega)
  bn := nn (by omega)
theorem begins_X (t : Bool) (a : Addr) (its : Array Value) : Begins (.ref a) { cls := .type (if t = true then "tuple_iterator" else "list_iterator"), data := .fields #[.ref a, .int 0 0] } fun h => SeqX t h a its := by
  cases t with
  | true => exact begins_tuple a its
  | false => exact begins_list a its
theorem iterX_new {t : Bool} {h : Heap} {it a : Addr} (e : h.get? it = some { cls := .type (if t = true then "tuple_iterator" else "list_iterator"), data := .fields #[.ref a, .int 0 0] }) : IterX t h it a 0 := by
  cases t with
  | true => exact ⟨_, e, rfl, rfl⟩
  | false => exact ⟨_, e, rfl, rfl⟩
def iZipX (K : PySem.W.Frag) (ta : TA) : TI := fun σ H R => ta σ H fun vs H1 => ∃ (t u : Bool) (a b : Addr) (xs ys : List V), vs = [.ref a, .ref b] ∧ SqX K t H1 a xs ∧ SqX K u H1 b ys ∧ R (ItX K t u a b) H1
theorem pi_zipX {X : Cx} {e e2 : Expr} {ta : TA} {p pos tpos : Pos} {elts : List Expr} {kk : Nat} (hg : Gl X "zip") (hm : X.mg "zip" = none) (ha : PA X [e, e2] ta)
    (hs : starEach [e, e2] X.env = (false, eval e X.env) :: starEach [e2] X.env := by with_unfolding_all rfl) (hpl : (backTo pos (starEach [e2] X.env)).any (·.1) = false := by with_unfolding_all rfl) :
    PI X (.Tuple elts kk tpos) (.Call (.Name "zip" p) [e, e2] [] pos) (iZipX X.K ta) := by
  refine ⟨fun pins s σ H R I h => ?_⟩
  refine Call_ (ld_blt I hg hm PyProof.Rows.boot_zip (PyProof.Rows.callWith_type1 (thn (ha.run pos pins s σ H _ I h) fun us s1 ⟨vs, H1, I1, r1, t, u, a, b, xs, ys, ex, hqx, hqy, q⟩ => ?_) hs hpl))
  subst ex
  cases r1 with
  | cons r rr =>
    cases rr with
    | cons r' rr =>
      cases rr
      cases r
      cases r'
      obtain ⟨its, rv, p1, la⟩ := SqX.at_ I1 hqx
      obtain ⟨its2, rv2, p2, lb⟩ := SqX.at_ I1 hqy
      refine zip_begins2 (begins_X t a its.toArray) (begins_X u b its2.toArray) p1 p2 fun h' hz hTI hTO g1 g2 hsz hk => wpAny_pyIter_zip hz ?_
      have I2 : Inv X pins σ H1 { s1 with heap := h' } := I1.kept (t' := s1.toks) hk
      refine ⟨s1.heap.objs.size + 4, [s1.heap.objs.size + 4, s1.heap.objs.size + 2, s1.heap.objs.size + 3, s1.heap.objs.size, s1.heap.objs.size + 1], _, _, H1, rfl, I2, turn_X (apart_of la lb), ⟨hz, hTI, ⟨_, _, hTO⟩, iterX_new g1, iterX_new g2⟩, fun c hcm => ?_, q⟩
      have hle : s1.heap.objs.size ≤ c := by
        simp only [List.mem_cons, List.not_mem_nil, or_false] at hcm
        rcases hcm with rfl | rfl | rfl | rfl | rfl
        · exact Nat.le_add_right _ _
        · exact Nat.le_add_right _ _
        · exact Nat.le_add_right _ _
        · exact Nat.le_refl _
        · exact Nat.le_add_right _ _
      exact I1.fpOk hle (I1.hok.fresh hle)
/-- the items of two lists side by side -/
def zipD (xs ys : List D) : List D := xs.zipWith (fun x y => D.tup [x, y]) ys
theorem zipD_length {xs ys : List D} : (zipD xs ys).length = min xs.length ys.length := by simp [zipD]
theorem zipD_get {xs ys : List D} {i : Nat} {d : D} (h : (zipD xs ys)[i]? = some d) : ∃ x y, xs[i]? = some x ∧ ys[i]? = some y ∧ d = .tup [x, y] := by
  unfold zipD at h
  rw [List.getElem?_zipWith] at h
  cases e1 : xs[i]? with
  | none => rw [e1] at h; simp at h
  | some x =>
    cases e2 : ys[i]? with
    | none => rw [e1, e2] at h; simp at h
    | some y => rw [e1, e2] at h; simp at h; exact ⟨x, y, rfl, rfl, h.symm⟩
theorem SqX.mono {K : PySem.W.Frag} {t : Bool} {H H' : Hp} {a : Addr} {xs : List V} (e : Ex H H') (h : SqX K t H a xs) : SqX K t H' a xs := by
  cases t with
  | true => exact e.seqT h
  | false => exact e.seqL h
theorem seqX_rep {K : PySem.W.Frag} {G : Hp} {d : D} {ds : List D} {v : V} (q : Seq d ds) (r : Rep K G d v) : ∃ t a vs, v = .ref a ∧ SqX K t G a vs ∧ RepL K G ds vs := by
  obtain ⟨a, vs, e, h, rl⟩ := seq_rep q r
  rcases h with h | h
  · exact ⟨false, a, vs, e, h, rl⟩
  · exact ⟨true, a, vs, e, h, rl⟩
theorem jrep_zip {X : Cx} {G : Hp} {t u : Bool} {a b : Addr} {ds es : List D} {vs ws : List V} (hq : SqX X.K t G a vs) (hq2 : SqX X.K u G b ws) (rl : RepL X.K G ds vs) (rl2 : RepL X.K G es ws) : JRep X.K G (zipD ds es) (ItX X.K t u a b) where
  go := fun i G1 H e1 e2 hi => by
    rw [zipD_length] at hi
    have h1 : i < vs.length := by rw [rl.length]; omega
    have h2 : i < ws.length := by rw [rl2.length]; omega
    exact ⟨vs, ws, vs[i], ws[i], (hq.mono e1).mono e2, (hq2.mono e1).mono e2, by simp [h1], by simp [h2]⟩
  stop := fun i G1 H e1 e2 hi => ⟨vs, ws, (hq.mono e1).mono e2, (hq2.mono e1).mono e2, by rw [rl.length, rl2.length, ← zipD_length]; exact hi⟩
  yld := fun i G1 H x H' d e1 e2 hd ⟨T, x1, y1, ev, hT, eH, hx, hy⟩ => by
    obtain ⟨d1, d2, g1, g2, ed⟩ := zipD_get hd
    obtain ⟨v1, k1, r1⟩ := rl.get g1
    obtain ⟨v2, k2, r2⟩ := rl2.get g2
    have a1 := hx vs ((hq.mono e1).mono e2)
    have a2 := hy ws ((hq2.mono e1).mono e2)
    rw [k1] at a1
    rw [k2] at a2
    cases a1
    cases a2
    exact .inr ⟨T, [x1, y1], [d1, d2], hT, eH, ed, .cons (r1.mono e1) (.cons (r2.mono e1) .nil), ev⟩
section
variable {X : Cx} {N : List Str} {sc : Scope} {δ : DEnv} {O : Own} {E : XD → Own → Prop} {pos p : Pos}
theorem di_zip {e e2 : Expr} {elts : List Expr} {kk : Nat} {tpos : Pos} {QI : List D → Own → Prop} (S : Sc X N sc) (hm : X.mg "zip" = none) (h : DA X [e, e2] δ O E fun ds O1 => ∃ d d2 xs ys, ds = [d, d2] ∧ Seq d xs ∧ Seq d2 ys ∧ QI (zipD xs ys) O1) (hg : Nk ("zip" : Str) .globalImplicit sc.names := by (repeat (with_reducible constructor)))
    (hs : starEach [e, e2] X.env = (false, eval e X.env) :: starEach [e2] X.env := by with_unfolding_all rfl) (hpl : (backTo pos (starEach [e2] X.env)).any (·.1) = false := by with_unfolding_all rfl) : DI X (.Tuple elts kk tpos) (.Call (.Name "zip" p) [e, e2] [] pos) δ O E QI :=
  di_of (pi_zipX (S.gl hg) hm pa_sem hs hpl) fun W tk G σ H Q' p r s hE hQ => h W tk G σ H _ p r s hE fun G' H' O' ds vs st rl ⟨d, d2, xs, ys, e, q1, q2, q⟩ => by
    subst e
    cases rl with
    | cons r1 rr =>
      cases rr with
      | cons r2 rr =>
        cases rr
        obtain ⟨t, a, vs, e1, hq, rl⟩ := seqX_rep q1 r1
        obtain ⟨u, b, ws, e2, hq2, rl2⟩ := seqX_rep q2 r2
        subst e1 e2
        refine ⟨t, u, a, b, vs, ws, rfl, hq.mono st.sta.sub, hq2.mono st.sta.sub, hQ _ _ _ _ _ st (jrep_zip (X := X) hq hq2 rl rl2) q⟩
theorem zip2_in {d d2 : D} {xs ys : List D} {C : List D → List D → Prop} (h1 : Seq d xs) (h2 : Seq d2 ys) (q : C xs ys) : ∃ a b xs ys, [d, d2] = [a, b] ∧ Seq a xs ∧ Seq b ys ∧ C xs ys := ⟨d, d2, xs, ys, rfl, h1, h2, q⟩
end
end DL

end

section
set_option maxRecDepth 100000
set_option maxHeartbeats 4000000
set_option autoImplicit false
/-! The data layer: more operations. -/
namespace DL
open PySem PySem.Spec PyProof.Rows L2
/-! ### comprehensions whose items are drawn -/
inductive LcAcc {α : Type} (ρ : α → List D → Prop) : List α → List D → Prop
  | nil : LcAcc ρ [] []
  | snoc {xs : List α} {acc : List D} {x : α} {ys : List D} : LcAcc ρ xs acc → ρ x ys → LcAcc ρ (xs ++ [x]) (acc ++ ys)
def LcR (X : Cx) (N : List Str) (sc : Scope) (elt tg : Expr) (ifs : List Expr) (vs : List Nat) (δw : DEnv) (O : Own) {α : Type} (xs : List α) (enc : α → D) (ρ : α → List D → Prop) : Prop :=
  ∀ x ∈ xs, ∀ X', Blk X X' N sc → DGc X' tg (enc x) vs δw O fun δ2 O2 => ∀ X', Blk X X' N sc → DTs X' ifs δ2 O2 noE fun b O3 =>
    (b = true → ∀ X', Blk X X' N sc → DE X' elt δ2 O3 noE fun y O4 => O4 = O ∧ ρ x [y]) ∧ (b = false → O3 = O ∧ ρ x [])
section
variable {X : Cx} {N : List Str} {sc scope : Scope} {δ : DEnv} {O : Own} {E : XD → Own → Prop} {Q : D → Own → Prop} {pos p : Pos} {B : Bk} {nx : DEnv → Own → Prop}
theorem lcR_body {sc' : Scope} {elt tg : Expr} {ifs : List Expr} {vs : List Nat} {δw : DEnv} {α : Type} {xs : List α} {enc : α → D} {ρ : α → List D → Prop} (S : Sc X N sc) (hrel : relS scope sc = sc') (hnm : nmOk sc' = true) (hl : xs.length ≤ 100000) (h : LcR X N sc' elt tg ifs vs δw O xs enc ρ) :
    LcBody X elt tg ifs scope vs δw (xs.map enc) fun i acc O' => LcAcc ρ (xs.take i) acc ∧ acc.length ≤ i ∧ O' = O := by
  rintro i d acc O' hd ⟨ea, la, rfl⟩ s H C cl fp
  rw [List.getElem?_map] at hd
  cases hx : xs[i]? with
  | none => rw [hx] at hd; simp at hd
  | some x =>
    rw [hx] at hd
    simp only [Option.map_some, Option.some.injEq] at hd
    subst hd
    have hi : i < xs.length := (List.getElem?_eq_some_iff.1 hx).1
    have et : xs.take (i + 1) = xs.take i ++ [x] := by rw [List.take_add_one, hx]; rfl
    have h1 := h x (List.mem_of_getElem? hx) _ (blk_of S hrel hnm (s := s) (H := H) (C := C) (cl := cl) (fp := fp))
    intro v G σ H2 Q2 rd r s2 hk
    refine h1 v G σ H2 Q2 rd r s2 fun G' H' O1 δ' σ' st r' w q => hk G' H' O1 δ' σ' st r' w ?_
    intro s3 H3 C3 cl3 fp3
    refine M.imp (q _ (blk_of S hrel hnm (s := s3) (H := H3) (C := C3) (cl := cl3) (fp := fp3))) fun b O3 ⟨qt, qf⟩ => ⟨fun hb s4 H4 C4 cl4 fp4 => ?_, fun hb => ?_⟩
    · refine M.imp (qt hb _ (blk_of S hrel hnm (s := s4) (H := H4) (C := C4) (cl := cl4) (fp := fp4))) fun y O4 ⟨e1, e2⟩ => ?_
      subst e1
      exact ⟨by omega, by rw [et]; exact .snoc ea e2, by simp; omega, rfl⟩
    · obtain ⟨e1, e2⟩ := qf hb
      subst e1
      exact ⟨by rw [et]; have := LcAcc.snoc ea e2; rwa [List.append_nil] at this, by omega, rfl⟩
theorem de_lcRc {elt tg iter : Expr} {ifs : List Expr} (own : List (Str × Nat)) (sc' : Scope) (S : Sc X N sc)
    (h : DI X tg iter δ O E fun ds O1 => ∃ δw, Wp δ (own.map (·.2)) δw ∧ ∃ (α : Type) (xs : List α) (enc : α → D) (ρ : α → List D → Prop), ds = xs.map enc ∧ xs.length ≤ 100000 ∧ LcR X N sc' elt tg ifs (own.map (·.2)) δw O1 xs enc ρ ∧ ∀ acc, LcAcc ρ xs acc → NewL acc O1 Q)
    (ok : blkC N sc scope own = true := by decide +kernel) (hrel : relS scope sc = sc' := by with_unfolding_all rfl) (hnm : nmOk sc' = true := by decide +kernel) (hs : ∀ x, foldedSetIterable iter X.env x = pure x := by intro _; with_unfolding_all rfl) : DE X (.ListComp elt [⟨tg, iter, ifs, 0⟩] scope pos) δ O E Q := by
  refine de_lc own S (blkOk_by ok) ?_ hs
  refine M.imp h fun ds O1 ⟨δw, hw, α, xs, enc, ρ, e, hl, hb, n⟩ => ?_
  subst e
  refine ⟨δw, hw, _, ⟨.nil, Nat.le_refl _, rfl⟩, lcR_body S hrel hnm hl hb, ?_⟩
  rintro acc O' ⟨ha, _, rfl⟩
  rw [List.length_map, List.take_length] at ha
  exact n acc ha
theorem ds_setLcRc {x : Str} {i : Nat} {py : Pos} {elt tg iter : Expr} {ifs : List Expr} {lpos : Pos} (own : List (Str × Nat)) (sc' : Scope) (S : Sc X N sc) (hi : Ix x N i)
    (h : DI X tg iter δ O (fun x O' => B.ex x δ O') fun ds O1 => ∃ δw, Wp δ (own.map (·.2)) δw ∧ ∃ (α : Type) (xs : List α) (enc : α → D) (ρ : α → List D → Prop), ds = xs.map enc ∧ xs.length ≤ 100000 ∧ LcR X N sc' elt tg ifs (own.map (·.2)) δw O1 xs enc ρ ∧ ∀ acc, LcAcc ρ xs acc → NewL acc O1 fun d O2 => ∃ δ', SetD d δ i δ' ∧ nx δ' O2)
    (ok : blkC N sc scope own = true := by decide +kernel) (hrel : relS scope sc = sc' := by with_unfolding_all rfl) (hnm : nmOk sc' = true := by decide +kernel)
    (hk : sc.kind = .function := by with_unfolding_all rfl) (hl : Nk x .local sc.names := by (repeat (with_reducible constructor))) (hln : (py.line == lpos.line) = true := by with_unfolding_all rfl) (ha : (scope.names.any fun (n, k) => n == x && (k == .local || k == .cell)) = false := by decide +kernel) (hs : ∀ x, foldedSetIterable iter X.env x = pure x := by intro _; with_unfolding_all rfl) :
    DS X (.Assign [.Name x py] (.ListComp elt [⟨tg, iter, ifs, 0⟩] scope lpos) pos) δ O B nx := by
  refine ds_setLc own S hi (blkOk_by ok) ?_ hk hl hln ha hs
  refine M.imp h fun ds O1 ⟨δw, hw, α, xs, enc, ρ, e, hl, hb, n⟩ => ?_
  subst e
  refine ⟨δw, hw, _, ⟨.nil, Nat.le_refl _, rfl⟩, lcR_body S hrel hnm hl hb, ?_⟩
  rintro acc O' ⟨ha, _, rfl⟩
  rw [List.length_map, List.take_length] at ha
  exact n acc ha
theorem lcacc_sub {α : Type} {ρ : α → List D → Prop} {enc : α → D} (h : ∀ x ys, ρ x ys → ys = [enc x] ∨ ys = []) {xs : List α} {acc : List D} (a : LcAcc ρ xs acc) : ∃ zs : List α, zs.Sublist xs ∧ acc = zs.map enc := by
  induction a with
  | nil => exact ⟨[], .refl _, rfl⟩
  | @snoc xs acc x ys _ r ih =>
    obtain ⟨zs, s, e⟩ := ih
    subst e
    rcases h x ys r with rfl | rfl
    · exact ⟨zs ++ [x], s.append (.refl _), by simp⟩
    · exact ⟨zs, by have := s.append (List.nil_sublist [x]); rwa [List.append_nil] at this, by simp⟩
theorem lcacc_all {α β : Type} {ρ : α → List D → Prop} {P : β → Prop} {enc : β → D} (h : ∀ x ys, ρ x ys → ∃ b, ys = [enc b] ∧ P b) {xs : List α} {acc : List D} (a : LcAcc ρ xs acc) : ∃ zs : List β, zs.length = xs.length ∧ acc = zs.map enc ∧ ∀ b ∈ zs, P b := by
  induction a with
  | nil => exact ⟨[], rfl, rfl, fun _ h => nomatch h⟩
  | @snoc xs acc x ys _ r ih =>
    obtain ⟨zs, l, e, p⟩ := ih
    subst e
    obtain ⟨b, rfl, pb⟩ := h x ys r
    exact ⟨zs ++ [b], by simp [l], by simp, fun c hc => (List.mem_append.1 hc).elim (p c) fun hc => by rw [List.mem_singleton.1 hc]; exact pb⟩

/-! ### ints in a sequence -/
theorem flat_ints (l : List Int) : (l.map V.int).all flatV = true := by
  induction l with
  | nil => rfl
  | cons x l ih => rw [List.map_cons, List.all_cons, ih]; rfl
theorem inV_int (x : Int) : ∀ l : List Int, inV (.int x) (l.map V.int) = decide (x ∈ l)
  | [] => rfl
  | y :: l => by
    have ih := inV_int x l
    unfold inV at ih ⊢
    rw [List.map_cons, List.any_cons, ih]
    by_cases h : x = y
    · subst h
      simp [eqV]
    · have h' : ¬ y = x := fun z => h z.symm
      simp [eqV, h, h']
theorem db_inI {x : Int} {is : List Int} {d : D} (sq : Seq d (is.map D.int)) (q : Q (.bl (decide (x ∈ is))) O) : DB X (compareOp .In) (.int x) d δ O E Q := db_of op_in_seq fun v u W tk G σ H Q' p r s hE hQ => by
  obtain ⟨p1, p2⟩ := p
  obtain ⟨a, vs, e, hq, rl⟩ := seq_rep sq p2
  have e2 := repL_int rl
  cases p1
  subst e e2
  exact ⟨a, _, rfl, hq.imp (fun h => s.sub.seqL h) (fun h => s.sub.seqT h), rfl, flat_ints is, by
    show Q' (.bl (inV (.int x) (is.map V.int))) H
    rw [inV_int]
    exact hQ _ _ _ _ _ (Step.refl s) (.bl _) q⟩
theorem db_notInI {x : Int} {is : List Int} {d : D} (sq : Seq d (is.map D.int)) (q : Q (.bl (!decide (x ∈ is))) O) : DB X (compareOp .NotIn) (.int x) d δ O E Q := db_of op_notIn_seq fun v u W tk G σ H Q' p r s hE hQ => by
  obtain ⟨p1, p2⟩ := p
  obtain ⟨a, vs, e, hq, rl⟩ := seq_rep sq p2
  have e2 := repL_int rl
  cases p1
  subst e e2
  exact ⟨a, _, rfl, hq.imp (fun h => s.sub.seqL h) (fun h => s.sub.seqT h), rfl, flat_ints is, by
    show Q' (.bl (!inV (.int x) (is.map V.int))) H
    rw [inV_int]
    exact hQ _ _ _ _ _ (Step.refl s) (.bl _) q⟩

/-! ### -i, max, min, divmod, sorted -/
theorem de_neg {e : Expr} (h : DE X e δ O E fun d O1 => ∃ i, d = .int i ∧ Q (.int (-i)) O1) : DE X (.UnaryOp .USub e pos) δ O E Q :=
  de_of (pe_un un_neg pe_sem) fun W tk G σ H Q' p r s hE hQ => h W tk G σ H _ p r s hE fun G1 H1 O1 d v st rd ⟨i, ed, q⟩ => by
    subst ed
    cases rd
    exact ⟨i, rfl, hQ _ _ _ _ _ st (.int _) q⟩
theorem dc_max2 {i j : Int} (hc : X.calm = true) (q : Q (.int (max i j)) O) : DC X (.builtin "max") [.int i, .int j] δ O E Q := dc_of (call_max2 hc) fun vs W tk G σ H Q' p r s hE hQ => by
  cases p with
  | cons p1 pr =>
    cases p1
    cases pr with
    | cons p2 pr =>
      cases p2
      cases pr
      refine ⟨i, j, rfl, ?_⟩
      rw [show (if j > i then j else i) = max i j by split <;> omega]
      exact hQ _ _ _ _ _ (Step.refl s) (.int _) q
theorem dc_min2 {i j : Int} (hc : X.calm = true) (q : Q (.int (min i j)) O) : DC X (.builtin "min") [.int i, .int j] δ O E Q := dc_of (call_min2 hc) fun vs W tk G σ H Q' p r s hE hQ => by
  cases p with
  | cons p1 pr =>
    cases p1
    cases pr with
    | cons p2 pr =>
      cases p2
      cases pr
      refine ⟨i, j, rfl, ?_⟩
      rw [show (if j < i then j else i) = min i j by split <;> omega]
      exact hQ _ _ _ _ _ (Step.refl s) (.int _) q
/-- a list whose items are ints -/
theorem ints_rep {K : PySem.W.Frag} {G : Hp} {d : D} {is : List Int} {v : V} (sq : Seq d (is.map D.int)) (hl : isLstD d = true) (r : Rep K G d v) : ∃ a, v = .ref a ∧ SqL K G a (is.map V.int) := by
  cases d with
  | lst ds =>
    cases sq
    cases r with
    | lst h rl => exact ⟨_, rfl, by rw [← repL_int rl]; exact .inl (.inl h)⟩
  | fz ds =>
    cases sq
    cases r with
    | fz h rl => exact ⟨_, rfl, by rw [← repL_int rl]; exact h⟩
  | _ => cases hl
theorem dc_maxL {is : List Int} {d : D} (hc : X.calm = true) (sq : Seq d (is.map D.int)) (hl : isLstD d = true) (hn : 0 < is.length) (q : ∀ m, m ∈ is → (∀ y ∈ is, y ≤ m) → Q (.int m) O) : DC X (.builtin "max") [d] δ O E Q := dc_of (cr_max hc) fun vs W tk G σ H Q' p r s hE hQ => by
  cases p with
  | cons p1 pr =>
    cases pr
    obtain ⟨a, e, h⟩ := ints_rep sq hl p1
    subst e
    exact ⟨a, is, rfl, s.sub.seqL h, hn, fun m h1 h2 => hQ _ _ _ _ _ (Step.refl s) (.int _) (q m h1 h2)⟩
theorem dc_minL {is : List Int} {d : D} (hc : X.calm = true) (sq : Seq d (is.map D.int)) (hl : isLstD d = true) (hn : 0 < is.length) (q : ∀ m, m ∈ is → (∀ y ∈ is, m ≤ y) → Q (.int m) O) : DC X (.builtin "min") [d] δ O E Q := dc_of (cr_min hc) fun vs W tk G σ H Q' p r s hE hQ => by
  cases p with
  | cons p1 pr =>
    cases pr
    obtain ⟨a, e, h⟩ := ints_rep sq hl p1
    subst e
    exact ⟨a, is, rfl, s.sub.seqL h, hn, fun m h1 h2 => hQ _ _ _ _ _ (Step.refl s) (.int _) (q m h1 h2)⟩
theorem dc_sortedI {is : List Int} {d : D} (sq : Seq d (is.map D.int)) (hl : isLstD d = true) (hn : is.length < 64) (q : ∀ js : List Int, js.Perm is → js.Pairwise (· ≤ ·) → NewL (js.map D.int) O Q) : DC X (.builtin "sorted") [d] δ O E Q := dc_of cr_sorted fun vs W tk G σ H Q' p r s hE hQ => by
  cases p with
  | cons p1 pr =>
    cases pr
    obtain ⟨a, e, h⟩ := ints_rep sq hl p1
    subst e
    exact ⟨a, is, rfl, s.sub.seqL h, hn, fun js p' h1 h2 hp => m_newL s (repL_map (fun _ => .int _) js) (q js h1 h2) hQ p' hp⟩
theorem dc_divmod {i j : Int} (hd : CDiv i j) (q : Q (.tup [.int (i / j), .int (i % j)]) O) : DC X (.builtin "divmod") [.int i, .int j] δ O E Q := dc_of call_divmod fun vs W tk G σ H Q' p r s hE hQ => by
  cases p with
  | cons p1 pr =>
    cases p1
    cases pr with
    | cons p2 pr =>
      cases p2
      cases pr
      refine ⟨i, j, rfl, hd, fun a ha => ?_⟩
      have st := Step.new s (o := .tup [.int (i / j), .int (i % j)]) ha
      exact hQ _ _ _ _ _ st (.tup (SqT.of upd_same) (.cons (.int _) (.cons (.int _) .nil))) q
/-- tuple + tuple -/
theorem db_catT {xs ys : List D} (hx : xs ≠ []) (hz : xs.length + ys.length ≤ 100000) (q : Q (.tup (xs ++ ys)) O) : DB X (binaryOp .Add) (.tup xs) (.tup ys) δ O E Q := db_of op_catT fun v u W tk G σ H Q' p r s hE hQ => by
  obtain ⟨p1, p2⟩ := p
  cases p1 with
  | tup h1 r1 =>
    cases p2 with
    | tup h2 r2 =>
      refine ⟨_, _, _, _, rfl, rfl, s.sub.seqT h1, s.sub.seqT h2, fun z => ?_, by rw [r1.length, r2.length]; exact Nat.le_trans hz (by decide), fun z => ?_, fun _ a ha => ?_⟩
      · subst z
        cases r1
        exact hx rfl
      · subst z
        cases r2
        rw [List.append_nil] at q
        exact hQ _ _ _ _ _ (Step.refl s) (.tup h1 r1) q
      · exact hQ _ _ _ _ _ (Step.new s ha) (.tup (SqT.of upd_same) ((r1.mono (Step.new s ha).g).append (r2.mono (Step.new s ha).g))) q
/-! ### lo < x <= hi and the like -/
theorem dt_chI {op op' : CmpOp} {f g : Int → Int → Bool} {a b c : Expr} (ho : OpR X (compareOp op) (rI0 fun i j => .bl (f i j))) (ho' : OpR X (compareOp op') (rI0 fun i j => .bl (g i j))) {QT : Bool → Own → Prop}
    (h : DE X a δ O E fun x O1 => DE X b δ O1 E fun y O2 => ∃ i j, x = .int i ∧ y = .int j ∧ (f i j = true → DE X c δ O2 E fun z O3 => ∃ k, z = .int k ∧ QT (g j k) O3) ∧ (f i j = false → QT false O2))
    (hm : lastMarks [op, op'] [b, c] = false := by with_unfolding_all rfl) : DT X (.Compare a [op, op'] [b, c] pos) δ O E QT :=
  dt_chain ho ho' (M.imp h fun x O1 h1 => M.imp h1 fun y O2 ⟨i, j, ex, ey, h2, h3⟩ => by
    subst ex ey
    intro v u W tk G σ H Q' p r s hE hQ
    obtain ⟨p1, p2⟩ := p
    cases p1
    cases p2
    refine ⟨i, j, rfl, rfl, _, rfl, ?_⟩
    cases hij : f i j with
    | true =>
      rw [if_pos rfl]
      exact h2 hij W tk G σ H _ trivial r s hE fun G1 H1 O1 d v st rd ⟨k, ed, q⟩ => by
        subst ed
        cases rd
        exact ⟨j, k, rfl, rfl, hQ _ _ _ _ _ st (.bl _) ⟨_, rfl, q⟩⟩
    | false =>
      rw [if_neg Bool.false_ne_true]
      exact hQ _ _ _ _ _ (Step.refl s) (.bl _) ⟨_, rfl, h3 hij⟩) hm
theorem dt_ltle {a b c : Expr} {QT : Bool → Own → Prop} (h : DE X a δ O E fun x O1 => DE X b δ O1 E fun y O2 => ∃ i j, x = .int i ∧ y = .int j ∧ (decide (i < j) = true → DE X c δ O2 E fun z O3 => ∃ k, z = .int k ∧ QT (decide (j ≤ k)) O3) ∧ (decide (i < j) = false → QT false O2))
    (hm : lastMarks [.Lt, .LtE] [b, c] = false := by with_unfolding_all rfl) : DT X (.Compare a [.Lt, .LtE] [b, c] pos) δ O E QT := dt_chI op_lt op_le h hm
theorem dt_lelt {a b c : Expr} {QT : Bool → Own → Prop} (h : DE X a δ O E fun x O1 => DE X b δ O1 E fun y O2 => ∃ i j, x = .int i ∧ y = .int j ∧ (decide (i ≤ j) = true → DE X c δ O2 E fun z O3 => ∃ k, z = .int k ∧ QT (decide (j < k)) O3) ∧ (decide (i ≤ j) = false → QT false O2))
    (hm : lastMarks [.LtE, .Lt] [b, c] = false := by with_unfolding_all rfl) : DT X (.Compare a [.LtE, .Lt] [b, c] pos) δ O E QT := dt_chI op_le op_lt h hm
/-! ### a list against [] -/
theorem eqv_nil : ∀ ds : List D, PyData.eqv (toP (.lst ds)) (toP (.lst [])) = ds.isEmpty
  | [] => by simp [toP, toPs, PyData.eqv]; rfl
  | d :: ds => by simp [toP, toPs, PyData.eqv]; rfl
theorem db_eqNil {k : Nat} {d : D} {ds : List D} (hr : Room k X.A) (v : View O d (.lst ds)) (ok : okD (.lst ds)) (q : Q (.bl ds.isEmpty) O) : DB X (compareOp .Eq) d (.lst []) δ O E Q :=
  db_eqV hr v (.lst .nil) ok (okD_of rfl (by simp [depthD, depthDs])) (by rw [eqv_nil]; exact q)
theorem db_neNil {k : Nat} {d : D} {ds : List D} (hr : Room k X.A) (v : View O d (.lst ds)) (ok : okD (.lst ds)) (q : Q (.bl !ds.isEmpty) O) : DB X (compareOp .NotEq) d (.lst []) δ O E Q :=
  db_neV hr v (.lst .nil) ok (okD_of rfl (by simp [depthD, depthDs])) (by rw [eqv_nil]; exact q)
theorem star_tup {xs : List D} {C : List D → Prop} (q : C xs) : ∃ ys, (D.tup xs = .tup ys ∨ D.tup xs = .lst ys) ∧ C ys := ⟨xs, .inl rfl, q⟩
theorem star_lst {xs : List D} {C : List D → Prop} (q : C xs) : ∃ ys, (D.lst xs = .tup ys ∨ D.lst xs = .lst ys) ∧ C ys := ⟨xs, .inr rfl, q⟩
theorem as_DKw {kws : List Keyword} {QA : List D → Own → Prop} (h : DKw X kws δ O E QA) : DKw X kws δ O E QA := h
theorem as_DCk {f : Value} {ks : List Str} {ds es : List D} (h : DCk X f ks ds es δ O E Q) : DCk X f ks ds es δ O E Q := h
end
end DL

end

section
set_option maxRecDepth 100000
set_option maxHeartbeats 4000000
set_option autoImplicit false
/-! The program's data: rows, shifts, rounds. -/
namespace DL
open PySem PySem.Spec PyProof.Rows L2
theorem dOpt_none : dOpt none = .non := rfl
theorem dOpt_some (i : Int) : dOpt (some i) = .int i := rfl
/-- what sounds in each beat -/
def rowP (ns : List Note) : List (Option Int) := ns.flatMap fun n => List.replicate n.2.toNat n.1
theorem rowFrom_fst : ∀ (ns : List Note) (k : Nat), (rowFrom k ns).map (·.1) = rowP ns
  | [], _ => rfl
  | n :: r, k => by
    unfold rowP
    rw [rowFrom, List.map_append, rowFrom_fst r, List.flatMap_cons, List.map_replicate]
    rfl
theorem rowOf_fst (ns : List Note) : (rowOf ns).map (·.1) = rowP ns := rowFrom_fst ns 0
theorem rowP_length (ns : List Note) : (rowP ns).length = (rowOf ns).length := by rw [← rowOf_fst, List.length_map]
theorem Mel.rowP_len {ns : List Note} (m : Mel ns) : 1 ≤ (rowP ns).length ∧ (rowP ns).length ≤ 512 := by rw [rowP_length]; exact m.row_len
theorem rowP_append (a b : List Note) : rowP (a ++ b) = rowP a ++ rowP b := by simp [rowP]
/-- the pitch in a beat, the melody repeated for ever -/
def soundAt (ns : List Note) (b : Int) : Option Int := ((rowP ns)[(b % (rowP ns).length).toNat]?).getD none
/-- all pitches higher by k -/
def shiftN (k : Int) (ns : List Note) : List Note := ns.map fun n => (n.1.map (· + k), n.2)
theorem shiftN_length (k : Int) (ns : List Note) : (shiftN k ns).length = ns.length := by simp [shiftN]
theorem rowP_shift (k : Int) (ns : List Note) : rowP (shiftN k ns) = (rowP ns).map (·.map (· + k)) := by
  unfold rowP shiftN
  rw [List.flatMap_map, List.map_flatMap]
  congr 1
  funext n
  rw [List.map_replicate]
theorem soundAt_shift (k : Int) (ns : List Note) (b : Int) : soundAt (shiftN k ns) b = (soundAt ns b).map (· + k) := by
  unfold soundAt
  rw [rowP_shift, List.length_map, List.getElem?_map]
  cases (rowP ns)[(b % ((rowP ns).length : Int)).toNat]? <;> rfl
def inRange (ns : List Note) : Bool := ns.all fun n => match n.1 with | none => true | some p => decide (0 ≤ p ∧ p ≤ 127)
theorem okNote_iff {n : Note} : okNote n = true ↔ (∀ p, n.1 = some p → 0 ≤ p ∧ p ≤ 127) ∧ 1 ≤ n.2 ∧ n.2 ≤ 16 := by
  unfold okNote
  obtain ⟨p, b⟩ := n
  cases p with
  | none => simp
  | some p => simp
theorem mel_shift {k : Int} {ns : List Note} (m : Mel ns) (h : inRange (shiftN k ns) = true) : Mel (shiftN k ns) := by
  refine ⟨fun n hn => ?_, by rw [shiftN_length]; exact m.pos, by rw [shiftN_length]; exact m.le⟩
  have h1 := List.all_eq_true.1 h n hn
  obtain ⟨n0, h0, rfl⟩ := List.mem_map.1 hn
  have h2 := okNote_iff.1 (m.ok n0 h0)
  refine okNote_iff.2 ⟨fun p hp => ?_, h2.2⟩
  rw [hp] at h1
  exact of_decide_eq_true h1
theorem inRange_of {k : Int} {ns : List Note} (m : Mel (shiftN k ns)) : inRange (shiftN k ns) = true := List.all_eq_true.2 fun n hn => by
  have h2 := (okNote_iff.1 (m.ok n hn)).1
  cases e : n.1 with
  | none => rfl
  | some p => exact decide_eq_true (h2 p e)
theorem shift0 (ns : List Note) : shiftN 0 ns = ns := by
  unfold shiftN
  conv => rhs; rw [← List.map_id ns]
  refine List.map_congr_left fun n _ => ?_
  obtain ⟨p, b⟩ := n
  cases p <;> simp

/-! ### clashes -/
/-- two pitches, or none, clash -/
def clashP (sharp : List Int) (a b : Option Int) : Bool := match a, b with
  | some x, some y => decide ((if x - y < 0 then -(x - y) else x - y) % 12 ∈ sharp)
  | _, _ => false
def clashI (sharp : List Int) (row : List (Option Int)) (i j : Nat) : Bool := clashP sharp (row[i]?.getD none) (row[j]?.getD none)
/-- the pairs of voices that clash -/
def pairsOf (sharp : List Int) (row : List (Option Int)) : List (Nat × Nat) :=
  (List.range row.length).flatMap fun i => ((List.range' (i + 1) (row.length - (i + 1))).filter fun j => clashI sharp row i j).map fun j => (i, j)
structure Sharp (is : List Int) : Prop where
  rng : ∀ x ∈ is, 0 ≤ x ∧ x ≤ 11
  asc : is.Pairwise (· < ·)
theorem asc_len : ∀ {is : List Int} {lo hi : Int}, is.Pairwise (· < ·) → (∀ x ∈ is, lo ≤ x ∧ x ≤ hi) → (is.length : Int) ≤ max 0 (hi - lo + 1)
  | [], lo, hi, _, _ => by simp; omega
  | x :: is, lo, hi, ha, hr => by
    have ha' := List.pairwise_cons.1 ha
    have hx := hr x List.mem_cons_self
    have ih := asc_len (lo := x + 1) (hi := hi) ha'.2 fun y hy => ⟨by have := ha'.1 y hy; omega, (hr y (List.mem_cons_of_mem _ hy)).2⟩
    simp only [List.length_cons]
    omega
theorem Sharp.le {is : List Int} (h : Sharp is) : is.length ≤ 12 := by
  have := asc_len h.asc h.rng
  omega
theorem sharp_default : Sharp [1, 2, 6, 10, 11] := ⟨by decide, by decide⟩

/-! ### rounds -/
abbrev Voice := Int × Int
abbrev dVoice (v : Voice) : D := .tup [.int v.1, .int v.2]
def okVoice (v : Voice) : Bool := decide (0 ≤ v.1 ∧ v.1 ≤ 1000) && decide (-24 ≤ v.2 ∧ v.2 ≤ 24)
def maxL (l : List Int) : Int := l.foldl max 0
theorem maxL_ge : ∀ (l : List Int) (a : Int), a ≤ l.foldl max a ∧ ∀ x ∈ l, x ≤ l.foldl max a
  | [], a => ⟨Int.le_refl _, fun _ h => nomatch h⟩
  | y :: l, a => by
    have ih := maxL_ge l (max a y)
    rw [List.foldl_cons]
    exact ⟨by omega, fun x hx => (List.mem_cons.1 hx).elim (fun e => by rw [e]; omega) (ih.2 x)⟩
theorem maxL_mem : ∀ (l : List Int) (a : Int), l.foldl max a = a ∨ l.foldl max a ∈ l
  | [], a => .inl rfl
  | y :: l, a => by
    rw [List.foldl_cons]
    rcases maxL_mem l (max a y) with h | h
    · rw [h]
      rcases Int.le_total a y with q | q
      · right; rw [Int.max_eq_right q]; exact List.mem_cons_self
      · left; exact Int.max_eq_left q
    · right; exact List.mem_cons_of_mem _ h
theorem maxL_eq {l : List Int} {m : Int} (hm : m ∈ l) (h0 : ∀ x ∈ l, 0 ≤ x) (h : ∀ x ∈ l, x ≤ m) : maxL l = m := by
  have h1 := maxL_ge l 0
  have h2 := h1.2 m hm
  unfold maxL
  rcases maxL_mem l 0 with e | e
  · have := h0 m hm
    omega
  · have := h _ e
    omega
/-- the beat from which on all repeats -/
def startOf (vs : List Voice) : Int := maxL (vs.map (·.1))
structure Rnd (ns : List Note) (vs : List Voice) (sharp : List Int) : Prop where
  mel : Mel ns
  pos : 1 ≤ vs.length
  le : vs.length ≤ 8
  ok : ∀ v ∈ vs, okVoice v = true
  fits : ∀ v ∈ vs, Mel (shiftN v.2 ns)
  sharp : Sharp sharp
def dParts (M : Addr) (ns : List Note) (vs : List Voice) : List D := vs.map fun v => dMel M (shiftN v.2 ns)
def rndFs (M : Addr) (ns : List Note) (vs : List Voice) (sharp : List Int) : List (Str × D) :=
  [("melody", dMel M ns), ("voices", .tup (vs.map dVoice)), ("clashing", .tup (sharp.map D.int)), ("parts", .lst (dParts M ns vs)), ("start", .int (startOf vs))]
abbrev dRnd (R M : Addr) (ns : List Note) (vs : List Voice) (sharp : List Int) : D := .ins R (rndFs M ns vs sharp)
/-- what all voices sing in a beat -/
def soundsR (ns : List Note) (vs : List Voice) (b : Int) : List (Option Int) := vs.map fun v => if v.1 ≤ b then (soundAt ns (b - v.1)).map (· + v.2) else none
theorem soundsR_length {ns : List Note} {vs : List Voice} {b : Int} : (soundsR ns vs b).length = vs.length := by simp [soundsR]
theorem okVoice_iff {v : Voice} : okVoice v = true ↔ (0 ≤ v.1 ∧ v.1 ≤ 1000) ∧ -24 ≤ v.2 ∧ v.2 ≤ 24 := by simp [okVoice]
theorem startOf_ge {vs : List Voice} {v : Voice} (h : v ∈ vs) : v.1 ≤ startOf vs := (maxL_ge _ 0).2 _ (List.mem_map.2 ⟨v, h, rfl⟩)
theorem startOf_rng {vs : List Voice} (h : ∀ v ∈ vs, okVoice v = true) : 0 ≤ startOf vs ∧ startOf vs ≤ 1000 := by
  have h1 := (maxL_ge (vs.map (·.1)) 0).1
  refine ⟨h1, ?_⟩
  unfold startOf maxL
  rcases maxL_mem (vs.map (·.1)) 0 with e | e
  · rw [e]; decide
  · obtain ⟨v, hv, e2⟩ := List.mem_map.1 e
    rw [← e2]
    exact (okVoice_iff.1 (h v hv)).1.2
abbrev dPair (p : Nat × Nat) : D := .tup [.int (p.1 : Nat), .int (p.2 : Nat)]
abbrev dSnd (l : List (Option Int)) : List D := l.map dOpt
def sizeOf (ns : List Note) : Nat := (rowP ns).length
/-- the pairs that clash in a beat -/
def pairsAt (ns : List Note) (vs : List Voice) (sharp : List Int) (b : Int) : List (Nat × Nat) := pairsOf sharp (soundsR ns vs b)
/-- their numbers, until all repeats for the first time -/
def countsR (ns : List Note) (vs : List Voice) (sharp : List Int) : List Int := (List.range (startOf vs + sizeOf ns).toNat).map fun b => ((pairsAt ns vs sharp (b : Nat)).length : Int)
/-- the pairs, as far as two loops have come -/
def pairsFrom (sharp : List Int) (row : List (Option Int)) (i j : Nat) : List (Nat × Nat) := ((List.range' (i + 1) j).filter fun j => clashI sharp row i j).map fun j => (i, j)
def pairsTo (sharp : List Int) (row : List (Option Int)) (i : Nat) : List (Nat × Nat) := (List.range i).flatMap fun i => pairsFrom sharp row i (row.length - (i + 1))
theorem pairsTo_all (sharp : List Int) (row : List (Option Int)) : pairsTo sharp row row.length = pairsOf sharp row := rfl
theorem pairsTo_succ (sharp : List Int) (row : List (Option Int)) (i : Nat) : pairsTo sharp row (i + 1) = pairsTo sharp row i ++ pairsFrom sharp row i (row.length - (i + 1)) := by
  unfold pairsTo
  rw [List.range_succ, List.flatMap_append]
  simp
theorem pairsFrom_succ (sharp : List Int) (row : List (Option Int)) (i j : Nat) : pairsFrom sharp row i (j + 1) = pairsFrom sharp row i j ++ (if clashI sharp row i (i + 1 + j) then [(i, i + 1 + j)] else []) := by
  unfold pairsFrom
  rw [List.range'_concat, List.filter_append, List.map_append]
  simp only [Nat.one_mul]
  cases h : clashI sharp row i (i + 1 + j) <;> simp [h]
theorem pairsFrom_len (sharp : List Int) (row : List (Option Int)) (i j : Nat) : (pairsFrom sharp row i j).length ≤ j := by
  unfold pairsFrom
  rw [List.length_map]
  have := List.length_filter_le (fun j => clashI sharp row i j) (List.range' (i + 1) j)
  simpa using this
theorem pairsTo_len (sharp : List Int) (row : List (Option Int)) : ∀ i : Nat, (pairsTo sharp row i).length ≤ i * row.length
  | 0 => by simp [pairsTo]
  | i + 1 => by
    have h1 := pairsTo_len sharp row i
    have h2 := pairsFrom_len sharp row i (row.length - (i + 1))
    rw [pairsTo_succ, List.length_append, Nat.succ_mul]
    omega
end DL

end

section
set_option maxRecDepth 100000
set_option maxHeartbeats 4000000
set_option autoImplicit false
/-! The data layer: small words. -/
namespace DL
open PySem PySem.Spec PyProof.Rows L2
section
variable {X : Cx} {δ : DEnv} {O O3 : Own} {E : XD → Own → Prop} {Q : D → Own → Prop}
theorem fput_in {K : PySem.W.Frag} {a C : Addr} {fs : List (Str × D)} {g : Str} {y : D} {nx : Own → Prop} (ha : At a (.ins C fs) O) (c : Cls K C) (n : NoAttr K C g) (l : Nat.blt fs.length 900 = true) (p : Put a (.ins C (putD g y fs)) O O3) (q : nx O3) :
    ∃ a' C' fs' O3, D.ref a = .ref a' ∧ At a' (.ins C' fs') O ∧ Cls K C' ∧ NoAttr K C' g ∧ fs'.length < 900 ∧ Put a' (.ins C' (putD g y fs')) O O3 ∧ nx O3 := ⟨a, C, fs, O3, rfl, ha, c, n, Nat.lt_succ_of_le (by simpa [Nat.blt] using l), p, q⟩
theorem eqv_nilT : ∀ ds : List D, PyData.eqv (toP (.tup ds)) (toP (.tup [])) = ds.isEmpty
  | [] => by simp [toP, toPs, PyData.eqv]; rfl
  | d :: ds => by simp [toP, toPs, PyData.eqv]; rfl
theorem db_eqNilT {k : Nat} {ds : List D} (hr : Room k X.A) (ok : okD (.tup ds)) (q : Q (.bl ds.isEmpty) O) : DB X (compareOp .Eq) (.tup ds) (.tup []) δ O E Q :=
  db_eqV hr (view_plain _ ok.1) (.tup .nil) ok (okD_of rfl (by simp [depthD, depthDs])) (by rw [eqv_nilT]; exact q)
theorem db_neNilT {k : Nat} {ds : List D} (hr : Room k X.A) (ok : okD (.tup ds)) (q : Q (.bl !ds.isEmpty) O) : DB X (compareOp .NotEq) (.tup ds) (.tup []) δ O E Q :=
  db_neV hr (view_plain _ ok.1) (.tup .nil) ok (okD_of rfl (by simp [depthD, depthDs])) (by rw [eqv_nilT]; exact q)
end
/-! ### plain data, by its parts -/
theorem plainDs_all : ∀ {ds : List D}, (∀ d ∈ ds, plainD d = true) → plainDs ds = true
  | [], _ => rfl
  | d :: ds, h => by rw [plainDs, h d List.mem_cons_self, plainDs_all fun e he => h e (List.mem_cons_of_mem _ he)]; rfl
theorem depthDs_all {n : Nat} : ∀ {ds : List D}, (∀ d ∈ ds, depthD d ≤ n) → depthDs ds ≤ n
  | [], _ => Nat.zero_le _
  | d :: ds, h => by
    rw [depthDs]
    exact Nat.max_le.2 ⟨h d List.mem_cons_self, depthDs_all fun e he => h e (List.mem_cons_of_mem _ he)⟩
theorem okD_ltup {ds : List D} {n : Nat} (hp : ∀ d ∈ ds, plainD d = true) (hd : ∀ d ∈ ds, depthD d ≤ n) (hn : n ≤ 60) : okD (.tup ds) ∧ okD (.lst ds) := by
  have h1 := plainDs_all hp
  have h2 := depthDs_all hd
  exact ⟨okD_of h1 (by simp only [depthD]; omega), okD_of h1 (by simp only [depthD]; omega)⟩
theorem plain_dOpt (o : Option Int) : plainD (dOpt o) = true ∧ depthD (dOpt o) = 0 := by cases o <;> exact ⟨rfl, by simp [dOpt, depthD]⟩
theorem okD_snd (l : List (Option Int)) : okD (.lst (dSnd l)) := (okD_ltup (n := 0) (fun d h => by obtain ⟨o, _, rfl⟩ := List.mem_map.1 h; exact (plain_dOpt o).1) (fun d h => by obtain ⟨o, _, rfl⟩ := List.mem_map.1 h; rw [(plain_dOpt o).2]; exact Nat.le_refl _) (by decide)).2
theorem okD_pairs (l : List (Nat × Nat)) : okD (.lst (l.map dPair)) := (okD_ltup (n := 1) (fun d h => by obtain ⟨o, _, rfl⟩ := List.mem_map.1 h; rfl) (fun d h => by obtain ⟨o, _, rfl⟩ := List.mem_map.1 h; simp [depthD, depthDs]) (by decide)).2
theorem okD_voicesT (l : List Voice) : okD (.tup (l.map dVoice)) := (okD_ltup (n := 1) (fun d h => by obtain ⟨o, _, rfl⟩ := List.mem_map.1 h; rfl) (fun d h => by obtain ⟨o, _, rfl⟩ := List.mem_map.1 h; simp [depthD, depthDs]) (by decide)).1
theorem okD_intsL (l : List Int) : okD (.lst (l.map D.int)) := (okD_ltup (n := 0) (fun d h => by obtain ⟨o, _, rfl⟩ := List.mem_map.1 h; rfl) (fun d h => by obtain ⟨o, _, rfl⟩ := List.mem_map.1 h; simp [depthD]) (by decide)).2
theorem isEmpty_false {α : Type} {l : List α} (h : 1 ≤ l.length) : l.isEmpty = false := by cases l <;> simp at h ⊢
/-! ### rounds, on -/
/-- the number of beats that are looked at -/
def endR (ns : List Note) (vs : List Voice) : Nat := (startOf vs + DL.sizeOf ns).toNat
/-- the first clash -/
def firstR (ns : List Note) (vs : List Voice) (sharp : List Int) : Option (Nat × Nat × Nat) := (List.range (endR ns vs)).findSome? fun b => (pairsAt ns vs sharp (b : Nat)).head?.map fun p => (b, p.1, p.2)
def dFirst : Option (Nat × Nat × Nat) → D
  | none => .non
  | some p => .tup [.int (p.1 : Nat), .int (p.2.1 : Nat), .int (p.2.2 : Nat)]
theorem pairsOf_len (sharp : List Int) (row : List (Option Int)) : (pairsOf sharp row).length ≤ row.length * row.length := by
  rw [← pairsTo_all]
  exact pairsTo_len sharp row row.length
theorem pairsAt_len {ns : List Note} {vs : List Voice} {sharp : List Int} (h : vs.length ≤ 8) (b : Int) : (pairsAt ns vs sharp b).length ≤ 64 := by
  have h1 := pairsOf_len sharp (soundsR ns vs b)
  rw [soundsR_length] at h1
  exact Nat.le_trans h1 (Nat.mul_le_mul h h)
theorem endR_le {ns : List Note} {vs : List Voice} {sharp : List Int} (h : Rnd ns vs sharp) : (endR ns vs : Int) = startOf vs + DL.sizeOf ns ∧ endR ns vs ≤ 1512 ∧ 1 ≤ endR ns vs := by
  have h1 := startOf_rng h.ok
  have h2 := h.mel.rowP_len
  have e : DL.sizeOf ns = (rowP ns).length := rfl
  unfold endR
  omega
theorem countsR_length {ns : List Note} {vs : List Voice} {sharp : List Int} : (countsR ns vs sharp).length = endR ns vs := by simp [countsR, endR]
theorem countsR_get {ns : List Note} {vs : List Voice} {sharp : List Int} {b : Nat} (h : b < endR ns vs) : (countsR ns vs sharp)[b]? = some ((pairsAt ns vs sharp (b : Nat)).length : Int) := by
  unfold countsR
  rw [List.getElem?_map, List.getElem?_range (show b < (startOf vs + DL.sizeOf ns).toNat from h)]
  rfl
theorem findSome_range {β : Type} {f : Nat → Option β} : ∀ {n i : Nat} {y : β}, i < n → (∀ b, b < i → f b = none) → f i = some y → (List.range n).findSome? f = some y
  | n + 1, i, y, h, h1, h2 => by
    rw [List.range_succ, List.findSome?_append]
    rcases Nat.lt_or_ge i n with h3 | h3
    · rw [findSome_range h3 h1 h2]; rfl
    · have e : i = n := by omega
      subst e
      rw [List.findSome?_eq_none_iff.2 (fun b hb => h1 b (List.mem_range.1 hb))]
      simp [h2]
end DL

end

section
set_option maxRecDepth 100000
set_option maxHeartbeats 4000000
set_option autoImplicit false
/-! The data layer: sums over beats, rounds repeat. -/
namespace DL
open PySem PySem.Spec PyProof.Rows L2
/-! ### slices -/
theorem cut_to {xs : List D} {n : Int} (h : 0 ≤ n) : cutD xs none (some n) = xs.take n.toNat := by
  have e : ((max 0 (min n (xs.length : Int))).toNat) = min n.toNat xs.length := by omega
  simp only [cutD, HT.sIx, List.drop_zero, Nat.sub_zero, if_neg (show ¬ n < 0 by omega)]
  rw [← List.take_take]
  simp
theorem cut_from {xs : List D} {n : Int} (h : 0 ≤ n) : cutD xs (some n) none = xs.drop n.toNat := by
  simp only [cutD, HT.sIx, if_neg (show ¬ n < 0 by omega)]
  rcases Nat.le_total n.toNat xs.length with q | q
  · rw [Nat.min_eq_left q, List.take_of_length_le (by rw [List.length_drop]; omega)]
  · rw [Nat.min_eq_right q, List.drop_eq_nil_of_le (Nat.le_refl _), List.drop_eq_nil_of_le q]; simp
/-! ### sums -/
/-- the sum of the first so many -/
def upTo (f : Nat → Int) : Nat → Int
  | 0 => 0
  | n + 1 => upTo f n + f n
theorem upTo_sum (f : Nat → Int) : ∀ n, ((List.range n).map f).sum = upTo f n
  | 0 => rfl
  | n + 1 => by rw [List.range_succ, List.map_append, List.sum_append, upTo_sum f n]; simp [upTo]
theorem upTo_take (f : Nat → Int) (n k : Nat) : (((List.range n).map f).take k).sum = upTo f (min k n) := by
  rw [← List.map_take, List.take_range, upTo_sum]
theorem upTo_drop (f : Nat → Int) (n k : Nat) (h : k ≤ n) : (((List.range n).map f).drop k).sum = upTo f n - upTo f k := by
  have h1 := List.take_append_drop k ((List.range n).map f)
  have h2 := congrArg List.sum h1
  rw [List.sum_append, upTo_take, upTo_sum, Nat.min_eq_left h] at h2
  omega
theorem upTo_add (f : Nat → Int) (a : Nat) : ∀ b, upTo f (a + b) = upTo f a + upTo (fun i => f (a + i)) b
  | 0 => by simp [upTo]
  | b + 1 => by rw [← Nat.add_assoc, upTo, upTo_add f a b, upTo]; omega
theorem upTo_congr {f g : Nat → Int} : ∀ {n : Nat}, (∀ i, i < n → f i = g i) → upTo f n = upTo g n
  | 0, _ => rfl
  | n + 1, h => by rw [upTo, upTo, upTo_congr fun i q => h i (by omega), h n (by omega)]
theorem upTo_mono {f : Nat → Int} (h0 : ∀ i, 0 ≤ f i) {a : Nat} : ∀ {b : Nat}, a ≤ b → upTo f a ≤ upTo f b
  | 0, h => by rw [Nat.le_zero.1 h]; exact Int.le_refl _
  | b + 1, h => by
    rcases Nat.lt_or_ge b a with q | q
    · rw [show a = b + 1 by omega]; exact Int.le_refl _
    · have := upTo_mono h0 q; have := h0 b; rw [upTo]; omega
/-- from s on all repeats after z -/
def Per (f : Nat → Int) (s z : Nat) : Prop := ∀ i, s ≤ i → f (i + z) = f i
theorem Per.step {f : Nat → Int} {s z : Nat} (h : Per f s z) {b : Nat} (hb : s ≤ b) : upTo f (b + z) = upTo f b + (upTo f (s + z) - upTo f s) := by
  obtain ⟨r, rfl⟩ := Nat.le.dest hb
  rw [show s + r + z = (s + z) + r by omega, upTo_add f (s + z) r, upTo_add f s r]
  have e : upTo (fun i => f (s + z + i)) r = upTo (fun i => f (s + i)) r := upTo_congr fun i _ => by
    show f (s + z + i) = f (s + i)
    rw [show s + z + i = s + i + z by omega]
    exact h _ (by omega)
  rw [e]
  omega
theorem Per.times {f : Nat → Int} {s z : Nat} (h : Per f s z) {b : Nat} (hb : s ≤ b) : ∀ q : Nat, upTo f (b + q * z) = upTo f b + (q : Int) * (upTo f (s + z) - upTo f s)
  | 0 => by simp
  | q + 1 => by
    rw [show b + (q + 1) * z = (b + q * z) + z by rw [Nat.succ_mul]; omega, h.step (by omega), h.times hb q]
    rw [show ((q + 1 : Nat) : Int) = (q : Int) + 1 by omega, Int.add_mul]
    omega
/-- the beat with a number -/
def IsNth (f : Nat → Int) (n : Int) : Option Nat → Prop
  | none => ∀ b, upTo f b < n
  | some b => upTo f b < n ∧ n ≤ upTo f (b + 1)
theorem IsNth.uniq {f : Nat → Int} (h0 : ∀ i, 0 ≤ f i) {n : Int} {r t : Option Nat} (h1 : IsNth f n r) (h2 : IsNth f n t) : r = t := by
  cases r with
  | none =>
    cases t with
    | none => rfl
    | some b => have := h1 (b + 1); have := h2.2; omega
  | some c =>
    cases t with
    | none => have := h2 (c + 1); have := h1.2; omega
    | some b =>
      obtain ⟨a1, a2⟩ := h1
      obtain ⟨b1, b2⟩ := h2
      rcases Nat.lt_trichotomy b c with q | q | q
      · have := upTo_mono h0 (show b + 1 ≤ c from q); omega
      · rw [q]
      · have := upTo_mono h0 (show c + 1 ≤ b from q); omega
theorem nth_none {f : Nat → Int} {s z : Nat} (h0 : ∀ i, 0 ≤ f i) (hz : 0 < z) (hp : Per f s z) {n : Int} (hl : upTo f (s + z) - upTo f s = 0) (hn : upTo f s < n) : IsNth f n none := by
  intro b
  rcases Nat.le_total b s with q | q
  · have := upTo_mono h0 q; omega
  · have h1 : b ≤ s + b * z := by
      have := Nat.le_mul_of_pos_right b hz
      omega
    have h2 := upTo_mono h0 h1
    have h3 := hp.times (Nat.le_refl s) b
    rw [hl, Int.mul_zero] at h3
    omega
def dOptN : Option Nat → D
  | none => .non
  | some n => .int (n : Nat)
theorem dOptN_none : dOptN none = .non := rfl
theorem dOptN_some (n : Nat) : dOptN (some n) = .int (n : Nat) := rfl
/-! ### rounds repeat -/
def cntR (ns : List Note) (vs : List Voice) (sharp : List Int) (b : Nat) : Int := ((pairsAt ns vs sharp (b : Nat)).length : Int)
theorem cntR_nn {ns : List Note} {vs : List Voice} {sharp : List Int} (b : Nat) : 0 ≤ cntR ns vs sharp b := Int.natCast_nonneg _
theorem countsR_eq {ns : List Note} {vs : List Voice} {sharp : List Int} : countsR ns vs sharp = (List.range (endR ns vs)).map (cntR ns vs sharp) := rfl
theorem soundAt_per {ns : List Note} {b : Int} : soundAt ns (b + DL.sizeOf ns) = soundAt ns b := by
  unfold soundAt DL.sizeOf
  rw [Int.add_emod_right]
theorem soundsR_per {ns : List Note} {vs : List Voice} {b : Int} (h : startOf vs ≤ b) : soundsR ns vs (b + DL.sizeOf ns) = soundsR ns vs b := by
  unfold soundsR
  refine List.map_congr_left fun v hv => ?_
  have h1 := startOf_ge hv
  rw [if_pos (show v.1 ≤ b by omega), if_pos (show v.1 ≤ b + (DL.sizeOf ns : Nat) by omega), show b + (DL.sizeOf ns : Nat) - v.1 = b - v.1 + (DL.sizeOf ns : Nat) by omega, soundAt_per]
theorem pairsAt_per {ns : List Note} {vs : List Voice} {sharp : List Int} {b : Int} (h : startOf vs ≤ b) : pairsAt ns vs sharp (b + DL.sizeOf ns) = pairsAt ns vs sharp b := by
  unfold pairsAt
  rw [soundsR_per h]
theorem cntR_per {ns : List Note} {vs : List Voice} {sharp : List Int} : Per (cntR ns vs sharp) (startOf vs).toNat (DL.sizeOf ns) := fun i hi => by
  unfold cntR
  rw [show ((i + DL.sizeOf ns : Nat) : Int) = (i : Int) + (DL.sizeOf ns : Nat) by omega, pairsAt_per (by omega)]
theorem cntR_le {ns : List Note} {vs : List Voice} {sharp : List Int} (h : vs.length ≤ 8) (b : Nat) : cntR ns vs sharp b ≤ 64 := by
  have := pairsAt_len (ns := ns) (sharp := sharp) h (b : Nat)
  unfold cntR
  omega
theorem upTo_le {f : Nat → Int} {m : Nat} (h : ∀ i, f i ≤ (m : Int)) : ∀ n : Nat, upTo f n ≤ ((n * m : Nat) : Int)
  | 0 => by simp [upTo]
  | n + 1 => by
    have := upTo_le h n
    have := h n
    rw [upTo, Nat.succ_mul]
    omega
theorem lst_in {P : List D → Prop} {l : List D} (h : P l) : ∃ xs, D.lst l = .lst xs ∧ P xs := ⟨l, rfl, h⟩
theorem sum_to (f : Nat → Int) {n k : Nat} (h : k ≤ n) : (((List.range n).map f).take k).sum = upTo f k := by rw [upTo_take, Nat.min_eq_left h]
section
variable {X : Cx} {δ : DEnv} {O : Own} {B : Bk} {nx : DEnv → Own → Prop}
theorem DSs.imp {ss : List Stmt} {P : DEnv → Own → Prop} (h : DSs X ss δ O B P) (q : ∀ δ1 O1, P δ1 O1 → nx δ1 O1) : DSs X ss δ O B nx := fun W tk G σ H D r s l =>
  h W tk G σ H D r s ⟨fun _ _ _ _ _ s r p => l.nx _ _ _ _ _ s r (q _ _ p), l.rt, l.bk, l.ct, l.ex⟩
theorem br_via {c : Bool} {s1 s2 : List Stmt} (P : DEnv → Own → Prop) (h : (c = true → DSs X s1 δ O B P) ∧ (c = false → DSs X s2 δ O B P)) (q : ∀ δ1 O1, P δ1 O1 → nx δ1 O1) : (c = true → DSs X s1 δ O B nx) ∧ (c = false → DSs X s2 δ O B nx) :=
  ⟨fun e => (h.1 e).imp q, fun e => (h.2 e).imp q⟩
theorem rb_via {c : Bool} {s1 s2 : List Stmt} (P : DEnv → Own → Prop) (h : (c = false → DSs X s2 δ O B P) ∧ (c = true → DSs X s1 δ O B P)) (q : ∀ δ1 O1, P δ1 O1 → nx δ1 O1) : (c = false → DSs X s2 δ O B nx) ∧ (c = true → DSs X s1 δ O B nx) :=
  ⟨fun e => (h.1 e).imp q, fun e => (h.2 e).imp q⟩
end
/-! ### a, b = e, f where a name is a cell -/
theorem ite_none {α : Type} {c : Prop} {i : Decidable c} {n x : α} (h : x = n) : @ite _ c i n x = n := by
  split
  · rfl
  · exact h
theorem swap_no {env : Env} {x y : Str} {px py pt pt2 : Pos} {kt k2 : Nat} {a b : Expr} (h : env.scope.names.lookup x = some .cell ∨ env.scope.names.lookup y = some .cell) : swappedStores [.Tuple [.Name x px, .Name y py] kt pt] (.Tuple [a, b] k2 pt2) env = pure none := by
  rcases h with h | h
  · have kx : (env.kindOf x == some .local) = false := by unfold Env.kindOf; rw [h]; rfl
    unfold swappedStores
    simp only [List.length_cons, List.length_nil, List.any_cons, List.any_nil, List.head?_cons, Option.map_some, Option.getD_some, List.filterMap_cons, List.filterMap_nil, Expr.pos, kx, Bool.false_and, Bool.false_eq_true, if_false]
    refine ite_none (ite_none (if_pos ?_))
    split <;> simp
  · have kx : (env.kindOf y == some .local) = false := by unfold Env.kindOf; rw [h]; rfl
    unfold swappedStores
    simp only [List.length_cons, List.length_nil, List.any_cons, List.any_nil, List.head?_cons, Option.map_some, Option.getD_some, List.filterMap_cons, List.filterMap_nil, Expr.pos, kx, Bool.false_and, Bool.false_eq_true, if_false]
    refine ite_none (ite_none (if_pos ?_))
    split <;> simp
section
variable {X : Cx} {N : List Str} {sc : Scope} {δ : DEnv} {O : Own} {B : Bk} {nx : DEnv → Own → Prop} {pos : Pos}
theorem ds_parC {x y : Str} {a b : Expr} {px py pt : Pos} {kt k2 : Nat} {pt2 : Pos} (S : Sc X N sc) (hc : Nk x .cell sc.names ∨ Nk y .cell sc.names) (h : DE X (.Tuple [a, b] k2 pt2) δ O (fun x O' => B.ex x δ O') fun d O1 => DG X (.Tuple [.Name x px, .Name y py] kt pt) d δ O1 B.ex nx)
    (hs : swapsWithSole [.Tuple [.Name x px, .Name y py] kt pt] (.Tuple [a, b] k2 pt2) pos.line X.env = pure false := by with_unfolding_all rfl) : DS X (.Assign [.Tuple [.Name x px, .Name y py] kt pt] (.Tuple [a, b] k2 pt2) pos) δ O B nx :=
  ds_asg h hs (swap_no (hc.imp S.ce S.ce)) (by with_unfolding_all rfl)
end
section
variable {X : Cx} {δ : DEnv} {O : Own} {E : XD → Own → Prop} {Q : D → Own → Prop}
theorem ie_via {c : Bool} {e1 e2 : Expr} (P : D → Own → Prop) (h : (c = true → DE X e1 δ O E P) ∧ (c = false → DE X e2 δ O E P)) (q : ∀ d O1, P d O1 → Q d O1) : (c = true → DE X e1 δ O E Q) ∧ (c = false → DE X e2 δ O E Q) :=
  ⟨fun e => M.imp (h.1 e) q, fun e => M.imp (h.2 e) q⟩
end
end DL

end

section
set_option maxRecDepth 100000
set_option maxHeartbeats 4000000
set_option autoImplicit false
/-! The data layer: new lists that a call returns stand still; sorted pitches. -/
namespace DL
open PySem PySem.Spec PyProof.Rows L2
section
variable {X : Cx} {δ : DEnv} {O : Own} {E : XD → Own → Prop} {Q : D → Own → Prop}
/-- the new list that a call returns stands still -/
theorem dc_fz {f : Value} {args : List D} (h : DC X f args δ O E fun d O1 => ∃ a xs O2, d = .ref a ∧ At a (.lst xs) O1 ∧ Del a O1 O2 ∧ Q (.lst xs) O2) : DC X f args δ O E Q :=
  fun vs W tk G σ H Q' p r s hE hQ => h vs W tk G σ H Q' p r s hE fun G1 H1 O1 d v st rd ⟨a, xs, O2, ed, m, dl, q⟩ => by
    subst ed
    have ev := rep_ref rd
    subst ev
    obtain ⟨_, o, ho, rc⟩ := st.sta.at_ m
    obtain ⟨fz, rc'⟩ := Step.freeze st.sta m dl ho
    cases o with
    | lst ws => exact hQ _ _ _ _ _ (st.trans fz) (.lst upd_same rc') q
    | _ => exact rc.elim
end
/-! ### pitches that are heard -/
def sortI (l : List Int) : List Int := l.mergeSort (fun a b => decide (a ≤ b))
theorem sortI_perm (l : List Int) : (sortI l).Perm l := List.mergeSort_perm l _
theorem sortI_sorted (l : List Int) : (sortI l).Pairwise (· ≤ ·) := by
  have h := List.pairwise_mergeSort (le := fun a b : Int => decide (a ≤ b)) (fun a b c h1 h2 => by simp only [decide_eq_true_eq] at *; omega) (fun a b => by simp only [Bool.or_eq_true, decide_eq_true_eq]; omega) l
  exact h.imp fun h => of_decide_eq_true h
theorem sort_uniq {a b : List Int} (p : a.Perm b) (h1 : a.Pairwise (· ≤ ·)) (h2 : b.Pairwise (· ≤ ·)) : a = b := List.Perm.eq_of_pairwise (fun x y _ _ h3 h4 => Int.le_antisymm h3 h4) h1 h2 p
theorem sortI_eq {js l : List Int} (p : js.Perm l) (h : js.Pairwise (· ≤ ·)) : js = sortI l := sort_uniq (p.trans (sortI_perm l).symm) h (sortI_sorted l)
theorem sortI_iff {a b : List Int} : sortI a = sortI b ↔ a.Perm b := ⟨fun h => ((sortI_perm a).symm.trans (h ▸ .refl _)).trans (sortI_perm b), fun h => sort_uniq (((sortI_perm a).trans h).trans (sortI_perm b).symm) (sortI_sorted a) (sortI_sorted b)⟩
def heardL (row : List (Option Int)) : List Int := sortI (row.filterMap id)
theorem sortI_length (l : List Int) : (sortI l).length = l.length := (sortI_perm l).length_eq
theorem heardL_le (row : List (Option Int)) : (heardL row).length ≤ row.length := by unfold heardL; rw [sortI_length]; exact List.length_filterMap_le _ _
/-- the first of the beats -/
def IsFst (P : Nat → Prop) : Option Nat → Prop
  | none => ∀ b, ¬ P b
  | some b => P b ∧ ∀ c, c < b → ¬ P c
def optI : Option Int → List D
  | none => []
  | some p => [D.int p]
theorem heard_fm : ∀ row : List (Option Int), row.flatMap optI = (row.filterMap id).map D.int
  | [] => rfl
  | none :: row => by rw [List.flatMap_cons, heard_fm row]; rfl
  | some p :: row => by rw [List.flatMap_cons, heard_fm row]; rfl
theorem soundsR_times {ns : List Note} {vs : List Voice} {b : Int} (h : startOf vs ≤ b) : ∀ q : Nat, soundsR ns vs (b + ((q * DL.sizeOf ns : Nat) : Int)) = soundsR ns vs b
  | 0 => by simp
  | q + 1 => by
    rw [show b + (((q + 1) * DL.sizeOf ns : Nat) : Int) = (b + ((q * DL.sizeOf ns : Nat) : Int)) + (DL.sizeOf ns : Nat) by rw [Nat.succ_mul]; omega, soundsR_per (by omega), soundsR_times h q]
/-- from a beat on both repeat after so many beats -/
theorem soundsR_mod {ns : List Note} {vs : List Voice} {S M : Nat} (hS : startOf vs ≤ (S : Nat)) (hM : DL.sizeOf ns ∣ M) {b : Nat} (hb : S ≤ b) : soundsR ns vs (b : Nat) = soundsR ns vs ((S + (b - S) % M : Nat) : Int) := by
  obtain ⟨c, rfl⟩ := hM
  have h1 := Nat.mod_add_div (b - S) (DL.sizeOf ns * c)
  have h2 : b = (S + (b - S) % (DL.sizeOf ns * c)) + ((b - S) / (DL.sizeOf ns * c) * c) * DL.sizeOf ns := by
    rw [show ((b - S) / (DL.sizeOf ns * c) * c) * DL.sizeOf ns = DL.sizeOf ns * c * ((b - S) / (DL.sizeOf ns * c)) by rw [Nat.mul_comm (_ / _) c, Nat.mul_comm _ (DL.sizeOf ns), ← Nat.mul_assoc]]
    omega
  have h3 := soundsR_times (ns := ns) (vs := vs) (b := ((S + (b - S) % (DL.sizeOf ns * c) : Nat) : Int)) (by omega) ((b - S) / (DL.sizeOf ns * c) * c)
  rw [← h3]
  congr 1
  omega
theorem okN_ints (l : List Int) : okN 1 (.lst (l.map D.int)) := okN_lst fun d hd => by
  obtain ⟨i, _, rfl⟩ := List.mem_map.1 hd
  exact okN_int
theorem noBls_ints : ∀ l : List Int, noBls (l.map D.int) = true
  | [] => rfl
  | i :: l => by rw [List.map_cons, noBls, noBls_ints l]; rfl
theorem noBl_ints (l : List Int) : noBl (.lst (l.map D.int)) = true := by rw [noBl]; exact noBls_ints l
theorem ints_inj {l m : List Int} (h : D.lst (l.map D.int) = D.lst (m.map D.int)) : l = m := by
  injection h with h
  exact map_inj (fun a b e => D.int.inj e) h
end DL

end

section
set_option maxRecDepth 100000
set_option maxHeartbeats 4000000
set_option autoImplicit false
/-! The data layer: for loops in generators. -/
namespace L2
open PySem PySem.Spec PyProof.Rows GenW
open Sem (wp)
section
variable {M : Model} {A : Around} {R : GenEnd} {Y : Protocol} {n : Nat} {s₀ : Shared} {c : Code} {fs : List Frame} {s : Shared} {env : Env}
  {K : Flow → Sem PySem.Fin} {J : Value → Sem PySem.Fin} {gd : Bool → Bool} {lv : List Value → List Value}
theorem seg_For {tg iter : Expr} {body orelse : List Stmt} {pos : Pos}
    (h : wpAny M (A.over c fs) (eval iter env) (fun x s1 => wpAny M (A.over c fs) (pyIter x) (fun it s2 => ∀ p, Seg M A R Y n s₀ (.forLoop tg it body orelse env) (M.den (.forLoop tg it body orelse env))
      (.ret (fun r => ((match r with | .ok f => (.pure f : Sem Flow) | .error e => .raise e).onRaise (cameBack env)).wrap K J gd lv) none (gd false) (lv []) c p [] :: fs) s2) (fun e s' => Seg M A R Y n s₀ c (J e) fs s') s1) (fun e s' => Seg M A R Y n s₀ c (J e) fs s') s)
    (hs : ∀ x, foldedSetIterable iter env x = pure x := by intro _; rfl) :
    Seg M A R Y n s₀ c ((exec (.For tg iter body orelse pos) env).wrap K J gd lv) fs s := by
  rw [exec_For]
  refine seg_bind_wrap (wpAny_standAt ?_)
  refine seg_bind_wrap (wpAny_mono h (fun v s1 h1 => ?_) fun _ _ x => x)
  refine seg_bind_wrap (wpAny_of_eq (hs v) ?_)
  refine seg_bind_wrap (wpAny_standAt ?_)
  refine seg_bind_wrap (wpAny_holding (wpAny_mono h1 (fun it s2 h2 => ?_) fun _ _ x => x))
  exact seg_call h2
end
section
variable {prog : Program} {w : World} {A : Around} {R : GenEnd} {Y : Protocol} {n : Nat} {s₀ : Shared} {fs : List Frame} {s : Shared} {env : Env}
abbrev goes (env : Env) (e : Value) : Sem PySem.Fin := (do noteFrame e env; theTreesLotGoes e : Sem Unit).wrap (fun _ => .raise e) .raise id id
theorem seg_forLoop {tg : Expr} {it : Value} {body : List Stmt}
    (h : wpAny (model prog w) (A.over (.forLoop tg it body [] env) fs) (pyNext it) (fun r s1 => match r with
        | none => Seg (model prog w) A R Y n s₀ (.block [] env) ((model prog w).den (.block [] env)) fs s1
        | some v => wpAny (model prog w) (A.over (.forLoop tg it body [] env) fs) (letOwnedTupleGo tg it v) (fun _ s2 =>
            wpAny (model prog w) (A.over (.forLoop tg it body [] env) fs) (assign tg env v) (fun _ s3 =>
              Seg (model prog w) A R Y n s₀ (.forLoop tg it body [] env) ((execs body env).wrap (fun f => match f with
                | .next | .cont => .pure (.again (.forLoop tg it body [] env))
                | .brk => .pure (.done .next)
                | .ret v => .pure (.done (.ret v))) (goes env) id id) fs s3)
              (fun e s' => Seg (model prog w) A R Y n s₀ (.forLoop tg it body [] env) (goes env e) fs s') s2)
            (fun e s' => Seg (model prog w) A R Y n s₀ (.forLoop tg it body [] env) (goes env e) fs s') s1)
      (fun e s' => Seg (model prog w) A R Y n s₀ (.forLoop tg it body [] env) (goes env e) fs s') s) :
    Seg (model prog w) A R Y n s₀ (.forLoop tg it body [] env) ((model prog w).den (.forLoop tg it body [] env)) fs s := by
  show Seg _ A R Y n s₀ _ ((forTurn tg it body [] env).onRaise (fun x => do noteFrame x env; theTreesLotGoes x)) fs s
  rw [Sem.onRaise_eq_wrap]
  rw [Sem.wrap_congr (forTurn tg it body [] env) _ _ (K' := .pure) (H' := goes env) (fun _ => rfl) (fun e => by
    first | exact Sem.bind_eq_wrap _ _ | (show (do noteFrame e env; theTreesLotGoes e : Sem Unit).bind (fun _ => .raise e) = _; rw [Sem.bind_eq_wrap]))]
  unfold forTurn
  refine seg_bind_wrap (wpAny_standAt ?_)
  refine seg_bind_wrap (wpAny_onRaise (wpAny_mono h (fun r s1 h1 => ?_) fun e s' hx => wpAny_standAt hx))
  cases r with
  | none => exact seg_again rfl h1
  | some v =>
    refine seg_bind_wrap (wpAny_mono h1 (fun _ s2 h2 => ?_) fun _ _ x => x)
    refine seg_bind_wrap (wpAny_mono h2 (fun _ s3 h3 => ?_) fun _ _ x => x)
    rw [Sem.bind_eq_wrap', Sem.wrap_wrap]
    rw [Sem.wrap_congr (execs body env) _ _ (K' := fun f => match f with
            | .next | .cont => .pure (.again (.forLoop tg it body [] env))
            | .brk => .pure (.done .next)
            | .ret v => .pure (.done (.ret v))) (H' := goes env) (fun f => by cases f <;> rfl) (fun e => by rfl)]
    exact h3
end
section
variable {X : Cx} {tg : Expr}
/-- a for loop in a generator: W knows what is out so far -/
def tGFor (wi : TI) (g : TG) (tb : TGn) : TGn := fun D ys σ H => wi σ H fun J H1 => ∃ W : Nat → Nat → List V → St → Hp → Prop, (∃ m, W 0 m ys σ H1) ∧ ∀ i m ys σ H, W i m ys σ H →
  (J.stop i H ∧ D.nx ys σ H) ∨ (J.go i H ∧ ∃ N : List V → St → Hp → Prop, (∀ ys' σ' H', N ys' σ' H' → ∃ m', m' < m ∧ W (i + 1) m' ys' σ' H') ∧ ∀ x H', J.yld i H x H' → g x σ H' fun σ2 H2 => tb { D with nx := N, ct := N, bk := D.nx } ys σ2 H2)
theorem gs_for {iter : Expr} {body : List Stmt} {wi : TI} {g : TG} {tb : TGn} {pos : Pos} (hp : PassesOwn (model X.prog X.w) X.A X.env X.xe) (hc : X.calm = true) (hi : PI X tg iter wi) (hg : PG X tg g) (hb : GSs X body tb)
    (hs : ∀ x, foldedSetIterable iter X.env x = pure x := by intro _; rfl) : GS X (.For tg iter body [] pos) (tGFor wi g tb) := by
  refine ⟨fun A S ip R n ys s₀ c fs K J gd lv s σ H D g' hn k hI ht => ?_⟩
  obtain ⟨acc0, cc0, r0, I0⟩ := hI
  refine seg_For ?_ hs
  rw [g'.over]
  refine wpAny_mono (hi.run _ s σ H _ I0 ht) (fun v s1 h1 => wpAny_mono h1 (fun itv s2 h2 => ?_) fun x s' hx => k.exc n s₀ x s' hx) fun x s' hx => k.exc n s₀ x s' hx
  obtain ⟨it, fp, tn, J', H2, e, I2, T, st2, f2, W, ⟨m0, w0⟩, turn⟩ := h2
  subst e
  intro p
  have gl := fun (kk : Result → Sem PySem.Fin) => gc_loop (k := kk) (c' := .forLoop tg (.ref it) body [] X.env) (l := lv []) (kp := []) (p := p) g' rfl rfl
  have notS : ∀ b ∈ fp, b ≠ S := fun b hb z => (f2 b hb).2.2.2.2.2 (S, lstObj acc0 cc0) (List.mem_append_right _ List.mem_cons_self) z.symm
  have stat : ∀ {acc : Array Value} {cc : Nat} {H' : Hp}, (∀ b ∈ fp, H' b = none) → ∀ b ∈ fp, FpOk X ((S, lstObj acc cc) :: ip) H' b := fun hn b hb => by
    obtain ⟨_, a1, a2, a3, a4, a5⟩ := f2 b hb
    refine ⟨hn b hb, a1, a2, a3, a4, fun q hq => ?_⟩
    rcases List.mem_append.mp hq with z | z
    · exact a5 q (List.mem_append_left _ z)
    · rcases List.mem_cons.mp z with z | z
      · rw [z]; exact (notS b hb).symm
      · exact a5 q (List.mem_append_right _ (List.mem_cons_of_mem _ z))
  have loop : ∀ (m n i : Nat) (ys : List V) (s₀ s : Shared) (σ : St) (H : Hp), n + ys.length = sizeLine → W i m ys σ H → GI X S ip ys σ H s → tn i s.heap → (∀ b ∈ fp, H b = none) →
      Seg (model X.prog X.w) A R (GY X S) n s₀ (.forLoop tg (.ref it) body [] X.env) ((model X.prog X.w).den (.forLoop tg (.ref it) body [] X.env))
        (.ret (fun r => ((match r with | .ok f => (.pure f : Sem Flow) | .error e => .raise e).onRaise (cameBack X.env)).wrap K J gd lv) none (gd false) (lv []) c p [] :: fs) s := by
    intro m
    induction m using Nat.strongRecOn with
    | ind m ih =>
      intro n i ys s₀ s σ H hn w hI hst hfr
      have ee : ∀ (n : Nat) (s₀ : Shared) (x : Value) (s' : Shared), X.xe x s' → Seg (model X.prog X.w) A R (GY X S) n s₀ (.forLoop tg (.ref it) body [] X.env)
          (goes X.env x)
          (.ret (fun r => ((match r with | .ok f => (.pure f : Sem Flow) | .error e => .raise e).onRaise (cameBack X.env)).wrap K J gd lv) none (gd false) (lv []) c p [] :: fs) s' := fun n s₀ x s' hx => by
        refine seg_wrap ?_
        rw [(gl _).over]
        refine wpAny_bind (wpAny_mono (hp x s' hx) (fun _ s'' hcb => wpAny_theTreesLotGoes ?_) fun y s'' hcb => ?_)
        · exact seg_leaf (.error x) (seg_cameBack g' k hcb)
        · exact seg_leaf (.error y) (seg_cameBack g' k hcb)
      refine seg_forLoop ?_
      rw [(gl _).over]
      obtain ⟨acc, cc, r, I⟩ := hI
      rcases turn i m ys σ H w with ⟨stop, qn⟩ | ⟨go, N, hN, step⟩
      · refine wpAny_mono (T.done X rfl rfl rfl hc i _ s σ H X.xe I (stat hfr) hst stop) (fun rr s4 h4 => ?_) fun x s' hx => ee n s₀ x s' hx
        obtain ⟨hr, I4⟩ := h4
        subst hr
        exact seg_leaf (.ok .next) (k.ok n ys s₀ s4 .next hn ⟨σ, H, ⟨acc, cc, r, I4⟩, qn⟩)
      · refine wpAny_mono (T.item X rfl rfl rfl hc i _ s σ H X.xe I (stat hfr) hst go) (fun rr s4 h4 => ?_) fun x s' hx => ee n s₀ x s' hx
        obtain ⟨u, hr, h4⟩ := h4
        subst hr
        refine wpAny_mono h4 (fun _ s5 h5 => ?_) fun x s' hx => ee n s₀ x s' hx
        obtain ⟨x, H5, I5, r5, y5, st5, fr5⟩ := h5
        have I5' := I5.pinned (stat fr5) (T.obj _ _ st5)
        refine wpAny_mono (hg.run _ s5 σ H5 x u _ I5' r5 (step x H5 y5)) (fun _ s6 h6 => ?_) fun x s' hx => ee n s₀ x s' hx
        obtain ⟨σ6, H6, I6, q6⟩ := h6
        have gb : GC X S (ip ++ pinsAt fp s5.heap) A (.forLoop tg (.ref it) body [] X.env) (.ret (fun r => ((match r with | .ok f => (.pure f : Sem Flow) | .error e => .raise e).onRaise (cameBack X.env)).wrap K J gd lv) none (gd false) (lv []) c p [] :: fs) id :=
          { pn := g'.pn, ip := fun q hq => (List.mem_append.mp hq).elim (g'.ip q) fun z => notS q.1 (of_pinsAt z).1, apart := g'.apart, over := (gl _).over, split := (gl _).split, guard := (gl _).guard, gd := rfl }
        have back : ∀ {ys' : List V} {σ7 : St} {H7 : Hp} {s7 : Shared}, GI X S (ip ++ pinsAt fp s5.heap) ys' σ7 H7 s7 → GI X S ip ys' σ7 H7 s7 ∧ tn (i + 1) s7.heap ∧ ∀ b ∈ fp, H7 b = none := fun {ys' σ7 H7 s7} hI7 => by
          obtain ⟨acc7, cc7, r7, I7⟩ := hI7
          have I7' : Inv X (((S, lstObj acc7 cc7) :: ip) ++ pinsAt fp s5.heap) σ7 H7 s7 := I7
          refine ⟨⟨acc7, cc7, r7, I7'.unpinned⟩, T.keep _ _ _ st5 fun b hb o e => (I7'.pin (b, o) (List.mem_append_right _ (List.mem_append_right _ (mem_pinsAt hb e)))).1, fun b hb => ?_⟩
          obtain ⟨o, e, d⟩ := T.obj _ _ st5 b hb
          exact (I7'.pin (b, o) (List.mem_append_right _ (List.mem_append_right _ (mem_pinsAt hb e)))).2.1
        refine hb.run A S (ip ++ pinsAt fp s5.heap) R n ys s₀ _ _ _ _ id id s6 σ6 H6 { D with nx := N, ct := N, bk := D.nx } gb hn ⟨fun n' ys' s₀' s7 f hn' hs => ?_, fun n' s₀' x s7 hx => ee n' s₀' x s7 hx⟩ ⟨acc, cc, r, I6⟩ q6
        cases f with
        | next =>
          obtain ⟨σ7, H7, I7, n7⟩ := hs
          obtain ⟨I7, t7, f7⟩ := back I7
          obtain ⟨m', hm, w7⟩ := hN ys' σ7 H7 n7
          exact seg_again rfl (ih m' hm n' (i + 1) ys' s₀' s7 σ7 H7 hn' w7 I7 t7 f7)
        | cont =>
          obtain ⟨σ7, H7, I7, n7⟩ := hs
          obtain ⟨I7, t7, f7⟩ := back I7
          obtain ⟨m', hm, w7⟩ := hN ys' σ7 H7 n7
          exact seg_again rfl (ih m' hm n' (i + 1) ys' s₀' s7 σ7 H7 hn' w7 I7 t7 f7)
        | brk =>
          obtain ⟨σ7, H7, I7, n7⟩ := hs
          exact seg_leaf (.ok .next) (k.ok n' ys' s₀' s7 .next hn' ⟨σ7, H7, (back I7).1, n7⟩)
        | ret v =>
          obtain ⟨x7, σ7, H7, I7, r7, n7⟩ := hs
          exact seg_leaf (.ok (.ret v)) (k.ok n' ys' s₀' s7 (.ret v) hn' ⟨x7, σ7, H7, (back I7).1, r7, n7⟩)
  exact loop m0 n 0 ys s₀ s2 σ H2 hn w0 ⟨acc0, cc0, r0, I2⟩ st2 fun b hb => (f2 b hb).1
end
end L2

end

section
set_option maxRecDepth 100000
set_option maxHeartbeats 4000000
set_option autoImplicit false
/-! The data layer: generators. -/
namespace DL
open PySem PySem.Spec PyProof.Rows L2
structure YBk where
  rt : List D → D → Own → Prop
  bk : List D → DEnv → Own → Prop
  ct : List D → DEnv → Own → Prop
  ex : XD → DEnv → Own → Prop
def YBk.at (B : YBk) (out : List D) : Bk := ⟨B.rt out, B.bk out, B.ct out, B.ex⟩
structure LkY (X : Cx) (W : WX) (G : Hp) (O : Own) (H : Hp) (B : YBk) (nx : List D → DEnv → Own → Prop) (D : GEnds) : Prop where
  nx : ∀ G' H' O' δ' σ' ds ys, Step X.K G O H G' O' H' → REnv X.K G' δ' σ' → RepL X.K G' ds ys → nx ds δ' O' → D.nx ys σ' H'
  rt : ∀ G' H' O' d v ds ys, Step X.K G O H G' O' H' → Rep X.K G' d v → RepL X.K G' ds ys → B.rt ds d O' → D.rt ys v H'
  bk : ∀ G' H' O' δ' σ' ds ys, Step X.K G O H G' O' H' → REnv X.K G' δ' σ' → RepL X.K G' ds ys → B.bk ds δ' O' → D.bk ys σ' H'
  ct : ∀ G' H' O' δ' σ' ds ys, Step X.K G O H G' O' H' → REnv X.K G' δ' σ' → RepL X.K G' ds ys → B.ct ds δ' O' → D.ct ys σ' H'
  ex : ∀ G' H' O' δ' σ' x c dd, Step X.K G O H G' O' H' → REnv X.K G' δ' σ' → XRep X.K G' x c dd → B.ex x δ' O' → W c dd σ' H'
section
variable {X : Cx} {W : WX} {G G1 H H1 : Hp} {O O1 : Own} {B : YBk} {nx nx2 : List D → DEnv → Own → Prop} {D : GEnds}
theorem LkY.step (l : LkY X W G O H B nx D) (a : Step X.K G O H G1 O1 H1) : LkY X W G1 O1 H1 B nx D :=
  ⟨fun _ _ _ _ _ _ _ s => l.nx _ _ _ _ _ _ _ (a.trans s), fun _ _ _ _ _ _ _ s => l.rt _ _ _ _ _ _ _ (a.trans s), fun _ _ _ _ _ _ _ s => l.bk _ _ _ _ _ _ _ (a.trans s), fun _ _ _ _ _ _ _ s => l.ct _ _ _ _ _ _ _ (a.trans s), fun _ _ _ _ _ _ _ _ s => l.ex _ _ _ _ _ _ _ _ (a.trans s)⟩
theorem LkY.at {out : List DL.D} {ys : List V} (l : LkY X W G O H B nx D) (rl : RepL X.K G out ys) : Lk X W G O H (B.at out) (nx out) (D.at ys) :=
  ⟨fun G' H' O' δ' σ' s r q => l.nx G' H' O' δ' σ' out ys s r (rl.mono s.g) q, fun G' H' O' d v s r q => l.rt G' H' O' d v out ys s r (rl.mono s.g) q, fun G' H' O' δ' σ' s r q => l.bk G' H' O' δ' σ' out ys s r (rl.mono s.g) q, fun G' H' O' δ' σ' s r q => l.ct G' H' O' δ' σ' out ys s r (rl.mono s.g) q, l.ex⟩
end
def semY (X : Cx) (st : Stmt) : TGn := fun D ys σ H => ∀ (A : Around) (S : Addr) (ip : List (Addr × Obj)) (R : GenEnd) (n : Nat) (s₀ : Shared) (c : Code) (fs : List Frame) (K : Flow → Sem PySem.Fin) (J : Value → Sem PySem.Fin) (gd : Bool → Bool) (lv : List Value → List Value) (s : Shared),
  GC X S ip A c fs gd → n + ys.length = sizeLine → GK X S ip A R c fs K J D → GI X S ip ys σ H s → Seg (model X.prog X.w) A R (GY X S) n s₀ c ((exec st X.env).wrap K J gd lv) fs s
def semYs (X : Cx) (st : List Stmt) : TGn := fun D ys σ H => ∀ (A : Around) (S : Addr) (ip : List (Addr × Obj)) (R : GenEnd) (n : Nat) (s₀ : Shared) (c : Code) (fs : List Frame) (K : Flow → Sem PySem.Fin) (J : Value → Sem PySem.Fin) (gd : Bool → Bool) (lv : List Value → List Value) (s : Shared),
  GC X S ip A c fs gd → n + ys.length = sizeLine → GK X S ip A R c fs K J D → GI X S ip ys σ H s → Seg (model X.prog X.w) A R (GY X S) n s₀ c ((execs st X.env).wrap K J gd lv) fs s
theorem gs_sem {X : Cx} {st : Stmt} : GS X st (semY X st) := ⟨fun A S ip R n ys s₀ c fs K J gd lv s σ H D g hn k hI ht => ht A S ip R n s₀ c fs K J gd lv s g hn k hI⟩
theorem gss_sem {X : Cx} {st : List Stmt} : GSs X st (semYs X st) := ⟨fun A S ip R n ys s₀ c fs K J gd lv s σ H D g hn k hI ht => ht A S ip R n s₀ c fs K J gd lv s g hn k hI⟩
/-- a statement of a generator; out: what is out so far -/
def DY (X : Cx) (st : Stmt) (δ : DEnv) (O : Own) (out : List D) (B : YBk) (nx : List D → DEnv → Own → Prop) : Prop :=
  ∀ (W : WX), Takes X W → ∀ (G : Hp) (σ : L2.St) (H : Hp) (D : GEnds) (ys : List V), REnv X.K G δ σ → Sta X.K G O H → RepL X.K G out ys → LkY X W G O H B nx D → semY X st D ys σ H
def DYs (X : Cx) (st : List Stmt) (δ : DEnv) (O : Own) (out : List D) (B : YBk) (nx : List D → DEnv → Own → Prop) : Prop :=
  ∀ (W : WX), Takes X W → ∀ (G : Hp) (σ : L2.St) (H : Hp) (D : GEnds) (ys : List V), REnv X.K G δ σ → Sta X.K G O H → RepL X.K G out ys → LkY X W G O H B nx D → semYs X st D ys σ H
section
variable {X : Cx} {N : List Str} {sc : Scope} {δ : DEnv} {O : Own} {out : List D} {B : YBk} {nx : List D → DEnv → Own → Prop} {pos : Pos}
theorem dy_of {st : Stmt} {t : TGn} (hp : GS X st t) (h : ∀ (W : WX), Takes X W → ∀ (G : Hp) (σ : L2.St) (H : Hp) (D : GEnds) (ys : List V), REnv X.K G δ σ → Sta X.K G O H → RepL X.K G out ys → LkY X W G O H B nx D → t D ys σ H) : DY X st δ O out B nx :=
  fun W tk G σ H D ys r s rl l A S ip R n s₀ c fs K J gd lv s' g hn k hI => hp.run A S ip R n ys s₀ c fs K J gd lv s' σ H D g hn k hI (h W tk G σ H D ys r s rl l)
theorem dys_of {st : List Stmt} {t : TGn} (hp : GSs X st t) (h : ∀ (W : WX), Takes X W → ∀ (G : Hp) (σ : L2.St) (H : Hp) (D : GEnds) (ys : List V), REnv X.K G δ σ → Sta X.K G O H → RepL X.K G out ys → LkY X W G O H B nx D → t D ys σ H) : DYs X st δ O out B nx :=
  fun W tk G σ H D ys r s rl l A S ip R n s₀ c fs K J gd lv s' g hn k hI => hp.run A S ip R n ys s₀ c fs K J gd lv s' σ H D g hn k hI (h W tk G σ H D ys r s rl l)
theorem dys_nil (q : nx out δ O) : DYs X [] δ O out B nx := dys_of gss_nil fun W tk G σ H D ys r s rl l => l.nx G H O δ σ out ys (Step.refl s) r rl q
theorem dys_cons {st : Stmt} {rest : List Stmt} (h : DY X st δ O out B fun o1 δ1 O1 => DYs X rest δ1 O1 o1 B nx) : DYs X (st :: rest) δ O out B nx :=
  dys_of (gss_cons gs_sem gss_sem) fun W tk G σ H D ys r s rl l => h W tk G σ H _ ys r s rl
    ⟨fun G' H' O' δ' σ' ds ys' st r' rl' q => q W tk G' σ' H' D ys' r' st.sta rl' (l.step st), l.rt, l.bk, l.ct, l.ex⟩
/-- a statement that hands out nothing -/
theorem dy_plain {st : Stmt} (h : DS X st δ O (B.at out) (nx out)) : DY X st δ O out B nx := dy_of (gs_ps ps_sem) fun W tk G σ H D ys r s rl l => h W tk G σ H (D.at ys) r s (l.at rl)
theorem dy_yield {e : Expr} {yp : Pos} (S : Sc X N sc) (hl : out.length < 100000) (h : DE X e δ O (fun x O' => B.ex x δ O') fun d O1 => nx (out ++ [d]) δ O1) (hco : sc.isCoroutine = false := by with_unfolding_all rfl) (hk : sc.kind = .function := by with_unfolding_all rfl) : DY X (.Expr (.Yield (some e) yp) pos) δ O out B nx :=
  dy_of (gs_yield pe_sem (by rw [S.hsc]; exact hco) (by unfold interactive; rw [S.hsc, hk]; rfl)) fun W tk G σ H D ys r s rl l => by
    refine ⟨by rw [rl.length]; exact Nat.lt_trans hl (by decide), ?_⟩
    · exact h W tk G σ H _ trivial r s (fun G' H' O' x c dd st xr e => l.ex G' H' O' δ σ x c dd st (r.mono st.g) xr e) fun G' H' O' d v st rd q =>
        l.nx G' H' O' δ σ (out ++ [d]) (ys ++ [v]) st (r.mono st.g) ((rl.mono st.g).append (.cons rd .nil)) q
theorem dy_for {tg iter : Expr} {body : List Stmt} (S : Sc X N sc) (po : PassesOwn (model X.prog X.w) X.A X.env X.xe)
    (h : DI X tg iter δ O (fun x O' => B.ex x δ O') fun ds O1 => ∃ P : Nat → List D → DEnv → Own → Prop, P 0 out δ O1 ∧
      (∀ i d o' δ' O', ds[i]? = some d → P i o' δ' O' → DG X tg d δ' O' B.ex fun δ2 O2 => DYs X body δ2 O2 o' { B with bk := nx, ct := P (i + 1) } (P (i + 1))) ∧ ∀ o' δ' O', P ds.length o' δ' O' → nx o' δ' O')
    (hs : ∀ x, foldedSetIterable iter X.env x = pure x := by intro _; with_unfolding_all rfl) : DY X (.For tg iter body [] pos) δ O out B nx :=
  dy_of (gs_for po S.calm pi_sem pg_sem gss_sem hs) fun W tk G σ H D ys r s rl l => h W tk G σ H _ trivial r s (fun G' H' O' x c dd st xr e => l.ex G' H' O' δ σ x c dd st (r.mono st.g) xr e) fun G1 H1 O1 ds J st jr ⟨P, h0, hs, hd⟩ => by
    have r1 := r.mono st.g
    have l1 := l.step st
    refine ⟨fun i m ys' σ' H' => m = ds.length - i ∧ i ≤ ds.length ∧ ∃ G' O' δ' o', Step X.K G1 O1 H1 G' O' H' ∧ REnv X.K G' δ' σ' ∧ RepL X.K G' o' ys' ∧ P i o' δ' O', ⟨_, rfl, Nat.zero_le _, G1, O1, δ, out, Step.refl st.sta, r1, rl.mono st.g, h0⟩, ?_⟩
    rintro i m ys' σ' H' ⟨rfl, hi, G', O', δ', o', st', r', rl', p⟩
    by_cases hlt : i < ds.length
    · refine .inr ⟨jr.go i G' H' st'.g st'.sta.sub hlt, fun ys2 σ2 H2 => ∃ G2 O2 δ2 o2, Step X.K G1 O1 H1 G2 O2 H2 ∧ REnv X.K G2 δ2 σ2 ∧ RepL X.K G2 o2 ys2 ∧ P (i + 1) o2 δ2 O2, fun ys2 σ2 H2 ⟨G2, O2, δ2, o2, s2, r2, rl2, p2⟩ => ⟨ds.length - (i + 1), by omega, rfl, hlt, G2, O2, δ2, o2, s2, r2, rl2, p2⟩, fun x H2 hy => ?_⟩
      have hdi : ds[i]? = some ds[i] := by simp [hlt]
      obtain ⟨G2, st2, e2, rx⟩ := drawn jr st' hdi hy
      refine hs i _ o' δ' O' hdi p W tk x G2 σ' H2 _ rx (r'.mono e2) st2.sta (fun _ _ _ _ _ _ _ _ s3 => (l1.step st2).ex _ _ _ _ _ _ _ _ s3) fun G3 H3 O3 δ3 σ3 s3 r3 q => ?_
      have l3 := l1.step (st2.trans s3)
      refine q W tk G3 σ3 H3 _ ys' r3 s3.sta ((rl'.mono e2).mono s3.g) ⟨fun G4 H4 O4 δ4 σ4 o4 ys4 s4 r4 rl4 q4 => ⟨G4, O4, δ4, o4, (st2.trans s3).trans s4, r4, rl4, q4⟩, l3.rt, l3.nx, fun G4 H4 O4 δ4 σ4 o4 ys4 s4 r4 rl4 q4 => ⟨G4, O4, δ4, o4, (st2.trans s3).trans s4, r4, rl4, q4⟩, l3.ex⟩
    · have e : i = ds.length := by omega
      subst e
      exact .inl ⟨jr.stop _ G' H' st'.g st'.sta.sub rfl, (l1.step st').nx G' H' O' δ' σ' o' ys' (Step.refl st'.sta) r' rl' (hd o' δ' O' p)⟩
end
end DL

end

section
set_option maxRecDepth 100000
set_option maxHeartbeats 4000000
set_option autoImplicit false
/-! The data layer: generator methods, and the list of what they hand out. -/
namespace DL
open PySem PySem.Spec PyProof.Rows L2
abbrev YSp := List D → Own → (XD → Own → Prop) → (List D → Own → Prop) → Prop
def liftY (K : PySem.W.Frag) (sp : YSp) : SpG := fun vs H cont E => ∃ (G : Hp) (ds : List D) (O : Own) (E' : XD → Own → Prop) (Q : List D → Own → Prop), RepL K G ds vs ∧ Sta K G O H ∧
  (∀ G' H' O' x c dd, Step K G O H G' O' H' → XRep K G' x c dd → E' x O' → E c dd H') ∧ (∀ G' H' O' out ys, Step K G O H G' O' H' → RepL K G' out ys → Q out O' → cont ys H') ∧ sp ds O E' Q
structure GnS (N P : List Str) (sc : Scope) : Prop extends GScope N P sc where
  nm : nmOk sc = true
structure GMDef (K : PySem.W.Frag) (C : Addr) (m qual : Str) (st : Stmt) (ps : List Str) (f : Addr) : Prop where
  mt : Meth K C m f
  fn : ∃ fd, Fun K m qual st f fd ∧ Binds K fd ps []
def DGFn (P : Program) (w : World) (K : PySem.W.Frag) (mg : Str → Option Value) (base : Heap) (k : Nat) (f : Addr) (ps : List Str) (sp : YSp) : Prop :=
  ∃ fd, Binds K fd ps [] ∧ GFn P w K mg base k f fd ps (liftY K sp)
abbrev ybOf (Q : List D → Own → Prop) (E : XD → Own → Prop) : YBk := ⟨fun out d O' => d = .non ∧ Q out O', fun _ _ _ => False, fun _ _ _ => False, fun x _ O' => E x O'⟩
def BodyOkY (P : Program) (w : World) (K : PySem.W.Frag) (mg : Str → Option Value) (base : Heap) (k : Nat) (N : List Str) (st : Stmt) (sp : YSp) : Prop :=
  ∀ (X : Cx), Is X P w K mg base → Sc X N (defScope st) → Df X → Room k X.A → ∀ ds O E Q, sp ds O E Q → DYs X (defBody st) (startD N ds) O [] (ybOf Q E) fun out _ O' => Q out O'
section
variable {P : Program} {w : World} {K : PySem.W.Frag} {mg : Str → Option Value} {base : Heap} {m qual : Str} {st : Stmt} {C f : Addr} {N ps : List Str} {k : Nat} {sp : YSp}
theorem GMDef.ok (D : GMDef K C m qual st ps f) (S : GnS N ps (defScope st)) (len : ∀ ds O E Q, sp ds O E Q → ds.length = ps.length) (h : BodyOkY P w K mg base k N st sp) : DGFn P w K mg base (k + 1) f ps sp := by
  obtain ⟨fd, F, b⟩ := D.fn
  refine ⟨fd, b, ?_⟩
  obtain ⟨oc, od, kV, doc, pm, an, cdv, ct, osl, rfl, lk, hcd⟩ := F.ex
  refine gfn_of lk hcd S.toGScope (fun vs H Q E ⟨G, ds, O, E', Q', rl, _, _, _, hs⟩ => by rw [rl.length]; exact len _ _ _ _ hs) fun A outer s H vs Q E pn hr hsp => ?_
  obtain ⟨G, ds, O, E', Q', rl, sta, hE, hQ, hs⟩ := hsp
  refine ⟨_, gss_sem, ?_⟩
  exact h (gcxOf P w K mg base N qual (defScope st) f cdv A outer s H E pn) ⟨rfl, rfl, rfl, rfl, rfl⟩ ⟨S.nm, rfl, rfl, S.nd, rfl⟩ ⟨fun _ => rfl, rfl, rfl, rfl, owns_gcx⟩ hr ds O E' Q' hs _ takes_gcx G _ H _ _ (start_rep rl) sta .nil
    ⟨fun G' H' O' δ' σ' out ys s' r' rl' q => hQ G' H' O' out ys s' rl' q, fun G' H' O' d v out ys s' rd rl' q => by
      obtain ⟨ed, q⟩ := q
      subst ed
      cases rd
      exact ⟨rfl, hQ G' H' O' out ys s' rl' q⟩, fun _ _ _ _ _ _ _ _ _ _ z => z.elim, fun _ _ _ _ _ _ _ _ _ _ z => z.elim, fun G' H' O' δ' σ' x c dd s' r' xr e => hE G' H' O' x c dd s' xr e⟩
end
theorem Is.gfn {X : Cx} {P : Program} {w : World} {K : PySem.W.Frag} {mg : Str → Option Value} {base : Heap} (I : Is X P w K mg base) {k : Nat} {f : Addr} {ps : List Str} {sp : YSp} (F : DGFn P w K mg base k f ps sp) : DGFn X.prog X.w X.K X.mg X.base k f ps sp := by
  obtain ⟨h1, h2, h3, h4, h5⟩ := I
  subst h1 h2 h3 h4 h5
  exact F
section
variable {X : Cx} {N : List Str} {sc : Scope} {δ : DEnv} {O : Own} {E : XD → Own → Prop} {Q : D → Own → Prop} {pos p apos pos' : Pos}
/-- list(o.m(e, ..)), m a generator method that raises nothing -/
theorem de_listM {o e : Expr} {es : List Expr} {m : Str} {pl : Sem Bool} {C g : Addr} {k : Nat} {ps : List Str} {sp : YSp} (F : DGFn X.prog X.w X.K X.mg X.base k g ps sp) (c : Cls X.K C) (hm : Meth X.K C m g) (hr : Room (k + 3) X.A) (S : Sc X N sc) (hmg : X.mg "list" = none)
    (h : DE X o δ O E fun d O1 => ∃ fs, IsIns d O1 C fs ∧ fs.lookup m = none ∧ DA X (e :: es) δ O1 E fun ds O2 => sp (d :: ds) O2 (fun _ _ => False) fun out O3 => NewL out O3 Q)
    (hg : Nk "list" .globalImplicit sc.names := by (repeat (with_reducible constructor)))
    (hst : starEach (e :: es) X.env = (false, eval e X.env) :: starEach es X.env := by with_unfolding_all rfl) (hpl : (backTo pos' (starEach es X.env)).any (·.1) = false := by with_unfolding_all rfl)
    (ht : eval (.Call (.Attribute o m apos) (e :: es) [] pos') X.env = (do
      let ov ← eval o X.env
      standAt apos.atName
      let (f, first) ← holding [ov] (getMethod ov m pl)
      callWith pos' f first (backTo pos' (starEach (e :: es) X.env)) (backToKw pos' (keywordEach [] X.env))) := by with_unfolding_all rfl)
    (he : starEach [.Call (.Attribute o m apos) (e :: es) [] pos'] X.env = (false, eval (.Call (.Attribute o m apos) (e :: es) [] pos') X.env) :: starEach [] X.env := by with_unfolding_all rfl) : DE X (.Call (.Name "list" p) [.Call (.Attribute o m apos) (e :: es) [] pos'] [] pos) δ O E Q := by
  obtain ⟨fd, hb, F⟩ := F
  refine de_of (pe_listG (E := fun _ _ _ => False) (pgen_meth (pl := pl) pe_sem c hm F (hr.mono (by omega)) hb .nil pa_sem hst hpl ht) (fun pins σ H s u s' I z => ?_) (fun _ _ _ z => z.elim) hr (S.gl hg) hmg boot_list (he := he)) fun W tk G σ H Q' p r s hE hQ => ?_
  · obtain ⟨_, _, _, _, _, _, _, _, _, _, _, _, z⟩ := z
    exact z.elim
  · refine h W tk G σ H _ trivial r s hE fun G1 H1 O1 d v st rd q => ?_
    obtain ⟨fs, i, l, q⟩ := q
    obtain ⟨a, dx, vs, ev, ha, rf⟩ := i.get rd st.sta
    subst ev
    refine ⟨a, dx, vs, rfl, ha, rf.look.2 l, ?_⟩
    refine q W tk G1 σ H1 _ trivial (r.mono st.g) st.sta (fun _ _ _ _ _ _ st2 => hE _ _ _ _ _ _ (st.trans st2)) fun G2 H2 O2 ds ws st2 rl q2 => ?_
    rw [List.append_nil]
    refine ⟨G2, d :: ds, O2, _, _, .cons (rd.mono st2.g) rl, st2.sta, fun _ _ _ _ _ _ _ _ z => z.elim, fun G3 H3 O3 out ys st3 rl3 n => ?_, q2⟩
    exact fun p hp => m_newL st3.sta rl3 n (fun G' H' O' d v st4 => hQ _ _ _ _ _ (((st.trans st2).trans st3).trans st4)) p hp
end
end DL

end

section
set_option maxRecDepth 100000
set_option maxHeartbeats 4000000
set_option autoImplicit false
/-! The data layer: numbers of clashes against each other (plain). -/
namespace DL
open PySem PySem.Spec PyProof.Rows L2
section
variable {f : Nat → Int}
theorem nth_before (h0 : ∀ i, 0 ≤ f i) {B : Nat} {n : Int} {r : Option Nat} (hle : n ≤ upTo f B) (h : IsNth f n r) : ∃ b, r = some b ∧ b < B ∧ upTo f b < n ∧ n ≤ upTo f (b + 1) := by
  cases r with
  | none => have := h B; omega
  | some b =>
    obtain ⟨h1, h2⟩ := h
    refine ⟨b, rfl, ?_, h1, h2⟩
    rcases Nat.lt_or_ge b B with q | q
    · exact q
    · have := upTo_mono h0 q; omega
theorem nth_after (h0 : ∀ i, 0 ≤ f i) {B c : Nat} (h : IsNth f (upTo f B + 1) (some c)) : B ≤ c ∧ (c = B ↔ upTo f B < upTo f (B + 1)) := by
  obtain ⟨h1, h2⟩ := h
  refine ⟨?_, fun e => by subst e; omega, fun e => ?_⟩
  · rcases Nat.lt_or_ge c B with q | q
    · have := upTo_mono h0 (show c + 1 ≤ B from q); omega
    · exact q
  · have h3 : IsNth f (upTo f B + 1) (some B) := ⟨by omega, by omega⟩
    exact Option.some.inj (IsNth.uniq h0 (show IsNth f (upTo f B + 1) (some c) from ⟨h1, h2⟩) h3)
theorem upTo_zero {n : Nat} (h : ∀ i, i < n → f i = 0) : upTo f n = 0 := by
  induction n with
  | zero => rfl
  | succ n ih => rw [DL.upTo, ih fun i hi => h i (by omega), h n (by omega)]; rfl
theorem zero_of_upTo (h0 : ∀ i, 0 ≤ f i) {n : Nat} (h : upTo f n ≤ 0) {i : Nat} (hi : i < n) : f i = 0 := by
  have h1 := upTo_mono h0 (show i + 1 ≤ n from hi)
  have h2 := upTo_mono h0 (Nat.zero_le i)
  rw [show upTo f 0 = 0 from rfl] at h2
  rw [show upTo f (i + 1) = upTo f i + f i from rfl] at h1
  have := h0 i
  omega
theorem Per.all_zero {s z : Nat} (hp : Per f s z) (hz : 0 < z) (h : ∀ i, i < s + z → f i = 0) (i : Nat) : f i = 0 := by
  induction i using Nat.strongRecOn with
  | ind i ih =>
    rcases Nat.lt_or_ge i (s + z) with q | q
    · exact h i q
    · have := hp (i - z) (by omega)
      rw [show i - z + z = i by omega] at this
      rw [this]
      exact ih (i - z) (by omega)
theorem Per.flat (h0 : ∀ i, 0 ≤ f i) {s z : Nat} (hp : Per f s z) (hz : 0 < z) (hl : upTo f (s + z) - upTo f s = 0) {a b : Nat} (ha : s ≤ a) (hab : a ≤ b) : upTo f a = upTo f b := by
  have h1 := upTo_mono h0 hab
  have h2 := upTo_mono h0 ha
  have h3 : b ≤ s + b * z := by have := Nat.le_mul_of_pos_right b hz; omega
  have h4 := upTo_mono h0 h3
  have h5 := hp.times (Nat.le_refl s) b
  rw [hl, Int.mul_zero] at h5
  omega
theorem Per.each (h0 : ∀ i, 0 ≤ f i) {s z : Nat} (hp : Per f s z) (hz : 0 < z) {a b : Nat} (ha : s ≤ a) (hab : a + z ≤ b) : upTo f (s + z) - upTo f s = 0 ↔ upTo f b = upTo f a := by
  constructor
  · intro hl
    exact (hp.flat h0 hz hl ha (by omega)).symm
  · intro e
    have h1 := hp.step ha
    have h2 := upTo_mono h0 hab
    have h3 := upTo_mono h0 (show s ≤ s + z by omega)
    omega
end
theorem firstR_none {ns : List Note} {vs : List Voice} {sharp : List Int} : firstR ns vs sharp = none ↔ ∀ b, b < endR ns vs → pairsAt ns vs sharp (b : Nat) = [] := by
  unfold firstR
  rw [List.findSome?_eq_none_iff]
  constructor
  · intro h b hb
    have := h b (List.mem_range.2 hb)
    cases hp : pairsAt ns vs sharp (b : Nat) with
    | nil => rfl
    | cons p ps => rw [hp] at this; simp at this
  · intro h b hb
    rw [h b (List.mem_range.1 hb)]
    rfl
theorem cntR_zero {ns : List Note} {vs : List Voice} {sharp : List Int} {b : Nat} : cntR ns vs sharp b = 0 ↔ pairsAt ns vs sharp (b : Nat) = [] := by
  unfold cntR
  rw [← List.length_eq_zero_iff]
  omega
theorem first_zero {ns : List Note} {vs : List Voice} {sharp : List Int} (hR : Rnd ns vs sharp) {n : Nat} (hn : endR ns vs ≤ n) : firstR ns vs sharp = none ↔ upTo (cntR ns vs sharp) n = 0 := by
  have he := endR_le hR
  have hs := startOf_rng hR.ok
  have hz := hR.mel.rowP_len
  have hz' : DL.sizeOf ns = (rowP ns).length := rfl
  rw [firstR_none]
  constructor
  · intro h
    refine upTo_zero fun i _ => cntR_per.all_zero (s := (startOf vs).toNat) (by omega) (fun j hj => cntR_zero.2 (h j (by omega))) i
  · intro h b hb
    exact cntR_zero.1 (zero_of_upTo cntR_nn (by omega) (show b < n by omega))
end DL

end

section
set_option maxRecDepth 100000
set_option maxHeartbeats 4000000
set_option autoImplicit false
/-! The data layer: comparing numbers that may be None; the first clash by its number. -/
namespace DL
open PySem PySem.Spec PyProof.Rows L2
section
variable {X : Cx} {δ : DEnv} {O : Own} {E : XD → Own → Prop} {Q : D → Own → Prop} {i : Int}
theorem sc_ni : ∀ (G : Hp) v u, Rep X.K G .non v → Rep X.K G (.int i) u → scal v u = true ∧ decide (v = u) = false := fun G v u a b => by
  cases a; cases b
  exact ⟨rfl, by simp⟩
theorem sc_in : ∀ (G : Hp) v u, Rep X.K G (.int i) v → Rep X.K G .non u → scal v u = true ∧ decide (v = u) = false := fun G v u a b => by
  cases a; cases b
  exact ⟨rfl, by simp⟩
theorem sc_nn : ∀ (G : Hp) v u, Rep X.K G .non v → Rep X.K G .non u → scal v u = true ∧ decide (v = u) = true := fun G v u a b => by
  cases a; cases b
  exact ⟨rfl, by simp⟩
theorem db_eq_ni (q : Q (.bl false) O) : DB X (compareOp .Eq) .non (.int i) δ O E Q := db_eqS sc_ni q
theorem db_ne_ni (q : Q (.bl true) O) : DB X (compareOp .NotEq) .non (.int i) δ O E Q := db_neS sc_ni q
theorem db_eq_in (q : Q (.bl false) O) : DB X (compareOp .Eq) (.int i) .non δ O E Q := db_eqS sc_in q
theorem db_ne_in (q : Q (.bl true) O) : DB X (compareOp .NotEq) (.int i) .non δ O E Q := db_neS sc_in q
theorem db_eq_nn (q : Q (.bl true) O) : DB X (compareOp .Eq) .non .non δ O E Q := db_eqS sc_nn q
theorem db_ne_nn (q : Q (.bl false) O) : DB X (compareOp .NotEq) .non .non δ O E Q := db_neS sc_nn q
theorem db_eqON {r s : Option Nat} (q : Q (.bl (decide (r = s))) O) : DB X (compareOp .Eq) (dOptN r) (dOptN s) δ O E Q := by
  cases r with
  | none => cases s with
    | none => exact db_eq_nn (by simpa using q)
    | some s => exact db_eq_ni (by simpa using q)
  | some r => cases s with
    | none => exact db_eq_in (by simpa using q)
    | some s =>
      refine db_eq_int ?_
      have e : (decide (((r : Nat) : Int) = ((s : Nat) : Int))) = decide (some r = some s) := decide_eq_decide.2 ⟨fun h => by rw [Int.ofNat_inj.1 h], fun h => by rw [Option.some.inj h]⟩
      rw [e]; exact q
theorem db_neON {r s : Option Nat} (q : Q (.bl (!decide (r = s))) O) : DB X (compareOp .NotEq) (dOptN r) (dOptN s) δ O E Q := by
  cases r with
  | none => cases s with
    | none => exact db_ne_nn (by simpa using q)
    | some s => exact db_ne_ni (by simpa using q)
  | some r => cases s with
    | none => exact db_ne_in (by simpa using q)
    | some s =>
      refine db_ne_int ?_
      have e : (decide (((r : Nat) : Int) = ((s : Nat) : Int))) = decide (some r = some s) := decide_eq_decide.2 ⟨fun h => by rw [Int.ofNat_inj.1 h], fun h => by rw [Option.some.inj h]⟩
      rw [e]; exact q
theorem db_p18 (q : Q (.int 1000000000000000000) O) : DB X (binaryOp .Pow) (.int 10) (.int 18) δ O E Q := db_pow (cpow_ (by decide) (by decide) (by decide)) q
theorem db_p17 (q : Q (.int 100000000000000000) O) : DB X (binaryOp .Pow) (.int 10) (.int 17) δ O E Q := db_pow (cpow_ (by decide) (by decide) (by decide)) q
theorem db_p9 (q : Q (.int 1000000000) O) : DB X (binaryOp .Pow) (.int 10) (.int 9) δ O E Q := db_pow (cpow_ (by decide) (by decide) (by decide)) q
theorem db_p6 (q : Q (.int 1000000) O) : DB X (binaryOp .Pow) (.int 10) (.int 6) δ O E Q := db_pow (cpow_ (by decide) (by decide) (by decide)) q
theorem db_p26 (q : Q (.int 64) O) : DB X (binaryOp .Pow) (.int 2) (.int 6) δ O E Q := db_pow (cpow_ (by decide) (by decide) (by decide)) q
theorem isNon_dFirst (f : Option (Nat × Nat × Nat)) : isNon (dFirst f) = f.isNone := by cases f <;> rfl
theorem isNon_dOptN (f : Option Nat) : isNon (dOptN f) = f.isNone := by cases f <;> rfl
end
theorem findSome_some {β : Type} {f : Nat → Option β} {y : β} : ∀ {n : Nat}, (List.range n).findSome? f = some y → ∃ i, i < n ∧ f i = some y ∧ ∀ j, j < i → f j = none
  | 0, h => by simp at h
  | n + 1, h => by
    rw [List.range_succ, List.findSome?_append] at h
    cases h1 : (List.range n).findSome? f with
    | some z =>
      rw [h1] at h
      simp at h
      subst h
      obtain ⟨i, hi, h2, h3⟩ := findSome_some h1
      exact ⟨i, by omega, h2, h3⟩
    | none =>
      rw [h1] at h
      have h2 := List.findSome?_eq_none_iff.1 h1
      refine ⟨n, by omega, ?_, fun j hj => h2 j (List.mem_range.2 hj)⟩
      simpa using h
theorem firstR_some {ns : List Note} {vs : List Voice} {sharp : List Int} {p : Nat × Nat × Nat} (h : firstR ns vs sharp = some p) : p.1 < endR ns vs ∧ (∃ r, pairsAt ns vs sharp (p.1 : Nat) = (p.2.1, p.2.2) :: r) ∧ ∀ b, b < p.1 → pairsAt ns vs sharp (b : Nat) = [] := by
  obtain ⟨i, hi, h1, h2⟩ := findSome_some h
  cases hp : pairsAt ns vs sharp (i : Nat) with
  | nil => rw [hp] at h1; simp at h1
  | cons q r =>
    rw [hp] at h1
    simp at h1
    subst h1
    refine ⟨hi, ⟨r, hp⟩, fun b hb => ?_⟩
    have := h2 b hb
    cases hq : pairsAt ns vs sharp (b : Nat) with
    | nil => rfl
    | cons q r => rw [hq] at this; simp at this
/-- the first clash is the one with number 1 -/
theorem first_nth {ns : List Note} {vs : List Voice} {sharp : List Int} {p : Nat × Nat × Nat} (h : firstR ns vs sharp = some p) : IsNth (cntR ns vs sharp) 1 (some p.1) := by
  obtain ⟨h1, ⟨r, h2⟩, h3⟩ := firstR_some h
  have e : upTo (cntR ns vs sharp) p.1 = 0 := upTo_zero fun i hi => cntR_zero.2 (h3 i hi)
  refine ⟨by omega, ?_⟩
  rw [show upTo (cntR ns vs sharp) (p.1 + 1) = upTo (cntR ns vs sharp) p.1 + cntR ns vs sharp p.1 from rfl, e]
  unfold cntR
  rw [h2]
  simp
  omega
end DL

end

section
set_option maxRecDepth 100000
set_option maxHeartbeats 4000000
set_option autoImplicit false
/-! The data layer: range with a step, instances that are called, three names at once. -/
namespace DL
open PySem PySem.Spec PyProof.Rows L2
section
variable {X : Cx} {N : List Str} {sc : Scope} {δ : DEnv} {O : Own} {E : XD → Own → Prop} {Q : D → Own → Prop} {B : Bk} {nx : DEnv → Own → Prop} {pos p apos : Pos}
def dStep (lo c : Int) (n : Nat) : List D := (List.range n).map fun i => D.int (lo + (i : Nat) * c)
theorem dStep_length {lo c : Int} {n : Nat} : (dStep lo c n).length = n := by simp [dStep]
theorem dStep_get {lo c : Int} {n i : Nat} {d : D} (h : (dStep lo c n)[i]? = some d) : d = .int (lo + (i : Nat) * c) ∧ i < n := by
  unfold dStep at h
  rw [List.getElem?_map] at h
  rcases Nat.lt_or_ge i n with q | q
  · rw [List.getElem?_range q] at h
    exact ⟨(Option.some.inj h).symm, q⟩
  · rw [List.getElem?_eq_none (by simpa using q)] at h
    cases h
theorem jrep_step {K : PySem.W.Frag} {G : Hp} {lo c : Int} {n : Nat} : JRep K G (dStep lo c n) (Itc lo c n) where
  go := fun i G1 H _ _ h => by rw [dStep_length] at h; exact h
  stop := fun i G1 H _ _ h => by rw [dStep_length] at h; exact Nat.le_of_eq h
  yld := fun i G1 H x H' d _ _ hd hy => by
    obtain ⟨rfl, _⟩ := dStep_get hd
    obtain ⟨rfl, rfl⟩ := hy
    exact .inl ⟨rfl, .int _⟩
theorem di_range3 {tg a b c : Expr} {QI : List D → Own → Prop} {p : Pos} (S : Sc X N sc) (hm : X.mg "range" = none) (h : DA X [a, b, c] δ O E fun ds O1 => ∃ i j k n, ds = [.int i, .int j, .int k] ∧ RgC i j k n ∧ QI (dStep i k n) O1) (hg : Nk ("range" : Str) .globalImplicit sc.names := by (repeat (with_reducible constructor)))
    (h1 : starEach [a, b, c] X.env = (false, eval a X.env) :: starEach [b, c] X.env := by with_unfolding_all rfl) (h2 : (backTo pos (starEach [b, c] X.env)).any (·.1) = false := by with_unfolding_all rfl) :
    DI X tg (.Call (.Name "range" p) [a, b, c] [] pos) δ O E QI :=
  di_of (pi_range3 (S.gl hg) hm pa_sem h1 h2) fun W tk G σ H Q' p r s hE hQ => h W tk G σ H _ p r s hE fun G' H' O' ds vs st rl ⟨i, j, k, n, e, h1, q⟩ => by
    subst e
    cases rl with
    | cons r1 rr =>
      cases r1
      cases rr with
      | cons r2 rr =>
        cases r2
        cases rr with
        | cons r3 rr =>
          cases r3
          cases rr
          exact ⟨i, j, k, n, rfl, h1, hQ _ _ _ _ _ st jrep_step q⟩
/-- a positive step, so many turns -/
theorem rgC_pos {i j c : Int} (hi : -(2 ^ 62) ≤ i) (hi' : i < 2 ^ 62) (hj : -(2 ^ 62) ≤ j) (hj' : j < 2 ^ 62) (hc : 0 < c) (hc' : c < 1000000) : RgC i j c (if i < j then ((j - i - 1) / c + 1).toNat else 0) := by
  have e : Builtin.Range.rangeSize i j c = if i < j then (j - i - 1) / c + 1 else 0 := by
    unfold Builtin.Range.rangeSize
    rw [if_pos (by omega)]
  refine ⟨by omega, by omega, ?_, ?_⟩
  · unfold Builtin.Range.small
    rw [e]
    simp only [Builtin.Range.rangeFitsLong, Bool.and_eq_true, Bool.or_eq_true, decide_eq_true_eq, beq_iff_eq, if_pos (show c > 0 by omega)]
    split
    · have h1 := Int.ediv_nonneg (show 0 ≤ j - i - 1 by omega) (show 0 ≤ c by omega)
      have h2 := Int.ediv_le_self c (show 0 ≤ j - i - 1 by omega)
      omega
    · omega
  · rw [e]
    split
    · have h1 := Int.ediv_nonneg (show 0 ≤ j - i - 1 by omega) (show 0 ≤ c by omega)
      omega
    · rfl
def IsInsD : D → Prop
  | .ins _ _ => True
  | .ref _ => True
  | _ => False
/-- an instance is called -/
theorem de_callO {fe e : Expr} {es : List Expr} (h : DE X fe δ O E fun d O1 => IsInsD d ∧ DA X (e :: es) δ O1 E fun ds O2 => ∃ C fs g, IsIns d O2 C fs ∧ StX.CallO X.K C g ∧ DK X g (d :: ds) δ O2 E Q)
    (ht : eval (.Call fe (e :: es) [] pos) X.env = (do callWith pos (← eval fe X.env) [] (backTo pos (starEach (e :: es) X.env)) (backToKw pos (keywordEach [] X.env))) := by with_unfolding_all rfl)
    (he : starEach (e :: es) X.env = (false, eval e X.env) :: starEach es X.env := by with_unfolding_all rfl) (hpl : (backTo pos (starEach es X.env)).any (·.1) = false := by with_unfolding_all rfl) : DE X (.Call fe (e :: es) [] pos) δ O E Q :=
  de_of (t := fun σ H K => sem X fe σ H fun x H1 => ∃ a, x = .ref a ∧ semA X (e :: es) σ H1 fun vs H2 => ∃ C g, StX.InsC X H2 a C ∧ StX.CallO X.K C g ∧ semK X g (x :: vs) σ H2 K)
    ⟨fun pins s σ H K I q => by
      refine Call_ (thn (q pins s I) fun u s1 ⟨x, H1, I1, rx, a, ex, q⟩ => ?_) ht
      subst ex
      obtain rfl : u = Value.ref a := rx
      refine StX.callO_with (thn (q pos pins s1 I1) fun us s2 ⟨vs, H2, I2, r, C, g, hi, c, q2⟩ => ?_) he hpl
      obtain ⟨ox, od, J, hd⟩ := StX.insC_at I2 hi
      exact ⟨⟨C, ox, od, J, hd⟩, wpAny_call (PySem.W.kco_code I2.kIn J hd c.at_ c.fn c.fi (q2 pins s2 (.ref a :: us) I2 (.cons rfl r)))⟩⟩
    fun W tk G σ H Q' p r s hE hQ => h W tk G σ H _ p r s hE fun G1 H1 O1 d v st rd ⟨hd, q⟩ => by
      obtain ⟨a, rfl⟩ : ∃ a, v = .ref a := by
        cases d <;> first | exact hd.elim | (cases rd; exact ⟨_, rfl⟩)
      refine ⟨a, rfl, ?_⟩
      refine q W tk G1 σ H1 _ trivial (r.mono st.g) st.sta (fun _ _ _ _ _ _ st2 => hE _ _ _ _ _ _ (st.trans st2)) fun G2 H2 O2 ds ws st2 rl ⟨C, fs, g, i, c, q2⟩ => ?_
      obtain ⟨b, dx, vs, ev, ha, rf⟩ := i.get (rd.mono st2.g) st2.sta
      injection ev with ev
      subst ev
      exact ⟨C, g, .inr ⟨dx, vs, ha⟩, c, q2 (.ref a :: ws) W tk G2 σ H2 Q' (.cons (rd.mono st2.g) rl) (r.mono (st.trans st2).g) st2.sta (fun _ _ _ _ _ _ st3 => hE _ _ _ _ _ _ ((st.trans st2).trans st3)) fun _ _ _ _ _ st3 => hQ _ _ _ _ _ ((st.trans st2).trans st3)⟩

/-- what follows a statement is shown first -/
theorem rest_first {st : Stmt} {rest : List Stmt} (c : DSs X rest δ O B nx) (h : DSs X rest δ O B nx → DSs X (st :: rest) δ O B nx) : DSs X (st :: rest) δ O B nx := h c
end
end DL

end

section
set_option maxRecDepth 100000
set_option maxHeartbeats 4000000
set_option autoImplicit false
/-! The data layer: ==, !=, in, [], bool of instances by own methods. -/
namespace DL
open PySem PySem.Spec PyProof.Rows PySem.W L2
section
variable {prog : Program} {w : World} {A : Around} {E : Value → Shared → Prop} {s : Shared} {K : Frag} {x C L f : Addr} {h₀ : Heap} {m : Str → Option Value} {ox : Obj} {od : Option Obj} {b tb : Value}
theorem objNe_KI (hu : A.units < cLine) (X : K.In s.heap) (I : InstAt s.heap x ox C od) (heq : findIn K (.ref C) "__eq__" = some (some (.ref f))) (hf : isFn K (.ref f) = true) {Q : Fin → Shared → Prop}
    (h : wpAny (model prog w) A (call (.ref f) [.ref x, b]) (fun v s' => ∃ k, v = .bool k ∧ Q (.done (.ret (.bool (!k)))) s') E s) : wpAny (model prog w) A (Builtin.«object.__ne__» ⟨[.ref x, b], []⟩) Q E s := by
  unfold Builtin.«object.__ne__»
  repeat (first
    | with_reducible refine wpAny_cRoomFor hu ?_
    | (refine wpAny_bind (m := callSpecialIfBound? (.ref x) (Str.ofString "__eq__") [b])
        (ifBound_K X I heq hf (wpAny_mono h (fun r s' hr => by
          obtain ⟨k, rfl, hq⟩ := hr
          repeat (first | exact hq | exact wpAny_pure hq | exact wpAny_truthy_bool hq | (refine wpAny_bind (m := truthy (.bool _)) (wpAny_truthy_bool ?_)) | wp_step)) fun _ _ e => e)))
    | wp_step)
theorem ne_KI {Q : Value → Shared → Prop} (hu : A.units + 1 < cLine) (F : Fr h₀ L s.heap m) (X₀ : K.In h₀) (I : InstAt s.heap x ox C od) (hb : Looks (model prog w) s.heap (typeOf b) tb) (hn : notFirst K C tb = true)
    (hne : findIn K (.ref C) "__ne__" = some (some (.builtin "object.__ne__"))) (heq : findIn K (.ref C) "__eq__" = some (some (.ref f))) (hf : isFn K (.ref f) = true) (hm : mroIn K C (.type "object") = some true)
    (h : wpAny (model prog w) A.in1 (call (.ref f) [.ref x, b]) (fun v s' => ∃ k, v = .bool k ∧ Q (.bool (!k)) s') E s) : wpAny (model prog w) A (richCompare .NotEq (.ref x) b) Q E s := by
  have X := X₀.keeps F.keep
  have one : wpAny (model prog w) A (tryCompare (.ref x) (cmpInfo .NotEq).2.1 b) (fun r s' => ∃ v, r = some v ∧ Q v s') E s := by
    unfold tryCompare
    have sp : Looks (model prog w) s.heap (specialOf (.ref x) (cmpInfo .NotEq).2.1) (some (.builtin "object.__ne__")) := I.type.andThen (looks_findIn X hne)
    have iv : Looks (model prog w) s.heap (isInstance (.ref x) (.type "object")) true := I.type.andThen (looks_mroIn X hm)
    refine wpAny_bind (NtL.csib sp (PySem.F.slot_object_ne.bind _) (wpAny_call (codeAny_call_builtin PySem.F.slot_object_ne.plain PySem.F.cmpEntry_ne (@check_slot (model prog w) _ _ _ "object.__ne__" "object" "__ne__" (.ref x) [b] [] _ (by decide +kernel) (by decide +kernel) iv (PySem.F.cmpArgs_ne _ _) ?_))))
    refine objNe_KI (A := A.in1) hu X I heq hf (wpAny_mono h (fun v s' hv => ?_) fun _ _ e => e)
    obtain ⟨k, rfl, hq⟩ := hv
    first | exact ⟨k, rfl, wpAny_pure ⟨_, rfl, hq⟩⟩ | exact ⟨k, rfl, wpAny_pure (wpAny_pure ⟨_, rfl, hq⟩)⟩ | exact ⟨k, rfl, _, rfl, hq⟩
  unfold richCompare
  simp only [oneThing_ref]
  refine wpAny_holding (wpAny_bind (wpAny_cRoomFor (Nat.lt_of_succ_lt hu) ?_))
  refine wpAny_bind (I.type.here (wpAny_bind (hb.here ?_)))
  split
  · rename_i q
    have e : subIn K tb (.ref C) = some false := by
      rcases Bool.or_eq_true_iff.mp hn with e | e
      · rw [beq_iff_eq.mp e] at q; simp at q
      · exact beq_iff_eq.mp e
    refine wpAny_bind ((looks_subIn X e).here ?_)
    simp only [Bool.false_eq_true, if_false]
    refine wpAny_bind (wpAny_mono one (fun r s' z => ?_) fun _ _ e => e)
    obtain ⟨v, rfl, hq⟩ := z
    exact wpAny_pure hq
  · refine wpAny_bind (wpAny_pure ?_)
    simp only [Bool.false_eq_true, if_false]
    refine wpAny_bind (wpAny_mono one (fun r s' z => ?_) fun _ _ e => e)
    obtain ⟨v, rfl, hq⟩ := z
    exact wpAny_pure hq
end
section
variable {X : Cx} {N : List Str} {sc : Scope} {δ : DEnv} {O : Own} {E : XD → Own → Prop} {Q : D → Own → Prop} {QT : Bool → Own → Prop} {pos p apos : Pos} {d y : D} {C f : Addr} {fs : List (Str × D)} {k : Nat} {sp : DSp} {tb : Value}
/-- a value's type: a built-in one, or the class of an instance -/
inductive TyOf : D → Own → Value → Prop
  | ty {y : D} {O : Own} (h : tyD y ≠ "") : TyOf y O (.type (tyD y))
  | ins {y : D} {O : Own} {C : Addr} {gs : List (Str × D)} (i : IsIns y O C gs) : TyOf y O (.ref C)
theorem TyOf.looks {G H : Hp} {pins : List (Addr × Obj)} {σ : L2.St} {s : Shared} {v : V} {u : Value} (t : TyOf y O tb) (I : Inv X pins σ H s) (rd : Rep X.K G y v) (sta : Sta X.K G O H) (ru : RelV v u) : PySem.W.Looks (model X.prog X.w) s.heap (typeOf u) tb := by
  cases t with
  | ty h => exact looks_ty I rd sta.sub ru h
  | ins i =>
    obtain ⟨a, dx, vs, ev, ha, rf⟩ := i.get rd sta
    subst ev
    obtain rfl : u = Value.ref a := ru
    obtain ⟨mA, O2, _, _, _, _⟩ := ins_get I.hok ha
    obtain ⟨od, J, _⟩ := O2.look
    exact J.type
theorem nf_same {K : PySem.W.Frag} {C : Addr} : PySem.W.notFirst K C (.ref C) = true := by unfold PySem.W.notFirst; simp
theorem nf_ty {K : PySem.W.Frag} {C : Addr} {t : String} (h : PySem.W.subIn K (.type t) (.ref C) = some false) : PySem.W.notFirst K C (.type t) = true := by unfold PySem.W.notFirst; simp [h]
theorem db_ownEq (i : IsIns d O C fs) (t : TyOf y O tb) (hn : PySem.W.notFirst X.K C tb = true) (hs : PySem.W.findIn X.K (.ref C) "__eq__" = some (some (.ref f))) (hf : PySem.W.isFn X.K (.ref f) = true)
    (F : DFn X.prog X.w X.K X.mg X.base k f sp) (hr : Room k X.A) (h : sp [d, y] O E Q) : DB X (compareOp .Eq) d y δ O E Q := by
  intro v u W tk G σ H Q' p r s hE hQ pins s' v' u' I rv ru
  obtain ⟨a, dx, vs, ev, ha, rf⟩ := i.get p.1 s
  subst ev
  obtain rfl : v' = Value.ref a := rv
  obtain ⟨mA, O2, _, _, _, _⟩ := ins_get I.hok ha
  obtain ⟨od, J, _⟩ := O2.look
  obtain ⟨m, fr⟩ := I.fr
  refine PySem.W.cmp_K (op := .Eq) (by have := hu_of hr; omega) fr I.ok.mod.kin J (t.looks I p.2 s ru) hn hs hf ?_
  exact wpAny_mono (wpAny_call (run_fnD F hr h tk (.cons p.1 (.cons p.2 .nil)) s hE hQ I (.cons rfl (.cons ru .nil)))) (fun _ _ z => cmpb_of z) fun _ _ z => z
theorem db_ownNe (i : IsIns d O C fs) (t : TyOf y O tb) (hn : PySem.W.notFirst X.K C tb = true) (hne : PySem.W.findIn X.K (.ref C) "__ne__" = some (some (.builtin "object.__ne__"))) (hs : PySem.W.findIn X.K (.ref C) "__eq__" = some (some (.ref f))) (hf : PySem.W.isFn X.K (.ref f) = true)
    (hm : PySem.W.mroIn X.K C (.type "object") = some true) (F : DFn X.prog X.w X.K X.mg X.base k f sp) (hr : Room (k + 1) X.A) (h : sp [d, y] O E fun z O' => ∃ b, z = .bl b ∧ Q (.bl (!b)) O') : DB X (compareOp .NotEq) d y δ O E Q := by
  intro v u W tk G σ H Q' p r s hE hQ pins s' v' u' I rv ru
  obtain ⟨a, dx, vs, ev, ha, rf⟩ := i.get p.1 s
  subst ev
  obtain rfl : v' = Value.ref a := rv
  obtain ⟨mA, O2, _, _, _, _⟩ := ins_get I.hok ha
  obtain ⟨od, J, _⟩ := O2.look
  obtain ⟨m, fr⟩ := I.fr
  refine ne_KI (by have := hu_of hr; omega) fr I.ok.mod.kin J (t.looks I p.2 s ru) hn hne hs hf hm ?_
  refine wpAny_mono (wpAny_call (run_fnD1 F hr h tk (.cons p.1 (.cons p.2 .nil)) s hE (Q' := fun v H' => ∃ b, v = .bl b ∧ Q' (.bl (!b)) H') (fun G' H' O' d v st rd ⟨b, ed, q⟩ => ?_) I (.cons rfl (.cons ru .nil)))) (fun z s2 ⟨x, H2, I2, rz, b, ex, q⟩ => ?_) fun _ _ z => z
  · subst ed
    cases rd
    exact ⟨b, rfl, hQ _ _ _ _ _ st (.bl _) q⟩
  · subst ex
    cases rz
    exact ⟨b, rfl, .bl (!b), H2, I2, rfl, q⟩
/-- y in d, d's class has __contains__ -/
theorem db_ownIn (i : IsIns d O C fs) (hs : PySem.W.findIn X.K (.ref C) "__contains__" = some (some (.ref f))) (hf : PySem.W.isFn X.K (.ref f) = true) (F : DFn X.prog X.w X.K X.mg X.base k f sp) (hr : Room k X.A)
    (h : sp [d, y] O E fun z O' => ∃ b, z = .bl b ∧ Q (.bl b) O') : DB X (compareOp .In) y d δ O E Q := by
  intro u v W tk G σ H Q' p r s hE hQ pins s' u' v' I ru rv
  obtain ⟨a, dx, vs, ev, ha, rf⟩ := i.get p.2 s
  subst ev
  obtain rfl : v' = Value.ref a := rv
  obtain ⟨mA, O2, _, _, _, _⟩ := ins_get I.hok ha
  obtain ⟨od, J, _⟩ := O2.look
  obtain ⟨m, fr⟩ := I.fr
  refine PySem.W.in_K fr I.ok.mod.kin J hs hf ?_
  refine wpAny_mono (wpAny_call (run_fnD F hr h tk (.cons p.2 (.cons p.1 .nil)) s hE (Q' := fun v H' => ∃ b, v = .bl b ∧ Q' (.bl b) H') (fun G' H' O' d v st rd ⟨b, ed, q⟩ => ?_) I (.cons rfl (.cons ru .nil)))) (fun z s2 ⟨x, H2, I2, rz, b, ex, q⟩ => ?_) fun _ _ z => z
  · subst ed
    cases rd
    exact ⟨b, rfl, hQ _ _ _ _ _ st (.bl _) q⟩
  · subst ex
    cases rz
    exact wpAny_truthy_bool ⟨.bl b, H2, I2, rfl, q⟩
/-- y not in d -/
theorem db_ownNotIn (i : IsIns d O C fs) (hs : PySem.W.findIn X.K (.ref C) "__contains__" = some (some (.ref f))) (hf : PySem.W.isFn X.K (.ref f) = true) (F : DFn X.prog X.w X.K X.mg X.base k f sp) (hr : Room k X.A)
    (h : sp [d, y] O E fun z O' => ∃ b, z = .bl b ∧ Q (.bl (!b)) O') : DB X (compareOp .NotIn) y d δ O E Q := by
  intro u v W tk G σ H Q' p r s hE hQ pins s' u' v' I ru rv
  obtain ⟨a, dx, vs, ev, ha, rf⟩ := i.get p.2 s
  subst ev
  obtain rfl : v' = Value.ref a := rv
  obtain ⟨mA, O2, _, _, _, _⟩ := ins_get I.hok ha
  obtain ⟨od, J, _⟩ := O2.look
  obtain ⟨m, fr⟩ := I.fr
  refine PySem.W.notIn_K fr I.ok.mod.kin J hs hf ?_
  refine wpAny_mono (wpAny_call (run_fnD F hr h tk (.cons p.2 (.cons p.1 .nil)) s hE (Q' := fun v H' => ∃ b, v = .bl b ∧ Q' (.bl (!b)) H') (fun G' H' O' d v st rd ⟨b, ed, q⟩ => ?_) I (.cons rfl (.cons ru .nil)))) (fun z s2 ⟨x, H2, I2, rz, b, ex, q⟩ => ?_) fun _ _ z => z
  · subst ed
    cases rd
    exact ⟨b, rfl, hQ _ _ _ _ _ st (.bl _) q⟩
  · subst ex
    cases rz
    exact wpAny_truthy_bool ⟨.bl (!b), H2, I2, rfl, q⟩
/-- d[y], d's class has __getitem__ -/
theorem dx_ownG (i : IsIns d O C fs) (hs : PySem.W.findIn X.K (.ref C) "__getitem__" = some (some (.ref f))) (hfi : PySem.W.fnIn X.K f = true) (hf : PySem.W.isFn X.K (.ref f) = true) (F : DFn X.prog X.w X.K X.mg X.base k f sp) (hr : Room (k + 1) X.A)
    (h : sp [d, y] O E Q) : DX X d y δ O E Q := by
  refine ⟨?_⟩
  intro ea eb _ ho v u W tk G σ H Q' p r s hE hQ pins s' v' u' I rv ru
  obtain ⟨a, dx, vs, ev, ha, rf⟩ := i.get p.1 s
  subst ev
  obtain rfl : v' = Value.ref a := rv
  obtain ⟨mA, O2, _, _, _, _⟩ := ins_get I.hok ha
  obtain ⟨od, J, _⟩ := O2.look
  obtain ⟨m, fr⟩ := I.fr
  exact PySem.W.sub_K fr I.ok.mod.kin J hs hfi hf (wpAny_call (run_fnD1 F hr h tk (.cons p.1 (.cons p.2 .nil)) s hE hQ I (.cons rfl (.cons ru .nil)))) (ho _ _)
end
end DL

end

section
set_option maxRecDepth 100000
set_option maxHeartbeats 4000000
set_option autoImplicit false
/-! The data layer: three names at once, lists backwards. -/
namespace DL
open PySem PySem.Spec PyProof.Rows L2
theorem swap3 {env : Env} {x y z : Str} {px py pz pt pt2 : Pos} {kt k2 : Nat} {a b c : Expr} (hk : env.scope.kind = .function) (hx : env.scope.names.lookup x = some .local) (hy : env.scope.names.lookup y = some .local) (hz : env.scope.names.lookup z = some .local) (hxy : x ≠ y) (hxz : x ≠ z) (hyz : y ≠ z) (hl : (py.line == px.line) = true) (hl2 : (pz.line == px.line) = true)
    (ha : starry a = false) (hb : starry b = false) (hc3 : starry c = false) (hf : (foldedForSure 8 a && (foldedForSure 8 b && foldedForSure 8 c)) = false) (hc : (constantsAlone 8 a && (constantsAlone 8 b && constantsAlone 8 c)) = false) : swappedStores [.Tuple [.Name x px, .Name y py, .Name z pz] kt pt] (.Tuple [a, b, c] k2 pt2) env = pure (some [x, y, z]) := by
  have hbk : env.blockKind = .function := by
    unfold Env.blockKind
    rw [hk]
    rfl
  have kx : (env.kindOf x == some .local) = true := by unfold Env.kindOf; rw [hx]; rfl
  have ky : (env.kindOf y == some .local) = true := by unfold Env.kindOf; rw [hy]; rfl
  have kz : (env.kindOf z == some .local) = true := by unfold Env.kindOf; rw [hz]; rfl
  have hbk2 : (env.blockKind != .function) = false := by rw [hbk]; rfl
  have dd : [x, y, z].eraseDups = [x, y, z] := by
    rw [List.eraseDups_cons]
    have : (List.filter (fun b => !b == x) [y, z]) = [y, z] := by simp [beq_eq_false_iff_ne.2 (Ne.symm hxy), beq_eq_false_iff_ne.2 (Ne.symm hxz)]
    rw [this, List.eraseDups_cons]
    have : (List.filter (fun b => !b == y) [z]) = [z] := by simp [beq_eq_false_iff_ne.2 (Ne.symm hyz)]
    rw [this, List.eraseDups_cons]
    simp
  unfold swappedStores
  simp only [List.length_cons, List.length_nil, hbk2, List.any_cons, List.any_nil, List.head?_cons, Option.map_some, Option.getD_some, List.filterMap_cons, List.filterMap_nil, kx, ky, kz, Expr.pos, beq_self_eq_true, Bool.and_self, hl, hl2, dd, List.all_cons, List.all_nil, Bool.and_true, if_true]
  refine (if_neg (by decide)).trans ?_
  refine (if_neg ?h).trans ?_
  case h =>
    show ¬ ((starry a || (starry b || (starry c || false))) = true)
    rw [ha, hb, hc3]
    decide
  refine (if_neg (by decide)).trans ?_
  refine (if_neg (by rw [hf]; exact Bool.false_ne_true)).trans ?_
  exact if_neg (by rw [hc]; exact Bool.false_ne_true)
section
variable {X : Cx} {N : List Str} {sc : Scope} {δ : DEnv} {O : Own} {E : XD → Own → Prop} {Q : D → Own → Prop} {B : Bk} {nx : DEnv → Own → Prop} {pos : Pos}
theorem ix_ne {x y : Str} {i j : Nat} (S : Sc X N sc) (hi : Ix x N i) (hj : Ix y N j) (hij : Nat.beq i j = false) : i ≠ j ∧ x ≠ y := by
  have hij' : i ≠ j := fun e => by rw [e, Nat.beq_refl] at hij; cases hij
  refine ⟨hij', fun e => hij' ?_⟩
  obtain ⟨p1, q1⟩ := List.getElem?_eq_some_iff.1 hi.get
  obtain ⟨p2, q2⟩ := List.getElem?_eq_some_iff.1 hj.get
  exact (List.getElem_inj S.nd).1 (by rw [q1, q2, e])
theorem ds_par3 {x y z : Str} {a b c : Expr} {i j l : Nat} {px py pz pt : Pos} {kt k2 : Nat} {pt2 : Pos} (S : Sc X N sc) (hi : Ix x N i) (hj : Ix y N j) (hl : Ix z N l) (hij : Nat.beq i j = false) (hil : Nat.beq i l = false) (hjl : Nat.beq j l = false)
    (h : DA X [a, b, c] δ O (fun x O' => B.ex x δ O') fun ds O1 => ∃ d e f δ' δ'' δ3, ds = [d, e, f] ∧ SetD d δ i δ' ∧ SetD e δ' j δ'' ∧ SetD f δ'' l δ3 ∧ nx δ3 O1)
    (hx : Nk x .local sc.names := by (repeat (with_reducible constructor))) (hy : Nk y .local sc.names := by (repeat (with_reducible constructor))) (hz : Nk z .local sc.names := by (repeat (with_reducible constructor))) (hk : sc.kind = .function := by with_unfolding_all rfl) (hp : (py.line == px.line) = true := by with_unfolding_all rfl) (hp2 : (pz.line == px.line) = true := by with_unfolding_all rfl)
    (ha : starry a = false := by with_unfolding_all rfl) (hb : starry b = false := by with_unfolding_all rfl) (hc3 : starry c = false := by with_unfolding_all rfl) (hf : (foldedForSure 8 a && (foldedForSure 8 b && foldedForSure 8 c)) = false := by with_unfolding_all rfl) (hc : (constantsAlone 8 a && (constantsAlone 8 b && constantsAlone 8 c)) = false := by with_unfolding_all rfl)
    (hs : swapsWithSole [.Tuple [.Name x px, .Name y py, .Name z pz] kt pt] (.Tuple [a, b, c] k2 pt2) pos.line X.env = pure false := by with_unfolding_all rfl) : DS X (.Assign [.Tuple [.Name x px, .Name y py, .Name z pz] kt pt] (.Tuple [a, b, c] k2 pt2) pos) δ O B nx := by
  obtain ⟨n1, m1⟩ := ix_ne S hi hj hij
  obtain ⟨n2, m2⟩ := ix_ne S hi hl hil
  obtain ⟨n3, m3⟩ := ix_ne S hj hl hjl
  refine ds_of (ps_par3 S.calm S.hN (S.ix hi) (S.ix hj) (S.ix hl) n1 n2 n3 (S.lo hx) (S.lo hy) (S.lo hz) pa_sem (swap3 (by rw [S.hsc]; exact hk) (S.lo hx) (S.lo hy) (S.lo hz) m1 m2 m3 hp hp2 ha hb hc3 hf hc) hs) fun W tk G σ H D r s l => m_in h tk trivial r s l fun G' H' O' ds vs st r' l' rd ⟨d, e, f, δ', δ'', δ3, ed, h1, h2, h3, q⟩ => by
    subst ed
    cases rd with
    | cons r1 rr =>
      cases rr with
      | cons r2 rr =>
        cases rr with
        | cons r3 rr =>
          cases rr
          exact ⟨_, _, _, rfl, l'.nx G' H' O' δ3 _ (Step.refl st.sta) (by rw [h3.eq, h2.eq, h1.eq]; exact ((r'.set i r1).set j r2).set _ r3) q⟩
theorem par3_in {d e f : D} {i j l : Nat} {δ' δ'' δ3 : DEnv} {C : DEnv → Prop} (h1 : SetD d δ i δ') (h2 : SetD e δ' j δ'') (h3 : SetD f δ'' l δ3) (q : C δ3) : ∃ d' e' f' δ' δ'' δ3, [d, e, f] = [d', e', f'] ∧ SetD d' δ i δ' ∧ SetD e' δ' j δ'' ∧ SetD f' δ'' l δ3 ∧ C δ3 := ⟨d, e, f, δ', δ'', δ3, rfl, h1, h2, h3, q⟩
/-- xs[::-1] -/
theorem de_revL {e : Expr} {k : Nat} {p1 p2 p3 : Pos} (h : DE X e δ O E fun d O1 => ∃ xs, d = .lst xs ∧ NewL xs.reverse O1 Q) : DE X (.Subscript e (.Slice none none (some (.UnaryOp .USub (.Constant (.int 1) k p1) p2)) p3) pos) δ O E Q :=
  de_of (pe_revL pe_sem) fun W tk G σ H Q' p r s hE hQ => h W tk G σ H _ p r s hE fun G' H' O' d v st rd ⟨xs, ed, n⟩ => by
    subst ed
    cases rd with
    | lst hq rl => exact ⟨_, _, rfl, .inl (.inl (st.sta.sub _ _ hq)), m_newL st.sta rl.reverse n fun _ _ _ _ _ st2 => hQ _ _ _ _ _ (st.trans st2)⟩
theorem dc_intB {b : Bool} (q : Q (.int (if b then 1 else 0)) O) : DC X (.type "int") [.bl b] δ O E Q := dc_of call_int1 fun vs W tk G σ H Q' p r s hE hQ => by
  cases p with
  | cons p1 pr =>
    cases pr
    cases p1
    exact .inr ⟨b, rfl, hQ _ _ _ _ _ (Step.refl s) (.int _) q⟩
end
end DL

end

section
set_option maxRecDepth 100000
set_option maxHeartbeats 4000000
set_option autoImplicit false
/-! The data layer (plain): rounds that sound alike. -/
namespace DL
open PySem PySem.Spec PyProof.Rows L2
/-- the same sounds at every beat -/
def SameS (n1 n2 : List Note) : Prop := ∀ b : Int, soundAt n1 b = soundAt n2 b
section
variable {n1 n2 : List Note} {v1 v2 vs : List Voice} {sharp : List Int}
theorem SameS.snd (h : SameS n1 n2) (b : Int) : soundsR n1 vs b = soundsR n2 vs b := by
  unfold soundsR
  refine List.map_congr_left fun v _ => ?_
  rw [h]
theorem SameS.pairs (h : SameS n1 n2) (b : Int) : pairsAt n1 vs sharp b = pairsAt n2 vs sharp b := by unfold pairsAt; rw [h.snd]
theorem SameS.cnt (h : SameS n1 n2) : cntR n1 vs sharp = cntR n2 vs sharp := funext fun b => by unfold cntR; rw [h.pairs]
theorem SameS.diff (h : SameS n1 n2) (b : Nat) : heardL (soundsR n1 vs (b : Nat)) = heardL (soundsR n2 vs (b : Nat)) := by rw [h.snd]
/-- what the first clash is, whatever the melody's length -/
theorem first_same (R1 : Rnd n1 v1 sharp) (R2 : Rnd n2 v2 sharp) (h : ∀ b : Nat, pairsAt n1 v1 sharp (b : Nat) = pairsAt n2 v2 sharp (b : Nat)) : firstR n1 v1 sharp = firstR n2 v2 sharp := by
  have hc : cntR n1 v1 sharp = cntR n2 v2 sharp := funext fun b => by unfold cntR; rw [h]
  cases h1 : firstR n1 v1 sharp with
  | none =>
    have z1 := (first_zero R1 (n := endR n1 v1 + endR n2 v2) (by omega)).1 h1
    rw [hc] at z1
    exact ((first_zero R2 (n := endR n1 v1 + endR n2 v2) (by omega)).2 z1).symm
  | some p =>
    cases h2 : firstR n2 v2 sharp with
    | none =>
      have z1 := (first_zero R2 (n := endR n1 v1 + endR n2 v2) (by omega)).1 h2
      rw [← hc] at z1
      rw [(first_zero R1 (n := endR n1 v1 + endR n2 v2) (by omega)).2 z1] at h1
      cases h1
    | some q =>
      obtain ⟨_, ⟨r1, e1⟩, m1⟩ := firstR_some h1
      obtain ⟨_, ⟨r2, e2⟩, m2⟩ := firstR_some h2
      have e : p.1 = q.1 := by
        rcases Nat.lt_trichotomy p.1 q.1 with l | l | l
        · have := m2 _ l; rw [← h, e1] at this; cases this
        · exact l
        · have := m1 _ l; rw [h, e2] at this; cases this
      rw [h, e, e2] at e1
      injection e1 with e3 e4
      obtain ⟨p1, p2, p3⟩ := p
      obtain ⟨q1, q2, q3⟩ := q
      simp at e e3
      rw [e, e3.1, e3.2]
end
/-- a melody several times over -/
theorem sameS_times {ns : List Note} (m : Mel ns) {k : Nat} (hk : 1 ≤ k) : SameS ns (List.replicate k ns).flatten ∧ DL.sizeOf (List.replicate k ns).flatten = k * DL.sizeOf ns := by
  have hz := m.rowP_len
  have hr : ∀ k : Nat, rowP (List.replicate k ns).flatten = (List.replicate k (rowP ns)).flatten := by
    intro k
    induction k with
    | zero => rfl
    | succ k ih => rw [List.replicate_succ, List.flatten_cons, rowP_append, ih, List.replicate_succ, List.flatten_cons]
  have hlen : ∀ k : Nat, (List.replicate k (rowP ns)).flatten.length = k * (rowP ns).length := fun k => by simp
  have hget : ∀ (k i : Nat), i < k * (rowP ns).length → (List.replicate k (rowP ns)).flatten[i]? = (rowP ns)[i % (rowP ns).length]? := by
    intro k
    induction k with
    | zero => intro i hi; omega
    | succ k ih =>
      intro i hi
      rw [List.replicate_succ, List.flatten_cons]
      rcases Nat.lt_or_ge i (rowP ns).length with q | q
      · rw [List.getElem?_append_left q, Nat.mod_eq_of_lt q]
      · rw [List.getElem?_append_right q, ih _ (by rw [Nat.succ_mul] at hi; omega)]
        congr 1
        rw [Nat.mod_eq_sub_mod q]
  have hs : DL.sizeOf (List.replicate k ns).flatten = k * DL.sizeOf ns := by unfold DL.sizeOf; rw [hr, hlen]
  refine ⟨fun b => ?_, hs⟩
  unfold soundAt
  rw [hr, hlen]
  have hz2 : 0 < (rowP ns).length := by omega
  have hkz : 0 < k * (rowP ns).length := Nat.mul_pos hk hz2
  have h0 := Int.emod_nonneg b (show ((k * (rowP ns).length : Nat) : Int) ≠ 0 by omega)
  have h1 := Int.emod_lt_of_pos b (show (0 : Int) < ((k * (rowP ns).length : Nat) : Int) by omega)
  rw [hget _ _ (by omega)]
  congr 2
  have h2 : b % ((k * (rowP ns).length : Nat) : Int) % ((rowP ns).length : Int) = b % ((rowP ns).length : Int) := Int.emod_emod_of_dvd b ⟨(k : Int), by rw [Int.natCast_mul, Int.mul_comm]⟩
  rw [← h2]
  obtain ⟨j, hj⟩ := Int.eq_ofNat_of_zero_le h0
  rw [hj, Int.toNat_natCast, ← Int.natCast_emod, Int.toNat_natCast]
theorem mel_times {ns : List Note} (m : Mel ns) {k : Nat} (hk : 1 ≤ k) (hl : k * ns.length ≤ 32) : Mel (List.replicate k ns).flatten := by
  refine ⟨fun n hn => ?_, ?_, ?_⟩
  · obtain ⟨l, hl, hn⟩ := List.mem_flatten.1 hn
    rw [List.eq_of_mem_replicate hl] at hn
    exact m.ok n hn
  · have := m.pos
    have := Nat.mul_le_mul hk this
    simp; omega
  · simpa using hl
theorem shift_flat {k : Int} : ∀ (ls : List (List Note)), shiftN k ls.flatten = (ls.map (shiftN k)).flatten
  | [] => rfl
  | l :: ls => by rw [List.flatten_cons, List.map_cons, List.flatten_cons, ← shift_flat ls]; unfold shiftN; rw [List.map_append]
theorem shift_times {ns : List Note} {k : Nat} {s : Int} : shiftN s (List.replicate k ns).flatten = (List.replicate k (shiftN s ns)).flatten := by rw [shift_flat, List.map_replicate]
theorem rnd_times {ns : List Note} {vs : List Voice} {sharp : List Int} (R : Rnd ns vs sharp) {k : Nat} (hk : 1 ≤ k) (hl : k * ns.length ≤ 32) : Rnd (List.replicate k ns).flatten vs sharp :=
  ⟨mel_times R.mel hk hl, R.pos, R.le, R.ok, fun v hv => by rw [shift_times]; exact mel_times (R.fits v hv) hk (by rw [shiftN_length]; exact hl), R.sharp⟩
/-- each long note cut in two -/
def cutN (n : Note) : List Note := if 1 < n.2 then [(n.1, 1), (n.1, n.2 - 1)] else [n]
theorem rowP_cut : ∀ (ns : List Note), rowP (ns.flatMap cutN) = rowP ns
  | [] => rfl
  | n :: ns => by
    rw [List.flatMap_cons, rowP_append, rowP_cut ns, show n :: ns = [n] ++ ns from rfl, rowP_append]
    congr 1
    unfold cutN
    split
    · unfold rowP
      simp only [List.flatMap_cons, List.flatMap_nil, List.append_nil]
      rw [List.replicate_append_replicate]
      congr 1
      omega
    · rfl
theorem mel_cut {ns : List Note} (m : Mel ns) (hl : ns.length ≤ 16) : Mel (ns.flatMap cutN) := by
  have hlen : ∀ l : List Note, l.length ≤ (l.flatMap cutN).length ∧ (l.flatMap cutN).length ≤ 2 * l.length := by
    intro l
    induction l with
    | nil => simp
    | cons n l ih =>
      rw [List.flatMap_cons, List.length_append, List.length_cons]
      have h : 1 ≤ (cutN n).length ∧ (cutN n).length ≤ 2 := by unfold cutN; split <;> simp
      omega
  refine ⟨fun n hn => ?_, by have := m.pos; have := hlen ns; omega, by have := hlen ns; omega⟩
  obtain ⟨x, hx, h2⟩ := List.mem_flatMap.1 hn
  have h3 := okNote_iff.1 (m.ok x hx)
  unfold cutN at h2
  split at h2
  · rcases List.mem_cons.1 h2 with rfl | h2
    · exact okNote_iff.2 ⟨h3.1, by omega⟩
    · rw [List.mem_singleton.1 h2]; exact okNote_iff.2 ⟨h3.1, by show 1 ≤ x.2 - 1 ∧ x.2 - 1 ≤ 16; omega⟩
  · rw [List.mem_singleton.1 h2]; exact m.ok x hx
theorem shift_cut {k : Int} : ∀ ns : List Note, shiftN k (ns.flatMap cutN) = (shiftN k ns).flatMap cutN
  | [] => rfl
  | n :: ns => by
    rw [List.flatMap_cons]
    have e : shiftN k (n :: ns) = (n.1.map (· + k), n.2) :: shiftN k ns := rfl
    rw [e, List.flatMap_cons, ← shift_cut ns]
    unfold shiftN
    rw [List.map_append]
    congr 1
    unfold cutN
    split <;> rfl
theorem rnd_cut {ns : List Note} {vs : List Voice} {sharp : List Int} (R : Rnd ns vs sharp) (hl : ns.length ≤ 16) : Rnd (ns.flatMap cutN) vs sharp :=
  ⟨mel_cut R.mel hl, R.pos, R.le, R.ok, fun v hv => by rw [shift_cut]; exact mel_cut (R.fits v hv) (by rw [shiftN_length]; exact hl), R.sharp⟩
theorem sameS_cut (ns : List Note) : SameS ns (ns.flatMap cutN) := fun b => by unfold soundAt; rw [rowP_cut]
/-- first beats are told apart -/
theorem IsFst.uniq {P : Nat → Prop} {r t : Option Nat} (h1 : IsFst P r) (h2 : IsFst P t) : r = t := by
  cases r with
  | none => cases t with
    | none => rfl
    | some t => exact absurd h2.1 (h1 t)
  | some r => cases t with
    | none => exact absurd h1.1 (h2 r)
    | some t =>
      rcases Nat.lt_trichotomy r t with l | l | l
      · exact absurd h1.1 (h2.2 r l)
      · rw [l]
      · exact absurd h2.1 (h1.2 t l)
theorem IsFst.congr {P P' : Nat → Prop} (h : ∀ b, P b ↔ P' b) {r : Option Nat} (f : IsFst P r) : IsFst P' r := by
  have e : P = P' := funext fun b => propext (h b)
  rw [← e]; exact f
end DL

end

section
set_option maxRecDepth 100000
set_option maxHeartbeats 4000000
set_option autoImplicit false
/-! The data layer: last items; first differences; equal values compared. -/
namespace DL
open PySem PySem.Spec PyProof.Rows L2
theorem cutD_last (xs : List D) (x : D) : cutD (xs ++ [x]) none (some (-1)) = xs := by
  simp only [cutD, HT.sIx, List.drop_zero, Nat.sub_zero, if_pos (show (-1 : Int) < 0 by omega)]
  rw [List.length_append, List.length_singleton, show ((-1 : Int) + ((xs.length + 1 : Nat) : Int)).toNat = xs.length by omega]
  simp
theorem atI_last {α : Type} (xs : List α) (x : α) : atI (xs ++ [x]) (-1) = some x := by
  unfold atI ixN
  rw [if_neg (by omega), if_pos (by rw [List.length_append, List.length_singleton]; omega), List.length_append, List.length_singleton, show ((-1 : Int) + ((xs.length + 1 : Nat) : Int)).toNat = xs.length by omega]
  simp
theorem last_of {α : Type} {l : List α} (h : 1 ≤ l.length) : ∃ xs x, l = xs ++ [x] := by
  have hne : l ≠ [] := fun e => by rw [e] at h; simp at h
  exact ⟨l.dropLast, l.getLast hne, (List.dropLast_concat_getLast hne).symm⟩
section
variable {X : Cx} {δ : DEnv} {O : Own} {E : XD → Own → Prop} {Q : D → Own → Prop}
theorem db_neSame {k n : Nat} {x : D} (hr : Room k X.A) (hx : okN n x) (bx : noBl x = true) (q : Q (.bl false) O) (hn : n ≤ 64 := by decide) : DB X (compareOp .NotEq) x x δ O E Q :=
  db_neP hr hx hx bx bx (fun b hb => by
    cases b with
    | false => exact q
    | true => exact absurd rfl (hb.1 rfl)) hn hn
theorem db_eqSame {k n : Nat} {x : D} (hr : Room k X.A) (hx : okN n x) (bx : noBl x = true) (q : Q (.bl true) O) (hn : n ≤ 64 := by decide) : DB X (compareOp .Eq) x x δ O E Q :=
  db_eqP hr hx hx bx bx (fun b hb => by rw [hb.2 rfl]; exact q) hn hn
end
theorem okN_snd (l : List (Option Int)) : okN 1 (.lst (dSnd l)) := okN_lst fun d hd => by obtain ⟨o, _, rfl⟩ := List.mem_map.1 hd; exact okN_opt o
theorem noBl_snd (l : List (Option Int)) : noBl (.lst (dSnd l)) = true := noBls_of fun d hd => by obtain ⟨o, _, rfl⟩ := List.mem_map.1 hd; exact noBl_opt o
theorem ok3 (x y z : Int) : okN 1 (.tup [.int x, .int y, .int z]) ∧ noBl (.tup [.int x, .int y, .int z]) = true := ⟨okN_tup (n := 0) fun d hd => by
  rcases List.mem_cons.1 hd with rfl | hd
  · exact okN_int
  rcases List.mem_cons.1 hd with rfl | hd
  · exact okN_int
  rw [List.mem_singleton.1 hd]; exact okN_int, rfl⟩
theorem okN_first (f : Option (Nat × Nat × Nat)) : okN 1 (dFirst f) ∧ noBl (dFirst f) = true := by
  cases f with
  | none => exact ⟨okN_non, rfl⟩
  | some p => exact ok3 _ _ _
theorem heardL_iff {a b : List (Option Int)} : heardL a = heardL b ↔ (a.filterMap id).Perm (b.filterMap id) := sortI_iff
end DL

end

section
set_option maxRecDepth 100000
set_option maxHeartbeats 4000000
set_option autoImplicit false
/-! The data layer: count and index of lists of plain data. -/
namespace DL
open PySem PySem.Spec PyProof.Rows L2
section
variable {X : Cx}
def rCntD (K : PySem.W.Frag) : V → List V → Hp → VK → Prop := fun x xs H Q => ∃ (a : Addr) (y : V) (d : PyData) (ds : List PyData), x = V.ref a ∧ xs = [y] ∧ Dp K H (V.ref a) (.list ds) ∧ Dp K H y d ∧
  SeqAt.shaped (.list ds) = true ∧ SeqAt.shaped d = true ∧ Q (.int (ds.countP fun z => PyData.eqv z d : Nat)) H
theorem mt_countD (hu : X.A.units + 65 < cLine) : MtR X "list.count" (rCntD X.K) := by
  intro pins s σ H x xs v us Q I rx rxs h
  obtain ⟨a, y, d, ds, rfl, rfl, hl, hy, sl, sd, q⟩ := h
  cases rx
  cases rxs with
  | cons ry rt =>
    rename_i uy ut
    cases rt
    obtain ⟨bs, r1⟩ := Dp.reads I d y uy hy ry
    have hxs : PyData.canLayAll0 ds = true := SeqAt.canLay_of_shaped sl
    have hroom : X.A.units + 1 + min (PyData.depthAll ds) d.depth < cLine := room_in_shaped sd hu
    cases hl with
    | lst hs ha =>
      obtain ⟨its, rv, ⟨⟨cls, dd, data, sls⟩, n, ho, hc, hdn, hdt⟩, hlen⟩ := I.list hs
      simp only at hc hdt
      subst hc hdt
      obtain ⟨as, h4⟩ := Dp.readsAll I ds _ its ha rv
      have hmap : its.map (SeqAt.readOf s.heap) = ds := SeqAt.readsAll_map ds its as hxs h4
      refine call_meets PySem.F.slot_list_count ⟨_, ho, rfl⟩ PySem.F.entry_list_count (PySem.F.args_list_count_2 _ _)
        (SeqAt.list_countAt a its.toArray n dd sls uy (fun u => PyData.eqv (SeqAt.readOf s.heap u) d)) ⟨ho, SeqAt.items_eqAt (vs := its.toArray) (show ReadsAll s.heap its.toArray.toList ds as from h4) r1 hxs (SeqAt.canLay_of_shaped sd) hroom, ?_⟩
      have ec : its.toArray.toList.countP (fun u => PyData.eqv (SeqAt.readOf s.heap u) d) = ds.countP fun z => PyData.eqv z d := by
        rw [← hmap, List.countP_map]
        rfl
      refine ⟨.int (ds.countP fun z => PyData.eqv z d : Nat), H, I.tok _, ⟨s.toks, ?_⟩, q⟩
      show Value.int ((its.toArray.toList.countP _ : Nat) : Int) s.toks = _
      rw [ec]
end
theorem _root_.L2.Room.u65 {k : Nat} {A : Around} (r : Room k A) : A.units + 65 < cLine := by have := r.un; omega
theorem toPs_map : ∀ ds : List D, toPs ds = ds.map toP
  | [] => rfl
  | d :: ds => by rw [toPs, toPs_map ds]; rfl
section
variable {X : Cx} {δ : DEnv} {O : Own} {E : XD → Own → Prop} {Q : D → Own → Prop} {pos apos : Pos}
theorem lst_ty {d : D} {ds : List D} {K : PySem.W.Frag} {G H : Hp} {v : V} (l : Lst d O ds) (r : Rep K G d v) (s : Sta K G O H) : ∃ a xs, v = .ref a ∧ SqL K H a xs := by
  cases l with
  | fz => cases r with
    | lst hq rl => exact ⟨_, _, rfl, .inl (.inl (s.sub _ _ hq))⟩
  | own m =>
    cases r
    obtain ⟨_, o, ho, rc⟩ := s.at_ m
    cases o with
    | lst ws => exact ⟨_, _, rfl, .inl (.inl ho)⟩
    | _ => exact rc.elim
/-- o.count(e) -/
theorem de_count {o e : Expr} (hr : X.A.units + 65 < cLine) (h : DE X o δ O E fun d O1 => ∃ zs, Lst d O1 zs ∧ DE X e δ O1 E fun y O2 => ∃ ds p, View O2 d (.lst ds) ∧ View O2 y p ∧ okD (.lst ds) ∧ okD p ∧ Q (.int (ds.countP fun z => PyData.eqv (toP z) (toP p) : Nat)) O2)
    (hbase : attributeBase o "count" X.env (eval o X.env) = eval o X.env := by with_unfolding_all rfl)
    (hfew : ((backTo pos (starEach [e] X.env)).all (fun x => !x.1) && (backToKw pos (keywordEach [] X.env)).all (fun x => x.1.isSome)
      && decide ([e].length + ([] : List Keyword).length + (if ([] : List Keyword).isEmpty then 0 else 1) < 30)) = true := by with_unfolding_all rfl)
    (hline : (apos.endLine == pos.line) = true := by with_unfolding_all rfl) (hs : starEach [e] X.env = (false, eval e X.env) :: starEach [] X.env := by with_unfolding_all rfl) (hplain : (backTo pos (starEach [] X.env)).any (·.1) = false := by with_unfolding_all rfl) :
    DE X (.Call (.Attribute o "count" apos) [e] [] pos) δ O E Q :=
  de_of (pe_bm PySem.F.plainAttrs_list PySem.F.slot_list_count PySem.F.type_list_count (mt_countD hr) pe_sem (pa_cons pe_sem pa_nil hs) hbase hfew hline hs hplain)
    fun W tk G σ H Q' p r s hE hQ => h W tk G σ H _ p r s hE fun G1 H1 O1 d v st rd ⟨zs, l, h1⟩ => by
      obtain ⟨a, xs, ev, hq⟩ := lst_ty l rd st.sta
      subst ev
      refine ⟨.inl ⟨rfl, xs, hq⟩, ?_⟩
      refine h1 W tk G1 σ H1 _ trivial (r.mono st.g) st.sta (fun _ _ _ _ _ _ st2 => hE _ _ _ _ _ _ (st.trans st2)) fun G2 H2 O2 y v2 st2 ry ⟨ds, pp, vd, vy, od, op, q⟩ => ?_
      have h5 := rep_vw st2.sta vd (rd.mono st2.g)
      refine ⟨a, v2, toP pp, toPs ds, rfl, rfl, h5, rep_vw st2.sta vy ry, od.2, op.2, ?_⟩
      have e9 : (toPs ds).countP (fun z => PyData.eqv z (toP pp)) = ds.countP fun z => PyData.eqv (toP z) (toP pp) := by
        rw [toPs_map, List.countP_map]; rfl
      rw [e9]
      exact hQ _ _ _ _ _ (st.trans st2) (.int _) q
/-- o.index(e), e stands in o -/
theorem de_index {o e : Expr} (hr : X.A.units + 65 < cLine) (h : DE X o δ O E fun d O1 => ∃ zs, Lst d O1 zs ∧ DE X e δ O1 E fun y O2 => ∃ (ds : List D) (p : D) (j : Nat) (z : D), View O2 d (.lst ds) ∧ View O2 y p ∧ okD (.lst ds) ∧ okD p ∧ ds[j]? = some z ∧ PyData.eqv (toP z) (toP p) = true ∧ (∀ m z', m < j → ds[m]? = some z' → PyData.eqv (toP z') (toP p) = false) ∧ Q (.int (j : Nat)) O2)
    (hbase : attributeBase o "index" X.env (eval o X.env) = eval o X.env := by with_unfolding_all rfl)
    (hfew : ((backTo pos (starEach [e] X.env)).all (fun x => !x.1) && (backToKw pos (keywordEach [] X.env)).all (fun x => x.1.isSome)
      && decide ([e].length + ([] : List Keyword).length + (if ([] : List Keyword).isEmpty then 0 else 1) < 30)) = true := by with_unfolding_all rfl)
    (hline : (apos.endLine == pos.line) = true := by with_unfolding_all rfl) (hs : starEach [e] X.env = (false, eval e X.env) :: starEach [] X.env := by with_unfolding_all rfl) (hplain : (backTo pos (starEach [] X.env)).any (·.1) = false := by with_unfolding_all rfl) :
    DE X (.Call (.Attribute o "index" apos) [e] [] pos) δ O E Q :=
  de_of (pe_bm PySem.F.plainAttrs_list PySem.F.slot_list_index PySem.F.type_list_index (mt_indexD hr) pe_sem (pa_cons pe_sem pa_nil hs) hbase hfew hline hs hplain)
    fun W tk G σ H Q' p r s hE hQ => h W tk G σ H _ p r s hE fun G1 H1 O1 d v st rd ⟨zs, l, h1⟩ => by
      obtain ⟨a, xs, ev, hq⟩ := lst_ty l rd st.sta
      subst ev
      refine ⟨.inl ⟨rfl, xs, hq⟩, ?_⟩
      refine h1 W tk G1 σ H1 _ trivial (r.mono st.g) st.sta (fun _ _ _ _ _ _ st2 => hE _ _ _ _ _ _ (st.trans st2)) fun G2 H2 O2 y v2 st2 ry ⟨ds, pp, j, z, vd, vy, od, op, hz, hzj, hno, q⟩ => ?_
      have h5 := rep_vw st2.sta vd (rd.mono st2.g)
      refine ⟨a, v2, toP pp, toPs ds, j, toP z, rfl, rfl, h5, rep_vw st2.sta vy ry, od.2, op.2, ?_, hzj, ?_, hQ _ _ _ _ _ (st.trans st2) (.int _) q⟩
      · rw [toPs_map, List.getElem?_map, hz]; rfl
      · intro m z' hm hz'
        rw [toPs_map, List.getElem?_map] at hz'
        cases h9 : ds[m]? with
        | none => rw [h9] at hz'; cases hz'
        | some w => rw [h9] at hz'; injection hz' with hz'; rw [← hz']; exact hno m w hm h9
end
end DL

end

section
set_option maxRecDepth 100000
set_option maxHeartbeats 4000000
set_option autoImplicit false
/-! The data layer: list(range(..)). -/
namespace DL
open PySem PySem.Spec PyProof.Rows L2
section
variable {X : Cx} {N : List Str} {sc : Scope} {δ : DEnv} {O : Own} {E : XD → Own → Prop} {Q : D → Own → Prop} {pos apos p p2 : Pos}
theorem rg_rep {K : PySem.W.Frag} {G : Hp} {n : Nat} {lo : Int} : RepL K G (dInts lo n) ((List.range n).map fun i => V.int (lo + (i : Nat))) := repL_map (fun i => .int _) _
theorem de_listR1 {e : Expr} (S : Sc X N sc) (hr : X.mg "range" = none) (hm : X.mg "list" = none) (h : DE X e δ O E fun d O1 => ∃ j : Int, d = .int j ∧ 0 ≤ j ∧ j ≤ 100000 ∧ NewL (dInts 0 j.toNat) O1 Q)
    (hg : Nk "list" .globalImplicit sc.names := by (repeat (with_reducible constructor))) (hg2 : Nk "range" .globalImplicit sc.names := by (repeat (with_reducible constructor)))
    (na : starEach [e] X.env = (false, eval e X.env) :: starEach [] X.env := by with_unfolding_all rfl) (na2 : starEach [.Call (.Name "range" p2) [e] [] apos] X.env = (false, eval (.Call (.Name "range" p2) [e] [] apos) X.env) :: starEach [] X.env := by with_unfolding_all rfl) :
    DE X (.Call (.Name "list" p) [.Call (.Name "range" p2) [e] [] apos] [] pos) δ O E Q :=
  de_of (pe_listRg S.calm (S.gl hg) hm (prg_1 (S.gl hg2) hr pe_sem na) na2) fun W tk G σ H Q' p r s hE hQ => h W tk G σ H _ p r s hE fun G' H' O' d v st rd ⟨j, ed, h0, h1, n⟩ => by
    subst ed
    cases rd
    have rl : RepL X.K G' (dInts 0 j.toNat) (rgV 0 j) := by
      unfold rgV
      rw [show j - 0 = j by omega]
      exact rg_rep
    exact ⟨j, rfl, RgOk.of_le (by omega) (by omega) (by omega) (by omega), m_newL st.sta rl n fun _ _ _ _ _ st2 => hQ _ _ _ _ _ (st.trans st2)⟩
end
end DL

end

section
set_option maxRecDepth 100000
set_option maxHeartbeats 4000000
set_option autoImplicit false
/-! The data layer: a comprehension given to a name that others read. -/
namespace DL
open PySem PySem.Spec PyProof.Rows L2
theorem sw_cell {elt : Expr} {gs : List Comprehension} {scope : Scope} {pos py : Pos} {y : Str} {l : Nat} {env : Env} (hy : env.scope.names.lookup y = some .cell) : swapsWith (.ListComp elt gs scope pos) (some (.Name y py)) l env = pure false := by
  have ky : env.kindOf y = some .cell := hy
  unfold swapsWith
  simp only [ky]
  simp [show (NameKind.cell == NameKind.local) = false from rfl]
section
variable {X : Cx} {N : List Str} {sc : Scope} {δ : DEnv} {O : Own} {B : Bk} {nx : DEnv → Own → Prop} {pos : Pos}
theorem ds_setLcC {x : Str} {i : Nat} {elt : Expr} {gs : List Comprehension} {scope : Scope} {py lpos : Pos} (S : Sc X N sc) (Df : Df X) (hi : Ix x N i) (h : DE X (.ListComp elt gs scope lpos) δ O (fun x O' => B.ex x δ O') fun d O1 => ∃ δ', SetD d δ i δ' ∧ nx δ' O1) (hl : Nk x .cell sc.names) :
    DS X (.Assign [.Name x py] (.ListComp elt gs scope lpos) pos) δ O B nx :=
  ds_setCD S Df hi h hl (sw_cell (S.ce hl))
end
end DL

end

section
set_option maxRecDepth 100000
set_option maxHeartbeats 4000000
set_option autoImplicit false
/-! The data layer: list(tuple). -/
namespace DL
open PySem PySem.Spec PyProof.Rows L2
section
variable {X : Cx} {δ : DEnv} {O : Own} {E : XD → Own → Prop} {Q : D → Own → Prop}
theorem dc_listT {xs : List D} (q : NewL xs O Q) : DC X (.type "list") [.tup xs] δ O E Q := dc_of call_list_of fun vs W tk G σ H Q' p r s hE hQ => by
  cases p with
  | cons p1 pr =>
    cases pr
    cases p1 with
    | tup h0 r1 => exact ⟨_, _, rfl, .inr (s.sub.seqT h0), m_newL s r1 q hQ⟩
theorem nl_fzm {α : Type} {f : α → D} {xs : List α} (h : Q (.lst (xs.map f)) O) : NewL (xs.map f) O Q := nl_fz h
theorem nl_fza {xs ys : List D} (h : Q (.lst (xs ++ ys)) O) : NewL (xs ++ ys) O Q := nl_fz h
end
end DL

end

section
set_option maxRecDepth 100000
set_option maxHeartbeats 4000000
set_option autoImplicit false
/-! The data layer: comprehensions whose items change cells; lists taken apart. -/
namespace DL
open PySem PySem.Spec PyProof.Rows L2
def LcM (X : Cx) (N : List Str) (sc : Scope) (elt tg : Expr) (ifs : List Expr) (vs : List Nat) (δw : DEnv) (ds : List D) (P : Nat → List D → Own → Prop) : Prop :=
  ∀ i d acc O', ds[i]? = some d → P i acc O' → acc.length ≤ i → ∀ X', Blk X X' N sc → DGc X' tg d vs δw O' fun δ2 O2 => ∀ X', Blk X X' N sc → DTs X' ifs δ2 O2 noE fun b O3 =>
    (b = true → ∀ X', Blk X X' N sc → DE X' elt δ2 O3 noE fun y O4 => P (i + 1) (acc ++ [y]) O4) ∧ (b = false → P (i + 1) acc O3)
section
variable {X : Cx} {N : List Str} {sc scope : Scope} {δ : DEnv} {O : Own} {E : XD → Own → Prop} {Q : D → Own → Prop} {pos p : Pos} {B : Bk} {nx : DEnv → Own → Prop}
theorem lcM_body {sc' : Scope} {elt tg : Expr} {ifs : List Expr} {vs : List Nat} {δw : DEnv} {ds : List D} {P : Nat → List D → Own → Prop} (S : Sc X N sc) (hrel : relS scope sc = sc') (hnm : nmOk sc' = true) (hl : ds.length ≤ 100000) (h : LcM X N sc' elt tg ifs vs δw ds P) :
    LcBody X elt tg ifs scope vs δw ds fun i acc O' => P i acc O' ∧ acc.length ≤ i := by
  rintro i d acc O' hd ⟨ea, la⟩ s H C cl fp
  have hi : i < ds.length := (List.getElem?_eq_some_iff.1 hd).1
  have h1 := h i d acc O' hd ea la _ (blk_of S hrel hnm (s := s) (H := H) (C := C) (cl := cl) (fp := fp))
  intro v G σ H2 Q2 rd r s2 hk
  refine h1 v G σ H2 Q2 rd r s2 fun G' H' O1 δ' σ' st r' w q => hk G' H' O1 δ' σ' st r' w ?_
  intro s3 H3 C3 cl3 fp3
  refine M.imp (q _ (blk_of S hrel hnm (s := s3) (H := H3) (C := C3) (cl := cl3) (fp := fp3))) fun b O3 ⟨qt, qf⟩ => ⟨fun hb s4 H4 C4 cl4 fp4 => ?_, fun hb => ?_⟩
  · refine M.imp (qt hb _ (blk_of S hrel hnm (s := s4) (H := H4) (C := C4) (cl := cl4) (fp := fp4))) fun y O4 e1 => ?_
    exact ⟨by omega, e1, by simp; omega⟩
  · exact ⟨qf hb, by omega⟩
theorem de_lcMc {elt tg iter : Expr} {ifs : List Expr} (own : List (Str × Nat)) (sc' : Scope) (S : Sc X N sc)
    (h : DI X tg iter δ O E fun ds O1 => ∃ δw, Wp δ (own.map (·.2)) δw ∧ ∃ P : Nat → List D → Own → Prop, P 0 [] O1 ∧ ds.length ≤ 100000 ∧ LcM X N sc' elt tg ifs (own.map (·.2)) δw ds P ∧ ∀ acc O', P ds.length acc O' → NewL acc O' Q)
    (ok : blkC N sc scope own = true := by decide +kernel) (hrel : relS scope sc = sc' := by with_unfolding_all rfl) (hnm : nmOk sc' = true := by decide +kernel) (hs : ∀ x, foldedSetIterable iter X.env x = pure x := by intro _; with_unfolding_all rfl) : DE X (.ListComp elt [⟨tg, iter, ifs, 0⟩] scope pos) δ O E Q := by
  refine de_lc own S (blkOk_by ok) ?_ hs
  refine M.imp h fun ds O1 ⟨δw, hw, P, h0, hl, hb, n⟩ => ?_
  exact ⟨δw, hw, _, ⟨h0, Nat.le_refl _⟩, lcM_body S hrel hnm hl hb, fun acc O' ⟨ha, _⟩ => n acc O' ha⟩
theorem ds_setLcMc {x : Str} {i : Nat} {py : Pos} {elt tg iter : Expr} {ifs : List Expr} {lpos : Pos} (own : List (Str × Nat)) (sc' : Scope) (S : Sc X N sc) (hi : Ix x N i)
    (h : DI X tg iter δ O (fun x O' => B.ex x δ O') fun ds O1 => ∃ δw, Wp δ (own.map (·.2)) δw ∧ ∃ P : Nat → List D → Own → Prop, P 0 [] O1 ∧ ds.length ≤ 100000 ∧ LcM X N sc' elt tg ifs (own.map (·.2)) δw ds P ∧ ∀ acc O', P ds.length acc O' → NewL acc O' fun d O2 => ∃ δ', SetD d δ i δ' ∧ nx δ' O2)
    (ok : blkC N sc scope own = true := by decide +kernel) (hrel : relS scope sc = sc' := by with_unfolding_all rfl) (hnm : nmOk sc' = true := by decide +kernel)
    (hk : sc.kind = .function := by with_unfolding_all rfl) (hl : Nk x .local sc.names := by (repeat (with_reducible constructor))) (hln : (py.line == lpos.line) = true := by with_unfolding_all rfl) (ha : (scope.names.any fun (n, k) => n == x && (k == .local || k == .cell)) = false := by decide +kernel) (hs : ∀ x, foldedSetIterable iter X.env x = pure x := by intro _; with_unfolding_all rfl) :
    DS X (.Assign [.Name x py] (.ListComp elt [⟨tg, iter, ifs, 0⟩] scope lpos) pos) δ O B nx := by
  refine ds_setLc own S hi (blkOk_by ok) ?_ hk hl hln ha hs
  refine M.imp h fun ds O1 ⟨δw, hw, P, h0, hl, hb, n⟩ => ?_
  exact ⟨δw, hw, _, ⟨h0, Nat.le_refl _⟩, lcM_body S hrel hnm hl hb, fun acc O' ⟨ha, _⟩ => n acc O' ha⟩
/-- a, b, .. = a list -/
theorem dg_lst {es : List Expr} {k' : Nat} {ds : List D} {E : XD → DEnv → Own → Prop} {k : DEnv → Own → Prop} (S : Sc X N sc) (hl : ds.length = es.length) (h : DGs X es ds δ O E k) (hn : (assignEach es X.env).length = es.length := by with_unfolding_all rfl) (hst : (assignEach es X.env).findIdx? (·.1) = none := by with_unfolding_all rfl) : DG X (.Tuple es k' pos) (.lst ds) δ O E k := fun W tk v G σ H Q rd r s hE hk pins s' u I ru => by
  cases rd with
  | @lst _ a vs hq rl =>
    exact (pg_lst S.calm pgs_sem hn hst).run pins s' σ H _ u Q I ru ⟨a, vs, rfl, .inl (.inl (s.sub _ _ hq)), by rw [rl.length, hl], h W tk vs G σ H Q rl r s hE hk⟩
end
end DL

end

section
set_option maxRecDepth 100000
set_option maxHeartbeats 4000000
set_option autoImplicit false
/-! The data layer: a try whose body raises nothing. -/
namespace DL
open PySem PySem.Spec PyProof.Rows L2
section
variable {X : Cx} {N : List Str} {sc : Scope} {δ : DEnv} {O : Own} {pos : Pos} {B : Bk} {nx : DEnv → Own → Prop}
theorem Sc.nox (S : Sc X N sc) : Sc X.nox N sc := ⟨S.nm, S.hn, S.hsc, S.nd, S.calm⟩
theorem Df.nox (d : Df X) : Df X.nox := ⟨d.fn, d.stk, d.frm, d.ex, PassesOwn.never⟩
theorem takes_false : Takes X.nox (fun _ _ _ _ => False) := fun u s' ⟨a, B, sI, pins, σ, H, cls, d, e, I, nb, up, sky, na, os, ag, w⟩ => w.elim
theorem ds_try0 {body : List Stmt} {h0 : ExceptHandler} {hs : List ExceptHandler} (h : DSs X.nox body δ O { B with ex := fun _ _ _ => False } nx) : DS X (.Try body (h0 :: hs) [] [] pos) δ O B nx :=
  ds_of (ps_try_thru0 (t := semSs X.nox body) pss_sem) fun W tk G σ H D r s l => h (fun _ _ _ _ => False) takes_false G σ H D r s ⟨l.nx, l.rt, l.bk, l.ct, fun _ _ _ _ _ _ _ _ _ _ _ q => q.elim⟩
end
end DL

end

section
set_option maxRecDepth 100000
set_option maxHeartbeats 4000000
set_option autoImplicit false
/-! The data layer: o.m( *e). -/
namespace DL
open PySem PySem.Spec PyProof.Rows L2
section
variable {X : Cx} {N : List Str} {sc : Scope} {δ : DEnv} {O : Own} {E : XD → Own → Prop} {Q : D → Own → Prop} {pos p apos : Pos}
theorem de_methS {o e : Expr} {m : Str} (h : DE X o δ O E fun d O1 => ∃ C fs g, IsIns d O1 C fs ∧ Cls X.K C ∧ BMeth X.K C m g ∧ fs.lookup m = none ∧ DE X e δ O1 E fun y O2 => ∃ xs, (y = .tup xs ∨ y = .lst xs) ∧ DK X g (d :: xs) δ O2 E Q)
    (hbase : attributeBase o m X.env (eval o X.env) = eval o X.env := by with_unfolding_all rfl) : DE X (.Call (.Attribute o m apos) [.Starred e p] [] pos) δ O E Q :=
  de_of (t := fun σ H K => sem X o σ H fun x H1 => ∃ a C dx fs g, x = .ref a ∧ H1 a = some (.ins C dx fs) ∧ Cls X.K C ∧ BMeth X.K C m g ∧ fs.lookup m = none ∧ ∀ q, H1 q = none → sem X e σ (upd H1 q (.met g a)) fun y H2 => ∃ b xs, y = V.ref b ∧ (SqT X.K H2 b xs ∨ SqL X.K H2 b xs) ∧ H2 q = some (.met g a) ∧ semK X g (x :: xs) σ H2 K)
    ⟨fun pins s σ H K I q => by
      refine starcall_of hbase (thn (q pins s I) fun u s1 ⟨x, H1, I1, rx, a, C, dx, fs, g, ex, ea, c, b, l, q⟩ => ?_)
      subst ex
      obtain rfl : u = Value.ref a := rx
      refine getbound_ok I1 ea c b l fun q1 s2 hq1 I2 => ?_
      refine PySem.W.ks_call (P := PySem.W.MethP X.K q1 g (.ref a)) rfl (PySem.W.keeps_M b.fi) (PySem.W.ks_lone ?_)
      refine thn (q q1 hq1 pins s2 I2) fun v s3 ⟨y, H2, I3, ry, t, vs, ey, ht, hm, hk⟩ => ?_
      subst ey
      obtain rfl : v = Value.ref t := ry
      refine StX.star_any I3 ht fun us s4 I4 rv => ⟨met_P I4 hm, ?_⟩
      exact wpAny_call (PySem.W.method_call (met_P I4 hm).1 (hk pins s4 (Value.ref a :: us) I4 (.cons rfl rv)))⟩
    fun W tk G σ H Q' p r s hE hQ => h W tk G σ H _ p r s hE fun G1 H1 O1 d v st rd ⟨C, fs, g, i, c, b, l, q⟩ => by
      obtain ⟨a, dx, vs, ev, ha, rf⟩ := i.get rd st.sta
      subst ev
      refine ⟨a, C, dx, vs, g, rfl, ha, c, b, rf.look.2 l, fun q1 hq1 => ?_⟩
      have st0 := Step.new st.sta (o := .met g a) hq1
      have st1 := st.trans st0
      have g1 : upd G1 q1 (.met g a) q1 = some (.met g a) := by simp [upd]
      refine q W tk _ σ _ _ trivial (r.mono st1.g) st1.sta (fun _ _ _ _ _ _ st2 => hE _ _ _ _ _ _ (st1.trans st2)) fun G2 H2 O2 y w st2 ry ⟨xs, ey, hk⟩ => ?_
      have hq2 : H2 q1 = some (.met g a) := st2.sta.sub _ _ (st2.g _ _ g1)
      have st3 := st1.trans st2
      have rd2 := (rd.mono st0.g).mono st2.g
      have go : ∀ b vs, (SqT X.K H2 b vs ∨ SqL X.K H2 b vs) → RepL X.K G2 xs vs → w = .ref b → ∃ b xs, w = V.ref b ∧ (SqT X.K H2 b xs ∨ SqL X.K H2 b xs) ∧ H2 q1 = some (.met g a) ∧ semK X g (V.ref a :: xs) σ H2 Q' := fun b vs hq rl ev =>
        ⟨b, vs, ev, hq, hq2, hk _ W tk G2 σ H2 _ (.cons rd2 rl) (r.mono st3.g) st3.sta (fun _ _ _ _ _ _ st4 => hE _ _ _ _ _ _ (st3.trans st4)) fun _ _ _ _ _ st4 => hQ _ _ _ _ _ (st3.trans st4)⟩
      rcases ey with rfl | rfl
      · cases ry with
        | tup hq rl => exact go _ _ (.inl (st3.sta.sub.seqT hq)) rl rfl
      · cases ry with
        | lst hq rl => exact go _ _ (.inr (.inl (.inl (st3.sta.sub _ _ hq)))) rl rfl
/-- t[lo:hi], t a tuple -/
theorem de_sliceT {a : Expr} {lo hi : Option Expr} {p2 : Pos} (h : DE X a δ O E fun x O1 => DPo X lo δ O1 E fun l O2 => DPo X hi δ O2 E fun u O3 => ∃ xs, x = .tup xs ∧ Q (.tup (cutD xs l u)) O3) : DE X (.Subscript a (.Slice lo hi none p2) pos) δ O E Q :=
  de_of (pe_slice sl_tupA pe_sem po_sem po_sem) (m_slice (kd := fun x _ l u O3 => ∃ xs, x = .tup xs ∧ Q (.tup (cutD xs l u)) O3) (fun x v l u G H O1 O2 Q' ⟨xs, ex, q⟩ rx s hQ => by
    subst ex
    cases rx with
    | tup hq rl =>
      refine ⟨_, _, rfl, s.sub.seqT hq, fun hw => ?_, fun hw p hp => ?_⟩
      · rw [rl.length] at hw
        have e : cutD xs l u = xs := by unfold cutD; rw [hw.1, hw.2, List.drop_zero, Nat.sub_zero, List.take_length]
        rw [e] at q
        exact hQ _ _ _ _ _ (Step.refl s) (.tup hq rl) q
      · exact hQ _ _ _ _ _ (Step.new s hp) (.tup (SqT.of upd_same) (cut_rep (rl.mono (Step.new s hp).g) l u)) q) h)
end
end DL

end

section
set_option maxRecDepth 100000
set_option maxHeartbeats 4000000
set_option autoImplicit false
/-! The data layer: sorted(tuple of ints). -/
namespace DL
open PySem PySem.Spec PyProof.Rows L2
section
variable {prog : Program} {w : World} {A : Around} {E : Value → Shared → Prop} {s : Shared}
theorem sorted_tup {t : Addr} {vs : List Value} {ns : List Int} {Q : Value → Shared → Prop} (hl : IsTup s.heap t vs.toArray) (hI : IntsAre vs ns) (h64 : vs.length < 64)
    (h : ∀ (h' h2 : Heap) (out : Array Value) (ns' : List Int), (∀ b o, s.heap.get? b = some o → h'.get? b = some o) → (∀ b o, h'.get? b = some o → h2.get? b = some o) → (∃ e, h2.get? h'.objs.size = some (seqObj "list" out e)) → IntsAre out.toList ns' → ns'.Perm ns → ns'.Pairwise (· ≤ ·) → Q (.ref h'.objs.size) { s with heap := h2 }) :
    wpAny (model prog w) A (call (.builtin "sorted") [.ref t]) Q E s := by
  obtain ⟨o, ho, hc, n, hd⟩ := hl
  refine Calls.call_function_entry kind_sorted plain_sorted entry_sorted (args_sorted1 _) ?_
  unfold Builtin.«sorted»
  refine wpAny_bind (m := checkCount "sorted" 1 1 _) (wpAny_pure ?_)
  refine wpAny_bind (wpAny_collect_seq t (.inr rfl) ho hc hd (fun h' hk => ?_) (by rw [List.size_toArray]; exact small64 h64))
  rw [show vs.toArray.toList = vs by simp]
  refine wpAny_bind (wpAny_newList ?_)
  have hoL : (h'.push (seqObj "list" vs.toArray 0)).get? h'.objs.size = some (seqObj "list" vs.toArray 0) := Heap.get?_push_size _ rfl
  show wpAny _ _ _ _ _ { s with heap := h'.push (seqObj "list" vs.toArray 0) }
  refine wpAny_bind (wpAny_holding (wpAny_call_entry slot_list_sort ⟨_, hoL, rfl⟩ entry_list_sort (list_sort_tree hoL hI h64 fun out ns' a1 a2 a3 => ⟨_, rfl, ?_⟩) (args_list_sort _)))
  refine wpAny_pure ⟨_, rfl, h h' _ out ns' hk (fun b o e => ?_) (sortedHeap_at hoL) a1 a2 a3⟩
  have lt := Heap.lt_size e
  exact (sortedHeap_old (Nat.ne_of_lt lt) (by rw [Heap.size_push]; exact Nat.lt_succ_of_lt lt)).trans (Heap.get?_push_of_some _ e)
end
section
variable {X : Cx} {δ : DEnv} {O : Own} {E : XD → Own → Prop} {Q : D → Own → Prop}
theorem cr_sortedT : CallR X (.builtin "sorted") (fun vs H Q => ∃ (a : Addr) (ns : List Int), vs = [V.ref a] ∧ SqT X.K H a (ns.map V.int) ∧ ns.length < 64 ∧ ∀ (ns' : List Int) (p : Addr), ns'.Perm ns → ns'.Pairwise (· ≤ ·) → H p = none → Q (.ref p) (upd H p (.lst (ns'.map V.int)))) := by
  intro pins s σ H vs us Q I r h
  obtain ⟨a, ns, rfl, hs, h64, q⟩ := h
  obtain ⟨its, rv, ht, hz⟩ := I.tuple hs
  rw [Vals.ref1 r]
  have hi := rv.ints
  refine sorted_tup ht hi (by rw [hi.length]; exact h64) fun h' h2 out ns' hk hk2 ⟨ep, he'⟩ h1 h2' h3 => ?_
  have I' := I.kept (t' := s.toks) hk
  have hlen : (ns'.map V.int).length ≤ sizeLine := by rw [List.length_map, h2'.length_eq]; exact small64 h64
  exact ⟨.ref _, upd H h'.objs.size (.lst (ns'.map V.int)), I'.laid (t' := s.toks) hk2 (Nat.le_refl _) ⟨hlen, out.toList, ep, vals_of_ints h1, he'⟩, rfl, q ns' _ h2' h3 (I'.hok.fresh (Nat.le_refl _))⟩
theorem repL_intsV {K : PySem.W.Frag} {G : Hp} : ∀ {is : List Int} {vs : List V}, RepL K G (is.map D.int) vs → vs = is.map V.int
  | [], _, .nil => rfl
  | _ :: is, _, .cons a t => by cases a; rw [repL_intsV t]; rfl
theorem dc_sortedT {is : List Int} (hn : is.length < 64) (q : ∀ js : List Int, js.Perm is → js.Pairwise (· ≤ ·) → NewL (js.map D.int) O Q) : DC X (.builtin "sorted") [.tup (is.map D.int)] δ O E Q := dc_of cr_sortedT fun vs W tk G σ H Q' p r s hE hQ => by
  cases p with
  | cons p1 pr =>
    cases pr
    cases p1 with
    | tup hq rl =>
      have e := repL_intsV rl
      subst e
      exact ⟨_, is, rfl, s.sub.seqT hq, hn, fun js p' h1 h2 hp => m_newL s (repL_map (fun _ => .int _) js) (q js h1 h2) hQ p' hp⟩
end
end DL

end

section
set_option maxRecDepth 100000
set_option maxHeartbeats 4000000
set_option autoImplicit false
/-! The data layer: errors of one's own: raised, caught, read. -/
namespace DL
open PySem PySem.Spec PyProof.Rows L2

/-! ### raised -/
/-- an own error class without its own __init__ -/
structure ExC0 (K : PySem.W.Frag) (mg : Str → Option Value) (nm : Str) (C : Addr) : Prop where
  g : mg nm = some (.ref C)
  k : PySem.W.keepIn K (.ref C) = true
  made : PySem.W.excIn K C PySem.HandSPX.veTail "ValueError.__new__" = true
  sub : PySem.W.subIn K (.ref C) (.type "BaseException") = some true
  ty : PySem.W.typeIn K (.ref C) = some (.type "type")
section
variable {X : Cx} {N : List Str} {sc : Scope} {δ : DEnv} {O : Own} {B : Bk} {nx : DEnv → Own → Prop} {pos p p2 p3 : Pos}
theorem ds_raise0 {x m : Str} {C : Addr} {j : Nat} (S : Sc X N sc) (R : ExC0 X.K X.mg x C) (q : B.ex ⟨C, []⟩ δ O) (hg : Nk x .globalImplicit sc.names := by (repeat (with_reducible constructor))) :
    DS X (.Raise (some (.Call (.Name x p) [.Constant (.str m) j p2] [] p3)) none pos) δ O B nx := fun W tk G σ H D r s l pins s' I =>
  (ps_raise S.calm tk (pmk_own F.excBase_ValueError R.made R.g R.k (raises_own R.sub R.ty) (S.gl hg) (S.dbg hg))).run pins s' σ H D I (l.ex G H O δ σ ⟨C, []⟩ _ _ (Step.refl s) r ⟨rfl, .inl ⟨rfl, rfl⟩⟩ q)
end
/-- an own error class whose __init__ is its own -/
def oexB (K : PySem.W.Frag) (C : Addr) : Bool := match K.lookup C with | some ⟨.type "type", _, .cls c, sl⟩ => (match c.mro, sl.toList with | .ref C' :: m, [_, _, _, _, some (.builtin n), _] => C' == C && (n == "ValueError.__new__" && (!c.hasDel && (c.hasDict && PySem.HandSPX.refsVE m))) | _, _ => false) | _ => false
structure ExC1 (K : PySem.W.Frag) (mg : Str → Option Value) (nm : Str) (C fI : Addr) : Prop where
  g : mg nm = some (.ref C)
  k : PySem.W.keepIn K (.ref C) = true
  obj : oexB K C = true
  sa : PySem.W.findIn K (.ref C) "__setattr__" = some (some (.builtin "object.__setattr__"))
  sub : PySem.W.subIn K (.ref C) (.type "BaseException") = some true
  ty : PySem.W.typeIn K (.ref C) = some (.type "type")
  ini : PySem.W.findIn K (.ref C) "__init__" = some (some (.ref fI))
  tf : PySem.W.typeIn K (.ref fI) = some (.type "function")
theorem ExC1.oex {K : PySem.W.Frag} {mg : Str → Option Value} {nm : Str} {C g : Addr} (R : ExC1 K mg nm C g) : OexC K C := by
  refine ⟨?_, R.sa, R.sub, R.ty, R.k⟩
  have h := R.obj
  unfold oexB at h
  split at h
  · rename_i x5 dd c sl e
    split at h
    · rename_i C' m k0 k1 k2 k3 n k5 e1 e2
      simp only [Bool.and_eq_true, beq_iff_eq, Bool.not_eq_true'] at h
      obtain ⟨rfl, rfl, h1, h2, h3⟩ := h
      obtain ⟨l⟩ := sl
      simp only at e2
      subst e2
      obtain ⟨nm, bs, mro, nsx, qn, hd, sn, sub, ab, col, del⟩ := c
      dsimp only at e1 h1 h2
      subst e1 h1 h2
      exact ⟨_, _, _, _, _, _, _, _, _, _, _, _, _, _, _, e, h3⟩
    · cases h
  · cases h
/-- CanonError.__init__(self, ..), the base's own being ValueError's -/
structure ExB (K : PySem.W.Frag) (mg : Str → Option Value) (nm : Str) (C : Addr) : Prop where
  g : mg nm = some (.ref C)
  rd : ClX.CRead K C (.type "type")
  at_ : PySem.W.findCls K (.ref C) (.type "type") "__init__" = some (.val (.builtin "ValueError.__init__"))
section
variable {X : Cx} {N : List Str} {sc : Scope} {δ : DEnv} {O : Own} {B : Bk} {nx : DEnv → Own → Prop} {pos p p1 p2 p3 : Pos}
theorem pe_binit {x : Str} {C : Addr} {e : Expr} {es : List Expr} {ta : TA} {pl : Sem Bool} (R : ExB X.K X.mg x C) (hg : Gl X x) (hd : (x == ("__debug__" : Str)) = false) (ha : PA X (e :: es) ta)
    (ht : eval (.Call (.Attribute (.Name x p1) "__init__" p2) (e :: es) [] pos) X.env = (do
      let ov ← eval (.Name x p1) X.env
      standAt p2.atName
      let (f, first) ← holding [ov] (getMethod ov "__init__" pl)
      callWith pos f first (backTo pos (starEach (e :: es) X.env)) (backToKw pos (keywordEach [] X.env))) := by with_unfolding_all rfl)
    (h1 : starEach (e :: es) X.env = (false, eval e X.env) :: starEach es X.env := by with_unfolding_all rfl) (h2 : (backTo pos (starEach es X.env)).any (·.1) = false := by with_unfolding_all rfl) :
    PE X (.Call (.Attribute (.Name x p1) "__init__" p2) (e :: es) [] pos) (tVeI X.K ta) := ⟨fun pins s σ H K I q => by
  refine PySem.W.methodCall_KW (pl := pl) (ld_glob I hg R.g ?_ hd) ht
  refine PySem.W.method_cls I.kIn R.rd.ga (PySem.W.cls_value I.kIn R.rd.rd R.at_ rfl ?_)
  refine PyProof.Rows.callWith_method1 (first := []) (thn (ha.run pos pins _ σ H _ (I.tok _) q) fun us s1 ⟨vs, H1, I1, r1, a, D, ws, ev, hl, T, ea, qq⟩ => ?_) h1 h2
  subst ev
  cases r1 with
  | @cons _ u _ ur ra rr =>
    obtain rfl : u = Value.ref a := ra
    exact oinit_ok T I1 ea (by have := Paired.length rr; rw [sizeLine_eq]; omega) fun s' J => ⟨.non, H1, J, rfl, qq⟩⟩
/-- what such an __init__ keeps: the fields fl, in order -/
def spIni (C : Addr) (fl : List Str) : Sp := fun vs H Q E => ∃ a ys, vs = .ref a :: ys ∧ ys.length = fl.length ∧ H a = some (exo a C none) ∧ ∀ d H2, H d = none → d ≠ a → H2 a = some (exo a C (some d)) → H2 d = some (exd d (fl.zip ys).reverse) → (∀ b, b ≠ a → b ≠ d → H2 b = H b) → Q .non H2
theorem repF_zip {K : PySem.W.Frag} {G : Hp} : ∀ {fl : List Str} {ds : List D} {ys : List V}, RepL K G ds ys → RepF K G (fl.zip ds) (fl.zip ys)
  | [], _, _, _ => .nil
  | _ :: _, _, _, .nil => .nil
  | _ :: _, _, _, .cons a b => .cons a (repF_zip b)
theorem RepF.app {K : PySem.W.Frag} {G : Hp} : ∀ {as bs : List (Str × D)} {us vs : List (Str × V)}, RepF K G as us → RepF K G bs vs → RepF K G (as ++ bs) (us ++ vs)
  | _, _, _, _, .nil, s => s
  | _, _, _, _, .cons r t, s => .cons r (t.app s)
theorem RepF.rev {K : PySem.W.Frag} {G : Hp} : ∀ {as : List (Str × D)} {us : List (Str × V)}, RepF K G as us → RepF K G as.reverse us.reverse
  | _, _, .nil => .nil
  | _, _, .cons r t => by
    rw [List.reverse_cons, List.reverse_cons]
    exact t.rev.app (.cons r .nil)
/-- raise C(e, ..) -/
theorem ds_raiseI {x : Str} {C g : Addr} {e : Expr} {es : List Expr} {k : Nat} {fl ps : List Str} {fd : FuncData} (S : Sc X N sc) (R : ExC1 X.K X.mg x C g) (F1 : FnOk X.prog X.w X.K X.mg X.base (L2.CX X.prog X.w) k g fd ps (spIni C fl)) (hb : Binds X.K fd ps []) (hr : Room (k + 1) X.A) (hfl : fl ≠ [])
    (h : DA X (e :: es) δ O (fun x O' => B.ex x δ O') fun ds O1 => ds.length = fl.length ∧ ds.length ≤ 1000 ∧ B.ex ⟨C, (fl.zip ds).reverse⟩ δ O1) (hg : Nk x .globalImplicit sc.names := by (repeat (with_reducible constructor)))
    (h1 : starEach (e :: es) X.env = (false, eval e X.env) :: starEach es X.env := by with_unfolding_all rfl) (h2 : (backTo p3 (starEach es X.env)).any (·.1) = false := by with_unfolding_all rfl) :
    DS X (.Raise (some (.Call (.Name x p) (e :: es) [] p3)) none pos) δ O B nx := fun W tk G σ H D r s l pins s' I =>
  (ps_raise S.calm tk (pmk_oex (ds := []) (dvs := []) R.oex R.ini R.tf F1 hr hb .nil (passes_call (W := fun _ _ _ _ => False) LamX.takes0 fun _ _ _ _ z => z) (S.gl hg) R.g pa_sem (S.dbg hg) h1 h2)).run pins s' σ H D I
    (m_in h tk trivial r s l fun G1 H1 O1 ds ys st r1 l1 rl hh => by
      obtain ⟨hl, hz, q⟩ := hh
      refine ⟨by rw [rl.length]; exact hz, fun a ha => ?_⟩
      refine ⟨a, ys ++ [], rfl, by rw [List.append_nil, rl.length]; exact hl, upd_same, fun d H2 hd hda e1 e2 hk => ?_⟩
      rw [List.append_nil] at e2
      have hd1 : H1 d = none := by rw [upd_ne hda] at hd; exact hd
      refine ⟨rfl, d, _, e1, e2, hd1, ?_⟩
      have eH : upd (del H2 a) d (.xd (fl.zip ys).reverse) = upd H1 d (.xd (fl.zip ys).reverse) := by
        funext b
        by_cases hbd : b = d
        · rw [hbd, upd_same, upd_same]
        · rw [upd_ne hbd, upd_ne hbd]
          by_cases hba : b = a
          · rw [hba, del_same, ha]
          · rw [del_ne hba, hk b hba hbd, upd_ne hba]
      rw [eH]
      have st2 := Step.new st.sta (o := .xd (fl.zip ys).reverse) hd1
      exact l1.ex _ _ _ δ σ _ _ _ st2 (r1.mono st2.g) ⟨rfl, .inr ⟨d, _, rfl, upd_same, (repF_zip (rl.mono st2.g)).rev⟩⟩ q)
end
/-- how a base's __init__ is called -/
def InitCall (e : Expr) (es : List Expr) (p1 p2 pos : Pos) : Prop := ∀ env : Env, ∃ pl : Sem Bool, eval (.Call (.Attribute (.Name "CanonError" p1) "__init__" p2) (e :: es) [] pos) env = (do
  let ov ← eval (.Name "CanonError" p1) env
  standAt p2.atName
  let (f, first) ← holding [ov] (getMethod ov "__init__" pl)
  callWith pos f first (backTo pos (starEach (e :: es) env)) (backToKw pos (keywordEach [] env)))
section
variable {P : Program} {w : World} {K : PySem.W.Frag} {mg : Str → Option Value} {base : Heap} {f f2 qual : Str} {C g CB : Addr} {st : Stmt} {fd : FuncData} {nm : Str} {p1 p2 p3 p4 p5 p6 p7 p8 p9 p10 q4 q7 q8 q9 q10 : Pos}
/-- def __init__(self, f): Base.__init__(self, f); self.f = f -/
theorem ini1 (R : ExC1 K mg nm C g) (RB : ExB K mg "CanonError" CB) (F : Fun K "__init__" qual st g fd) (S : FnS ["self", f] ["self", f] (defScope st)) (no : PySem.W.findIn K (.ref C) f = some none)
    (hb : defBody st = [.Expr (.Call (.Attribute (.Name "CanonError" p1) "__init__" p2) [.Name "self" p3, .Name f p4] [] p5) p6, .Assign [.Attribute (.Name "self" p7) f p8] (.Name f p9) p10])
    (ic : InitCall (.Name "self" p3) [.Name f p4] p1 p2 p5) (hB : Nk ("CanonError" : Str) .globalImplicit (defScope st).names) (hs : LkV "self" (defScope st).names) (hf : LkV f (defScope st).names) : FnOk P w K mg base (L2.CX P w) 1 g fd ["self", f] (spIni C [f]) := by
  refine F.okX S.toFnScope (fun vs H Q E ⟨a, ys, e, hl, _⟩ => by rw [e, List.length_cons, hl]; rfl) fun cdv A outer s H vs Q E hr ⟨a, ys, e, hl, ha, q⟩ => ?_
  subst e
  match ys, hl with
  | [y], _ =>
  rw [hb]
  have SX : Sc (cxOf (L2.CX P w) P w K mg base ["self", f] qual (defScope st) g cdv A outer s H E) ["self", f] (defScope st) := ⟨S.nm, rfl, rfl, S.nd, rfl⟩
  have vs := fun p => pe_var (X := cxOf (L2.CX P w) P w K mg base ["self", f] qual (defScope st) g cdv A outer s H E) (pos := p) (i := 0) (SX.ix .head) (SX.vi hs) (SX.vb hs).1 (SX.vb hs).2
  have vf := fun p => pe_var (X := cxOf (L2.CX P w) P w K mg base ["self", f] qual (defScope st) g cdv A outer s H E) (pos := p) (i := 1) (SX.ix (.tail .head)) (SX.vi hf) (SX.vb hf).1 (SX.vb hf).2
  obtain ⟨pl, ht⟩ := ic (cxOf (L2.CX P w) P w K mg base ["self", f] qual (defScope st) g cdv A outer s H E).env
  refine ⟨_, pss_cons (ps_expr (pe_binit RB (SX.gl hB) (SX.dbg hB) (pa_cons (vs p3) (pa_cons (vf p4) pa_nil)) (pl := pl) ht)) (pss_one (ps_ost (vs p7) (vf p9))), ?_⟩
  exact ⟨.ref a, rfl, y, rfl, a, C, [y], rfl, (by simp), R.oex, ha, y, rfl, .ref a, rfl, a, C, rfl, R.oex, no, .inl ⟨ha, fun dx n ne => q dx _ n ne upd_same (by rw [upd_ne ne, upd_same]; rfl) fun b h1 h2 => by rw [upd_ne h1, upd_ne h2]⟩⟩
/-- def __init__(self, f, f2): Base.__init__(self, f, f2); self.f = f; self.f2 = f2 -/
theorem ini2 (R : ExC1 K mg nm C g) (RB : ExB K mg "CanonError" CB) (F : Fun K "__init__" qual st g fd) (S : FnS ["self", f, f2] ["self", f, f2] (defScope st)) (no : PySem.W.findIn K (.ref C) f = some none) (no2 : PySem.W.findIn K (.ref C) f2 = some none)
    (hb : defBody st = [.Expr (.Call (.Attribute (.Name "CanonError" p1) "__init__" p2) [.Name "self" p3, .Name f p4, .Name f2 q4] [] p5) p6, .Assign [.Attribute (.Name "self" p7) f p8] (.Name f p9) p10, .Assign [.Attribute (.Name "self" q7) f2 q8] (.Name f2 q9) q10])
    (ic : InitCall (.Name "self" p3) [.Name f p4, .Name f2 q4] p1 p2 p5) (hB : Nk ("CanonError" : Str) .globalImplicit (defScope st).names) (hs : LkV "self" (defScope st).names) (hf : LkV f (defScope st).names) (hf2 : LkV f2 (defScope st).names) : FnOk P w K mg base (L2.CX P w) 1 g fd ["self", f, f2] (spIni C [f, f2]) := by
  refine F.okX S.toFnScope (fun vs H Q E ⟨a, ys, e, hl, _⟩ => by rw [e, List.length_cons, hl]; rfl) fun cdv A outer s H vs Q E hr ⟨a, ys, e, hl, ha, q⟩ => ?_
  subst e
  match ys, hl with
  | [y, z], _ =>
  rw [hb]
  have SX : Sc (cxOf (L2.CX P w) P w K mg base ["self", f, f2] qual (defScope st) g cdv A outer s H E) ["self", f, f2] (defScope st) := ⟨S.nm, rfl, rfl, S.nd, rfl⟩
  have vs := fun p => pe_var (X := cxOf (L2.CX P w) P w K mg base ["self", f, f2] qual (defScope st) g cdv A outer s H E) (pos := p) (i := 0) (SX.ix .head) (SX.vi hs) (SX.vb hs).1 (SX.vb hs).2
  have vf := fun p => pe_var (X := cxOf (L2.CX P w) P w K mg base ["self", f, f2] qual (defScope st) g cdv A outer s H E) (pos := p) (i := 1) (SX.ix (.tail .head)) (SX.vi hf) (SX.vb hf).1 (SX.vb hf).2
  have vg := fun p => pe_var (X := cxOf (L2.CX P w) P w K mg base ["self", f, f2] qual (defScope st) g cdv A outer s H E) (pos := p) (i := 2) (SX.ix (.tail (.tail .head))) (SX.vi hf2) (SX.vb hf2).1 (SX.vb hf2).2
  obtain ⟨pl, ht⟩ := ic (cxOf (L2.CX P w) P w K mg base ["self", f, f2] qual (defScope st) g cdv A outer s H E).env
  refine ⟨_, pss_cons (ps_expr (pe_binit RB (SX.gl hB) (SX.dbg hB) (pa_cons (vs p3) (pa_cons (vf p4) (pa_cons (vg q4) pa_nil))) (pl := pl) ht)) (pss_cons (ps_ost (vs p7) (vf p9)) (pss_one (ps_ost (vs q7) (vg q9)))), ?_⟩
  refine ⟨.ref a, rfl, y, rfl, z, rfl, a, C, [y, z], rfl, (by simp), R.oex, ha, y, rfl, .ref a, rfl, a, C, rfl, R.oex, no, .inl ⟨ha, fun dx n ne => ?_⟩⟩
  refine ⟨z, rfl, .ref a, rfl, a, C, rfl, R.oex, no2, .inr ⟨dx, [(f, y)], upd_same, by rw [upd_ne ne, upd_same], by simp, ?_⟩⟩
  exact q dx _ n ne (by rw [upd_ne (Ne.symm ne), upd_same]) (by rw [upd_same]; rfl) fun b h1 h2 => by rw [upd_ne h2, upd_ne h1, upd_ne h2]
end
end DL

end

section
set_option maxRecDepth 100000
set_option maxHeartbeats 4000000
set_option autoImplicit false
/-! The data layer: a lambda handed to a def that catches what it raises. -/
namespace DL
open PySem PySem.Spec PyProof.Rows L2

/-! ### a lambda is made -/
/-- what the making does: nothing, or a new code object that the table tells from now on -/
def LamH (p : Pos) (H : Hp) (P : Addr) (q : Str) (H1 : Hp) (c : Addr) : Prop :=
  (H1 = H ∧ H c = some (LamX.CodeO c q)) ∨ ∃ ps : Array Value, H P = some (.tbl ps) ∧ H c = none ∧ H1 = upd (upd H P (.tbl (ps ++ #[rawInt p.line, rawInt p.col, .ref c]))) c (LamX.CodeO c q)
theorem LamH.code {p : Pos} {H H1 : Hp} {P c : Addr} {q : Str} (h : LamH p H P q H1 c) : H1 c = some (LamX.CodeO c q) := by
  rcases h with ⟨rfl, h⟩ | ⟨ps, _, _, rfl⟩
  · exact h
  · exact upd_same
/-- .. to the known part of the heap -/
theorem LamH.step {K : PySem.W.Frag} {G H H1 : Hp} {O : Own} {p : Pos} {P c : Addr} {q : Str} (h : LamH p H P q H1 c) (s : Sta K G O H) (at_ : At P (.tab q) O) : ∃ G1, Step K G O H G1 O H1 := by
  rcases h with ⟨rfl, _⟩ | ⟨ps, hP, hc, rfl⟩
  · exact ⟨G, Step.refl s⟩
  obtain ⟨gP, o, hP', rc⟩ := s.at_ at_
  rw [hP] at hP'
  cases hP'
  have rc : TabOk G q ps := rc
  have ne : c ≠ P := fun z => by rw [z, hP] at hc; cases hc
  have s1 := Step.new s (o := LamX.CodeO c q) hc
  have put : Put P (.tab q) O O := by
    have : ∀ {O : Own}, At P (.tab q) O → Put P (.tab q) O O := by
      intro O h
      induction h with
      | head => exact .head
      | tail _ ih => exact .tail ih
    exact this at_
  have ok : TabOk (upd G c (LamX.CodeO c q)) q (ps ++ #[rawInt p.line, rawInt p.col, .ref c]) := by
    have el : (ps ++ #[rawInt p.line, rawInt p.col, .ref c]).toList = ps.toList ++ [rawInt p.line, rawInt p.col, .ref c] := by simp
    refine ⟨by rw [el]; exact PySem.TriplesOk_snoc _ _ _ _ rc.1, fun p' cv hcv => ?_⟩
    rw [el] at hcv
    rcases LamX.among_app _ rc.1 hcv with z | z
    · obtain ⟨c0, e1, e2⟩ := rc.2 p' cv z
      exact ⟨c0, e1, s1.g _ _ e2⟩
    · exact ⟨c, z, upd_same⟩
  have s2 := Step.put s1.sta put (o := .tbl (ps ++ #[rawInt p.line, rawInt p.col, .ref c])) ok
  refine ⟨upd G c (LamX.CodeO c q), ?_⟩
  have e : upd (upd H P (.tbl (ps ++ #[rawInt p.line, rawInt p.col, .ref c]))) c (LamX.CodeO c q) = upd (upd H c (LamX.CodeO c q)) P (.tbl (ps ++ #[rawInt p.line, rawInt p.col, .ref c])) := by
    funext b
    by_cases h1 : b = c
    · subst h1
      rw [upd_same, upd_ne ne, upd_same]
    · by_cases h2 : b = P
      · subst h2
        rw [upd_ne h1, upd_same, upd_same]
      · rw [upd_ne h1, upd_ne h2, upd_ne h2, upd_ne h1]
  rw [e]
  exact s1.trans s2
section
variable {X : Cx} {pins : List (Addr × Obj)} {σ : L2.St} {H : Hp} {s : Shared}
theorem lam_new {cA P : Addr} {ps : Array Value} {params : Arguments} {body : Expr} {scope : Scope} {p : Pos} {E Q : Value → Shared → Prop} (I : Inv X pins σ H s) (TB : LamX.TabB X.base X.mg cA P) (ec : X.env.code = .ref cA) (hP : H P = some (.tbl ps)) (ok : TabOk H (X.env.qual ++ "<lambda>") ps)
    (nd : defaultsOf params X.env = ([], [])) (fr : ∀ y ∈ scope.names, y.2 = .free → ∃ c, X.env.cells.lookup y.1 = some c)
    (k : ∀ (f c : Addr) (pm ctv : Value) (H1 : Hp) (s1 : Shared), Inv X pins σ H1 s1 → LamH p H P (X.env.qual ++ "<lambda>") H1 c → H1 f = none → f ∉ frs X.stack →
      s1.heap.get? f = some (PySem.W.kla_obj "<lambda>" (X.env.qual ++ "<lambda>") params body scope (cloFrom X.env.cells scope.names []) pm c ctv) → Q (.ref f) s1) : wpAny (model X.prog X.w) X.A (eval (.Lambda params body scope p) X.env) Q E s := by
  have tb : s.heap.get? P = some { cls := .none, data := .fields ps } := I.hok _ _ hP
  have far : ∀ f, s.heap.objs.size ≤ f → f ∉ frs X.stack := fun f hf z => (List.mem_cons.mp (I.stkSub _ z)).elim (fun e => Nat.lt_irrefl _ (Nat.lt_of_lt_of_le (e ▸ I.lt) hf)) fun e => I.nofs hf e
  refine PySem.W.kla_eval nd ?_
  cases hc : codeAmong p ps.toList with
  | some cv =>
    obtain ⟨c, rfl, hco⟩ := ok.2 p cv hc
    exact PySem.W.kla_makeFunctionHit (c := cA) (P := P) (closure_ok fr) I.ok.glob (I.mod.glob.keeps I.bk) ec (TB.code.keeps I.bk) tb ok.1 hc (TB.bm.keeps I.bk) fun ctv g tk hx hz => k _ c _ ctv H _ (I.kept fun b o e => Heap.get?_push_of_some _ (hx b o e)) (.inl ⟨rfl, hco⟩) (I.hok.fresh hz) (far _ hz) (Heap.get?_push_size _ rfl)
  | none =>
    refine PySem.W.kla_makeFunction (c := cA) (P := P) (closure_ok fr) I.ok.glob (I.mod.glob.keeps I.bk) ec (TB.code.keeps I.bk) tb ok.1 hc TB.gP (TB.bm.keeps I.bk) fun c ctv g tk hx hge hlt hrec htb => ?_
    obtain ⟨_, oc, vs, t, e2, hoc, hd, hv⟩ := hrec
    cases e2
    have hz : s.heap.objs.size ≤ g.objs.size := Nat.le_trans hge (Nat.le_of_lt hlt)
    have nc : H c = none := I.hok.fresh hge
    have J := LamX.inv_table (X := X) (pins := pins) (σ := σ) (t' := tk) (q := X.env.qual ++ "<lambda>") (more := #[rawInt p.line, rawInt p.col, .ref c]) (h' := g.push (PySem.W.kla_obj "<lambda>" (X.env.qual ++ "<lambda>") params body scope (cloFrom X.env.cells scope.names []) ((X.mg "__name__").getD .none) c ctv)) I hP (fun b o hb e => Heap.get?_push_of_some _ (hx b o hb e)) (Heap.get?_push_of_some _ htb) hge ⟨oc, vs, t, Heap.get?_push_of_some _ hoc, hd, hv⟩
    have nf : H g.objs.size = none := I.hok.fresh hz
    have fc : g.objs.size ≠ c := Nat.ne_of_gt hlt
    have fP : g.objs.size ≠ P := fun z => by rw [z, hP] at nf; cases nf
    exact k _ c _ ctv _ _ J (.inr ⟨ps, hP, nc, rfl⟩) (by rw [upd_ne fc, upd_ne fP]; exact nf) (far _ hz) (Heap.get?_push_size _ rfl)
end

/-! ### the call of a def with a lambda -/
def tLam3 (p : Pos) (P : Addr) (q : Str) (TT : (XK → Hp → VK → Prop) → Hp → VK → Prop) (t : XK → TE) : TE := fun σ H Q => ∃ ps, H P = some (.tbl ps) ∧ TabOk H q ps ∧ ∀ H1 c, LamH p H P q H1 c → TT (fun E H' Q' => t E σ H' Q') H1 Q
theorem pe_lam3 {X : Cx} {TT : (XK → Hp → VK → Prop) → Hp → VK → Prop} {x a : Str} {g cA P : Addr} {k : Nat} {st : Stmt} {Ng : List Str} {params : Arguments} {body : Expr} {scope : Scope} {t : XK → TE} {p lp pos : Pos} (hg : Gl X x) (D : Def X.K X.mg x st [a] g) (Sg : FnS Ng [a] (defScope st)) (h0 : Ng[0]? = some a) (hv : Vis (defScope st) a)
    (hG : ∀ cdg, LamX.GivesTo X Ng x (defScope st) g cdg (defBody st) a (X.env.qual ++ "<lambda>") TT) (TB : LamX.TabB X.base X.mg cA P) (ec : X.env.code = .ref cA) (hr : Room (k + 2) X.A) (L : LamX.LamS X.env.scope scope) (nd : defaultsOf params X.env = ([], []))
    (bd : ∀ (q : Str) (cl : List (Str × Addr)) (pm cv ctv : Value), bindArgs (PySem.W.kla_fn "<lambda>" q params body scope cl pm cv ctv) ⟨[], []⟩ = pure [])
    (hB : ∀ (A : Around) (outer : List Env) (s : Shared) (H : Hp) (E : XK) (f c : Addr), Room k (A.deeper (LamX.lamEnv X scope s.heap.objs.size f c)) → PE (LamX.lamCx X A outer s H E scope f c) body (t E))
    (d1 : (x == ("__debug__" : Str)) = false) (d2 : (a == ("__debug__" : Str)) = false) (d3 : (a == ("__classdict__" : Str)) = false) : PE X (.Call (.Name x p) [.Lambda params body scope lp] [] pos) (tLam3 lp P (X.env.qual ++ "<lambda>") TT t) := by
  obtain ⟨fd, F, hb⟩ := D.fn
  obtain ⟨oc, od, kV, doc, pm, an, cdv, ct, osl, rfl, lk, hcd⟩ := F.ex
  refine ⟨fun pins s σ H Q I ⟨ps, hP, ok, hT⟩ => wpAny_Call_Name_kw (ld_glob I hg D.g ?_ d1)⟩
  refine PySem.W.callWith_K (h₀ := X.base) I.ok.mod.kin D.k ?_ rfl rfl
  show wpAny _ _ (spliced ((false, eval (.Lambda params body scope lp) X.env) :: backTo pos (starEach [] X.env))) _ _ s
  refine Calls.spliced_cons (lam_new I TB ec hP ok nd (L.has I.ok) fun f c pm' ctv H1 s1 J lh nf nfr of => Calls.spliced_nil ?_)
  refine ⟨J.kIn, wpAny_call (codeAny_mono (LamX.run_ofS (CX := C8.CX0) (E := C8.E0) (N := Ng) (ps := [a]) (us := [.ref f]) (vs := [.ref f]) (Q := Q) (H := H1) (outer := X.stack) (w := X.w) lk hcd Sg.toFnScope hr J.env0 (hb s1 [.ref f] J.kIn rfl) (.cons rfl .nil) rfl fun hr2 => ?_) fun r s2 hq => ?_)⟩
  · obtain ⟨u, hu, hq⟩ := hG cdv f c s1 H1 Q _ (fun W pn xe E p1 p2 tk hW => LamX.pe_act (i := 0) J L of nf nfr (bd _ _ _ _ _) tk hW hr2 (fun A outer s H hr3 => hB A outer s H E f c hr3) h0 hv d2 d3) lh.code (hT H1 c lh)
    exact ⟨u, hu.nox, hq⟩
  · cases r with
    | error e => exact False.elim hq
    | ok fl =>
      cases fl with
      | ret u => exact J.after hq
      | next => exact False.elim hq
      | brk => exact False.elim hq
      | cont => exact False.elim hq

/-! ### what an error is told as -/
inductive Er | melody (i : Int) | round (p : Str) (i : Int) | range | number | long | text (w : Int) | code (p : Int) | contra | voice | many | name | unknown | op (p : Int)
def Er.d : Er → D
  | .melody i => .tup [.str "melody", .int i] | .round p i => .tup [.str "round", .tup [.str p, .int i]] | .range => .tup [.str "range", .int 0] | .number => .tup [.str "number", .int 0] | .long => .tup [.str "long", .int 0] | .text w => .tup [.str "text", .int w]
  | .code p => .tup [.str "code", .int p] | .contra => .tup [.str "contradiction", .int 0] | .voice => .tup [.str "voice", .int 0] | .many => .tup [.str "many", .int 0] | .name => .tup [.str "name", .int 0] | .unknown => .tup [.str "unknown", .int 0] | .op p => .tup [.str "operation", .int p]
def Er.fs : Er → List (Str × D)
  | .melody i => [("index", .int i)] | .round p i => [("index", .int i), ("part", .str p)] | .text w => [("word", .int w)] | .code p => [("place", .int p)] | .op p => [("place", .int p)] | _ => []
def Er.ix : Er → Nat
  | .melody _ => 0 | .round _ _ => 1 | .range => 2 | .number => 3 | .long => 4 | .text _ => 5 | .code _ => 6 | .contra => 7 | .voice => 8 | .many => 9 | .name => 10 | .unknown => 11 | .op _ => 12
/-- what a def does with the lambda it got: none, or what the error is told as -/
def TTd (K : PySem.W.Frag) (xd : Er → XD) : (XK → Hp → VK → Prop) → Hp → VK → Prop := fun tl H Q => ∃ (G : Hp) (O : Own) (E2 : Er → Own → Prop) (Q2 : Own → Prop), Sta K G O H ∧
  (∀ (Et : XK) (Qt : VK), (∀ G' H' O' e c dd, Step K G O H G' O' H' → XRep K G' (xd e) c dd → E2 e O' → Et c dd H') → (∀ G' H' O' d v, Step K G O H G' O' H' → Rep K G' d v → Q2 O' → Qt v H') → tl Et H Qt) ∧
  (∀ G' H' O', Step K G O H G' O' H' → Q2 O' → Q .non H') ∧ ∀ G' H' O' (e : Er) v, Step K G O H G' O' H' → Rep K G' e.d v → E2 e O' → Q v H'
/-- the context of a lambda's body -/
structure LBlk (X X' : Cx) (N : List Str) (sc : Scope) (k : Nat) : Prop where
  sc : Sc X' N sc
  K : X'.K = X.K
  mg : X'.mg = X.mg
  pr : X'.prog = X.prog
  w : X'.w = X.w
  base : X'.base = X.base
  room : Room k X'.A
section
variable {X : Cx} {N : List Str} {sc : Scope} {δ : DEnv} {O : Own} {Q : D → Own → Prop} {E : XD → Own → Prop} {p pos lp : Pos}
theorem de_errof {xd : Er → XD} {x a : Str} {g cA P : Addr} {k : Nat} {st : Stmt} {Ng : List Str} {params : Arguments} {body : Expr} {scope : Scope} (S : Sc X N sc) (D : Def X.K X.mg x st [a] g) (Sg : FnS Ng [a] (defScope st)) (h0 : Ng[0]? = some a) (hv : LkV a (defScope st).names)
    {lq : Str} (hG : ∀ cdg q, LamX.GivesTo X Ng x (defScope st) g cdg (defBody st) a q (TTd X.K xd)) (TB : LamX.TabB X.base X.mg cA P) (ec : X.env.code = .ref cA) (eq : X.env.qual ++ "<lambda>" = lq) (hr : Room (k + 2) X.A) (ha : At P (.tab lq) O)
    (h : ∀ X2, LBlk X X2 N scope k → DE X2 body δ O (fun x O' => ∃ e : Er, x = xd e ∧ Q e.d O') fun _ O' => Q .non O')
    (hL : LamX.lamSB sc scope = true := by decide +kernel) (hn : nmOk scope = true := by decide +kernel) (nd : defaultsOf params X.env = ([], []) := by with_unfolding_all rfl)
    (bd : ∀ (q : Str) (cl : List (Str × Addr)) (pm cv ctv : Value), bindArgs (PySem.W.kla_fn "<lambda>" q params body scope cl pm cv ctv) ⟨[], []⟩ = pure [] := by intros; with_unfolding_all rfl) (hg : Nk x .globalImplicit sc.names := by (repeat (with_reducible constructor))) :
    DE X (.Call (.Name x p) [.Lambda params body scope lp] [] pos) δ O E Q := by
  have hv' : Vis (defScope st) a := by
    rcases hv.mem with m | m | m
    · exact .inl (nmOk.at Sg.nm m).1
    · exact .inr (.inl (nmOk.at Sg.nm m).1)
    · exact .inr (.inr (nmOk.at Sg.nm m).1)
  have hdb : (a == ("__debug__" : Str)) = false ∧ (a == ("__classdict__" : Str)) = false := by
    rcases hv.mem with m | m | m <;> exact ⟨(nmOk.at Sg.nm m).2.1, (nmOk.at Sg.nm m).2.2.2⟩
  subst eq
  refine de_of (pe_lam3 (t := fun Et σ H K => ∀ A outer s0 H0 f c, Room k (A.deeper (LamX.lamEnv X scope s0.heap.objs.size f c)) → sem (LamX.lamCx X A outer s0 H0 Et scope f c) body σ H K) (S.gl hg) D Sg h0 hv' (fun cdg => hG cdg _) TB ec hr (LamX.lamS_by (by rw [S.hsc]; exact hL)) nd bd
    (fun A outer s H E f c hr => ⟨fun pins s' σ H5 K I q => q A outer s H f c hr pins s' I⟩) (S.dbg hg) hdb.1 hdb.2) fun W tk G σ H Q' p r s hE hQ => ?_
  obtain ⟨gP, o, hP, rc⟩ := s.at_ ha
  cases o with
  | tbl ps =>
    have rc : TabOk G _ ps := rc
    refine ⟨ps, hP, rc.mono s.sub, fun H1 c lh => ?_⟩
    obtain ⟨G1, st⟩ := lh.step s ha
    refine ⟨G1, O, fun e O' => Q e.d O', fun O' => Q .non O', st.sta, fun Et Qt hEt hQt A outer s0 H0 f c hr2 pins s' I => ?_, fun G' H' O' st2 q => hQ _ _ _ _ _ (st.trans st2) .non q, fun G' H' O' e v st2 rv q => hQ _ _ _ _ _ (st.trans st2) rv q⟩
    exact h (LamX.lamCx X A outer s0 H0 Et scope f c) ⟨⟨hn, S.hn, rfl, S.nd, rfl⟩, rfl, rfl, rfl, rfl, rfl, hr2⟩ (fun c dd σ H => Et c dd H) (takes_of rfl rfl rfl rfl) G1 σ H1 Qt trivial (r.mono st.g) st.sta (fun G' H' O' x c dd st2 xr ⟨e, ex, q⟩ => hEt G' H' O' e c dd st2 (ex ▸ xr) q) (fun G' H' O' d v st2 rd q => hQt G' H' O' d v st2 rd q) pins s' I
  | _ => exact rc.elim
end
/-! ### the suite that looks at a caught error -/
structure Suit (Z : Cx) (N : List Str) (sc : Scope) (K : PySem.W.Frag) (mg : Str → Option Value) (x : XD) (y : D) : Prop where
  nm : nmOk sc = true
  hn : Z.N = N
  hsc : Z.env.scope = sc
  nd : N.Nodup
  K : Z.K = K
  mg : Z.mg = mg
  un : Z.A.units + 65 < cLine
  ex : ∃ X0 ae oe pn d, Z = Cx.suite X0 ae ((ae, oe) :: pn) ∧ Zc (.ref x.C) d oe ∧ (∃ vs, oe.data = .fields vs) ∧ ((x.fs = [] ∧ d = none ∧ y = .ref ae) ∨ ∃ dd, d = some dd ∧ y = .exc ae dd x.fs)
theorem takes_len {X : Cx} {W : WX} (t : Takes X W) : Takes X (fun c d σ H => σ.length = X.N.length → W c d σ H) := fun u s' ⟨a, B, sI, pins, σ, H, cls, d, e, I, nb, up, sky, na, os, ag, w⟩ => t u s' ⟨a, B, sI, pins, σ, H, cls, d, e, I, nb, up, sky, na, os, ag, w I.len⟩
theorem repl_rep {K : PySem.W.Frag} {G : Hp} {σ : L2.St} {n : Nat} (h : σ.length = n) : REnv K G (List.replicate n none) σ := ⟨by rw [List.length_replicate, h], fun i d e => by
  rw [List.getElem?_replicate] at e
  split at e <;> cases e⟩
theorem gives_of {X : Cx} {Ng : List Str} {x a n : Str} {sg : Scope} {g CE : Addr} {cdg : Value} {q : Str} {i j2 : Nat} {p1 p2 p3 p4 p5 p6 p7 p8 : Pos} {b0 : Stmt} {suite : List Stmt} {xd : Er → XD} (nd : Ng.Nodup) (hm : nmOk sg = true) (hu : X.A.units + 100 < cLine) (h0 : ∀ f : Addr, (L2.start Ng [V.ref f])[0]? = some (some (V.ref f)))
    (hi : Ix n Ng i) (hl : Nk n .local sg.names) (hg : Nk ("CanonError" : Str) .globalImplicit sg.names) (hme : X.mg "CanonError" = some (.ref CE)) (hx : ∀ e, PySem.W.exmOne X.K (.ref (xd e).C) (.ref CE) = some true)
    (hs : ∀ (Z : Cx) (e : Er) (y : D), Suit Z Ng sg X.K X.mg (xd e) y → ∀ (O : Own) (Q : D → Own → Prop), Q e.d O → DSs Z (b0 :: suite) ((List.replicate Ng.length none).set i (some y)) O (bkOf Q noE) fun _ _ => False) :
    LamX.GivesTo X Ng x sg g cdg [.Try [.Expr (.Call (.Name a p1) [] [] p2) p3] [.ExceptHandler (some (.Name "CanonError" p4)) (some n) (b0 :: suite) p5] [] [] p6, .Return (some (.Constant .none j2 p7)) p8] a q (TTd X.K xd) := by
  intro f c s H Q tl act hco ⟨G, O, E2, Q2, sta, ht, hok, her⟩
  have ln : sg.names.lookup n = some .local := (nmOk.at hm hl.mem).1
  refine ⟨_, pss_cons (ps_try_as (X := (cxOf C8.CX0 X.prog X.w X.K X.mg X.base Ng x sg g cdg X.A X.stack s H C8.E0).nox) (c := .ref CE) (i := i) (Wout := fun _ _ _ _ => False)
    (tb := fun W D σ H => ∃ Ech : XK, (∀ cls d σ' H', Ech cls d H' → σ'.length = Ng.length → W cls d σ' H') ∧ σ[0]? = some (some (.ref f)) ∧ H c = some (LamX.CodeO c q) ∧ tl Ech H fun _ H' => D.nx σ H')
    (ts := fun ae cls d => fun D σ H6 => ∀ oe pn, Zc cls d oe → (∃ vs, oe.data = .fields vs) → semSs (Cx.suite (cxOf C8.CX0 X.prog X.w X.K X.mg X.base Ng x sg g cdg X.A X.stack s H C8.E0).nox ae ((ae, oe) :: pn)) (b0 :: suite) D σ H6)
    rfl rfl nd hi.get ln ⟨(nmOk.at hm hg.mem).1, (nmOk.at hm hg.mem).2.1, .inl hme⟩ LamX.takes0 (fun W pn xe tk _ => ?_) (fun ae oe cls d pn hz hf => ⟨fun pins s' σ H5 D I h => h oe pn hz hf pins s' I⟩)) (pss_one (ps_ret pe_non)), ?_⟩
  · exact ⟨fun pins s' σ H' D I ⟨Ech, hW, h1, h2, h3⟩ => (pss_one (ps_expr (pos := p3) (act (fun c d σ H => σ.length = Ng.length → W c d σ H) pn xe Ech p1 p2 (takes_len tk) hW))).run pins s' σ H' D I ⟨h1, h2, h3⟩⟩
  · refine ⟨fun cls d H' => ∃ G' O' e, Step X.K G O H G' O' H' ∧ XRep X.K G' (xd e) cls d ∧ E2 e O', fun cls d σ' H' ⟨G', O', e, st, xr, q⟩ hlen => ?_, h0 f, hco, ht _ _ (fun G' H' O' e c dd st xr q => ⟨G', O', e, st, xr, q⟩) fun G' H' O' d v st rd q => hok G' H' O' st q⟩
    refine ⟨true, by rw [xr.1]; exact hx e, fun _ ae hae oe pn hz hf => ?_, fun z => by cases z⟩
    obtain ⟨ec, hd⟩ := xr
    subst ec
    obtain ⟨y, ry, hy⟩ : ∃ y, Rep X.K G' y (.ref ae) ∧ (((xd e).fs = [] ∧ d = none ∧ y = .ref ae) ∨ ∃ dd, d = some dd ∧ y = .exc ae dd (xd e).fs) := by
      rcases hd with ⟨h1, h2⟩ | ⟨dd, vs, h1, h2, h3⟩
      · exact ⟨_, .ref ae, .inl ⟨h1, h2, rfl⟩⟩
      · exact ⟨_, .exc h2 h3, .inr ⟨dd, h1, rfl⟩⟩
    refine hs (Cx.suite (cxOf C8.CX0 X.prog X.w X.K X.mg X.base Ng x sg g cdg X.A X.stack s H C8.E0).nox ae ((ae, oe) :: pn)) e y ⟨hm, rfl, rfl, nd, rfl, rfl, (by show X.A.units + 3 + 65 < cLine; omega), _, ae, oe, pn, d, rfl, hz, hf, hy⟩ O' (fun d O'' => d = e.d ∧ E2 e O'') ⟨rfl, q⟩ (fun _ _ _ _ => False) LamX.takes0 G' (σ'.set i (some (.ref ae))) H' _ ((repl_rep hlen).set i ry) st.sta
      ⟨fun _ _ _ _ _ _ _ z => z.elim, fun G2 H2 O2 d v s2 rd hh => ?_, fun _ _ _ _ _ _ _ z => z.elim, fun _ _ _ _ _ _ _ z => z.elim, fun _ _ _ _ _ _ _ _ _ _ _ z => z.elim⟩
    obtain ⟨ed, q2⟩ := hh
    subst ed
    exact her G2 H2 O2 e v (st.trans s2) rd q2
/-! ### what the suite may ask -/
section
variable {Z : Cx} {N : List Str} {sc : Scope} {K : PySem.W.Frag} {mg : Str → Option Value} {x : XD} {y : D} {δ : DEnv} {O : Own} {E : XD → Own → Prop} {Q : D → Own → Prop} {B : Bk} {nx : DEnv → Own → Prop} {pos p : Pos}
/-- an error's class, whose instances are asked for their class and their fields -/
structure ExR (K : PySem.W.Frag) (C : Addr) : Prop where
  ga : PySem.W.findIn K (.ref C) "__getattribute__" = some (some (.builtin "BaseException.__getattribute__"))
  gt : PySem.W.findIn K (.ref C) "__getattr__" = some none
  sub : PySem.W.subIn K (.ref C) (.type "BaseException") = some true
  hd : PySem.W.hasDictIn K C = true
  c1 : PySem.W.findIn K (.ref C) "__class__" = some (some (.builtin "object.__class__"))
  c2 : PySem.W.specialIn K (.builtin "object.__class__") "__get__" = some (some (.builtin "getset_descriptor.__get__"))
  c3 : PySem.W.takesIn K (.builtin "object.__class__") = some true
  c4 : PySem.W.mroIn K C (.type "object") = some true
theorem ExR.cls {C : Addr} (R : ExR K C) : (PySem.W.clsIn K C).isSome = true := by
  obtain ⟨c, h, _⟩ := PySem.W.any_some R.hd
  rw [h]
  rfl
/-- the record of the caught error -/
theorem inst_at {X0 : Cx} {ae : Addr} {oe : Obj} {pn pins : List (Addr × Obj)} {d : Option Addr} {σ : L2.St} {H : Hp} {s : Shared} {C : Addr} (I : Inv (Cx.suite X0 ae ((ae, oe) :: pn)) pins σ H s) (hz : Zc (.ref C) d oe) (hf : ∃ vs, oe.data = .fields vs) {fs : List (Str × V)}
    (hd : d = none ∨ ∃ dd, d = some dd ∧ H dd = some (.xd fs)) : ∃ od, PySem.W.InstAt s.heap ae oe C od ∧ ((d = none ∧ od = none) ∨ ∃ ob, od = some ob ∧ ∀ f v, fs.lookup f = some v → ∃ u, PySem.W.lookIn f ob = some (some u) ∧ RelV v u) := by
  obtain ⟨ha, _⟩ := I.pin (ae, oe) (List.mem_append_left _ List.mem_cons_self)
  obtain ⟨vs, hv⟩ := hf
  obtain ⟨h1, h2⟩ := hz
  rcases hd with rfl | ⟨dd, rfl, hH⟩
  · exact ⟨none, ⟨ha, h1, by unfold PySem.W.notCls; rw [hv], by rw [h2]; trivial⟩, .inl ⟨rfl, rfl⟩⟩
  · have hx : ObjOk _ _ H s.heap dd (.xd fs) := I.hok dd _ hH
    obtain ⟨mA, hns, hr⟩ := hx
    obtain ⟨od, ho, hl⟩ := lookIn_ns hns
    refine ⟨some od, ⟨ha, h1, by unfold PySem.W.notCls; rw [hv], by rw [h2]; exact ho⟩, .inr ⟨od, rfl, fun f v hfv => ?_⟩⟩
    obtain ⟨u, hu, ru⟩ := RelO.some_of (v := v) (o := mA f) (by rw [← hfv]; exact hr f)
    exact ⟨u, by rw [hl, hu], ru⟩
theorem dc_isE {c : D} {cv : Value} {b : Bool} (Su : Suit Z N sc K mg x y) (R : ExR K x.C) (hc : (∃ C, c = .ref C ∧ cv = .ref C) ∨ ∃ T, c = .ty T ∧ cv = .type T) (hk : PySem.W.kitOne K (.ref x.C) cv = some b) (q : Q (.bl b) O) : DC Z (.builtin "isinstance") [y, c] δ O E Q := by
  intro vs W tk G σ H Q' rl r s hE hQ pins s' us I rv
  obtain ⟨X0, ae, oe, pn, d, eZ, hz, hf, hy⟩ := Su.ex
  have eK := Su.K
  subst eK
  cases rl with
  | @cons _ v1 _ vs' r1 rl =>
  cases rl with
  | @cons _ v2 _ vs' r2 rl =>
  cases rl
  cases rv with
  | @cons _ u1 _ ur w1 rv =>
  cases rv with
  | @cons _ u2 _ ur w2 rv =>
  cases rv
  have hu2 : u2 = cv := by
    rcases hc with ⟨C, rfl, rfl⟩ | ⟨T, rfl, rfl⟩
    · cases r2; exact w2
    · cases r2; exact w2
  obtain ⟨fs, hd, hv1⟩ : ∃ fs : List (Str × V), (d = none ∨ ∃ dd, d = some dd ∧ H dd = some (.xd fs)) ∧ v1 = .ref ae := by
    rcases hy with ⟨_, h2, rfl⟩ | ⟨dd, h2, rfl⟩
    · cases r1; exact ⟨[], .inl h2, rfl⟩
    · cases r1 with
      | exc h3 _ => exact ⟨_, .inr ⟨dd, h2, s.sub _ _ h3⟩, rfl⟩
  subst hv1 hu2
  obtain rfl : u1 = Value.ref ae := w1
  subst eZ
  obtain ⟨od, J, _⟩ := inst_at I hz hf hd
  exact PySem.W.kia_one (PySem.W.kitx_exc R.cls R.ga R.gt R.sub R.c1 R.c2 R.c3 R.c4) I.kIn J hk (fun z => nomatch z) fun tk => ⟨.bl b, H, I.kept (t' := tk) fun _ _ z => z, rfl, hQ _ _ _ _ _ (Step.refl s) (.bl _) q⟩
end
end DL

end

section
set_option maxRecDepth 100000
set_option maxHeartbeats 4000000
set_option autoImplicit false
/-! The data layer: rules for the suite that looks at a caught error; a law that makes lambdas. -/
namespace DL
open PySem PySem.Spec PyProof.Rows L2

section
variable {Z : Cx} {N : List Str} {sc : Scope} {K : PySem.W.Frag} {mg : Str → Option Value} {x : XD} {y : D} {δ : DEnv} {O : Own} {E : XD → Own → Prop} {Q : D → Own → Prop} {B : Bk} {nx : DEnv → Own → Prop} {pos p : Pos} {z : Str}
theorem Suit.ix (S : Suit Z N sc K mg x y) {i : Nat} (h : Ix z N i) : Z.N[i]? = some z := by rw [S.hn]; exact h.get
theorem Suit.vi (S : Suit Z N sc K mg x y) (h : LkV z sc.names) : Vis Z.env.scope z := by
  rw [S.hsc]
  exact h.mem.imp (fun m => (nmOk.at S.nm m).1) fun m => m.imp (fun m => (nmOk.at S.nm m).1) fun m => (nmOk.at S.nm m).1
theorem Suit.vb (S : Suit Z N sc K mg x y) (h : LkV z sc.names) : (z == ("__debug__" : Str)) = false ∧ (z == ("__classdict__" : Str)) = false := by
  rcases h.mem with m | m | m <;> exact ⟨(nmOk.at S.nm m).2.1, (nmOk.at S.nm m).2.2.2⟩
theorem Suit.lo (S : Suit Z N sc K mg x y) (h : Nk z .local sc.names) : Z.env.scope.names.lookup z = some .local := by rw [S.hsc]; exact (nmOk.at S.nm h.mem).1
theorem Suit.gl (S : Suit Z N sc K mg x y) (h : Nk z .globalImplicit sc.names) : Gl Z z := by
  show Z.env.scope.names.lookup z = _
  rw [S.hsc]; exact (nmOk.at S.nm h.mem).1
theorem Suit.dbg (S : Suit Z N sc K mg x y) {k : NameKind} (h : Nk z k sc.names) : (z == ("__debug__" : Str)) = false := (nmOk.at S.nm h.mem).2.1
theorem Suit.nme (S : Suit Z N sc K mg x y) {k : NameKind} (h : Nk z k sc.names) : z ≠ "__name__" := (nmOk.at S.nm h.mem).2.2.1
theorem de_nameZ {i : Nat} {d : D} (S : Suit Z N sc K mg x y) (hi : Ix z N i) (hd : Sl δ i d) (q : Q d O) (hv : LkV z sc.names := by (repeat (with_reducible constructor))) : DE Z (.Name z pos) δ O E Q :=
  de_of (pe_var (S.ix hi) (S.vi hv) (S.vb hv).1 (S.vb hv).2) fun W tk G σ H Q' p r s hE hQ => by
    obtain ⟨v, e, rv⟩ := r.2 i d hd.get
    exact ⟨v, e, hQ G H O d v (Step.refl s) rv q⟩
theorem de_globZ {C : Addr} (S : Suit Z N sc K mg x y) (hm : Z.mg z = some (.ref C)) (q : Q (.ref C) O) (hg : Nk z .globalImplicit sc.names := by (repeat (with_reducible constructor))) : DE Z (.Name z pos) δ O E Q := de_const (pe_glob (v := .ref C) (S.gl hg) hm rfl (S.dbg hg)) (fun _ => .ref C) q
theorem de_bltnZ {T : String} (S : Suit Z N sc K mg x y) (hm : Z.mg z = none) (hv : bootBuiltins z = some (.type T)) (q : Q (.ty T) O) (hg : Nk z .globalImplicit sc.names := by (repeat (with_reducible constructor))) : DE Z (.Name z pos) δ O E Q := de_const (pe_bltn (v := .ty T) (S.gl hg) hm hv rfl (S.nme hg) (S.dbg hg)) (fun _ => .ty T) q
theorem ds_setZ {i : Nat} {e : Expr} {pos' : Pos} (S : Suit Z N sc K mg x y) (hi : Ix z N i) (h : DE Z e δ O (fun x O' => B.ex x δ O') fun d O1 => ∃ δ', SetD d δ i δ' ∧ nx δ' O1) (hl : Nk z .local sc.names := by (repeat (with_reducible constructor))) (hs : swapsWith e (some (.Name z pos')) pos.line Z.env = pure false := by with_unfolding_all rfl) : DS Z (.Assign [.Name z pos'] e pos) δ O B nx :=
  ds_of (ps_set (by rw [S.hn]; exact S.nd) (S.ix hi) (.inl (S.lo hl)) pe_sem hs (.inr (S.lo hl))) fun W tk G σ H D r s l => m_in h tk trivial r s l fun G' H' O' d v st r' l' rd ⟨δ', hd, q⟩ => l'.nx G' H' O' δ' _ (Step.refl st.sta) (by rw [hd.eq]; exact r'.set i rd) q
theorem de_callBZ {e : Expr} {es : List Expr} {id : String} (S : Suit Z N sc K mg x y) (hm : Z.mg z = none) (hv : bootBuiltins z = some (.builtin id)) (h : DA Z (e :: es) δ O E fun ds O1 => DC Z (.builtin id) ds δ O1 E Q) (hg : Nk z .globalImplicit sc.names := by (repeat (with_reducible constructor)))
    (he : starEach (e :: es) Z.env = (false, eval e Z.env) :: starEach es Z.env := by with_unfolding_all rfl) (hpl : (backTo pos (starEach es Z.env)).any (·.1) = false := by with_unfolding_all rfl) : DE Z (.Call (.Name z p) (e :: es) [] pos) δ O E Q :=
  de_of (t := fun σ H K => semA Z (e :: es) σ H fun vs H1 => semC Z (.builtin id) vs σ H1 K) ⟨fun pins s σ H K I q => by
    refine wpAny_Call_Name_kw (ld_blt I (S.gl hg) hm hv ?_ (S.nme hg) (S.dbg hg))
    exact PyProof.Rows.callWith_builtin1 (thn (q pos pins s I) fun us s1 ⟨vs, H1, I1, r, q1⟩ => q1 pins s1 us I1 r) he hpl⟩ (m_args h)
/-- e.f -/
theorem de_xfld {e : Expr} {f : Str} {d0 : D} (Su : Suit Z N sc K mg x y) (R : ExR K x.C) (no : PySem.W.findIn K (.ref x.C) f = some none) (h : DE Z e δ O E fun d O1 => d = y ∧ x.fs.lookup f = some d0 ∧ Q d0 O1) (hb : attributeBase e f Z.env (eval e Z.env) = eval e Z.env := by with_unfolding_all rfl) : DE Z (.Attribute e f pos) δ O E Q := by
  obtain ⟨X0, ae, oe, pn, d, eZ, hz, hf, hy⟩ := Su.ex
  have eK := Su.K
  subst eK eZ
  refine de_of (pe_xf (X := X0) (a := ae) (oe := oe) (d := d) (pn := pn) (C := x.C) ⟨R.ga, R.gt, R.sub, R.hd⟩ no hz hf pe_sem hb) fun W tk G σ H Q' p r s hE hQ => h W tk G σ H _ p r s hE fun G1 H1 O1 d' v st rd ⟨ed, el, q⟩ => ?_
  subst ed
  rcases hy with ⟨h1, _, _⟩ | ⟨dd, h2, rfl⟩
  · rw [h1] at el; cases el
  · cases rd with
    | exc h3 rf =>
      obtain ⟨w, ew, rw'⟩ := rf.look.1 d0 el
      exact ⟨rfl, rfl, dd, _, w, h2, st.sta.sub _ _ h3, ew, hQ _ _ _ _ _ st rw' q⟩
end
section
variable {X : Cx} {δ : DEnv} {O : Own} {E : XD → Own → Prop} {Q : D → Own → Prop}
/-- x in l, plain data -/
theorem db_inD {x : D} {ds : List D} (hu : X.A.units + 65 < cLine) (hx : okD x) (hd : okD (.lst ds)) (q : Q (.bl (ds.any fun z => PyData.eqv (toP z) (toP x))) O) : DB X (compareOp .In) x (.lst ds) δ O E Q := db_of (op_inD hu) fun v u W tk G σ H Q' p r s hE hQ =>
  ⟨toP x, toPs ds, rep_dp s.sub x v hx.1 p.1, rep_dp s.sub (.lst ds) u hd.1 p.2, hx.2, hd.2, by
    have e : (toPs ds).any (fun z => PyData.eqv z (toP x)) = ds.any fun z => PyData.eqv (toP z) (toP x) := by rw [toPs_map, List.any_map]; rfl
    rw [e]
    exact hQ _ _ _ _ _ (Step.refl s) (.bl _) q⟩
end
/-! ### what the classes say -/
def errTab (K : PySem.W.Frag) (cs : List Addr) : Bool := (List.range 13).all fun i => (List.range 13).all fun j => PySem.W.kitOne K (.ref (cs.getD i 0)) (.ref (cs.getD j 0)) == some (decide (i = j))
theorem errTab_at {K : PySem.W.Frag} {cs : List Addr} (h : errTab K cs = true) {i j : Nat} (hi : i < 13) (hj : j < 13) : PySem.W.kitOne K (.ref (cs.getD i 0)) (.ref (cs.getD j 0)) = some (decide (i = j)) :=
  beq_iff_eq.mp (List.all_eq_true.1 (List.all_eq_true.1 h i (List.mem_range.2 hi)) j (List.mem_range.2 hj))
def errCls (K : PySem.W.Frag) (cs : List Addr) (CE : Addr) : Bool := cs.all fun c => PySem.W.exmOne K (.ref c) (.ref CE) == some true && (PySem.W.kitOne K (.ref c) (.type "ValueError") == some true && (PySem.W.findIn K (.ref c) "__getattribute__" == some (some (.builtin "BaseException.__getattribute__")) && (PySem.W.findIn K (.ref c) "__getattr__" == some none && (PySem.W.subIn K (.ref c) (.type "BaseException") == some true &&
  (PySem.W.hasDictIn K c && (PySem.W.findIn K (.ref c) "__class__" == some (some (.builtin "object.__class__")) && PySem.W.mroIn K c (.type "object") == some true))))))
structure ErrC (K : PySem.W.Frag) (C CE : Addr) : Prop where
  ex : PySem.W.exmOne K (.ref C) (.ref CE) = some true
  ve : PySem.W.kitOne K (.ref C) (.type "ValueError") = some true
  r : ExR K C
theorem errCls_at {K : PySem.W.Frag} {cs : List Addr} {CE : Addr} (h : errCls K cs CE = true) (c2 : PySem.W.specialIn K (.builtin "object.__class__") "__get__" = some (some (.builtin "getset_descriptor.__get__"))) (c3 : PySem.W.takesIn K (.builtin "object.__class__") = some true) {C : Addr} (hC : C ∈ cs) : ErrC K C CE := by
  have h1 := List.all_eq_true.1 h C hC
  simp only [Bool.and_eq_true, beq_iff_eq] at h1
  obtain ⟨a1, a2, a3, a4, a5, a6, a7, a8⟩ := h1
  exact ⟨a1, a2, a3, a4, a5, a6, a7, c2, c3, a8⟩
/-! ### a def that makes lambdas, a law that does -/
/-- its code object at cA, the table of that at P -/
structure LDef (K : PySem.W.Frag) (nm qual : Str) (st : Stmt) (f cA P : Addr) : Prop where
  lk : ∃ oc od kV doc pm an ct osl, K.lookup f = some ⟨oc, od, .func (PySem.W.fnOf nm qual (defArgs st) (defBody st) (defScope st) .none kV doc pm an (.ref cA) ct), osl⟩
  cd : PySem.W.codeIn K (.ref cA) qual = true
  hd : PySem.W.codeHdIn K cA P = true
  no : K.lookup P = none
def BodyOkL (P : Program) (w : World) (K : PySem.W.Frag) (mg : Str → Option Value) (base : Heap) (k : Nat) (N : List Str) (st : Stmt) (cA : Addr) (qual : Str) (sp : DSp) : Prop :=
  ∀ (X : Cx), Is X P w K mg base → Sc X N (defScope st) → Df X → Room k X.A → X.env.code = .ref cA → X.env.qual ++ "<lambda>" = qual → ∀ ds O E Q, sp ds O E Q → DSs X (defBody st) (startD N ds) O (bkOf Q E) fun _ O' => Q .non O'
theorem fnok_ofL {P : Program} {w : World} {K : PySem.W.Frag} {mg : Str → Option Value} {base : Heap} {x qual lq : Str} {st : Stmt} {f cA PA : Addr} {N ps : List Str} {k : Nat} {sp : DSp} (hq : (qual ++ ".<locals>.") ++ "<lambda>" = lq) (L : LDef K x qual st f cA PA) (S : FnS N ps (defScope st)) (len : ∀ ds O E Q, sp ds O E Q → ds.length = ps.length) (h : BodyOkL P w K mg base k N st cA lq sp) :
    ∃ kV doc pm an ct, FnOk P w K mg base (L2.CX P w) (k + 1) f (PySem.W.fnOf x qual (defArgs st) (defBody st) (defScope st) .none kV doc pm an (.ref cA) ct) ps (lift K sp) := by
  obtain ⟨oc, od, kV, doc, pm, an, ct, osl, lk⟩ := L.lk
  refine ⟨kV, doc, pm, an, ct, fn_of lk L.cd S.toFnScope (fun vs H Q E ⟨G, ds, O, E', Q', rl, _, _, _, hs⟩ => by rw [rl.length]; exact len _ _ _ _ hs) fun A outer s H vs Q E hr hsp => ?_⟩
  obtain ⟨G, ds, O, E', Q', rl, sta, hE, hQ, hs⟩ := hsp
  refine ⟨_, pss_sem, ?_⟩
  exact h (cxOf (L2.CX P w) P w K mg base N qual (defScope st) f (.ref cA) A outer s H E) ⟨rfl, rfl, rfl, rfl, rfl⟩ ⟨S.nm, rfl, rfl, S.nd, rfl⟩ ⟨fun _ => rfl, rfl, rfl, rfl, passes_of rfl⟩ hr rfl hq ds O E' Q' hs _ (takes_of rfl rfl rfl rfl) G _ H _ (start_rep rl) sta
    ⟨fun G' H' O' δ' σ' s' r' q => hQ G' H' O' .non .non s' .non q, hQ, fun _ _ _ _ _ _ _ z => z.elim, fun _ _ _ _ _ _ _ z => z.elim, fun G' H' O' δ' σ' x c dd s' r' xr e => hE G' H' O' x c dd s' xr e⟩
/-- what a lambda of law is called -/
def lamQ : Str := ("law" : Str) ++ ".<locals>." ++ "<lambda>"
def spLawL (P : Addr) (q : Str) : DSp := fun ds O E Q => ∃ ns : List Int, ds = [.fz (ns.map D.int)] ∧ ns.length ≤ 63 ∧ O = [(P, .tab q)] ∧ ∀ O', Q (.bl true) O'
theorem spLawL_at {K : PySem.W.Frag} {H : Hp} {a P : Addr} {q : Str} {ns : List Int} (hl : ns.length ≤ 63) (hP : H P = some (.tbl #[])) (hS : SqL K H a (ns.map V.int)) : lift K (spLawL P q) [.ref a] H (fun v _ => v = .bl true) (fun _ _ _ => False) := by
  have hG : ∀ b, b ≠ P → (fun b => if b = P then none else H b) b = H b := fun b h => if_neg h
  have ne : ∀ b o, H b = some o → o ≠ .tbl #[] → b ≠ P := fun b o e n z => by rw [z, hP] at e; exact n (Option.some.inj e).symm
  have hS2 : SqL K (fun b => if b = P then none else H b) a (ns.map V.int) := by
    rcases hS with (h | ⟨o, h⟩) | h
    · exact .inl (.inl ((hG a (ne a _ h (fun z => nomatch z))).trans h))
    · exact .inl (.inr ⟨o, (hG a (ne a _ h (fun z => nomatch z))).trans h⟩)
    · exact .inr h
  refine ⟨fun b => if b = P then none else H b, [.fz (ns.map D.int)], [(P, .tab q)], fun _ _ => False, fun d _ => d = .bl true, .cons (.fz hS2 (repL_map (fun _ => .int _) _)) .nil, ⟨fun b o e => ?_, by simp, fun b c m => ?_⟩, fun _ _ _ _ _ _ _ _ z => z, fun _ _ _ d v _ r e => by subst e; cases r; rfl, ns, rfl, hl, rfl, fun _ => rfl⟩
  · by_cases hb : b = P
    · rw [if_pos hb] at e; cases e
    · rw [if_neg hb] at e; exact e
  · rw [List.mem_singleton] at m
    cases m
    exact ⟨if_pos rfl, _, hP, trivial, fun p cv hc => by
      have z : codeAmong p [] = some cv := hc
      simp [codeAmong] at z⟩
theorem walkL {l : PySem.W.OpenLaw} {q : Program} {loose : List Str} {XP : (Str → Option Value) → Heap → Prop} {YP : World → Heap → Prop} {d : DefRec} {K : Params → PySem.W.Frag} (hn : l.most = some 63) (hdf : d.params.defaults = []) (hrec : ((recsOf q).any fun e => e.name == d.name) = true)
    (hY : ∀ (w : World) (h : Heap), YP w h → (K w.params).In h)
    (F : ∀ (w : World) (mg : Str → Option Value) (fa : Addr) (h : Heap), (K w.params).In h → h.Ns mainGlobals mg → mg d.name = some (.ref fa) →
      ∃ (st : Stmt) (cA P : Addr) (N : List Str), LDef (K w.params) "law" "law" st fa cA P ∧ FnS N ["_law_script"] (defScope st) ∧ (∀ kV doc pm an ct (s : Shared) (u : Value), BindsTo s (PySem.W.fnOf "law" "law" (defArgs st) (defBody st) (defScope st) .none kV doc pm an (.ref cA) ct) ⟨[u], []⟩ [("_law_script", u)]) ∧
        ∀ base : Heap, LamX.TabB base mg cA P → BodyOkL l.prog w (K w.params) mg base 29 N st cA lamQ (spLawL P lamQ)) :
    PySem.W.WalkO q loose XP YP l.row.toRowW d [] (fun f vs => PySem.call f vs) := by
  refine LamX.walk_ofOwn (n := 63) (k := 30) (x := "_law_script") (CX := fun w => L2.CX l.prog w) hn (by decide) hdf ⟨rfl, by decide, by decide⟩ hrec hY (fun w mg fa h Y KX G hm own => ?_) fun _ _ _ _ _ ⟨_, _, _, _, _, _, _, _, _, _, _, _, z⟩ => z
  obtain ⟨st, cA, P, N, L, S, hb, hB⟩ := F w mg fa h KX G hm
  have CH := PySem.W.codeHd_of_K KX L.hd
  obtain ⟨oc, od, kV, doc, pm, an, ct, osl, lk⟩ := L.lk
  have hP : h.get? P = some { cls := .none, data := .fields #[] } := by
    have hd := L.hd
    unfold PySem.W.codeHdIn at hd
    split at hd
    · rename_i vs sl hk
      simp only [Bool.and_eq_true] at hd
      obtain ⟨⟨⟨⟨⟨e1, _⟩, _⟩, _⟩, _⟩, _⟩ := hd
      split at e1
      · rename_i P' h11
        have e3 : P' = P := beq_iff_eq.mp e1
        subst e3
        exact own _ _ _ _ _ _ _ _ lk rfl rfl hk h11
      · cases e1
    · cases hd
  obtain ⟨o, file, tf, flags, tg, inF, text, tt, _⟩ := CH
  refine ⟨PySem.W.fnOf "law" "law" (defArgs st) (defBody st) (defScope st) .none kV doc pm an (.ref cA) ct, [(cA, P)], lift (K w.params) (spLawL P lamQ), fun p hp => ?_, fun p hp => ?_, fun p hp => ?_, hb kV doc pm an ct, fun H a ns hl _ hH hS => ?_, fun base _ _ TB => ?_⟩
  · rw [List.mem_singleton.1 hp]; exact hP
  · rw [List.mem_singleton.1 hp]; exact L.no
  · rw [List.mem_singleton.1 hp]; exact PySem.W.codeHd_of_K KX L.hd
  · exact spLawL_at hl (hH _ List.mem_cons_self) hS
  · refine fn_of (k := 29) lk L.cd S.toFnScope (fun vs H Q E ⟨G, ds, O, E', Q', rl, _, _, _, hs⟩ => by obtain ⟨_, e, _⟩ := hs; rw [rl.length, e]; rfl) fun A outer s H vs Q E hr hsp => ?_
    obtain ⟨G, ds, O, E', Q', rl, sta, hE, hQ, hs⟩ := hsp
    refine ⟨_, pss_sem, ?_⟩
    exact hB base (TB _ List.mem_cons_self) (cxOf (L2.CX l.prog w) l.prog w (K w.params) mg base N "law" (defScope st) fa (.ref cA) A outer s H E) ⟨rfl, rfl, rfl, rfl, rfl⟩ ⟨S.nm, rfl, rfl, S.nd, rfl⟩ ⟨fun _ => rfl, rfl, rfl, rfl, passes_of rfl⟩ hr rfl rfl ds O E' Q' hs _ (takes_of rfl rfl rfl rfl) G _ H _ (start_rep rl) sta
      ⟨fun G' H' O' δ' σ' s' r' q => hQ G' H' O' .non .non s' .non q, hQ, fun _ _ _ _ _ _ _ z => z.elim, fun _ _ _ _ _ _ _ z => z.elim, fun G' H' O' δ' σ' x c dd s' r' xr e => hE G' H' O' x c dd s' xr e⟩
end DL

end

section
set_option maxRecDepth 100000
set_option maxHeartbeats 4000000
set_option autoImplicit false
/-! The data layer: an error leaves, and cells that nobody wants stay behind. -/
namespace DL
open PySem PySem.Spec PyProof.Rows L2
def LessE (E : XD → Own → Prop) (x : XD) (O : Own) : Prop := ∃ O2, O2.Sublist O ∧ E x O2
theorem lessE {E : XD → Own → Prop} {x : XD} {O2 O : Own} (h : E x O2) (s : O2.Sublist O := by simp) : LessE E x O := ⟨O2, s, h⟩
theorem DSs.lessE {X : Cx} {sts : List Stmt} {δ : DEnv} {O : Own} {Q : D → Own → Prop} {E : XD → Own → Prop} {nx : DEnv → Own → Prop} (q : DSs X sts δ O (bkOf Q (LessE E)) nx) : DSs X sts δ O (bkOf Q E) nx := fun W tk G σ H D r s l =>
  q W tk G σ H D r s ⟨l.nx, l.rt, l.bk, l.ct, fun G' H' O' δ' σ' x c dd st r' xr ⟨O2, h, e⟩ => l.ex G' H' O2 δ' σ' x c dd (st.less h) r' xr e⟩
end DL

end

end

section
set_option maxRecDepth 100000
set_option maxHeartbeats 4000000
set_option autoImplicit false
namespace KK
open PySem PySem.Spec PyProof.Rows L2 DL
def topS (i : Nat) : Stmt := PySem.Challenge.pw_canonvoices_k12_heard_delays.main.body.getD i (.Pass ⟨0, 0, 0, 0⟩)
abbrev s_InvalidMelody_init : Stmt := inClass (topS 3) 0
@[reducible] def c_InvalidMelody_init : Scope := ⟨.function, [("self", .local), ("index", .local), ("CanonError", .globalImplicit)], false, false, []⟩
theorem sc_InvalidMelody_init : FnS ["self", "index"] ["self", "index"] (defScope s_InvalidMelody_init) := ⟨⟨rfl, rfl, rfl, by decide +kernel, rfl, by decide +kernel, by decide +kernel⟩, by decide +kernel⟩
abbrev s_InvalidRound_init : Stmt := inClass (topS 4) 0
@[reducible] def c_InvalidRound_init : Scope := ⟨.function, [("self", .local), ("part", .local), ("index", .local), ("CanonError", .globalImplicit)], false, false, []⟩
theorem sc_InvalidRound_init : FnS ["self", "part", "index"] ["self", "part", "index"] (defScope s_InvalidRound_init) := ⟨⟨rfl, rfl, rfl, by decide +kernel, rfl, by decide +kernel, by decide +kernel⟩, by decide +kernel⟩
abbrev s_TextFault_init : Stmt := inClass (topS 8) 0
@[reducible] def c_TextFault_init : Scope := ⟨.function, [("self", .local), ("word", .local), ("CanonError", .globalImplicit)], false, false, []⟩
theorem sc_TextFault_init : FnS ["self", "word"] ["self", "word"] (defScope s_TextFault_init) := ⟨⟨rfl, rfl, rfl, by decide +kernel, rfl, by decide +kernel, by decide +kernel⟩, by decide +kernel⟩
abbrev s_InvalidCode_init : Stmt := inClass (topS 9) 0
@[reducible] def c_InvalidCode_init : Scope := ⟨.function, [("self", .local), ("place", .local), ("CanonError", .globalImplicit)], false, false, []⟩
theorem sc_InvalidCode_init : FnS ["self", "place"] ["self", "place"] (defScope s_InvalidCode_init) := ⟨⟨rfl, rfl, rfl, by decide +kernel, rfl, by decide +kernel, by decide +kernel⟩, by decide +kernel⟩
abbrev s_InvalidOperation_init : Stmt := inClass (topS 15) 0
@[reducible] def c_InvalidOperation_init : Scope := ⟨.function, [("self", .local), ("place", .local), ("CanonError", .globalImplicit)], false, false, []⟩
theorem sc_InvalidOperation_init : FnS ["self", "place"] ["self", "place"] (defScope s_InvalidOperation_init) := ⟨⟨rfl, rfl, rfl, by decide +kernel, rfl, by decide +kernel, by decide +kernel⟩, by decide +kernel⟩
abbrev s_is_int_in : Stmt := topS 20
@[reducible] def c_is_int_in : Scope := ⟨.function, [("value", .local), ("low", .local), ("high", .local), ("isinstance", .globalImplicit), ("int", .globalImplicit), ("bool", .globalImplicit)], false, false, []⟩
theorem sc_is_int_in : FnS ["value", "low", "high"] ["value", "low", "high"] (defScope s_is_int_in) := ⟨⟨rfl, rfl, rfl, by decide +kernel, rfl, by decide +kernel, by decide +kernel⟩, by decide +kernel⟩
abbrev s_is_note : Stmt := topS 21
@[reducible] def c_is_note : Scope := ⟨.function, [("value", .local), ("pitch", .local), ("beats", .local), ("isinstance", .globalImplicit), ("tuple", .globalImplicit), ("len", .globalImplicit), ("is_int_in", .globalImplicit), ("Melody", .globalImplicit)], false, false, []⟩
theorem sc_is_note : FnS ["value", "pitch", "beats"] ["value"] (defScope s_is_note) := ⟨⟨rfl, rfl, rfl, by decide +kernel, rfl, by decide +kernel, by decide +kernel⟩, by decide +kernel⟩
abbrev s_Melody_init : Stmt := inClass (topS 22) 3
@[reducible] def c_Melody_init : Scope := ⟨.function, [("self", .local), ("notes", .local), ("index", .local), ("note", .local), ("row", .local), ("number", .local), ("pitch", .local), ("beats", .local), ("enumerate", .globalImplicit), ("Melody", .globalImplicit), ("is_note", .globalImplicit), ("InvalidMelody", .globalImplicit)], false, false, []⟩
theorem sc_Melody_init : FnS ["self", "notes", "index", "note", "row", "number", "pitch", "beats"] ["self", "notes"] (defScope s_Melody_init) := ⟨⟨rfl, rfl, rfl, by decide +kernel, rfl, by decide +kernel, by decide +kernel⟩, by decide +kernel⟩
abbrev s_Melody_parse : Stmt := inClass (topS 22) 4
@[reducible] def c_Melody_parse : Scope := ⟨.function, [("cls", .local), ("text", .local), ("notes", .local), ("place", .local), ("word", .local), ("parts", .local), ("enumerate", .globalImplicit), ("len", .globalImplicit), ("is_number", .globalImplicit), ("REST", .globalImplicit), ("TextFault", .globalImplicit), ("int", .globalImplicit)], false, false, []⟩
theorem sc_Melody_parse : FnS ["cls", "text", "notes", "place", "word", "parts"] ["cls", "text"] (defScope s_Melody_parse) := ⟨⟨rfl, rfl, rfl, by decide +kernel, rfl, by decide +kernel, by decide +kernel⟩, by decide +kernel⟩
abbrev s_Melody_notes : Stmt := inClass (topS 22) 5
@[reducible] def c_Melody_notes : Scope := ⟨.function, [("self", .local)], false, false, []⟩
theorem sc_Melody_notes : FnS ["self"] ["self"] (defScope s_Melody_notes) := ⟨⟨rfl, rfl, rfl, by decide +kernel, rfl, by decide +kernel, by decide +kernel⟩, by decide +kernel⟩
abbrev s_Melody_text : Stmt := inClass (topS 22) 6
@[reducible] def c_Melody_text : Scope := ⟨.function, [("self", .local), ("words", .local)], false, false, [("fast", .str "self"), ("fast", .str "pitch"), ("fast", .str "beats"), ("fast", .str "words")]⟩
theorem sc_Melody_text : FnS ["self", "words", "pitch", "beats"] ["self"] (defScope s_Melody_text) := ⟨⟨rfl, rfl, rfl, by decide +kernel, rfl, by decide +kernel, by decide +kernel⟩, by decide +kernel⟩
abbrev s_Melody_pitches : Stmt := inClass (topS 22) 7
@[reducible] def c_Melody_pitches : Scope := ⟨.function, [("self", .local), ("tuple", .globalImplicit), ("sorted", .globalImplicit)], false, false, [("fast", .str "self"), ("fast", .str "pitch"), ("fast", .str "beats")]⟩
theorem sc_Melody_pitches : FnS ["self", "pitch", "beats"] ["self"] (defScope s_Melody_pitches) := ⟨⟨rfl, rfl, rfl, by decide +kernel, rfl, by decide +kernel, by decide +kernel⟩, by decide +kernel⟩
abbrev s_Melody_sound : Stmt := inClass (topS 22) 8
@[reducible] def c_Melody_sound : Scope := ⟨.function, [("self", .local), ("beat", .local), ("len", .globalImplicit)], false, false, []⟩
theorem sc_Melody_sound : FnS ["self", "beat"] ["self", "beat"] (defScope s_Melody_sound) := ⟨⟨rfl, rfl, rfl, by decide +kernel, rfl, by decide +kernel, by decide +kernel⟩, by decide +kernel⟩
abbrev s_Melody_call : Stmt := inClass (topS 22) 9
@[reducible] def c_Melody_call : Scope := ⟨.function, [("self", .local), ("beat", .local), ("is_int_in", .globalImplicit), ("MAX_NUMBER", .globalImplicit), ("InvalidNumber", .globalImplicit)], false, false, []⟩
theorem sc_Melody_call : FnS ["self", "beat"] ["self", "beat"] (defScope s_Melody_call) := ⟨⟨rfl, rfl, rfl, by decide +kernel, rfl, by decide +kernel, by decide +kernel⟩, by decide +kernel⟩
abbrev s_Melody_len : Stmt := inClass (topS 22) 10
@[reducible] def c_Melody_len : Scope := ⟨.function, [("self", .local), ("len", .globalImplicit)], false, false, []⟩
theorem sc_Melody_len : FnS ["self"] ["self"] (defScope s_Melody_len) := ⟨⟨rfl, rfl, rfl, by decide +kernel, rfl, by decide +kernel, by decide +kernel⟩, by decide +kernel⟩
abbrev s_Melody_eq : Stmt := inClass (topS 22) 11
@[reducible] def c_Melody_eq : Scope := ⟨.function, [("self", .local), ("other", .local), ("isinstance", .globalImplicit), ("Melody", .globalImplicit)], false, false, []⟩
theorem sc_Melody_eq : FnS ["self", "other"] ["self", "other"] (defScope s_Melody_eq) := ⟨⟨rfl, rfl, rfl, by decide +kernel, rfl, by decide +kernel, by decide +kernel⟩, by decide +kernel⟩
abbrev s_Melody_bool : Stmt := inClass (topS 22) 12
@[reducible] def c_Melody_bool : Scope := ⟨.function, [("self", .local), ("any", .globalImplicit)], false, false, [("fast", .str "self"), ("fast", .str "pitch"), ("fast", .str "beats")]⟩
theorem sc_Melody_bool : FnS ["self", "pitch", "beats"] ["self"] (defScope s_Melody_bool) := ⟨⟨rfl, rfl, rfl, by decide +kernel, rfl, by decide +kernel, by decide +kernel⟩, by decide +kernel⟩
abbrev s_Melody_contains : Stmt := inClass (topS 22) 13
@[reducible] def c_Melody_contains : Scope := ⟨.function, [("self", .local), ("pitch", .local), ("is_int_in", .globalImplicit), ("Melody", .globalImplicit)], false, false, [("fast", .str "self"), ("fast", .str "pitch"), ("fast", .str "other"), ("fast", .str "beats")]⟩
theorem sc_Melody_contains : FnS ["self", "pitch", "other", "beats"] ["self", "pitch"] (defScope s_Melody_contains) := ⟨⟨rfl, rfl, rfl, by decide +kernel, rfl, by decide +kernel, by decide +kernel⟩, by decide +kernel⟩
abbrev s_Melody_getitem : Stmt := inClass (topS 22) 14
@[reducible] def c_Melody_getitem : Scope := ⟨.function, [("self", .local), ("number", .local), ("is_int_in", .globalImplicit), ("len", .globalImplicit), ("InvalidNumber", .globalImplicit)], false, false, []⟩
theorem sc_Melody_getitem : FnS ["self", "number"] ["self", "number"] (defScope s_Melody_getitem) := ⟨⟨rfl, rfl, rfl, by decide +kernel, rfl, by decide +kernel, by decide +kernel⟩, by decide +kernel⟩
abbrev s_Melody_iter : Stmt := inClass (topS 22) 15
@[reducible] def c_Melody_iter : Scope := ⟨.function, [("self", .local), ("TypeError", .globalImplicit)], false, false, []⟩
theorem sc_Melody_iter : FnS ["self"] ["self"] (defScope s_Melody_iter) := ⟨⟨rfl, rfl, rfl, by decide +kernel, rfl, by decide +kernel, by decide +kernel⟩, by decide +kernel⟩
abbrev s_Melody_add : Stmt := inClass (topS 22) 16
@[reducible] def c_Melody_add : Scope := ⟨.function, [("self", .local), ("other", .local), ("notes", .local), ("Melody", .globalImplicit)], false, false, []⟩
theorem sc_Melody_add : FnS ["self", "other", "notes"] ["self", "other"] (defScope s_Melody_add) := ⟨⟨rfl, rfl, rfl, by decide +kernel, rfl, by decide +kernel, by decide +kernel⟩, by decide +kernel⟩
abbrev s_Melody_mul : Stmt := inClass (topS 22) 17
@[reducible] def c_Melody_mul : Scope := ⟨.function, [("self", .cell), ("times", .local), ("notes", .local), ("is_int_in", .globalImplicit), ("Melody", .globalImplicit), ("InvalidNumber", .globalImplicit), ("range", .globalImplicit)], false, false, [("fast", .str "self"), ("fast", .str "times"), ("fast", .str "turn"), ("fast", .str "note"), ("fast", .str "notes")]⟩
theorem sc_Melody_mul : FnS ["self", "times", "notes", "turn", "note"] ["self", "times"] (defScope s_Melody_mul) := ⟨⟨rfl, rfl, rfl, by decide +kernel, rfl, by decide +kernel, by decide +kernel⟩, by decide +kernel⟩
abbrev s_Melody_rshift : Stmt := inClass (topS 22) 18
@[reducible] def c_Melody_rshift : Scope := ⟨.function, [("self", .local), ("steps", .cell), ("notes", .local), ("is_int_in", .globalImplicit), ("Melody", .globalImplicit), ("InvalidNumber", .globalImplicit), ("melody_of", .globalImplicit)], false, false, [("fast", .str "self"), ("fast", .str "steps"), ("fast", .str "pitch"), ("fast", .str "beats"), ("fast", .str "notes")]⟩
theorem sc_Melody_rshift : FnS ["self", "steps", "notes", "pitch", "beats"] ["self", "steps"] (defScope s_Melody_rshift) := ⟨⟨rfl, rfl, rfl, by decide +kernel, rfl, by decide +kernel, by decide +kernel⟩, by decide +kernel⟩
abbrev s_Melody_invert : Stmt := inClass (topS 22) 19
@[reducible] def c_Melody_invert : Scope := ⟨.function, [("self", .local), ("notes", .local), ("Melody", .globalImplicit)], false, false, []⟩
theorem sc_Melody_invert : FnS ["self", "notes"] ["self"] (defScope s_Melody_invert) := ⟨⟨rfl, rfl, rfl, by decide +kernel, rfl, by decide +kernel, by decide +kernel⟩, by decide +kernel⟩
abbrev s_Melody_neg : Stmt := inClass (topS 22) 20
@[reducible] def c_Melody_neg : Scope := ⟨.function, [("self", .local), ("first", .cell), ("notes", .local), ("melody_of", .globalImplicit)], false, false, [("fast", .str "self"), ("fast", .str "pitch"), ("fast", .str "beats"), ("fast", .str "first"), ("fast", .str "notes")]⟩
theorem sc_Melody_neg : FnS ["self", "first", "notes", "pitch", "beats"] ["self"] (defScope s_Melody_neg) := ⟨⟨rfl, rfl, rfl, by decide +kernel, rfl, by decide +kernel, by decide +kernel⟩, by decide +kernel⟩
abbrev s_melody_of : Stmt := topS 23
@[reducible] def c_melody_of : Scope := ⟨.function, [("notes", .local), ("pitch", .local), ("beats", .local), ("Melody", .globalImplicit), ("OutOfRange", .globalImplicit)], false, false, []⟩
theorem sc_melody_of : FnS ["notes", "pitch", "beats"] ["notes"] (defScope s_melody_of) := ⟨⟨rfl, rfl, rfl, by decide +kernel, rfl, by decide +kernel, by decide +kernel⟩, by decide +kernel⟩
abbrev s_is_number : Stmt := topS 24
@[reducible] def c_is_number : Scope := ⟨.function, [("word", .local), ("most", .local), ("len", .globalImplicit), ("any", .globalImplicit)], false, false, [("fast", .str "word"), ("fast", .str "most"), ("fast", .str "digit")]⟩
theorem sc_is_number : FnS ["word", "most", "digit"] ["word", "most"] (defScope s_is_number) := ⟨⟨rfl, rfl, rfl, by decide +kernel, rfl, by decide +kernel, by decide +kernel⟩, by decide +kernel⟩
abbrev s_heard : Stmt := topS 27
@[reducible] def c_heard : Scope := ⟨.function, [("sounds", .local), ("sorted", .globalImplicit)], false, false, [("fast", .str "sounds"), ("fast", .str "pitch")]⟩
theorem sc_heard : FnS ["sounds", "pitch"] ["sounds"] (defScope s_heard) := ⟨⟨rfl, rfl, rfl, by decide +kernel, rfl, by decide +kernel, by decide +kernel⟩, by decide +kernel⟩
abbrev s_check_shift : Stmt := topS 29
@[reducible] def c_check_shift : Scope := ⟨.function, [("shift", .local), ("is_int_in", .globalImplicit), ("MAX_SHIFT", .globalImplicit), ("InvalidNumber", .globalImplicit)], false, false, []⟩
theorem sc_check_shift : FnS ["shift"] ["shift"] (defScope s_check_shift) := ⟨⟨rfl, rfl, rfl, by decide +kernel, rfl, by decide +kernel, by decide +kernel⟩, by decide +kernel⟩
abbrev s_Listener_init : Stmt := inClass (topS 33) 0
@[reducible] def c_Listener_init : Scope := ⟨.function, [("self", .local), ("melody", .local), ("shift", .local), ("limit", .local), ("check_shift", .globalImplicit), ("is_int_in", .globalImplicit), ("MAX_LIMIT", .globalImplicit), ("InvalidNumber", .globalImplicit), ("list", .globalImplicit), ("range", .globalImplicit)], false, false, []⟩
theorem sc_Listener_init : FnS ["self", "melody", "shift", "limit"] ["self", "melody", "shift", "limit"] (defScope s_Listener_init) := ⟨⟨rfl, rfl, rfl, by decide +kernel, rfl, by decide +kernel, by decide +kernel⟩, by decide +kernel⟩
abbrev s_Listener_sounds : Stmt := inClass (topS 33) 1
@[reducible] def c_Listener_sounds : Scope := ⟨.function, [("self", .local), ("delay", .local), ("beat", .local), ("heard", .globalImplicit)], false, false, []⟩
theorem sc_Listener_sounds : FnS ["self", "delay", "beat"] ["self", "delay", "beat"] (defScope s_Listener_sounds) := ⟨⟨rfl, rfl, rfl, by decide +kernel, rfl, by decide +kernel, by decide +kernel⟩, by decide +kernel⟩
abbrev s_Listener_hear : Stmt := inClass (topS 33) 2
@[reducible] def c_Listener_hear : Scope := ⟨.function, [("self", .cell), ("beat", .cell), ("pitches", .local), ("row", .cell), ("kept", .local), ("is_int_in", .globalImplicit), ("MAX_NUMBER", .globalImplicit), ("InvalidNumber", .globalImplicit), ("sorted", .globalImplicit), ("Contradiction", .globalImplicit), ("tuple", .globalImplicit), ("len", .globalImplicit)], false, false, [("fast", .str "self"), ("fast", .str "beat"), ("fast", .str "pitches"), ("fast", .str "pitch"), ("fast", .str "row"), ("fast", .str "delay"), ("fast", .str "kept")]⟩
theorem sc_Listener_hear : FnS ["self", "beat", "pitches", "row", "kept", "delay", "pitch"] ["self", "beat", "pitches"] (defScope s_Listener_hear) := ⟨⟨rfl, rfl, rfl, by decide +kernel, rfl, by decide +kernel, by decide +kernel⟩, by decide +kernel⟩
abbrev s_Listener_delays : Stmt := inClass (topS 33) 4
@[reducible] def c_Listener_delays : Scope := ⟨.function, [("self", .local), ("list", .globalImplicit)], false, false, []⟩
theorem sc_Listener_delays : FnS ["self"] ["self"] (defScope s_Listener_delays) := ⟨⟨rfl, rfl, rfl, by decide +kernel, rfl, by decide +kernel, by decide +kernel⟩, by decide +kernel⟩
abbrev s_Listener_history : Stmt := inClass (topS 33) 5
@[reducible] def c_Listener_history : Scope := ⟨.function, [("self", .local), ("list", .globalImplicit)], false, false, []⟩
theorem sc_Listener_history : FnS ["self"] ["self"] (defScope s_Listener_history) := ⟨⟨rfl, rfl, rfl, by decide +kernel, rfl, by decide +kernel, by decide +kernel⟩, by decide +kernel⟩
abbrev s_Listener_best_beat : Stmt := inClass (topS 33) 6
@[reducible] def c_Listener_best_beat : Scope := ⟨.function, [("self", .cell), ("limit", .local), ("worst", .local), ("beat", .cell), ("chords", .cell), ("is_int_in", .globalImplicit), ("MAX_TRIED", .globalImplicit), ("InvalidNumber", .globalImplicit), ("range", .globalImplicit), ("max", .globalImplicit), ("min", .globalImplicit)], false, false, [("fast", .str "self"), ("fast", .str "limit"), ("fast", .str "worst"), ("fast", .str "beat"), ("fast", .str "delay"), ("fast", .str "chords"), ("fast", .str "chord")]⟩
theorem sc_Listener_best_beat : FnS ["self", "limit", "worst", "beat", "chords", "delay", "chord"] ["self", "limit"] (defScope s_Listener_best_beat) := ⟨⟨rfl, rfl, rfl, by decide +kernel, rfl, by decide +kernel, by decide +kernel⟩, by decide +kernel⟩
abbrev s_law_random : Stmt := topS 35
@[reducible] def c_law_random : Scope := ⟨.function, [("_law_script", .local), ("_law_salt", .local), ("_law_seed", .local), ("_law_cell", .local), ("abs", .globalImplicit)], false, false, [("fast", .str "_law_script"), ("fast", .str "_law_salt"), ("fast", .str "_law_seed"), ("fast", .str "_law_cell")]⟩
theorem sc_law_random : FnS ["_law_script", "_law_salt", "_law_seed", "_law_cell"] ["_law_script", "_law_salt"] (defScope s_law_random) := ⟨⟨rfl, rfl, rfl, by decide +kernel, rfl, by decide +kernel, by decide +kernel⟩, by decide +kernel⟩
abbrev s_law_below : Stmt := topS 36
@[reducible] def c_law_below : Scope := ⟨.function, [("_law_d", .local), ("_law_limit", .local), ("_law_result", .local), ("len", .globalImplicit)], false, false, []⟩
theorem sc_law_below : FnS ["_law_d", "_law_limit", "_law_result"] ["_law_d", "_law_limit"] (defScope s_law_below) := ⟨⟨rfl, rfl, rfl, by decide +kernel, rfl, by decide +kernel, by decide +kernel⟩, by decide +kernel⟩
abbrev s_law_notes : Stmt := topS 37
@[reducible] def c_law_notes : Scope := ⟨.function, [("_law_d", .local), ("_law_most", .local), ("_law_low", .local), ("_law_span", .local), ("_law_longest", .local), ("_law_found", .local), ("_law_k", .local), ("_law_below", .globalImplicit), ("range", .globalImplicit)], false, false, []⟩
theorem sc_law_notes : FnS ["_law_d", "_law_most", "_law_low", "_law_span", "_law_longest", "_law_found", "_law_k"] ["_law_d", "_law_most"] (defScope s_law_notes) := ⟨⟨rfl, rfl, rfl, by decide +kernel, rfl, by decide +kernel, by decide +kernel⟩, by decide +kernel⟩
abbrev s_law_fits : Stmt := topS 38
@[reducible] def c_law_fits : Scope := ⟨.function, [("_law_notes_here", .local)], false, false, [("fast", .str "_law_notes_here"), ("fast", .str "_law_pitch"), ("fast", .str "_law_beats")]⟩
theorem sc_law_fits : FnS ["_law_notes_here", "_law_pitch", "_law_beats"] ["_law_notes_here"] (defScope s_law_fits) := ⟨⟨rfl, rfl, rfl, by decide +kernel, rfl, by decide +kernel, by decide +kernel⟩, by decide +kernel⟩
abbrev s_law_shifted : Stmt := topS 39
@[reducible] def c_law_shifted : Scope := ⟨.function, [("_law_notes_here", .local), ("_law_steps", .cell)], false, false, [("fast", .str "_law_notes_here"), ("fast", .str "_law_steps"), ("fast", .str "_law_pitch"), ("fast", .str "_law_beats")]⟩
theorem sc_law_shifted : FnS ["_law_notes_here", "_law_steps", "_law_pitch", "_law_beats"] ["_law_notes_here", "_law_steps"] (defScope s_law_shifted) := ⟨⟨rfl, rfl, rfl, by decide +kernel, rfl, by decide +kernel, by decide +kernel⟩, by decide +kernel⟩
abbrev s_law_in_range : Stmt := topS 40
@[reducible] def c_law_in_range : Scope := ⟨.function, [("_law_d", .local), ("_law_notes_here", .local), ("_law_shift", .local), ("_law_below", .globalImplicit), ("_law_fits", .globalImplicit), ("_law_shifted", .globalImplicit)], false, false, []⟩
theorem sc_law_in_range : FnS ["_law_d", "_law_notes_here", "_law_shift"] ["_law_d", "_law_notes_here"] (defScope s_law_in_range) := ⟨⟨rfl, rfl, rfl, by decide +kernel, rfl, by decide +kernel, by decide +kernel⟩, by decide +kernel⟩
abbrev s_law_row : Stmt := topS 41
@[reducible] def c_law_row : Scope := ⟨.function, [("_law_notes_here", .local), ("_law_found", .local), ("_law_pitch", .local), ("_law_beats", .local)], false, false, []⟩
theorem sc_law_row : FnS ["_law_notes_here", "_law_found", "_law_pitch", "_law_beats"] ["_law_notes_here"] (defScope s_law_row) := ⟨⟨rfl, rfl, rfl, by decide +kernel, rfl, by decide +kernel, by decide +kernel⟩, by decide +kernel⟩
abbrev s_law_words : Stmt := topS 42
@[reducible] def c_law_words : Scope := ⟨.function, [("_law_notes_here", .local)], false, false, [("fast", .str "_law_notes_here"), ("fast", .str "_law_pitch"), ("fast", .str "_law_beats")]⟩
theorem sc_law_words : FnS ["_law_notes_here", "_law_pitch", "_law_beats"] ["_law_notes_here"] (defScope s_law_words) := ⟨⟨rfl, rfl, rfl, by decide +kernel, rfl, by decide +kernel, by decide +kernel⟩, by decide +kernel⟩
abbrev s_law_melody : Stmt := topS 43
@[reducible] def c_law_melody : Scope := ⟨.function, [("_law_notes_here", .local), ("Melody", .globalImplicit), ("_law_words", .globalImplicit)], false, false, []⟩
theorem sc_law_melody : FnS ["_law_notes_here"] ["_law_notes_here"] (defScope s_law_melody) := ⟨⟨rfl, rfl, rfl, by decide +kernel, rfl, by decide +kernel, by decide +kernel⟩, by decide +kernel⟩
abbrev s_law_some_beat : Stmt := topS 44
@[reducible] def c_law_some_beat : Scope := ⟨.function, [("_law_d", .local), ("_law_below", .globalImplicit)], false, false, []⟩
theorem sc_law_some_beat : FnS ["_law_d"] ["_law_d"] (defScope s_law_some_beat) := ⟨⟨rfl, rfl, rfl, by decide +kernel, rfl, by decide +kernel, by decide +kernel⟩, by decide +kernel⟩
abbrev s_law_heard : Stmt := topS 45
@[reducible] def c_law_heard : Scope := ⟨.function, [("_law_row_here", .local), ("_law_later", .local), ("_law_delay", .local), ("_law_beat", .local), ("_law_sounds", .local), ("len", .globalImplicit), ("sorted", .globalImplicit)], false, false, [("fast", .str "_law_row_here"), ("fast", .str "_law_later"), ("fast", .str "_law_delay"), ("fast", .str "_law_beat"), ("fast", .str "_law_sounds"), ("fast", .str "_law_pitch")]⟩
theorem sc_law_heard : FnS ["_law_row_here", "_law_later", "_law_delay", "_law_beat", "_law_sounds", "_law_pitch"] ["_law_row_here", "_law_later", "_law_delay", "_law_beat"] (defScope s_law_heard) := ⟨⟨rfl, rfl, rfl, by decide +kernel, rfl, by decide +kernel, by decide +kernel⟩, by decide +kernel⟩
abbrev s_law_error_of : Stmt := topS 46
@[reducible] def c_law_error_of : Scope := ⟨.function, [("_law_call", .local), ("e", .local), ("_law_kinds", .local), ("_law_names", .local), ("_law_name", .local), ("CanonError", .globalImplicit), ("isinstance", .globalImplicit), ("InvalidMelody", .globalImplicit), ("InvalidRound", .globalImplicit), ("OutOfRange", .globalImplicit), ("InvalidNumber", .globalImplicit), ("TooLong", .globalImplicit), ("TextFault", .globalImplicit), ("InvalidCode", .globalImplicit), ("Contradiction", .globalImplicit), ("UnknownVoice", .globalImplicit), ("TooManyVoices", .globalImplicit), ("InvalidName", .globalImplicit), ("UnknownName", .globalImplicit), ("InvalidOperation", .globalImplicit), ("ValueError", .globalImplicit)], false, false, []⟩
theorem sc_law_error_of : FnS ["_law_call", "e", "_law_kinds", "_law_names", "_law_name"] ["_law_call"] (defScope s_law_error_of) := ⟨⟨rfl, rfl, rfl, by decide +kernel, rfl, by decide +kernel, by decide +kernel⟩, by decide +kernel⟩
abbrev s_law_hear : Stmt := topS 47
@[reducible] def c_law_hear : Scope := ⟨.function, [("_law_listener", .local), ("_law_beat", .local), ("_law_pitches", .local), ("len", .globalImplicit)], false, false, []⟩
theorem sc_law_hear : FnS ["_law_listener", "_law_beat", "_law_pitches"] ["_law_listener", "_law_beat", "_law_pitches"] (defScope s_law_hear) := ⟨⟨rfl, rfl, rfl, by decide +kernel, rfl, by decide +kernel, by decide +kernel⟩, by decide +kernel⟩
abbrev s_law_equal : Stmt := topS 48
@[reducible] def c_law_equal : Scope := ⟨.function, [("_law_actual", .cell), ("_law_expected", .cell), ("isinstance", .globalImplicit), ("bool", .globalImplicit), ("int", .globalImplicit), ("str", .globalImplicit), ("tuple", .globalImplicit), ("list", .globalImplicit), ("len", .globalImplicit), ("all", .globalImplicit), ("range", .globalImplicit)], false, false, [("fast", .str "_law_actual"), ("fast", .str "_law_expected"), ("fast", .str "_law_k")]⟩
theorem sc_law_equal : FnS ["_law_actual", "_law_expected", "_law_k"] ["_law_actual", "_law_expected"] (defScope s_law_equal) := ⟨⟨rfl, rfl, rfl, by decide +kernel, rfl, by decide +kernel, by decide +kernel⟩, by decide +kernel⟩
abbrev s_law : Stmt := topS 49
@[reducible] def c_law : Scope := ⟨.function, (("_law_script", .local) :: ("_law_d", .local) :: ("_law_notes_here", .local) :: ("_law_shift", .local) :: ("_law_limit", .local) :: ("_law_facts", .local) :: ("_law_row_here", .cell) :: ("_law_later", .cell) :: ("_law_left", .local) :: ("_law_truth", .local) :: ("_law_turn", .local) :: ("_law_kept", .local) :: ("_law_worst", .local) :: ("_law_most", .local) :: ("_law_chords", .cell) :: ("_law_beat", .cell) :: ("_law_listener", .cell) :: ("_law_pitches", .cell) :: ("_law_random", .globalImplicit) :: ("_law_notes", .globalImplicit) :: ("_law_in_range", .globalImplicit) :: ("_law_below", .globalImplicit) :: ("int", .globalImplicit) :: ("_law_row", .globalImplicit) :: ("_law_shifted", .globalImplicit) :: ("Listener", .globalImplicit) :: ("_law_melody", .globalImplicit) :: ("list", .globalImplicit) :: ("range", .globalImplicit) :: ("_law_some_beat", .globalImplicit) :: ("_law_heard", .globalImplicit) :: ("sorted", .globalImplicit) :: ("_law_error_of", .globalImplicit) :: ("_law_equal", .globalImplicit) :: ("_law_hear", .globalImplicit) :: ("len", .globalImplicit) :: ("tuple", .globalImplicit) :: ("max", .globalImplicit) :: ("min", .globalImplicit) :: []), false, false, [("fast", .str "_law_script"), ("fast", .str "_law_d"), ("fast", .str "_law_notes_here"), ("fast", .str "_law_shift"), ("fast", .str "_law_limit"), ("fast", .str "_law_facts"), ("fast", .str "_law_row_here"), ("fast", .str "_law_later"), ("fast", .str "_law_left"), ("fast", .str "_law_truth"), ("fast", .str "_law_turn"), ("fast", .str "_law_pitch"), ("fast", .str "_law_delay"), ("fast", .str "_law_kept"), ("fast", .str "_law_worst"), ("fast", .str "_law_most"), ("fast", .str "_law_chords"), ("fast", .str "_law_chord"), ("fast", .str "_law_beat"), ("fast", .str "_law_listener"), ("fast", .str "_law_pitches")]⟩
theorem sc_law : FnS ["_law_script", "_law_d", "_law_notes_here", "_law_shift", "_law_limit", "_law_facts", "_law_row_here", "_law_later", "_law_listener", "_law_left", "_law_truth", "_law_turn", "_law_beat", "_law_pitches", "_law_kept", "_law_worst", "_law_most", "_law_chords", "_law_delay", "_law_pitch", "_law_chord"] ["_law_script"] (defScope s_law) := ⟨⟨rfl, rfl, rfl, by decide +kernel, rfl, by decide +kernel, by decide +kernel⟩, by decide +kernel⟩
structure Adr where
  C_CanonError : Addr
  C_InvalidMelody : Addr
  f_InvalidMelody_init : Addr
  C_InvalidRound : Addr
  f_InvalidRound_init : Addr
  C_OutOfRange : Addr
  C_InvalidNumber : Addr
  C_TooLong : Addr
  C_TextFault : Addr
  f_TextFault_init : Addr
  C_InvalidCode : Addr
  f_InvalidCode_init : Addr
  C_Contradiction : Addr
  C_UnknownVoice : Addr
  C_TooManyVoices : Addr
  C_InvalidName : Addr
  C_UnknownName : Addr
  C_InvalidOperation : Addr
  f_InvalidOperation_init : Addr
  f_is_int_in : Addr
  f_is_note : Addr
  C_Melody : Addr
  f_Melody_init : Addr
  f_Melody_parse : Addr
  p_Melody_parse : Addr
  f_Melody_notes : Addr
  p_Melody_notes : Addr
  f_Melody_text : Addr
  p_Melody_text : Addr
  f_Melody_pitches : Addr
  p_Melody_pitches : Addr
  f_Melody_sound : Addr
  f_Melody_call : Addr
  f_Melody_len : Addr
  f_Melody_eq : Addr
  f_Melody_bool : Addr
  f_Melody_contains : Addr
  f_Melody_getitem : Addr
  f_Melody_iter : Addr
  f_Melody_add : Addr
  f_Melody_mul : Addr
  f_Melody_rshift : Addr
  f_Melody_invert : Addr
  f_Melody_neg : Addr
  f_melody_of : Addr
  f_is_number : Addr
  f_heard : Addr
  f_check_shift : Addr
  C_Listener : Addr
  f_Listener_init : Addr
  f_Listener_sounds : Addr
  f_Listener_hear : Addr
  f_Listener_delays : Addr
  p_Listener_delays : Addr
  f_Listener_history : Addr
  p_Listener_history : Addr
  f_Listener_best_beat : Addr
  f_law_random : Addr
  f_law_below : Addr
  f_law_notes : Addr
  f_law_fits : Addr
  f_law_shifted : Addr
  f_law_in_range : Addr
  f_law_row : Addr
  f_law_words : Addr
  f_law_melody : Addr
  f_law_some_beat : Addr
  f_law_heard : Addr
  f_law_error_of : Addr
  f_law_hear : Addr
  f_law_equal : Addr
  f_law : Addr
  cA_law : Addr
  PA_law : Addr
structure Txt (K : PySem.W.Frag) (mg : Str → Option Value) (a : Adr) : Prop where
  CanonError : ExB K mg "CanonError" a.C_CanonError
  InvalidMelody_init : MDef K a.C_InvalidMelody "__init__" "InvalidMelody.__init__" s_InvalidMelody_init ["self", "index"] a.f_InvalidMelody_init
  InvalidMelody : ExC1 K mg "InvalidMelody" a.C_InvalidMelody a.f_InvalidMelody_init
  n_InvalidMelody_index : NoAttr K a.C_InvalidMelody "index"
  InvalidRound_init : MDef K a.C_InvalidRound "__init__" "InvalidRound.__init__" s_InvalidRound_init ["self", "part", "index"] a.f_InvalidRound_init
  InvalidRound : ExC1 K mg "InvalidRound" a.C_InvalidRound a.f_InvalidRound_init
  n_InvalidRound_part : NoAttr K a.C_InvalidRound "part"
  n_InvalidRound_index : NoAttr K a.C_InvalidRound "index"
  OutOfRange : ExC0 K mg "OutOfRange" a.C_OutOfRange
  InvalidNumber : ExC0 K mg "InvalidNumber" a.C_InvalidNumber
  TooLong : ExC0 K mg "TooLong" a.C_TooLong
  TextFault_init : MDef K a.C_TextFault "__init__" "TextFault.__init__" s_TextFault_init ["self", "word"] a.f_TextFault_init
  TextFault : ExC1 K mg "TextFault" a.C_TextFault a.f_TextFault_init
  n_TextFault_word : NoAttr K a.C_TextFault "word"
  InvalidCode_init : MDef K a.C_InvalidCode "__init__" "InvalidCode.__init__" s_InvalidCode_init ["self", "place"] a.f_InvalidCode_init
  InvalidCode : ExC1 K mg "InvalidCode" a.C_InvalidCode a.f_InvalidCode_init
  n_InvalidCode_place : NoAttr K a.C_InvalidCode "place"
  Contradiction : ExC0 K mg "Contradiction" a.C_Contradiction
  UnknownVoice : ExC0 K mg "UnknownVoice" a.C_UnknownVoice
  TooManyVoices : ExC0 K mg "TooManyVoices" a.C_TooManyVoices
  InvalidName : ExC0 K mg "InvalidName" a.C_InvalidName
  UnknownName : ExC0 K mg "UnknownName" a.C_UnknownName
  InvalidOperation_init : MDef K a.C_InvalidOperation "__init__" "InvalidOperation.__init__" s_InvalidOperation_init ["self", "place"] a.f_InvalidOperation_init
  InvalidOperation : ExC1 K mg "InvalidOperation" a.C_InvalidOperation a.f_InvalidOperation_init
  n_InvalidOperation_place : NoAttr K a.C_InvalidOperation "place"
  v_MAX_NUMBER : ∃ t, mg "MAX_NUMBER" = some (.int 1000000000000000000 t)
  v_DIGITS : ∃ t, mg "DIGITS" = some (.str "0123456789" t)
  v_REST : ∃ t, mg "REST" = some (.str "-" t)
  is_int_in : Def K mg "is_int_in" s_is_int_in ["value", "low", "high"] a.f_is_int_in
  is_note : Def K mg "is_note" s_is_note ["value"] a.f_is_note
  Melody : ClD K mg "Melody" a.C_Melody
  v_Melody_MAX_NOTES : ∃ u, ClX.CVal K a.C_Melody (.type "type") "MAX_NOTES" (.int 32) u
  v_Melody_MAX_BEATS : ∃ u, ClX.CVal K a.C_Melody (.type "type") "MAX_BEATS" (.int 16) u
  v_Melody_MAX_PITCH : ∃ u, ClX.CVal K a.C_Melody (.type "type") "MAX_PITCH" (.int 127) u
  Melody_init : SDef K a.C_Melody "__init__" "Melody.__init__" s_Melody_init ["self"] "notes" a.f_Melody_init
  Melody_parse : CDef K a.C_Melody "parse" "Melody.parse" s_Melody_parse ["cls", "text"] a.p_Melody_parse a.f_Melody_parse
  Melody_notes : PDef K a.C_Melody "notes" "Melody.notes" s_Melody_notes a.p_Melody_notes a.f_Melody_notes
  Melody_text : PDef K a.C_Melody "text" "Melody.text" s_Melody_text a.p_Melody_text a.f_Melody_text
  Melody_pitches : PDef K a.C_Melody "pitches" "Melody.pitches" s_Melody_pitches a.p_Melody_pitches a.f_Melody_pitches
  Melody_sound : MDef K a.C_Melody "sound" "Melody.sound" s_Melody_sound ["self", "beat"] a.f_Melody_sound
  Melody_call : MDef K a.C_Melody "__call__" "Melody.__call__" s_Melody_call ["self", "beat"] a.f_Melody_call
  Melody_len : MDef K a.C_Melody "__len__" "Melody.__len__" s_Melody_len ["self"] a.f_Melody_len
  Melody_eq : MDef K a.C_Melody "__eq__" "Melody.__eq__" s_Melody_eq ["self", "other"] a.f_Melody_eq
  Melody_bool : MDef K a.C_Melody "__bool__" "Melody.__bool__" s_Melody_bool ["self"] a.f_Melody_bool
  Melody_contains : MDef K a.C_Melody "__contains__" "Melody.__contains__" s_Melody_contains ["self", "pitch"] a.f_Melody_contains
  Melody_getitem : MDef K a.C_Melody "__getitem__" "Melody.__getitem__" s_Melody_getitem ["self", "number"] a.f_Melody_getitem
  Melody_iter : MDef K a.C_Melody "__iter__" "Melody.__iter__" s_Melody_iter ["self"] a.f_Melody_iter
  Melody_add : MDef K a.C_Melody "__add__" "Melody.__add__" s_Melody_add ["self", "other"] a.f_Melody_add
  Melody_mul : MDef K a.C_Melody "__mul__" "Melody.__mul__" s_Melody_mul ["self", "times"] a.f_Melody_mul
  Melody_rshift : MDef K a.C_Melody "__rshift__" "Melody.__rshift__" s_Melody_rshift ["self", "steps"] a.f_Melody_rshift
  Melody_invert : MDef K a.C_Melody "__invert__" "Melody.__invert__" s_Melody_invert ["self"] a.f_Melody_invert
  Melody_neg : MDef K a.C_Melody "__neg__" "Melody.__neg__" s_Melody_neg ["self"] a.f_Melody_neg
  fi_Melody_call : PySem.W.fnIn K a.f_Melody_call = true
  fi_Melody_getitem : PySem.W.fnIn K a.f_Melody_getitem = true
  ne_Melody : PySem.W.findIn K (.ref a.C_Melody) "__ne__" = some (some (.builtin "object.__ne__"))
  sf_Melody : PySem.W.selfFirst K a.C_Melody = true
  sb_Melody_int : PySem.W.subIn K (.type "int") (.ref a.C_Melody) = some false
  sb_Melody_bool : PySem.W.subIn K (.type "bool") (.ref a.C_Melody) = some false
  sb_Melody_str : PySem.W.subIn K (.type "str") (.ref a.C_Melody) = some false
  sb_Melody_NoneType : PySem.W.subIn K (.type "NoneType") (.ref a.C_Melody) = some false
  sb_Melody_tuple : PySem.W.subIn K (.type "tuple") (.ref a.C_Melody) = some false
  sb_Melody_list : PySem.W.subIn K (.type "list") (.ref a.C_Melody) = some false
  o_Melody_rshift : OpI K a.C_Melody "rshift" a.f_Melody_rshift
  o_Melody_mul : OpI K a.C_Melody "mul" a.f_Melody_mul
  n_Melody_given : NoAttr K a.C_Melody "given"
  n_Melody_row : NoAttr K a.C_Melody "row"
  melody_of : Def K mg "melody_of" s_melody_of ["notes"] a.f_melody_of
  is_number : Def K mg "is_number" s_is_number ["word", "most"] a.f_is_number
  v_MAX_SHIFT : ∃ t, mg "MAX_SHIFT" = some (.int 24 t)
  heard : Def K mg "heard" s_heard ["sounds"] a.f_heard
  check_shift : Def K mg "check_shift" s_check_shift ["shift"] a.f_check_shift
  v_MAX_LIMIT : ∃ t, mg "MAX_LIMIT" = some (.int 500 t)
  v_MAX_TRIED : ∃ t, mg "MAX_TRIED" = some (.int 200 t)
  Listener : ClD K mg "Listener" a.C_Listener
  Listener_init : MDef K a.C_Listener "__init__" "Listener.__init__" s_Listener_init ["self", "melody", "shift", "limit"] a.f_Listener_init
  Listener_sounds : MDef K a.C_Listener "sounds" "Listener.sounds" s_Listener_sounds ["self", "delay", "beat"] a.f_Listener_sounds
  Listener_hear : SDef K a.C_Listener "hear" "Listener.hear" s_Listener_hear ["self", "beat"] "pitches" a.f_Listener_hear
  Listener_delays : PDef K a.C_Listener "delays" "Listener.delays" s_Listener_delays a.p_Listener_delays a.f_Listener_delays
  Listener_history : PDef K a.C_Listener "history" "Listener.history" s_Listener_history a.p_Listener_history a.f_Listener_history
  Listener_best_beat : MDef K a.C_Listener "best_beat" "Listener.best_beat" s_Listener_best_beat ["self", "limit"] a.f_Listener_best_beat
  n_Listener_one : NoAttr K a.C_Listener "one"
  n_Listener_other : NoAttr K a.C_Listener "other"
  n_Listener_kept : NoAttr K a.C_Listener "kept"
  n_Listener_facts : NoAttr K a.C_Listener "facts"
  law_random : Def K mg "_law_random" s_law_random ["_law_script", "_law_salt"] a.f_law_random
  law_below : Def K mg "_law_below" s_law_below ["_law_d", "_law_limit"] a.f_law_below
  law_notes : Def K mg "_law_notes" s_law_notes ["_law_d", "_law_most"] a.f_law_notes
  law_fits : Def K mg "_law_fits" s_law_fits ["_law_notes_here"] a.f_law_fits
  law_shifted : Def K mg "_law_shifted" s_law_shifted ["_law_notes_here", "_law_steps"] a.f_law_shifted
  law_in_range : Def K mg "_law_in_range" s_law_in_range ["_law_d", "_law_notes_here"] a.f_law_in_range
  law_row : Def K mg "_law_row" s_law_row ["_law_notes_here"] a.f_law_row
  law_words : Def K mg "_law_words" s_law_words ["_law_notes_here"] a.f_law_words
  law_melody : Def K mg "_law_melody" s_law_melody ["_law_notes_here"] a.f_law_melody
  law_some_beat : Def K mg "_law_some_beat" s_law_some_beat ["_law_d"] a.f_law_some_beat
  law_heard : Def K mg "_law_heard" s_law_heard ["_law_row_here", "_law_later", "_law_delay", "_law_beat"] a.f_law_heard
  law_error_of : Def K mg "_law_error_of" s_law_error_of ["_law_call"] a.f_law_error_of
  law_hear : Def K mg "_law_hear" s_law_hear ["_law_listener", "_law_beat", "_law_pitches"] a.f_law_hear
  law_equal : Def K mg "_law_equal" s_law_equal ["_law_actual", "_law_expected"] a.f_law_equal
  law : Def K mg "law" s_law ["_law_script"] a.f_law
  L_law : LDef K "law" "law" s_law a.f_law a.cA_law a.PA_law
  b_abs : mg "abs" = none
  b_all : mg "all" = none
  b_any : mg "any" = none
  b_bool : mg "bool" = none
  b_enumerate : mg "enumerate" = none
  b_int : mg "int" = none
  b_isinstance : mg "isinstance" = none
  b_len : mg "len" = none
  b_list : mg "list" = none
  b_max : mg "max" = none
  b_min : mg "min" = none
  b_range : mg "range" = none
  b_sorted : mg "sorted" = none
  b_str : mg "str" = none
  b_tuple : mg "tuple" = none
  errt : errTab K [a.C_InvalidMelody, a.C_InvalidRound, a.C_OutOfRange, a.C_InvalidNumber, a.C_TooLong, a.C_TextFault, a.C_InvalidCode, a.C_Contradiction, a.C_UnknownVoice, a.C_TooManyVoices, a.C_InvalidName, a.C_UnknownName, a.C_InvalidOperation] = true
  errc : errCls K [a.C_InvalidMelody, a.C_InvalidRound, a.C_OutOfRange, a.C_InvalidNumber, a.C_TooLong, a.C_TextFault, a.C_InvalidCode, a.C_Contradiction, a.C_UnknownVoice, a.C_TooManyVoices, a.C_InvalidName, a.C_UnknownName, a.C_InvalidOperation] a.C_CanonError = true
  eg2 : PySem.W.specialIn K (.builtin "object.__class__") "__get__" = some (some (.builtin "getset_descriptor.__get__"))
  eg3 : PySem.W.takesIn K (.builtin "object.__class__") = some true
  bv_ValueError : mg "ValueError" = none
theorem mk_txt {K : PySem.W.Frag} {h : Heap} {mg : Str → Option Value} (X : K.In h) (G : h.Ns mainGlobals mg) {C_CanonError C_InvalidMelody f_InvalidMelody_init C_InvalidRound f_InvalidRound_init C_OutOfRange C_InvalidNumber C_TooLong C_TextFault f_TextFault_init C_InvalidCode f_InvalidCode_init C_Contradiction C_UnknownVoice C_TooManyVoices C_InvalidName C_UnknownName C_InvalidOperation f_InvalidOperation_init f_is_int_in f_is_note C_Melody f_Melody_init f_Melody_parse p_Melody_parse f_Melody_notes p_Melody_notes f_Melody_text p_Melody_text f_Melody_pitches p_Melody_pitches f_Melody_sound f_Melody_call f_Melody_len f_Melody_eq f_Melody_bool f_Melody_contains f_Melody_getitem f_Melody_iter f_Melody_add f_Melody_mul f_Melody_rshift f_Melody_invert f_Melody_neg f_melody_of f_is_number f_heard f_check_shift C_Listener f_Listener_init f_Listener_sounds f_Listener_hear f_Listener_delays p_Listener_delays f_Listener_history p_Listener_history f_Listener_best_beat f_law_random f_law_below f_law_notes f_law_fits f_law_shifted f_law_in_range f_law_row f_law_words f_law_melody f_law_some_beat f_law_heard f_law_error_of f_law_hear f_law_equal f_law cA_law PA_law : Addr}
  {od1 an1 : Option Addr} {sl1 : Array (Option Value)} {oc1 kV1 dc1 pm1 cd1 ct1 : Value}
  {od2 an2 : Option Addr} {sl2 : Array (Option Value)} {oc2 kV2 dc2 pm2 cd2 ct2 : Value}
  {od3 an3 : Option Addr} {sl3 : Array (Option Value)} {oc3 kV3 dc3 pm3 cd3 ct3 : Value}
  {od4 an4 : Option Addr} {sl4 : Array (Option Value)} {oc4 kV4 dc4 pm4 cd4 ct4 : Value}
  {od5 an5 : Option Addr} {sl5 : Array (Option Value)} {oc5 kV5 dc5 pm5 cd5 ct5 : Value}
  {tk_MAX_NUMBER : Tok}
  {tk_DIGITS : Tok}
  {tk_REST : Tok}
  {od6 an6 : Option Addr} {sl6 : Array (Option Value)} {oc6 kV6 dc6 pm6 cd6 ct6 : Value}
  {od7 an7 : Option Addr} {sl7 : Array (Option Value)} {oc7 kV7 dc7 pm7 cd7 ct7 : Value}
  {tk_Melody_MAX_NOTES : Tok}
  {tk_Melody_MAX_BEATS : Tok}
  {tk_Melody_MAX_PITCH : Tok}
  {od8 an8 : Option Addr} {sl8 : Array (Option Value)} {oc8 kV8 dc8 pm8 cd8 ct8 : Value}
  {od9 an9 : Option Addr} {sl9 : Array (Option Value)} {oc9 kV9 dc9 pm9 cd9 ct9 : Value}
  {rs9 : List Value}
  {od10 an10 : Option Addr} {sl10 : Array (Option Value)} {oc10 kV10 dc10 pm10 cd10 ct10 : Value}
  {rs10 : List Value}
  {od11 an11 : Option Addr} {sl11 : Array (Option Value)} {oc11 kV11 dc11 pm11 cd11 ct11 : Value}
  {rs11 : List Value}
  {od12 an12 : Option Addr} {sl12 : Array (Option Value)} {oc12 kV12 dc12 pm12 cd12 ct12 : Value}
  {rs12 : List Value}
  {od13 an13 : Option Addr} {sl13 : Array (Option Value)} {oc13 kV13 dc13 pm13 cd13 ct13 : Value}
  {od14 an14 : Option Addr} {sl14 : Array (Option Value)} {oc14 kV14 dc14 pm14 cd14 ct14 : Value}
  {od15 an15 : Option Addr} {sl15 : Array (Option Value)} {oc15 kV15 dc15 pm15 cd15 ct15 : Value}
  {od16 an16 : Option Addr} {sl16 : Array (Option Value)} {oc16 kV16 dc16 pm16 cd16 ct16 : Value}
  {od17 an17 : Option Addr} {sl17 : Array (Option Value)} {oc17 kV17 dc17 pm17 cd17 ct17 : Value}
  {od18 an18 : Option Addr} {sl18 : Array (Option Value)} {oc18 kV18 dc18 pm18 cd18 ct18 : Value}
  {od19 an19 : Option Addr} {sl19 : Array (Option Value)} {oc19 kV19 dc19 pm19 cd19 ct19 : Value}
  {od20 an20 : Option Addr} {sl20 : Array (Option Value)} {oc20 kV20 dc20 pm20 cd20 ct20 : Value}
  {od21 an21 : Option Addr} {sl21 : Array (Option Value)} {oc21 kV21 dc21 pm21 cd21 ct21 : Value}
  {od22 an22 : Option Addr} {sl22 : Array (Option Value)} {oc22 kV22 dc22 pm22 cd22 ct22 : Value}
  {od23 an23 : Option Addr} {sl23 : Array (Option Value)} {oc23 kV23 dc23 pm23 cd23 ct23 : Value}
  {od24 an24 : Option Addr} {sl24 : Array (Option Value)} {oc24 kV24 dc24 pm24 cd24 ct24 : Value}
  {od25 an25 : Option Addr} {sl25 : Array (Option Value)} {oc25 kV25 dc25 pm25 cd25 ct25 : Value}
  {od26 an26 : Option Addr} {sl26 : Array (Option Value)} {oc26 kV26 dc26 pm26 cd26 ct26 : Value}
  {od27 an27 : Option Addr} {sl27 : Array (Option Value)} {oc27 kV27 dc27 pm27 cd27 ct27 : Value}
  {tk_MAX_SHIFT : Tok}
  {od28 an28 : Option Addr} {sl28 : Array (Option Value)} {oc28 kV28 dc28 pm28 cd28 ct28 : Value}
  {od29 an29 : Option Addr} {sl29 : Array (Option Value)} {oc29 kV29 dc29 pm29 cd29 ct29 : Value}
  {tk_MAX_LIMIT : Tok}
  {tk_MAX_TRIED : Tok}
  {od30 an30 : Option Addr} {sl30 : Array (Option Value)} {oc30 kV30 dc30 pm30 cd30 ct30 : Value}
  {od31 an31 : Option Addr} {sl31 : Array (Option Value)} {oc31 kV31 dc31 pm31 cd31 ct31 : Value}
  {od32 an32 : Option Addr} {sl32 : Array (Option Value)} {oc32 kV32 dc32 pm32 cd32 ct32 : Value}
  {od33 an33 : Option Addr} {sl33 : Array (Option Value)} {oc33 kV33 dc33 pm33 cd33 ct33 : Value}
  {rs33 : List Value}
  {od34 an34 : Option Addr} {sl34 : Array (Option Value)} {oc34 kV34 dc34 pm34 cd34 ct34 : Value}
  {rs34 : List Value}
  {od35 an35 : Option Addr} {sl35 : Array (Option Value)} {oc35 kV35 dc35 pm35 cd35 ct35 : Value}
  {od36 an36 : Option Addr} {sl36 : Array (Option Value)} {oc36 kV36 dc36 pm36 cd36 ct36 : Value}
  {od37 an37 : Option Addr} {sl37 : Array (Option Value)} {oc37 kV37 dc37 pm37 cd37 ct37 : Value}
  {od38 an38 : Option Addr} {sl38 : Array (Option Value)} {oc38 kV38 dc38 pm38 cd38 ct38 : Value}
  {od39 an39 : Option Addr} {sl39 : Array (Option Value)} {oc39 kV39 dc39 pm39 cd39 ct39 : Value}
  {od40 an40 : Option Addr} {sl40 : Array (Option Value)} {oc40 kV40 dc40 pm40 cd40 ct40 : Value}
  {od41 an41 : Option Addr} {sl41 : Array (Option Value)} {oc41 kV41 dc41 pm41 cd41 ct41 : Value}
  {od42 an42 : Option Addr} {sl42 : Array (Option Value)} {oc42 kV42 dc42 pm42 cd42 ct42 : Value}
  {od43 an43 : Option Addr} {sl43 : Array (Option Value)} {oc43 kV43 dc43 pm43 cd43 ct43 : Value}
  {od44 an44 : Option Addr} {sl44 : Array (Option Value)} {oc44 kV44 dc44 pm44 cd44 ct44 : Value}
  {od45 an45 : Option Addr} {sl45 : Array (Option Value)} {oc45 kV45 dc45 pm45 cd45 ct45 : Value}
  {od46 an46 : Option Addr} {sl46 : Array (Option Value)} {oc46 kV46 dc46 pm46 cd46 ct46 : Value}
  {od47 an47 : Option Addr} {sl47 : Array (Option Value)} {oc47 kV47 dc47 pm47 cd47 ct47 : Value}
  {od48 an48 : Option Addr} {sl48 : Array (Option Value)} {oc48 kV48 dc48 pm48 cd48 ct48 : Value}
  {od49 an49 : Option Addr} {sl49 : Array (Option Value)} {oc49 kV49 dc49 pm49 cd49 ct49 : Value}
  {od50 an50 : Option Addr} {sl50 : Array (Option Value)} {oc50 kV50 dc50 pm50 ct50 : Value}
  {ec_law : Value} {ecd_law : Option Addr} {vc_law : Array Value} {esl_law : Array (Option Value)}
  (xCanonError : PySem.W.nsIn K mainGlobals "CanonError" = some (some (.ref C_CanonError)))
  (rdCanonError : PySem.W.readsIn K C_CanonError (.type "type") = true)
  (gaCanonError : PySem.W.specialIn K (.ref C_CanonError) "__getattribute__" = some (some (.builtin "type.__getattribute__")))
  (atCanonError : PySem.W.findCls K (.ref C_CanonError) (.type "type") "__init__" = some (.val (.builtin "ValueError.__init__")))
  (xInvalidMelody : PySem.W.nsIn K mainGlobals "InvalidMelody" = some (some (.ref C_InvalidMelody)))
  (xkInvalidMelody : PySem.W.keepIn K (.ref C_InvalidMelody) = true)
  (esInvalidMelody : PySem.W.subIn K (.ref C_InvalidMelody) (.type "BaseException") = some true)
  (etInvalidMelody : PySem.W.typeIn K (.ref C_InvalidMelody) = some (.type "type"))
  (a1 : PySem.W.findIn K (.ref C_InvalidMelody) "__init__" = some (some (.ref f_InvalidMelody_init)))
  (i1 : PySem.W.isFn K (.ref f_InvalidMelody_init) = true)
  (l1 : K.lookup f_InvalidMelody_init = some ⟨oc1, od1, .func (PySem.W.fnOf "__init__" "InvalidMelody.__init__" (defArgs s_InvalidMelody_init) (defBody s_InvalidMelody_init) (defScope s_InvalidMelody_init) .none kV1 dc1 pm1 an1 cd1 ct1), sl1⟩)
  (c1 : PySem.W.codeIn K cd1 "InvalidMelody.__init__" = true)
  (k1 : PySem.W.keepIn K (.ref f_InvalidMelody_init) = true)
  (kr_oxInvalidMelody : oexB K C_InvalidMelody = true)
  (saInvalidMelody : PySem.W.findIn K (.ref C_InvalidMelody) "__setattr__" = some (some (.builtin "object.__setattr__")))
  (tfInvalidMelody : PySem.W.typeIn K (.ref f_InvalidMelody_init) = some (.type "function"))
  (n_InvalidMelody_index : PySem.W.findIn K (.ref C_InvalidMelody) "index" = some none)
  (xInvalidRound : PySem.W.nsIn K mainGlobals "InvalidRound" = some (some (.ref C_InvalidRound)))
  (xkInvalidRound : PySem.W.keepIn K (.ref C_InvalidRound) = true)
  (esInvalidRound : PySem.W.subIn K (.ref C_InvalidRound) (.type "BaseException") = some true)
  (etInvalidRound : PySem.W.typeIn K (.ref C_InvalidRound) = some (.type "type"))
  (a2 : PySem.W.findIn K (.ref C_InvalidRound) "__init__" = some (some (.ref f_InvalidRound_init)))
  (i2 : PySem.W.isFn K (.ref f_InvalidRound_init) = true)
  (l2 : K.lookup f_InvalidRound_init = some ⟨oc2, od2, .func (PySem.W.fnOf "__init__" "InvalidRound.__init__" (defArgs s_InvalidRound_init) (defBody s_InvalidRound_init) (defScope s_InvalidRound_init) .none kV2 dc2 pm2 an2 cd2 ct2), sl2⟩)
  (c2 : PySem.W.codeIn K cd2 "InvalidRound.__init__" = true)
  (k2 : PySem.W.keepIn K (.ref f_InvalidRound_init) = true)
  (kr_oxInvalidRound : oexB K C_InvalidRound = true)
  (saInvalidRound : PySem.W.findIn K (.ref C_InvalidRound) "__setattr__" = some (some (.builtin "object.__setattr__")))
  (tfInvalidRound : PySem.W.typeIn K (.ref f_InvalidRound_init) = some (.type "function"))
  (n_InvalidRound_part : PySem.W.findIn K (.ref C_InvalidRound) "part" = some none)
  (n_InvalidRound_index : PySem.W.findIn K (.ref C_InvalidRound) "index" = some none)
  (xOutOfRange : PySem.W.nsIn K mainGlobals "OutOfRange" = some (some (.ref C_OutOfRange)))
  (xkOutOfRange : PySem.W.keepIn K (.ref C_OutOfRange) = true)
  (esOutOfRange : PySem.W.subIn K (.ref C_OutOfRange) (.type "BaseException") = some true)
  (etOutOfRange : PySem.W.typeIn K (.ref C_OutOfRange) = some (.type "type"))
  (kr_emOutOfRange : PySem.W.excIn K C_OutOfRange PySem.HandSPX.veTail "ValueError.__new__" = true)
  (xInvalidNumber : PySem.W.nsIn K mainGlobals "InvalidNumber" = some (some (.ref C_InvalidNumber)))
  (xkInvalidNumber : PySem.W.keepIn K (.ref C_InvalidNumber) = true)
  (esInvalidNumber : PySem.W.subIn K (.ref C_InvalidNumber) (.type "BaseException") = some true)
  (etInvalidNumber : PySem.W.typeIn K (.ref C_InvalidNumber) = some (.type "type"))
  (kr_emInvalidNumber : PySem.W.excIn K C_InvalidNumber PySem.HandSPX.veTail "ValueError.__new__" = true)
  (xTooLong : PySem.W.nsIn K mainGlobals "TooLong" = some (some (.ref C_TooLong)))
  (xkTooLong : PySem.W.keepIn K (.ref C_TooLong) = true)
  (esTooLong : PySem.W.subIn K (.ref C_TooLong) (.type "BaseException") = some true)
  (etTooLong : PySem.W.typeIn K (.ref C_TooLong) = some (.type "type"))
  (kr_emTooLong : PySem.W.excIn K C_TooLong PySem.HandSPX.veTail "ValueError.__new__" = true)
  (xTextFault : PySem.W.nsIn K mainGlobals "TextFault" = some (some (.ref C_TextFault)))
  (xkTextFault : PySem.W.keepIn K (.ref C_TextFault) = true)
  (esTextFault : PySem.W.subIn K (.ref C_TextFault) (.type "BaseException") = some true)
  (etTextFault : PySem.W.typeIn K (.ref C_TextFault) = some (.type "type"))
  (a3 : PySem.W.findIn K (.ref C_TextFault) "__init__" = some (some (.ref f_TextFault_init)))
  (i3 : PySem.W.isFn K (.ref f_TextFault_init) = true)
  (l3 : K.lookup f_TextFault_init = some ⟨oc3, od3, .func (PySem.W.fnOf "__init__" "TextFault.__init__" (defArgs s_TextFault_init) (defBody s_TextFault_init) (defScope s_TextFault_init) .none kV3 dc3 pm3 an3 cd3 ct3), sl3⟩)
  (c3 : PySem.W.codeIn K cd3 "TextFault.__init__" = true)
  (k3 : PySem.W.keepIn K (.ref f_TextFault_init) = true)
  (kr_oxTextFault : oexB K C_TextFault = true)
  (saTextFault : PySem.W.findIn K (.ref C_TextFault) "__setattr__" = some (some (.builtin "object.__setattr__")))
  (tfTextFault : PySem.W.typeIn K (.ref f_TextFault_init) = some (.type "function"))
  (n_TextFault_word : PySem.W.findIn K (.ref C_TextFault) "word" = some none)
  (xInvalidCode : PySem.W.nsIn K mainGlobals "InvalidCode" = some (some (.ref C_InvalidCode)))
  (xkInvalidCode : PySem.W.keepIn K (.ref C_InvalidCode) = true)
  (esInvalidCode : PySem.W.subIn K (.ref C_InvalidCode) (.type "BaseException") = some true)
  (etInvalidCode : PySem.W.typeIn K (.ref C_InvalidCode) = some (.type "type"))
  (a4 : PySem.W.findIn K (.ref C_InvalidCode) "__init__" = some (some (.ref f_InvalidCode_init)))
  (i4 : PySem.W.isFn K (.ref f_InvalidCode_init) = true)
  (l4 : K.lookup f_InvalidCode_init = some ⟨oc4, od4, .func (PySem.W.fnOf "__init__" "InvalidCode.__init__" (defArgs s_InvalidCode_init) (defBody s_InvalidCode_init) (defScope s_InvalidCode_init) .none kV4 dc4 pm4 an4 cd4 ct4), sl4⟩)
  (c4 : PySem.W.codeIn K cd4 "InvalidCode.__init__" = true)
  (k4 : PySem.W.keepIn K (.ref f_InvalidCode_init) = true)
  (kr_oxInvalidCode : oexB K C_InvalidCode = true)
  (saInvalidCode : PySem.W.findIn K (.ref C_InvalidCode) "__setattr__" = some (some (.builtin "object.__setattr__")))
  (tfInvalidCode : PySem.W.typeIn K (.ref f_InvalidCode_init) = some (.type "function"))
  (n_InvalidCode_place : PySem.W.findIn K (.ref C_InvalidCode) "place" = some none)
  (xContradiction : PySem.W.nsIn K mainGlobals "Contradiction" = some (some (.ref C_Contradiction)))
  (xkContradiction : PySem.W.keepIn K (.ref C_Contradiction) = true)
  (esContradiction : PySem.W.subIn K (.ref C_Contradiction) (.type "BaseException") = some true)
  (etContradiction : PySem.W.typeIn K (.ref C_Contradiction) = some (.type "type"))
  (kr_emContradiction : PySem.W.excIn K C_Contradiction PySem.HandSPX.veTail "ValueError.__new__" = true)
  (xUnknownVoice : PySem.W.nsIn K mainGlobals "UnknownVoice" = some (some (.ref C_UnknownVoice)))
  (xkUnknownVoice : PySem.W.keepIn K (.ref C_UnknownVoice) = true)
  (esUnknownVoice : PySem.W.subIn K (.ref C_UnknownVoice) (.type "BaseException") = some true)
  (etUnknownVoice : PySem.W.typeIn K (.ref C_UnknownVoice) = some (.type "type"))
  (kr_emUnknownVoice : PySem.W.excIn K C_UnknownVoice PySem.HandSPX.veTail "ValueError.__new__" = true)
  (xTooManyVoices : PySem.W.nsIn K mainGlobals "TooManyVoices" = some (some (.ref C_TooManyVoices)))
  (xkTooManyVoices : PySem.W.keepIn K (.ref C_TooManyVoices) = true)
  (esTooManyVoices : PySem.W.subIn K (.ref C_TooManyVoices) (.type "BaseException") = some true)
  (etTooManyVoices : PySem.W.typeIn K (.ref C_TooManyVoices) = some (.type "type"))
  (kr_emTooManyVoices : PySem.W.excIn K C_TooManyVoices PySem.HandSPX.veTail "ValueError.__new__" = true)
  (xInvalidName : PySem.W.nsIn K mainGlobals "InvalidName" = some (some (.ref C_InvalidName)))
  (xkInvalidName : PySem.W.keepIn K (.ref C_InvalidName) = true)
  (esInvalidName : PySem.W.subIn K (.ref C_InvalidName) (.type "BaseException") = some true)
  (etInvalidName : PySem.W.typeIn K (.ref C_InvalidName) = some (.type "type"))
  (kr_emInvalidName : PySem.W.excIn K C_InvalidName PySem.HandSPX.veTail "ValueError.__new__" = true)
  (xUnknownName : PySem.W.nsIn K mainGlobals "UnknownName" = some (some (.ref C_UnknownName)))
  (xkUnknownName : PySem.W.keepIn K (.ref C_UnknownName) = true)
  (esUnknownName : PySem.W.subIn K (.ref C_UnknownName) (.type "BaseException") = some true)
  (etUnknownName : PySem.W.typeIn K (.ref C_UnknownName) = some (.type "type"))
  (kr_emUnknownName : PySem.W.excIn K C_UnknownName PySem.HandSPX.veTail "ValueError.__new__" = true)
  (xInvalidOperation : PySem.W.nsIn K mainGlobals "InvalidOperation" = some (some (.ref C_InvalidOperation)))
  (xkInvalidOperation : PySem.W.keepIn K (.ref C_InvalidOperation) = true)
  (esInvalidOperation : PySem.W.subIn K (.ref C_InvalidOperation) (.type "BaseException") = some true)
  (etInvalidOperation : PySem.W.typeIn K (.ref C_InvalidOperation) = some (.type "type"))
  (a5 : PySem.W.findIn K (.ref C_InvalidOperation) "__init__" = some (some (.ref f_InvalidOperation_init)))
  (i5 : PySem.W.isFn K (.ref f_InvalidOperation_init) = true)
  (l5 : K.lookup f_InvalidOperation_init = some ⟨oc5, od5, .func (PySem.W.fnOf "__init__" "InvalidOperation.__init__" (defArgs s_InvalidOperation_init) (defBody s_InvalidOperation_init) (defScope s_InvalidOperation_init) .none kV5 dc5 pm5 an5 cd5 ct5), sl5⟩)
  (c5 : PySem.W.codeIn K cd5 "InvalidOperation.__init__" = true)
  (k5 : PySem.W.keepIn K (.ref f_InvalidOperation_init) = true)
  (kr_oxInvalidOperation : oexB K C_InvalidOperation = true)
  (saInvalidOperation : PySem.W.findIn K (.ref C_InvalidOperation) "__setattr__" = some (some (.builtin "object.__setattr__")))
  (tfInvalidOperation : PySem.W.typeIn K (.ref f_InvalidOperation_init) = some (.type "function"))
  (n_InvalidOperation_place : PySem.W.findIn K (.ref C_InvalidOperation) "place" = some none)
  (v_MAX_NUMBER : PySem.W.nsIn K mainGlobals "MAX_NUMBER" = some (some (.int 1000000000000000000 tk_MAX_NUMBER)))
  (v_DIGITS : PySem.W.nsIn K mainGlobals "DIGITS" = some (some (.str "0123456789" tk_DIGITS)))
  (v_REST : PySem.W.nsIn K mainGlobals "REST" = some (some (.str "-" tk_REST)))
  (a6 : PySem.W.nsIn K mainGlobals "is_int_in" = some (some (.ref f_is_int_in)))
  (l6 : K.lookup f_is_int_in = some ⟨oc6, od6, .func (PySem.W.fnOf "is_int_in" "is_int_in" (defArgs s_is_int_in) (defBody s_is_int_in) (defScope s_is_int_in) .none kV6 dc6 pm6 an6 cd6 ct6), sl6⟩)
  (c6 : PySem.W.codeIn K cd6 "is_int_in" = true)
  (k6 : PySem.W.keepIn K (.ref f_is_int_in) = true)
  (a7 : PySem.W.nsIn K mainGlobals "is_note" = some (some (.ref f_is_note)))
  (l7 : K.lookup f_is_note = some ⟨oc7, od7, .func (PySem.W.fnOf "is_note" "is_note" (defArgs s_is_note) (defBody s_is_note) (defScope s_is_note) .none kV7 dc7 pm7 an7 cd7 ct7), sl7⟩)
  (c7 : PySem.W.codeIn K cd7 "is_note" = true)
  (k7 : PySem.W.keepIn K (.ref f_is_note) = true)
  (xMelody : PySem.W.nsIn K mainGlobals "Melody" = some (some (.ref C_Melody)))
  (xkMelody : PySem.W.keepIn K (.ref C_Melody) = true)
  (pgMelody : PySem.W.plainGet K C_Melody Str.empty = true)
  (hdMelody : PySem.W.hasDictIn K C_Melody = true)
  (poMelody : PySem.W.plainOver K C_Melody = true)
  (saMelody : PySem.W.findIn K (.ref C_Melody) "__setattr__" = some (some (.builtin "object.__setattr__")))
  (mkMelody : PySem.W.makesIn K C_Melody = true)
  (rdMelody : PySem.W.readsIn K C_Melody (.type "type") = true)
  (gaMelody : PySem.W.specialIn K (.ref C_Melody) "__getattribute__" = some (some (.builtin "type.__getattribute__")))
  (y1Melody : PySem.W.findIn K (.ref C_Melody) "__class__" = some (some (.builtin "object.__class__")))
  (y2Melody : PySem.W.specialIn K (.builtin "object.__class__") "__get__" = some (some (.builtin "getset_descriptor.__get__")))
  (y3Melody : PySem.W.takesIn K (.builtin "object.__class__") = some true)
  (y4Melody : PySem.W.mroIn K C_Melody (.type "object") = some true)
  (v_Melody_MAX_NOTES : PySem.W.findCls K (.ref C_Melody) (.type "type") "MAX_NOTES" = some (.val (.int 32 tk_Melody_MAX_NOTES)))
  (v_Melody_MAX_BEATS : PySem.W.findCls K (.ref C_Melody) (.type "type") "MAX_BEATS" = some (.val (.int 16 tk_Melody_MAX_BEATS)))
  (v_Melody_MAX_PITCH : PySem.W.findCls K (.ref C_Melody) (.type "type") "MAX_PITCH" = some (.val (.int 127 tk_Melody_MAX_PITCH)))
  (a8 : PySem.W.findIn K (.ref C_Melody) "__init__" = some (some (.ref f_Melody_init)))
  (i8 : PySem.W.isFn K (.ref f_Melody_init) = true)
  (l8 : K.lookup f_Melody_init = some ⟨oc8, od8, .func (PySem.W.fnOf "__init__" "Melody.__init__" (defArgs s_Melody_init) (defBody s_Melody_init) (defScope s_Melody_init) .none kV8 dc8 pm8 an8 cd8 ct8), sl8⟩)
  (c8 : PySem.W.codeIn K cd8 "Melody.__init__" = true)
  (k8 : PySem.W.keepIn K (.ref f_Melody_init) = true)
  (a9 : PySem.W.findCls K (.ref C_Melody) (.type "type") "parse" = some (.get (.builtin "classmethod.__get__") (.ref p_Melody_parse) .none (.ref C_Melody)))
  (r9 : PySem.W.recIn K p_Melody_parse "classmethod" = some (.ref f_Melody_parse :: rs9))
  (n9 : PySem.W.fnIn K f_Melody_parse = true)
  (l9 : K.lookup f_Melody_parse = some ⟨oc9, od9, .func (PySem.W.fnOf "parse" "Melody.parse" (defArgs s_Melody_parse) (defBody s_Melody_parse) (defScope s_Melody_parse) .none kV9 dc9 pm9 an9 cd9 ct9), sl9⟩)
  (c9 : PySem.W.codeIn K cd9 "Melody.parse" = true)
  (k9 : PySem.W.keepIn K (.ref f_Melody_parse) = true)
  (a10 : PySem.W.findIn K (.ref C_Melody) "notes" = some (some (.ref p_Melody_notes)))
  (g10 : PySem.W.specialIn K (.ref p_Melody_notes) "__get__" = some (some (.builtin "property.__get__")))
  (t10 : PySem.W.takesIn K (.ref p_Melody_notes) = some true)
  (r10 : PySem.W.recIn K p_Melody_notes "property" = some (.ref f_Melody_notes :: rs10))
  (l10 : K.lookup f_Melody_notes = some ⟨oc10, od10, .func (PySem.W.fnOf "notes" "Melody.notes" (defArgs s_Melody_notes) (defBody s_Melody_notes) (defScope s_Melody_notes) .none kV10 dc10 pm10 an10 cd10 ct10), sl10⟩)
  (c10 : PySem.W.codeIn K cd10 "Melody.notes" = true)
  (k10 : PySem.W.keepIn K (.ref f_Melody_notes) = true)
  (a11 : PySem.W.findIn K (.ref C_Melody) "text" = some (some (.ref p_Melody_text)))
  (g11 : PySem.W.specialIn K (.ref p_Melody_text) "__get__" = some (some (.builtin "property.__get__")))
  (t11 : PySem.W.takesIn K (.ref p_Melody_text) = some true)
  (r11 : PySem.W.recIn K p_Melody_text "property" = some (.ref f_Melody_text :: rs11))
  (l11 : K.lookup f_Melody_text = some ⟨oc11, od11, .func (PySem.W.fnOf "text" "Melody.text" (defArgs s_Melody_text) (defBody s_Melody_text) (defScope s_Melody_text) .none kV11 dc11 pm11 an11 cd11 ct11), sl11⟩)
  (c11 : PySem.W.codeIn K cd11 "Melody.text" = true)
  (k11 : PySem.W.keepIn K (.ref f_Melody_text) = true)
  (a12 : PySem.W.findIn K (.ref C_Melody) "pitches" = some (some (.ref p_Melody_pitches)))
  (g12 : PySem.W.specialIn K (.ref p_Melody_pitches) "__get__" = some (some (.builtin "property.__get__")))
  (t12 : PySem.W.takesIn K (.ref p_Melody_pitches) = some true)
  (r12 : PySem.W.recIn K p_Melody_pitches "property" = some (.ref f_Melody_pitches :: rs12))
  (l12 : K.lookup f_Melody_pitches = some ⟨oc12, od12, .func (PySem.W.fnOf "pitches" "Melody.pitches" (defArgs s_Melody_pitches) (defBody s_Melody_pitches) (defScope s_Melody_pitches) .none kV12 dc12 pm12 an12 cd12 ct12), sl12⟩)
  (c12 : PySem.W.codeIn K cd12 "Melody.pitches" = true)
  (k12 : PySem.W.keepIn K (.ref f_Melody_pitches) = true)
  (a13 : PySem.W.findIn K (.ref C_Melody) "sound" = some (some (.ref f_Melody_sound)))
  (i13 : PySem.W.isFn K (.ref f_Melody_sound) = true)
  (l13 : K.lookup f_Melody_sound = some ⟨oc13, od13, .func (PySem.W.fnOf "sound" "Melody.sound" (defArgs s_Melody_sound) (defBody s_Melody_sound) (defScope s_Melody_sound) .none kV13 dc13 pm13 an13 cd13 ct13), sl13⟩)
  (c13 : PySem.W.codeIn K cd13 "Melody.sound" = true)
  (k13 : PySem.W.keepIn K (.ref f_Melody_sound) = true)
  (a14 : PySem.W.findIn K (.ref C_Melody) "__call__" = some (some (.ref f_Melody_call)))
  (i14 : PySem.W.isFn K (.ref f_Melody_call) = true)
  (l14 : K.lookup f_Melody_call = some ⟨oc14, od14, .func (PySem.W.fnOf "__call__" "Melody.__call__" (defArgs s_Melody_call) (defBody s_Melody_call) (defScope s_Melody_call) .none kV14 dc14 pm14 an14 cd14 ct14), sl14⟩)
  (c14 : PySem.W.codeIn K cd14 "Melody.__call__" = true)
  (k14 : PySem.W.keepIn K (.ref f_Melody_call) = true)
  (a15 : PySem.W.findIn K (.ref C_Melody) "__len__" = some (some (.ref f_Melody_len)))
  (i15 : PySem.W.isFn K (.ref f_Melody_len) = true)
  (l15 : K.lookup f_Melody_len = some ⟨oc15, od15, .func (PySem.W.fnOf "__len__" "Melody.__len__" (defArgs s_Melody_len) (defBody s_Melody_len) (defScope s_Melody_len) .none kV15 dc15 pm15 an15 cd15 ct15), sl15⟩)
  (c15 : PySem.W.codeIn K cd15 "Melody.__len__" = true)
  (k15 : PySem.W.keepIn K (.ref f_Melody_len) = true)
  (a16 : PySem.W.findIn K (.ref C_Melody) "__eq__" = some (some (.ref f_Melody_eq)))
  (i16 : PySem.W.isFn K (.ref f_Melody_eq) = true)
  (l16 : K.lookup f_Melody_eq = some ⟨oc16, od16, .func (PySem.W.fnOf "__eq__" "Melody.__eq__" (defArgs s_Melody_eq) (defBody s_Melody_eq) (defScope s_Melody_eq) .none kV16 dc16 pm16 an16 cd16 ct16), sl16⟩)
  (c16 : PySem.W.codeIn K cd16 "Melody.__eq__" = true)
  (k16 : PySem.W.keepIn K (.ref f_Melody_eq) = true)
  (a17 : PySem.W.findIn K (.ref C_Melody) "__bool__" = some (some (.ref f_Melody_bool)))
  (i17 : PySem.W.isFn K (.ref f_Melody_bool) = true)
  (l17 : K.lookup f_Melody_bool = some ⟨oc17, od17, .func (PySem.W.fnOf "__bool__" "Melody.__bool__" (defArgs s_Melody_bool) (defBody s_Melody_bool) (defScope s_Melody_bool) .none kV17 dc17 pm17 an17 cd17 ct17), sl17⟩)
  (c17 : PySem.W.codeIn K cd17 "Melody.__bool__" = true)
  (k17 : PySem.W.keepIn K (.ref f_Melody_bool) = true)
  (a18 : PySem.W.findIn K (.ref C_Melody) "__contains__" = some (some (.ref f_Melody_contains)))
  (i18 : PySem.W.isFn K (.ref f_Melody_contains) = true)
  (l18 : K.lookup f_Melody_contains = some ⟨oc18, od18, .func (PySem.W.fnOf "__contains__" "Melody.__contains__" (defArgs s_Melody_contains) (defBody s_Melody_contains) (defScope s_Melody_contains) .none kV18 dc18 pm18 an18 cd18 ct18), sl18⟩)
  (c18 : PySem.W.codeIn K cd18 "Melody.__contains__" = true)
  (k18 : PySem.W.keepIn K (.ref f_Melody_contains) = true)
  (a19 : PySem.W.findIn K (.ref C_Melody) "__getitem__" = some (some (.ref f_Melody_getitem)))
  (i19 : PySem.W.isFn K (.ref f_Melody_getitem) = true)
  (l19 : K.lookup f_Melody_getitem = some ⟨oc19, od19, .func (PySem.W.fnOf "__getitem__" "Melody.__getitem__" (defArgs s_Melody_getitem) (defBody s_Melody_getitem) (defScope s_Melody_getitem) .none kV19 dc19 pm19 an19 cd19 ct19), sl19⟩)
  (c19 : PySem.W.codeIn K cd19 "Melody.__getitem__" = true)
  (k19 : PySem.W.keepIn K (.ref f_Melody_getitem) = true)
  (a20 : PySem.W.findIn K (.ref C_Melody) "__iter__" = some (some (.ref f_Melody_iter)))
  (i20 : PySem.W.isFn K (.ref f_Melody_iter) = true)
  (l20 : K.lookup f_Melody_iter = some ⟨oc20, od20, .func (PySem.W.fnOf "__iter__" "Melody.__iter__" (defArgs s_Melody_iter) (defBody s_Melody_iter) (defScope s_Melody_iter) .none kV20 dc20 pm20 an20 cd20 ct20), sl20⟩)
  (c20 : PySem.W.codeIn K cd20 "Melody.__iter__" = true)
  (k20 : PySem.W.keepIn K (.ref f_Melody_iter) = true)
  (a21 : PySem.W.findIn K (.ref C_Melody) "__add__" = some (some (.ref f_Melody_add)))
  (i21 : PySem.W.isFn K (.ref f_Melody_add) = true)
  (l21 : K.lookup f_Melody_add = some ⟨oc21, od21, .func (PySem.W.fnOf "__add__" "Melody.__add__" (defArgs s_Melody_add) (defBody s_Melody_add) (defScope s_Melody_add) .none kV21 dc21 pm21 an21 cd21 ct21), sl21⟩)
  (c21 : PySem.W.codeIn K cd21 "Melody.__add__" = true)
  (k21 : PySem.W.keepIn K (.ref f_Melody_add) = true)
  (a22 : PySem.W.findIn K (.ref C_Melody) "__mul__" = some (some (.ref f_Melody_mul)))
  (i22 : PySem.W.isFn K (.ref f_Melody_mul) = true)
  (l22 : K.lookup f_Melody_mul = some ⟨oc22, od22, .func (PySem.W.fnOf "__mul__" "Melody.__mul__" (defArgs s_Melody_mul) (defBody s_Melody_mul) (defScope s_Melody_mul) .none kV22 dc22 pm22 an22 cd22 ct22), sl22⟩)
  (c22 : PySem.W.codeIn K cd22 "Melody.__mul__" = true)
  (k22 : PySem.W.keepIn K (.ref f_Melody_mul) = true)
  (a23 : PySem.W.findIn K (.ref C_Melody) "__rshift__" = some (some (.ref f_Melody_rshift)))
  (i23 : PySem.W.isFn K (.ref f_Melody_rshift) = true)
  (l23 : K.lookup f_Melody_rshift = some ⟨oc23, od23, .func (PySem.W.fnOf "__rshift__" "Melody.__rshift__" (defArgs s_Melody_rshift) (defBody s_Melody_rshift) (defScope s_Melody_rshift) .none kV23 dc23 pm23 an23 cd23 ct23), sl23⟩)
  (c23 : PySem.W.codeIn K cd23 "Melody.__rshift__" = true)
  (k23 : PySem.W.keepIn K (.ref f_Melody_rshift) = true)
  (a24 : PySem.W.findIn K (.ref C_Melody) "__invert__" = some (some (.ref f_Melody_invert)))
  (i24 : PySem.W.isFn K (.ref f_Melody_invert) = true)
  (l24 : K.lookup f_Melody_invert = some ⟨oc24, od24, .func (PySem.W.fnOf "__invert__" "Melody.__invert__" (defArgs s_Melody_invert) (defBody s_Melody_invert) (defScope s_Melody_invert) .none kV24 dc24 pm24 an24 cd24 ct24), sl24⟩)
  (c24 : PySem.W.codeIn K cd24 "Melody.__invert__" = true)
  (k24 : PySem.W.keepIn K (.ref f_Melody_invert) = true)
  (a25 : PySem.W.findIn K (.ref C_Melody) "__neg__" = some (some (.ref f_Melody_neg)))
  (i25 : PySem.W.isFn K (.ref f_Melody_neg) = true)
  (l25 : K.lookup f_Melody_neg = some ⟨oc25, od25, .func (PySem.W.fnOf "__neg__" "Melody.__neg__" (defArgs s_Melody_neg) (defBody s_Melody_neg) (defScope s_Melody_neg) .none kV25 dc25 pm25 an25 cd25 ct25), sl25⟩)
  (c25 : PySem.W.codeIn K cd25 "Melody.__neg__" = true)
  (k25 : PySem.W.keepIn K (.ref f_Melody_neg) = true)
  (fi_Melody_call : PySem.W.fnIn K f_Melody_call = true)
  (fi_Melody_getitem : PySem.W.fnIn K f_Melody_getitem = true)
  (ne_Melody : PySem.W.findIn K (.ref C_Melody) "__ne__" = some (some (.builtin "object.__ne__")))
  (sfMelody : PySem.W.selfFirst K C_Melody = true)
  (sb_Melody_int : PySem.W.subIn K (.type "int") (.ref C_Melody) = some false)
  (sb_Melody_bool : PySem.W.subIn K (.type "bool") (.ref C_Melody) = some false)
  (sb_Melody_str : PySem.W.subIn K (.type "str") (.ref C_Melody) = some false)
  (sb_Melody_NoneType : PySem.W.subIn K (.type "NoneType") (.ref C_Melody) = some false)
  (sb_Melody_tuple : PySem.W.subIn K (.type "tuple") (.ref C_Melody) = some false)
  (sb_Melody_list : PySem.W.subIn K (.type "list") (.ref C_Melody) = some false)
  (rr_Melody_rshift : PySem.W.findIn K (.ref C_Melody) "__rrshift__" = some none)
  (rr_Melody_mul : PySem.W.findIn K (.ref C_Melody) "__rmul__" = some none)
  (n_Melody_given : PySem.W.findIn K (.ref C_Melody) "given" = some none)
  (n_Melody_row : PySem.W.findIn K (.ref C_Melody) "row" = some none)
  (a26 : PySem.W.nsIn K mainGlobals "melody_of" = some (some (.ref f_melody_of)))
  (l26 : K.lookup f_melody_of = some ⟨oc26, od26, .func (PySem.W.fnOf "melody_of" "melody_of" (defArgs s_melody_of) (defBody s_melody_of) (defScope s_melody_of) .none kV26 dc26 pm26 an26 cd26 ct26), sl26⟩)
  (c26 : PySem.W.codeIn K cd26 "melody_of" = true)
  (k26 : PySem.W.keepIn K (.ref f_melody_of) = true)
  (a27 : PySem.W.nsIn K mainGlobals "is_number" = some (some (.ref f_is_number)))
  (l27 : K.lookup f_is_number = some ⟨oc27, od27, .func (PySem.W.fnOf "is_number" "is_number" (defArgs s_is_number) (defBody s_is_number) (defScope s_is_number) .none kV27 dc27 pm27 an27 cd27 ct27), sl27⟩)
  (c27 : PySem.W.codeIn K cd27 "is_number" = true)
  (k27 : PySem.W.keepIn K (.ref f_is_number) = true)
  (v_MAX_SHIFT : PySem.W.nsIn K mainGlobals "MAX_SHIFT" = some (some (.int 24 tk_MAX_SHIFT)))
  (a28 : PySem.W.nsIn K mainGlobals "heard" = some (some (.ref f_heard)))
  (l28 : K.lookup f_heard = some ⟨oc28, od28, .func (PySem.W.fnOf "heard" "heard" (defArgs s_heard) (defBody s_heard) (defScope s_heard) .none kV28 dc28 pm28 an28 cd28 ct28), sl28⟩)
  (c28 : PySem.W.codeIn K cd28 "heard" = true)
  (k28 : PySem.W.keepIn K (.ref f_heard) = true)
  (a29 : PySem.W.nsIn K mainGlobals "check_shift" = some (some (.ref f_check_shift)))
  (l29 : K.lookup f_check_shift = some ⟨oc29, od29, .func (PySem.W.fnOf "check_shift" "check_shift" (defArgs s_check_shift) (defBody s_check_shift) (defScope s_check_shift) .none kV29 dc29 pm29 an29 cd29 ct29), sl29⟩)
  (c29 : PySem.W.codeIn K cd29 "check_shift" = true)
  (k29 : PySem.W.keepIn K (.ref f_check_shift) = true)
  (v_MAX_LIMIT : PySem.W.nsIn K mainGlobals "MAX_LIMIT" = some (some (.int 500 tk_MAX_LIMIT)))
  (v_MAX_TRIED : PySem.W.nsIn K mainGlobals "MAX_TRIED" = some (some (.int 200 tk_MAX_TRIED)))
  (xListener : PySem.W.nsIn K mainGlobals "Listener" = some (some (.ref C_Listener)))
  (xkListener : PySem.W.keepIn K (.ref C_Listener) = true)
  (pgListener : PySem.W.plainGet K C_Listener Str.empty = true)
  (hdListener : PySem.W.hasDictIn K C_Listener = true)
  (poListener : PySem.W.plainOver K C_Listener = true)
  (saListener : PySem.W.findIn K (.ref C_Listener) "__setattr__" = some (some (.builtin "object.__setattr__")))
  (mkListener : PySem.W.makesIn K C_Listener = true)
  (rdListener : PySem.W.readsIn K C_Listener (.type "type") = true)
  (gaListener : PySem.W.specialIn K (.ref C_Listener) "__getattribute__" = some (some (.builtin "type.__getattribute__")))
  (y1Listener : PySem.W.findIn K (.ref C_Listener) "__class__" = some (some (.builtin "object.__class__")))
  (y2Listener : PySem.W.specialIn K (.builtin "object.__class__") "__get__" = some (some (.builtin "getset_descriptor.__get__")))
  (y3Listener : PySem.W.takesIn K (.builtin "object.__class__") = some true)
  (y4Listener : PySem.W.mroIn K C_Listener (.type "object") = some true)
  (a30 : PySem.W.findIn K (.ref C_Listener) "__init__" = some (some (.ref f_Listener_init)))
  (i30 : PySem.W.isFn K (.ref f_Listener_init) = true)
  (l30 : K.lookup f_Listener_init = some ⟨oc30, od30, .func (PySem.W.fnOf "__init__" "Listener.__init__" (defArgs s_Listener_init) (defBody s_Listener_init) (defScope s_Listener_init) .none kV30 dc30 pm30 an30 cd30 ct30), sl30⟩)
  (c30 : PySem.W.codeIn K cd30 "Listener.__init__" = true)
  (k30 : PySem.W.keepIn K (.ref f_Listener_init) = true)
  (a31 : PySem.W.findIn K (.ref C_Listener) "sounds" = some (some (.ref f_Listener_sounds)))
  (i31 : PySem.W.isFn K (.ref f_Listener_sounds) = true)
  (l31 : K.lookup f_Listener_sounds = some ⟨oc31, od31, .func (PySem.W.fnOf "sounds" "Listener.sounds" (defArgs s_Listener_sounds) (defBody s_Listener_sounds) (defScope s_Listener_sounds) .none kV31 dc31 pm31 an31 cd31 ct31), sl31⟩)
  (c31 : PySem.W.codeIn K cd31 "Listener.sounds" = true)
  (k31 : PySem.W.keepIn K (.ref f_Listener_sounds) = true)
  (a32 : PySem.W.findIn K (.ref C_Listener) "hear" = some (some (.ref f_Listener_hear)))
  (i32 : PySem.W.isFn K (.ref f_Listener_hear) = true)
  (l32 : K.lookup f_Listener_hear = some ⟨oc32, od32, .func (PySem.W.fnOf "hear" "Listener.hear" (defArgs s_Listener_hear) (defBody s_Listener_hear) (defScope s_Listener_hear) .none kV32 dc32 pm32 an32 cd32 ct32), sl32⟩)
  (c32 : PySem.W.codeIn K cd32 "Listener.hear" = true)
  (k32 : PySem.W.keepIn K (.ref f_Listener_hear) = true)
  (a33 : PySem.W.findIn K (.ref C_Listener) "delays" = some (some (.ref p_Listener_delays)))
  (g33 : PySem.W.specialIn K (.ref p_Listener_delays) "__get__" = some (some (.builtin "property.__get__")))
  (t33 : PySem.W.takesIn K (.ref p_Listener_delays) = some true)
  (r33 : PySem.W.recIn K p_Listener_delays "property" = some (.ref f_Listener_delays :: rs33))
  (l33 : K.lookup f_Listener_delays = some ⟨oc33, od33, .func (PySem.W.fnOf "delays" "Listener.delays" (defArgs s_Listener_delays) (defBody s_Listener_delays) (defScope s_Listener_delays) .none kV33 dc33 pm33 an33 cd33 ct33), sl33⟩)
  (c33 : PySem.W.codeIn K cd33 "Listener.delays" = true)
  (k33 : PySem.W.keepIn K (.ref f_Listener_delays) = true)
  (a34 : PySem.W.findIn K (.ref C_Listener) "history" = some (some (.ref p_Listener_history)))
  (g34 : PySem.W.specialIn K (.ref p_Listener_history) "__get__" = some (some (.builtin "property.__get__")))
  (t34 : PySem.W.takesIn K (.ref p_Listener_history) = some true)
  (r34 : PySem.W.recIn K p_Listener_history "property" = some (.ref f_Listener_history :: rs34))
  (l34 : K.lookup f_Listener_history = some ⟨oc34, od34, .func (PySem.W.fnOf "history" "Listener.history" (defArgs s_Listener_history) (defBody s_Listener_history) (defScope s_Listener_history) .none kV34 dc34 pm34 an34 cd34 ct34), sl34⟩)
  (c34 : PySem.W.codeIn K cd34 "Listener.history" = true)
  (k34 : PySem.W.keepIn K (.ref f_Listener_history) = true)
  (a35 : PySem.W.findIn K (.ref C_Listener) "best_beat" = some (some (.ref f_Listener_best_beat)))
  (i35 : PySem.W.isFn K (.ref f_Listener_best_beat) = true)
  (l35 : K.lookup f_Listener_best_beat = some ⟨oc35, od35, .func (PySem.W.fnOf "best_beat" "Listener.best_beat" (defArgs s_Listener_best_beat) (defBody s_Listener_best_beat) (defScope s_Listener_best_beat) .none kV35 dc35 pm35 an35 cd35 ct35), sl35⟩)
  (c35 : PySem.W.codeIn K cd35 "Listener.best_beat" = true)
  (k35 : PySem.W.keepIn K (.ref f_Listener_best_beat) = true)
  (n_Listener_one : PySem.W.findIn K (.ref C_Listener) "one" = some none)
  (n_Listener_other : PySem.W.findIn K (.ref C_Listener) "other" = some none)
  (n_Listener_kept : PySem.W.findIn K (.ref C_Listener) "kept" = some none)
  (n_Listener_facts : PySem.W.findIn K (.ref C_Listener) "facts" = some none)
  (a36 : PySem.W.nsIn K mainGlobals "_law_random" = some (some (.ref f_law_random)))
  (l36 : K.lookup f_law_random = some ⟨oc36, od36, .func (PySem.W.fnOf "_law_random" "_law_random" (defArgs s_law_random) (defBody s_law_random) (defScope s_law_random) .none kV36 dc36 pm36 an36 cd36 ct36), sl36⟩)
  (c36 : PySem.W.codeIn K cd36 "_law_random" = true)
  (k36 : PySem.W.keepIn K (.ref f_law_random) = true)
  (a37 : PySem.W.nsIn K mainGlobals "_law_below" = some (some (.ref f_law_below)))
  (l37 : K.lookup f_law_below = some ⟨oc37, od37, .func (PySem.W.fnOf "_law_below" "_law_below" (defArgs s_law_below) (defBody s_law_below) (defScope s_law_below) .none kV37 dc37 pm37 an37 cd37 ct37), sl37⟩)
  (c37 : PySem.W.codeIn K cd37 "_law_below" = true)
  (k37 : PySem.W.keepIn K (.ref f_law_below) = true)
  (a38 : PySem.W.nsIn K mainGlobals "_law_notes" = some (some (.ref f_law_notes)))
  (l38 : K.lookup f_law_notes = some ⟨oc38, od38, .func (PySem.W.fnOf "_law_notes" "_law_notes" (defArgs s_law_notes) (defBody s_law_notes) (defScope s_law_notes) .none kV38 dc38 pm38 an38 cd38 ct38), sl38⟩)
  (c38 : PySem.W.codeIn K cd38 "_law_notes" = true)
  (k38 : PySem.W.keepIn K (.ref f_law_notes) = true)
  (a39 : PySem.W.nsIn K mainGlobals "_law_fits" = some (some (.ref f_law_fits)))
  (l39 : K.lookup f_law_fits = some ⟨oc39, od39, .func (PySem.W.fnOf "_law_fits" "_law_fits" (defArgs s_law_fits) (defBody s_law_fits) (defScope s_law_fits) .none kV39 dc39 pm39 an39 cd39 ct39), sl39⟩)
  (c39 : PySem.W.codeIn K cd39 "_law_fits" = true)
  (k39 : PySem.W.keepIn K (.ref f_law_fits) = true)
  (a40 : PySem.W.nsIn K mainGlobals "_law_shifted" = some (some (.ref f_law_shifted)))
  (l40 : K.lookup f_law_shifted = some ⟨oc40, od40, .func (PySem.W.fnOf "_law_shifted" "_law_shifted" (defArgs s_law_shifted) (defBody s_law_shifted) (defScope s_law_shifted) .none kV40 dc40 pm40 an40 cd40 ct40), sl40⟩)
  (c40 : PySem.W.codeIn K cd40 "_law_shifted" = true)
  (k40 : PySem.W.keepIn K (.ref f_law_shifted) = true)
  (a41 : PySem.W.nsIn K mainGlobals "_law_in_range" = some (some (.ref f_law_in_range)))
  (l41 : K.lookup f_law_in_range = some ⟨oc41, od41, .func (PySem.W.fnOf "_law_in_range" "_law_in_range" (defArgs s_law_in_range) (defBody s_law_in_range) (defScope s_law_in_range) .none kV41 dc41 pm41 an41 cd41 ct41), sl41⟩)
  (c41 : PySem.W.codeIn K cd41 "_law_in_range" = true)
  (k41 : PySem.W.keepIn K (.ref f_law_in_range) = true)
  (a42 : PySem.W.nsIn K mainGlobals "_law_row" = some (some (.ref f_law_row)))
  (l42 : K.lookup f_law_row = some ⟨oc42, od42, .func (PySem.W.fnOf "_law_row" "_law_row" (defArgs s_law_row) (defBody s_law_row) (defScope s_law_row) .none kV42 dc42 pm42 an42 cd42 ct42), sl42⟩)
  (c42 : PySem.W.codeIn K cd42 "_law_row" = true)
  (k42 : PySem.W.keepIn K (.ref f_law_row) = true)
  (a43 : PySem.W.nsIn K mainGlobals "_law_words" = some (some (.ref f_law_words)))
  (l43 : K.lookup f_law_words = some ⟨oc43, od43, .func (PySem.W.fnOf "_law_words" "_law_words" (defArgs s_law_words) (defBody s_law_words) (defScope s_law_words) .none kV43 dc43 pm43 an43 cd43 ct43), sl43⟩)
  (c43 : PySem.W.codeIn K cd43 "_law_words" = true)
  (k43 : PySem.W.keepIn K (.ref f_law_words) = true)
  (a44 : PySem.W.nsIn K mainGlobals "_law_melody" = some (some (.ref f_law_melody)))
  (l44 : K.lookup f_law_melody = some ⟨oc44, od44, .func (PySem.W.fnOf "_law_melody" "_law_melody" (defArgs s_law_melody) (defBody s_law_melody) (defScope s_law_melody) .none kV44 dc44 pm44 an44 cd44 ct44), sl44⟩)
  (c44 : PySem.W.codeIn K cd44 "_law_melody" = true)
  (k44 : PySem.W.keepIn K (.ref f_law_melody) = true)
  (a45 : PySem.W.nsIn K mainGlobals "_law_some_beat" = some (some (.ref f_law_some_beat)))
  (l45 : K.lookup f_law_some_beat = some ⟨oc45, od45, .func (PySem.W.fnOf "_law_some_beat" "_law_some_beat" (defArgs s_law_some_beat) (defBody s_law_some_beat) (defScope s_law_some_beat) .none kV45 dc45 pm45 an45 cd45 ct45), sl45⟩)
  (c45 : PySem.W.codeIn K cd45 "_law_some_beat" = true)
  (k45 : PySem.W.keepIn K (.ref f_law_some_beat) = true)
  (a46 : PySem.W.nsIn K mainGlobals "_law_heard" = some (some (.ref f_law_heard)))
  (l46 : K.lookup f_law_heard = some ⟨oc46, od46, .func (PySem.W.fnOf "_law_heard" "_law_heard" (defArgs s_law_heard) (defBody s_law_heard) (defScope s_law_heard) .none kV46 dc46 pm46 an46 cd46 ct46), sl46⟩)
  (c46 : PySem.W.codeIn K cd46 "_law_heard" = true)
  (k46 : PySem.W.keepIn K (.ref f_law_heard) = true)
  (a47 : PySem.W.nsIn K mainGlobals "_law_error_of" = some (some (.ref f_law_error_of)))
  (l47 : K.lookup f_law_error_of = some ⟨oc47, od47, .func (PySem.W.fnOf "_law_error_of" "_law_error_of" (defArgs s_law_error_of) (defBody s_law_error_of) (defScope s_law_error_of) .none kV47 dc47 pm47 an47 cd47 ct47), sl47⟩)
  (c47 : PySem.W.codeIn K cd47 "_law_error_of" = true)
  (k47 : PySem.W.keepIn K (.ref f_law_error_of) = true)
  (a48 : PySem.W.nsIn K mainGlobals "_law_hear" = some (some (.ref f_law_hear)))
  (l48 : K.lookup f_law_hear = some ⟨oc48, od48, .func (PySem.W.fnOf "_law_hear" "_law_hear" (defArgs s_law_hear) (defBody s_law_hear) (defScope s_law_hear) .none kV48 dc48 pm48 an48 cd48 ct48), sl48⟩)
  (c48 : PySem.W.codeIn K cd48 "_law_hear" = true)
  (k48 : PySem.W.keepIn K (.ref f_law_hear) = true)
  (a49 : PySem.W.nsIn K mainGlobals "_law_equal" = some (some (.ref f_law_equal)))
  (l49 : K.lookup f_law_equal = some ⟨oc49, od49, .func (PySem.W.fnOf "_law_equal" "_law_equal" (defArgs s_law_equal) (defBody s_law_equal) (defScope s_law_equal) .none kV49 dc49 pm49 an49 cd49 ct49), sl49⟩)
  (c49 : PySem.W.codeIn K cd49 "_law_equal" = true)
  (k49 : PySem.W.keepIn K (.ref f_law_equal) = true)
  (a50 : PySem.W.nsIn K mainGlobals "law" = some (some (.ref f_law)))
  (l50 : K.lookup f_law = some ⟨oc50, od50, .func (PySem.W.fnOf "law" "law" (defArgs s_law) (defBody s_law) (defScope s_law) .none kV50 dc50 pm50 an50 (.ref cA_law) ct50), sl50⟩)
  (c50 : PySem.W.codeIn K (.ref cA_law) "law" = true)
  (k50 : PySem.W.keepIn K (.ref f_law) = true)
  (lc_law : K.lookup cA_law = some ⟨ec_law, ecd_law, .fields vc_law, esl_law⟩)
  (rf_pa_law : vc_law[11]? = some (.ref PA_law))
  (kr_hd_law : PySem.W.codeHdIn K cA_law PA_law = true)
  (kr_no_law : K.lookup PA_law = none)
  (b_abs : PySem.W.nsIn K mainGlobals "abs" = some none)
  (b_all : PySem.W.nsIn K mainGlobals "all" = some none)
  (b_any : PySem.W.nsIn K mainGlobals "any" = some none)
  (b_bool : PySem.W.nsIn K mainGlobals "bool" = some none)
  (b_enumerate : PySem.W.nsIn K mainGlobals "enumerate" = some none)
  (b_int : PySem.W.nsIn K mainGlobals "int" = some none)
  (b_isinstance : PySem.W.nsIn K mainGlobals "isinstance" = some none)
  (b_len : PySem.W.nsIn K mainGlobals "len" = some none)
  (b_list : PySem.W.nsIn K mainGlobals "list" = some none)
  (b_max : PySem.W.nsIn K mainGlobals "max" = some none)
  (b_min : PySem.W.nsIn K mainGlobals "min" = some none)
  (b_range : PySem.W.nsIn K mainGlobals "range" = some none)
  (b_sorted : PySem.W.nsIn K mainGlobals "sorted" = some none)
  (b_str : PySem.W.nsIn K mainGlobals "str" = some none)
  (b_tuple : PySem.W.nsIn K mainGlobals "tuple" = some none)
  (kr_errt : errTab K [C_InvalidMelody, C_InvalidRound, C_OutOfRange, C_InvalidNumber, C_TooLong, C_TextFault, C_InvalidCode, C_Contradiction, C_UnknownVoice, C_TooManyVoices, C_InvalidName, C_UnknownName, C_InvalidOperation] = true)
  (kr_errc : errCls K [C_InvalidMelody, C_InvalidRound, C_OutOfRange, C_InvalidNumber, C_TooLong, C_TextFault, C_InvalidCode, C_Contradiction, C_UnknownVoice, C_TooManyVoices, C_InvalidName, C_UnknownName, C_InvalidOperation] C_CanonError = true)
  (eg2 : PySem.W.specialIn K (.builtin "object.__class__") "__get__" = some (some (.builtin "getset_descriptor.__get__")))
  (eg3 : PySem.W.takesIn K (.builtin "object.__class__") = some true)
  (b_ValueError : PySem.W.nsIn K mainGlobals "ValueError" = some none)
  : Txt K mg ⟨C_CanonError, C_InvalidMelody, f_InvalidMelody_init, C_InvalidRound, f_InvalidRound_init, C_OutOfRange, C_InvalidNumber, C_TooLong, C_TextFault, f_TextFault_init, C_InvalidCode, f_InvalidCode_init, C_Contradiction, C_UnknownVoice, C_TooManyVoices, C_InvalidName, C_UnknownName, C_InvalidOperation, f_InvalidOperation_init, f_is_int_in, f_is_note, C_Melody, f_Melody_init, f_Melody_parse, p_Melody_parse, f_Melody_notes, p_Melody_notes, f_Melody_text, p_Melody_text, f_Melody_pitches, p_Melody_pitches, f_Melody_sound, f_Melody_call, f_Melody_len, f_Melody_eq, f_Melody_bool, f_Melody_contains, f_Melody_getitem, f_Melody_iter, f_Melody_add, f_Melody_mul, f_Melody_rshift, f_Melody_invert, f_Melody_neg, f_melody_of, f_is_number, f_heard, f_check_shift, C_Listener, f_Listener_init, f_Listener_sounds, f_Listener_hear, f_Listener_delays, p_Listener_delays, f_Listener_history, p_Listener_history, f_Listener_best_beat, f_law_random, f_law_below, f_law_notes, f_law_fits, f_law_shifted, f_law_in_range, f_law_row, f_law_words, f_law_melody, f_law_some_beat, f_law_heard, f_law_error_of, f_law_hear, f_law_equal, f_law, cA_law, PA_law⟩ := by
  exact {
    CanonError := ⟨PySem.W.mg_of X G xCanonError, ⟨rdCanonError, gaCanonError⟩, atCanonError⟩
    InvalidMelody_init := ⟨⟨a1, i1, k1⟩, _, fun_mk (st := s_InvalidMelody_init) l1 c1 k1, (fun_mk (st := s_InvalidMelody_init) l1 c1 k1).binds (ps := ["self", "index"]) fun _ _ _ _ _ _ us hl => match us, hl with | [_, _], _ => rfl⟩
    InvalidMelody := ⟨PySem.W.mg_of X G xInvalidMelody, xkInvalidMelody, kr_oxInvalidMelody, saInvalidMelody, esInvalidMelody, etInvalidMelody, a1, tfInvalidMelody⟩
    n_InvalidMelody_index := n_InvalidMelody_index
    InvalidRound_init := ⟨⟨a2, i2, k2⟩, _, fun_mk (st := s_InvalidRound_init) l2 c2 k2, (fun_mk (st := s_InvalidRound_init) l2 c2 k2).binds (ps := ["self", "part", "index"]) fun _ _ _ _ _ _ us hl => match us, hl with | [_, _, _], _ => rfl⟩
    InvalidRound := ⟨PySem.W.mg_of X G xInvalidRound, xkInvalidRound, kr_oxInvalidRound, saInvalidRound, esInvalidRound, etInvalidRound, a2, tfInvalidRound⟩
    n_InvalidRound_part := n_InvalidRound_part
    n_InvalidRound_index := n_InvalidRound_index
    OutOfRange := ⟨PySem.W.mg_of X G xOutOfRange, xkOutOfRange, kr_emOutOfRange, esOutOfRange, etOutOfRange⟩
    InvalidNumber := ⟨PySem.W.mg_of X G xInvalidNumber, xkInvalidNumber, kr_emInvalidNumber, esInvalidNumber, etInvalidNumber⟩
    TooLong := ⟨PySem.W.mg_of X G xTooLong, xkTooLong, kr_emTooLong, esTooLong, etTooLong⟩
    TextFault_init := ⟨⟨a3, i3, k3⟩, _, fun_mk (st := s_TextFault_init) l3 c3 k3, (fun_mk (st := s_TextFault_init) l3 c3 k3).binds (ps := ["self", "word"]) fun _ _ _ _ _ _ us hl => match us, hl with | [_, _], _ => rfl⟩
    TextFault := ⟨PySem.W.mg_of X G xTextFault, xkTextFault, kr_oxTextFault, saTextFault, esTextFault, etTextFault, a3, tfTextFault⟩
    n_TextFault_word := n_TextFault_word
    InvalidCode_init := ⟨⟨a4, i4, k4⟩, _, fun_mk (st := s_InvalidCode_init) l4 c4 k4, (fun_mk (st := s_InvalidCode_init) l4 c4 k4).binds (ps := ["self", "place"]) fun _ _ _ _ _ _ us hl => match us, hl with | [_, _], _ => rfl⟩
    InvalidCode := ⟨PySem.W.mg_of X G xInvalidCode, xkInvalidCode, kr_oxInvalidCode, saInvalidCode, esInvalidCode, etInvalidCode, a4, tfInvalidCode⟩
    n_InvalidCode_place := n_InvalidCode_place
    Contradiction := ⟨PySem.W.mg_of X G xContradiction, xkContradiction, kr_emContradiction, esContradiction, etContradiction⟩
    UnknownVoice := ⟨PySem.W.mg_of X G xUnknownVoice, xkUnknownVoice, kr_emUnknownVoice, esUnknownVoice, etUnknownVoice⟩
    TooManyVoices := ⟨PySem.W.mg_of X G xTooManyVoices, xkTooManyVoices, kr_emTooManyVoices, esTooManyVoices, etTooManyVoices⟩
    InvalidName := ⟨PySem.W.mg_of X G xInvalidName, xkInvalidName, kr_emInvalidName, esInvalidName, etInvalidName⟩
    UnknownName := ⟨PySem.W.mg_of X G xUnknownName, xkUnknownName, kr_emUnknownName, esUnknownName, etUnknownName⟩
    InvalidOperation_init := ⟨⟨a5, i5, k5⟩, _, fun_mk (st := s_InvalidOperation_init) l5 c5 k5, (fun_mk (st := s_InvalidOperation_init) l5 c5 k5).binds (ps := ["self", "place"]) fun _ _ _ _ _ _ us hl => match us, hl with | [_, _], _ => rfl⟩
    InvalidOperation := ⟨PySem.W.mg_of X G xInvalidOperation, xkInvalidOperation, kr_oxInvalidOperation, saInvalidOperation, esInvalidOperation, etInvalidOperation, a5, tfInvalidOperation⟩
    n_InvalidOperation_place := n_InvalidOperation_place
    v_MAX_NUMBER := ⟨_, PySem.W.mg_of X G v_MAX_NUMBER⟩
    v_DIGITS := ⟨_, PySem.W.mg_of X G v_DIGITS⟩
    v_REST := ⟨_, PySem.W.mg_of X G v_REST⟩
    is_int_in := ⟨PySem.W.mg_of X G a6, k6, _, fun_mk (st := s_is_int_in) l6 c6 k6, (fun_mk (st := s_is_int_in) l6 c6 k6).binds (ps := ["value", "low", "high"]) fun _ _ _ _ _ _ us hl => match us, hl with | [_, _, _], _ => rfl⟩
    is_note := ⟨PySem.W.mg_of X G a7, k7, _, fun_mk (st := s_is_note) l7 c7 k7, (fun_mk (st := s_is_note) l7 c7 k7).binds (ps := ["value"]) fun _ _ _ _ _ _ us hl => match us, hl with | [_], _ => rfl⟩
    Melody := ⟨PySem.W.mg_of X G xMelody, xkMelody, ⟨pgMelody, hdMelody, poMelody, saMelody⟩, mkMelody, ⟨rdMelody, gaMelody⟩, y1Melody, y2Melody, y3Melody, y4Melody⟩
    v_Melody_MAX_NOTES := ⟨_, v_Melody_MAX_NOTES, ⟨_, rfl⟩⟩
    v_Melody_MAX_BEATS := ⟨_, v_Melody_MAX_BEATS, ⟨_, rfl⟩⟩
    v_Melody_MAX_PITCH := ⟨_, v_Melody_MAX_PITCH, ⟨_, rfl⟩⟩
    Melody_init := ⟨⟨a8, i8, k8⟩, _, fun_mk (st := s_Melody_init) l8 c8 k8, fun us rest hl => match us, hl with | [_], _ => by cases rest <;> rfl⟩
    Melody_parse := ⟨⟨a9, ⟨_, r9⟩, n9⟩, _, fun_mk (st := s_Melody_parse) l9 c9 k9, (fun_mk (st := s_Melody_parse) l9 c9 k9).binds (ps := ["cls", "text"]) fun _ _ _ _ _ _ us hl => match us, hl with | [_, _], _ => rfl⟩
    Melody_notes := ⟨⟨a10, g10, t10, _, r10⟩, _, fun_mk (st := s_Melody_notes) l10 c10 k10, (fun_mk (st := s_Melody_notes) l10 c10 k10).binds (ps := ["self"]) fun _ _ _ _ _ _ us hl => match us, hl with | [_], _ => rfl⟩
    Melody_text := ⟨⟨a11, g11, t11, _, r11⟩, _, fun_mk (st := s_Melody_text) l11 c11 k11, (fun_mk (st := s_Melody_text) l11 c11 k11).binds (ps := ["self"]) fun _ _ _ _ _ _ us hl => match us, hl with | [_], _ => rfl⟩
    Melody_pitches := ⟨⟨a12, g12, t12, _, r12⟩, _, fun_mk (st := s_Melody_pitches) l12 c12 k12, (fun_mk (st := s_Melody_pitches) l12 c12 k12).binds (ps := ["self"]) fun _ _ _ _ _ _ us hl => match us, hl with | [_], _ => rfl⟩
    Melody_sound := ⟨⟨a13, i13, k13⟩, _, fun_mk (st := s_Melody_sound) l13 c13 k13, (fun_mk (st := s_Melody_sound) l13 c13 k13).binds (ps := ["self", "beat"]) fun _ _ _ _ _ _ us hl => match us, hl with | [_, _], _ => rfl⟩
    Melody_call := ⟨⟨a14, i14, k14⟩, _, fun_mk (st := s_Melody_call) l14 c14 k14, (fun_mk (st := s_Melody_call) l14 c14 k14).binds (ps := ["self", "beat"]) fun _ _ _ _ _ _ us hl => match us, hl with | [_, _], _ => rfl⟩
    Melody_len := ⟨⟨a15, i15, k15⟩, _, fun_mk (st := s_Melody_len) l15 c15 k15, (fun_mk (st := s_Melody_len) l15 c15 k15).binds (ps := ["self"]) fun _ _ _ _ _ _ us hl => match us, hl with | [_], _ => rfl⟩
    Melody_eq := ⟨⟨a16, i16, k16⟩, _, fun_mk (st := s_Melody_eq) l16 c16 k16, (fun_mk (st := s_Melody_eq) l16 c16 k16).binds (ps := ["self", "other"]) fun _ _ _ _ _ _ us hl => match us, hl with | [_, _], _ => rfl⟩
    Melody_bool := ⟨⟨a17, i17, k17⟩, _, fun_mk (st := s_Melody_bool) l17 c17 k17, (fun_mk (st := s_Melody_bool) l17 c17 k17).binds (ps := ["self"]) fun _ _ _ _ _ _ us hl => match us, hl with | [_], _ => rfl⟩
    Melody_contains := ⟨⟨a18, i18, k18⟩, _, fun_mk (st := s_Melody_contains) l18 c18 k18, (fun_mk (st := s_Melody_contains) l18 c18 k18).binds (ps := ["self", "pitch"]) fun _ _ _ _ _ _ us hl => match us, hl with | [_, _], _ => rfl⟩
    Melody_getitem := ⟨⟨a19, i19, k19⟩, _, fun_mk (st := s_Melody_getitem) l19 c19 k19, (fun_mk (st := s_Melody_getitem) l19 c19 k19).binds (ps := ["self", "number"]) fun _ _ _ _ _ _ us hl => match us, hl with | [_, _], _ => rfl⟩
    Melody_iter := ⟨⟨a20, i20, k20⟩, _, fun_mk (st := s_Melody_iter) l20 c20 k20, (fun_mk (st := s_Melody_iter) l20 c20 k20).binds (ps := ["self"]) fun _ _ _ _ _ _ us hl => match us, hl with | [_], _ => rfl⟩
    Melody_add := ⟨⟨a21, i21, k21⟩, _, fun_mk (st := s_Melody_add) l21 c21 k21, (fun_mk (st := s_Melody_add) l21 c21 k21).binds (ps := ["self", "other"]) fun _ _ _ _ _ _ us hl => match us, hl with | [_, _], _ => rfl⟩
    Melody_mul := ⟨⟨a22, i22, k22⟩, _, fun_mk (st := s_Melody_mul) l22 c22 k22, (fun_mk (st := s_Melody_mul) l22 c22 k22).binds (ps := ["self", "times"]) fun _ _ _ _ _ _ us hl => match us, hl with | [_, _], _ => rfl⟩
    Melody_rshift := ⟨⟨a23, i23, k23⟩, _, fun_mk (st := s_Melody_rshift) l23 c23 k23, (fun_mk (st := s_Melody_rshift) l23 c23 k23).binds (ps := ["self", "steps"]) fun _ _ _ _ _ _ us hl => match us, hl with | [_, _], _ => rfl⟩
    Melody_invert := ⟨⟨a24, i24, k24⟩, _, fun_mk (st := s_Melody_invert) l24 c24 k24, (fun_mk (st := s_Melody_invert) l24 c24 k24).binds (ps := ["self"]) fun _ _ _ _ _ _ us hl => match us, hl with | [_], _ => rfl⟩
    Melody_neg := ⟨⟨a25, i25, k25⟩, _, fun_mk (st := s_Melody_neg) l25 c25 k25, (fun_mk (st := s_Melody_neg) l25 c25 k25).binds (ps := ["self"]) fun _ _ _ _ _ _ us hl => match us, hl with | [_], _ => rfl⟩
    fi_Melody_call := fi_Melody_call
    fi_Melody_getitem := fi_Melody_getitem
    ne_Melody := ne_Melody
    sf_Melody := sfMelody
    sb_Melody_int := sb_Melody_int
    sb_Melody_bool := sb_Melody_bool
    sb_Melody_str := sb_Melody_str
    sb_Melody_NoneType := sb_Melody_NoneType
    sb_Melody_tuple := sb_Melody_tuple
    sb_Melody_list := sb_Melody_list
    o_Melody_rshift := ⟨sfMelody, a23, i23, rr_Melody_rshift⟩
    o_Melody_mul := ⟨sfMelody, a22, i22, rr_Melody_mul⟩
    n_Melody_given := n_Melody_given
    n_Melody_row := n_Melody_row
    melody_of := ⟨PySem.W.mg_of X G a26, k26, _, fun_mk (st := s_melody_of) l26 c26 k26, (fun_mk (st := s_melody_of) l26 c26 k26).binds (ps := ["notes"]) fun _ _ _ _ _ _ us hl => match us, hl with | [_], _ => rfl⟩
    is_number := ⟨PySem.W.mg_of X G a27, k27, _, fun_mk (st := s_is_number) l27 c27 k27, (fun_mk (st := s_is_number) l27 c27 k27).binds (ps := ["word", "most"]) fun _ _ _ _ _ _ us hl => match us, hl with | [_, _], _ => rfl⟩
    v_MAX_SHIFT := ⟨_, PySem.W.mg_of X G v_MAX_SHIFT⟩
    heard := ⟨PySem.W.mg_of X G a28, k28, _, fun_mk (st := s_heard) l28 c28 k28, (fun_mk (st := s_heard) l28 c28 k28).binds (ps := ["sounds"]) fun _ _ _ _ _ _ us hl => match us, hl with | [_], _ => rfl⟩
    check_shift := ⟨PySem.W.mg_of X G a29, k29, _, fun_mk (st := s_check_shift) l29 c29 k29, (fun_mk (st := s_check_shift) l29 c29 k29).binds (ps := ["shift"]) fun _ _ _ _ _ _ us hl => match us, hl with | [_], _ => rfl⟩
    v_MAX_LIMIT := ⟨_, PySem.W.mg_of X G v_MAX_LIMIT⟩
    v_MAX_TRIED := ⟨_, PySem.W.mg_of X G v_MAX_TRIED⟩
    Listener := ⟨PySem.W.mg_of X G xListener, xkListener, ⟨pgListener, hdListener, poListener, saListener⟩, mkListener, ⟨rdListener, gaListener⟩, y1Listener, y2Listener, y3Listener, y4Listener⟩
    Listener_init := ⟨⟨a30, i30, k30⟩, _, fun_mk (st := s_Listener_init) l30 c30 k30, (fun_mk (st := s_Listener_init) l30 c30 k30).binds (ps := ["self", "melody", "shift", "limit"]) fun _ _ _ _ _ _ us hl => match us, hl with | [_, _, _, _], _ => rfl⟩
    Listener_sounds := ⟨⟨a31, i31, k31⟩, _, fun_mk (st := s_Listener_sounds) l31 c31 k31, (fun_mk (st := s_Listener_sounds) l31 c31 k31).binds (ps := ["self", "delay", "beat"]) fun _ _ _ _ _ _ us hl => match us, hl with | [_, _, _], _ => rfl⟩
    Listener_hear := ⟨⟨a32, i32, k32⟩, _, fun_mk (st := s_Listener_hear) l32 c32 k32, fun us rest hl => match us, hl with | [_, _], _ => by cases rest <;> rfl⟩
    Listener_delays := ⟨⟨a33, g33, t33, _, r33⟩, _, fun_mk (st := s_Listener_delays) l33 c33 k33, (fun_mk (st := s_Listener_delays) l33 c33 k33).binds (ps := ["self"]) fun _ _ _ _ _ _ us hl => match us, hl with | [_], _ => rfl⟩
    Listener_history := ⟨⟨a34, g34, t34, _, r34⟩, _, fun_mk (st := s_Listener_history) l34 c34 k34, (fun_mk (st := s_Listener_history) l34 c34 k34).binds (ps := ["self"]) fun _ _ _ _ _ _ us hl => match us, hl with | [_], _ => rfl⟩
    Listener_best_beat := ⟨⟨a35, i35, k35⟩, _, fun_mk (st := s_Listener_best_beat) l35 c35 k35, (fun_mk (st := s_Listener_best_beat) l35 c35 k35).binds (ps := ["self", "limit"]) fun _ _ _ _ _ _ us hl => match us, hl with | [_, _], _ => rfl⟩
    n_Listener_one := n_Listener_one
    n_Listener_other := n_Listener_other
    n_Listener_kept := n_Listener_kept
    n_Listener_facts := n_Listener_facts
    law_random := ⟨PySem.W.mg_of X G a36, k36, _, fun_mk (st := s_law_random) l36 c36 k36, (fun_mk (st := s_law_random) l36 c36 k36).binds (ps := ["_law_script", "_law_salt"]) fun _ _ _ _ _ _ us hl => match us, hl with | [_, _], _ => rfl⟩
    law_below := ⟨PySem.W.mg_of X G a37, k37, _, fun_mk (st := s_law_below) l37 c37 k37, (fun_mk (st := s_law_below) l37 c37 k37).binds (ps := ["_law_d", "_law_limit"]) fun _ _ _ _ _ _ us hl => match us, hl with | [_, _], _ => rfl⟩
    law_notes := ⟨PySem.W.mg_of X G a38, k38, _, fun_mk (st := s_law_notes) l38 c38 k38, (fun_mk (st := s_law_notes) l38 c38 k38).binds (ps := ["_law_d", "_law_most"]) fun _ _ _ _ _ _ us hl => match us, hl with | [_, _], _ => rfl⟩
    law_fits := ⟨PySem.W.mg_of X G a39, k39, _, fun_mk (st := s_law_fits) l39 c39 k39, (fun_mk (st := s_law_fits) l39 c39 k39).binds (ps := ["_law_notes_here"]) fun _ _ _ _ _ _ us hl => match us, hl with | [_], _ => rfl⟩
    law_shifted := ⟨PySem.W.mg_of X G a40, k40, _, fun_mk (st := s_law_shifted) l40 c40 k40, (fun_mk (st := s_law_shifted) l40 c40 k40).binds (ps := ["_law_notes_here", "_law_steps"]) fun _ _ _ _ _ _ us hl => match us, hl with | [_, _], _ => rfl⟩
    law_in_range := ⟨PySem.W.mg_of X G a41, k41, _, fun_mk (st := s_law_in_range) l41 c41 k41, (fun_mk (st := s_law_in_range) l41 c41 k41).binds (ps := ["_law_d", "_law_notes_here"]) fun _ _ _ _ _ _ us hl => match us, hl with | [_, _], _ => rfl⟩
    law_row := ⟨PySem.W.mg_of X G a42, k42, _, fun_mk (st := s_law_row) l42 c42 k42, (fun_mk (st := s_law_row) l42 c42 k42).binds (ps := ["_law_notes_here"]) fun _ _ _ _ _ _ us hl => match us, hl with | [_], _ => rfl⟩
    law_words := ⟨PySem.W.mg_of X G a43, k43, _, fun_mk (st := s_law_words) l43 c43 k43, (fun_mk (st := s_law_words) l43 c43 k43).binds (ps := ["_law_notes_here"]) fun _ _ _ _ _ _ us hl => match us, hl with | [_], _ => rfl⟩
    law_melody := ⟨PySem.W.mg_of X G a44, k44, _, fun_mk (st := s_law_melody) l44 c44 k44, (fun_mk (st := s_law_melody) l44 c44 k44).binds (ps := ["_law_notes_here"]) fun _ _ _ _ _ _ us hl => match us, hl with | [_], _ => rfl⟩
    law_some_beat := ⟨PySem.W.mg_of X G a45, k45, _, fun_mk (st := s_law_some_beat) l45 c45 k45, (fun_mk (st := s_law_some_beat) l45 c45 k45).binds (ps := ["_law_d"]) fun _ _ _ _ _ _ us hl => match us, hl with | [_], _ => rfl⟩
    law_heard := ⟨PySem.W.mg_of X G a46, k46, _, fun_mk (st := s_law_heard) l46 c46 k46, (fun_mk (st := s_law_heard) l46 c46 k46).binds (ps := ["_law_row_here", "_law_later", "_law_delay", "_law_beat"]) fun _ _ _ _ _ _ us hl => match us, hl with | [_, _, _, _], _ => rfl⟩
    law_error_of := ⟨PySem.W.mg_of X G a47, k47, _, fun_mk (st := s_law_error_of) l47 c47 k47, (fun_mk (st := s_law_error_of) l47 c47 k47).binds (ps := ["_law_call"]) fun _ _ _ _ _ _ us hl => match us, hl with | [_], _ => rfl⟩
    law_hear := ⟨PySem.W.mg_of X G a48, k48, _, fun_mk (st := s_law_hear) l48 c48 k48, (fun_mk (st := s_law_hear) l48 c48 k48).binds (ps := ["_law_listener", "_law_beat", "_law_pitches"]) fun _ _ _ _ _ _ us hl => match us, hl with | [_, _, _], _ => rfl⟩
    law_equal := ⟨PySem.W.mg_of X G a49, k49, _, fun_mk (st := s_law_equal) l49 c49 k49, (fun_mk (st := s_law_equal) l49 c49 k49).binds (ps := ["_law_actual", "_law_expected"]) fun _ _ _ _ _ _ us hl => match us, hl with | [_, _], _ => rfl⟩
    law := ⟨PySem.W.mg_of X G a50, k50, _, fun_mk (st := s_law) l50 c50 k50, (fun_mk (st := s_law) l50 c50 k50).binds (ps := ["_law_script"]) fun _ _ _ _ _ _ us hl => match us, hl with | [_], _ => rfl⟩
    L_law := ⟨⟨_, _, _, _, _, _, _, _, l50⟩, c50, kr_hd_law, kr_no_law⟩
    b_abs := PySem.W.mg_none_of X G b_abs
    b_all := PySem.W.mg_none_of X G b_all
    b_any := PySem.W.mg_none_of X G b_any
    b_bool := PySem.W.mg_none_of X G b_bool
    b_enumerate := PySem.W.mg_none_of X G b_enumerate
    b_int := PySem.W.mg_none_of X G b_int
    b_isinstance := PySem.W.mg_none_of X G b_isinstance
    b_len := PySem.W.mg_none_of X G b_len
    b_list := PySem.W.mg_none_of X G b_list
    b_max := PySem.W.mg_none_of X G b_max
    b_min := PySem.W.mg_none_of X G b_min
    b_range := PySem.W.mg_none_of X G b_range
    b_sorted := PySem.W.mg_none_of X G b_sorted
    b_str := PySem.W.mg_none_of X G b_str
    b_tuple := PySem.W.mg_none_of X G b_tuple
    errt := kr_errt
    errc := kr_errc
    eg2 := eg2
    eg3 := eg3
    bv_ValueError := PySem.W.mg_none_of X G b_ValueError
  }
end KK

end
section
namespace KK
open PySem PySem.Spec PyProof.Rows L2 DL
/-- what the end asks of the law's body -/
def LawBody : Prop := ∀ {P : Program} {w : World} {K : PySem.W.Frag} {mg : Str → Option Value} {base : Heap} {a : Adr} (T : Txt K mg a) (TB : LamX.TabB base mg a.cA_law a.PA_law), BodyOkL P w K mg base 29 ["_law_script", "_law_d", "_law_notes_here", "_law_shift", "_law_limit", "_law_facts", "_law_row_here", "_law_later", "_law_listener", "_law_left", "_law_truth", "_law_turn", "_law_beat", "_law_pitches", "_law_kept", "_law_worst", "_law_most", "_law_chords", "_law_delay", "_law_pitch", "_law_chord"] s_law a.cA_law lamQ (spLawL a.PA_law lamQ)
end KK
end
section
set_option maxRecDepth 100000
open PySem PySem.W PyProof.Rows in
set_option maxRecDepth 100000 in
set_option maxHeartbeats 0 in
theorem KK.fin_of (okl : KK.LawBody) : PySem.Challenge.rw_canonvoices_k12_heard_delays.Holds := by
  refine hd ?_
  k_fill
  refine DL.walkL (l := PySem.Challenge.rw_canonvoices_k12_heard_delays) rfl rfl (by first | rfl | decide +kernel | kernel_rfl) (fun w h Y => by first | exact PySem.W.kIn_of Y | exact PySem.W.km_in_of Y) ?F
  case F =>
    intro w mg fa h KX G hmg
    have T : ∃ a, KK.Txt _ mg a := ⟨_, by
      refine' KK.mk_txt KX G ?xCanonError ?rdCanonError ?gaCanonError ?atCanonError ?xInvalidMelody ?xkInvalidMelody ?esInvalidMelody ?etInvalidMelody ?a1 ?i1 ?l1 ?c1 ?k1 ?kr_oxInvalidMelody ?saInvalidMelody ?tfInvalidMelody ?n_InvalidMelody_index ?xInvalidRound ?xkInvalidRound ?esInvalidRound ?etInvalidRound ?a2 ?i2 ?l2 ?c2 ?k2 ?kr_oxInvalidRound ?saInvalidRound ?tfInvalidRound ?n_InvalidRound_part ?n_InvalidRound_index ?xOutOfRange ?xkOutOfRange ?esOutOfRange ?etOutOfRange ?kr_emOutOfRange ?xInvalidNumber ?xkInvalidNumber ?esInvalidNumber ?etInvalidNumber ?kr_emInvalidNumber ?xTooLong ?xkTooLong ?esTooLong ?etTooLong ?kr_emTooLong ?xTextFault ?xkTextFault ?esTextFault ?etTextFault ?a3 ?i3 ?l3 ?c3 ?k3 ?kr_oxTextFault ?saTextFault ?tfTextFault ?n_TextFault_word ?xInvalidCode ?xkInvalidCode ?esInvalidCode ?etInvalidCode ?a4 ?i4 ?l4 ?c4 ?k4 ?kr_oxInvalidCode ?saInvalidCode ?tfInvalidCode ?n_InvalidCode_place ?xContradiction ?xkContradiction ?esContradiction ?etContradiction ?kr_emContradiction ?xUnknownVoice ?xkUnknownVoice ?esUnknownVoice ?etUnknownVoice ?kr_emUnknownVoice ?xTooManyVoices ?xkTooManyVoices ?esTooManyVoices ?etTooManyVoices ?kr_emTooManyVoices ?xInvalidName ?xkInvalidName ?esInvalidName ?etInvalidName ?kr_emInvalidName ?xUnknownName ?xkUnknownName ?esUnknownName ?etUnknownName ?kr_emUnknownName ?xInvalidOperation ?xkInvalidOperation ?esInvalidOperation ?etInvalidOperation ?a5 ?i5 ?l5 ?c5 ?k5 ?kr_oxInvalidOperation ?saInvalidOperation ?tfInvalidOperation ?n_InvalidOperation_place ?v_MAX_NUMBER ?v_DIGITS ?v_REST ?a6 ?l6 ?c6 ?k6 ?a7 ?l7 ?c7 ?k7 ?xMelody ?xkMelody ?pgMelody ?hdMelody ?poMelody ?saMelody ?mkMelody ?rdMelody ?gaMelody ?y1Melody ?y2Melody ?y3Melody ?y4Melody ?v_Melody_MAX_NOTES ?v_Melody_MAX_BEATS ?v_Melody_MAX_PITCH ?a8 ?i8 ?l8 ?c8 ?k8 ?a9 ?r9 ?n9 ?l9 ?c9 ?k9 ?a10 ?g10 ?t10 ?r10 ?l10 ?c10 ?k10 ?a11 ?g11 ?t11 ?r11 ?l11 ?c11 ?k11 ?a12 ?g12 ?t12 ?r12 ?l12 ?c12 ?k12 ?a13 ?i13 ?l13 ?c13 ?k13 ?a14 ?i14 ?l14 ?c14 ?k14 ?a15 ?i15 ?l15 ?c15 ?k15 ?a16 ?i16 ?l16 ?c16 ?k16 ?a17 ?i17 ?l17 ?c17 ?k17 ?a18 ?i18 ?l18 ?c18 ?k18 ?a19 ?i19 ?l19 ?c19 ?k19 ?a20 ?i20 ?l20 ?c20 ?k20 ?a21 ?i21 ?l21 ?c21 ?k21 ?a22 ?i22 ?l22 ?c22 ?k22 ?a23 ?i23 ?l23 ?c23 ?k23 ?a24 ?i24 ?l24 ?c24 ?k24 ?a25 ?i25 ?l25 ?c25 ?k25 ?fi_Melody_call ?fi_Melody_getitem ?ne_Melody ?sfMelody ?sb_Melody_int ?sb_Melody_bool ?sb_Melody_str ?sb_Melody_NoneType ?sb_Melody_tuple ?sb_Melody_list ?rr_Melody_rshift ?rr_Melody_mul ?n_Melody_given ?n_Melody_row ?a26 ?l26 ?c26 ?k26 ?a27 ?l27 ?c27 ?k27 ?v_MAX_SHIFT ?a28 ?l28 ?c28 ?k28 ?a29 ?l29 ?c29 ?k29 ?v_MAX_LIMIT ?v_MAX_TRIED ?xListener ?xkListener ?pgListener ?hdListener ?poListener ?saListener ?mkListener ?rdListener ?gaListener ?y1Listener ?y2Listener ?y3Listener ?y4Listener ?a30 ?i30 ?l30 ?c30 ?k30 ?a31 ?i31 ?l31 ?c31 ?k31 ?a32 ?i32 ?l32 ?c32 ?k32 ?a33 ?g33 ?t33 ?r33 ?l33 ?c33 ?k33 ?a34 ?g34 ?t34 ?r34 ?l34 ?c34 ?k34 ?a35 ?i35 ?l35 ?c35 ?k35 ?n_Listener_one ?n_Listener_other ?n_Listener_kept ?n_Listener_facts ?a36 ?l36 ?c36 ?k36 ?a37 ?l37 ?c37 ?k37 ?a38 ?l38 ?c38 ?k38 ?a39 ?l39 ?c39 ?k39 ?a40 ?l40 ?c40 ?k40 ?a41 ?l41 ?c41 ?k41 ?a42 ?l42 ?c42 ?k42 ?a43 ?l43 ?c43 ?k43 ?a44 ?l44 ?c44 ?k44 ?a45 ?l45 ?c45 ?k45 ?a46 ?l46 ?c46 ?k46 ?a47 ?l47 ?c47 ?k47 ?a48 ?l48 ?c48 ?k48 ?a49 ?l49 ?c49 ?k49 ?a50 ?l50 ?c50 ?k50 ?lc_law ?rf_pa_law ?kr_hd_law ?kr_no_law ?b_abs ?b_all ?b_any ?b_bool ?b_enumerate ?b_int ?b_isinstance ?b_len ?b_list ?b_max ?b_min ?b_range ?b_sorted ?b_str ?b_tuple ?kr_errt ?kr_errc ?eg2 ?eg3 ?b_ValueError
      (case xCanonError => k_is)
      (case rdCanonError => k_is)
      (case gaCanonError => k_is)
      (case atCanonError => k_is)
      (case xInvalidMelody => k_is)
      (case xkInvalidMelody => k_is)
      (case esInvalidMelody => k_is)
      (case etInvalidMelody => k_is)
      (case a1 => k_is)
      (case i1 => k_is)
      (case l1 => k_is)
      (case c1 => k_is)
      (case k1 => k_is)
      (case kr_oxInvalidMelody => kernel_rfl)
      (case saInvalidMelody => k_is)
      (case tfInvalidMelody => k_is)
      (case n_InvalidMelody_index => k_is)
      (case xInvalidRound => k_is)
      (case xkInvalidRound => k_is)
      (case esInvalidRound => k_is)
      (case etInvalidRound => k_is)
      (case a2 => k_is)
      (case i2 => k_is)
      (case l2 => k_is)
      (case c2 => k_is)
      (case k2 => k_is)
      (case kr_oxInvalidRound => kernel_rfl)
      (case saInvalidRound => k_is)
      (case tfInvalidRound => k_is)
      (case n_InvalidRound_part => k_is)
      (case n_InvalidRound_index => k_is)
      (case xOutOfRange => k_is)
      (case xkOutOfRange => k_is)
      (case esOutOfRange => k_is)
      (case etOutOfRange => k_is)
      (case kr_emOutOfRange => kernel_rfl)
      (case xInvalidNumber => k_is)
      (case xkInvalidNumber => k_is)
      (case esInvalidNumber => k_is)
      (case etInvalidNumber => k_is)
      (case kr_emInvalidNumber => kernel_rfl)
      (case xTooLong => k_is)
      (case xkTooLong => k_is)
      (case esTooLong => k_is)
      (case etTooLong => k_is)
      (case kr_emTooLong => kernel_rfl)
      (case xTextFault => k_is)
      (case xkTextFault => k_is)
      (case esTextFault => k_is)
      (case etTextFault => k_is)
      (case a3 => k_is)
      (case i3 => k_is)
      (case l3 => k_is)
      (case c3 => k_is)
      (case k3 => k_is)
      (case kr_oxTextFault => kernel_rfl)
      (case saTextFault => k_is)
      (case tfTextFault => k_is)
      (case n_TextFault_word => k_is)
      (case xInvalidCode => k_is)
      (case xkInvalidCode => k_is)
      (case esInvalidCode => k_is)
      (case etInvalidCode => k_is)
      (case a4 => k_is)
      (case i4 => k_is)
      (case l4 => k_is)
      (case c4 => k_is)
      (case k4 => k_is)
      (case kr_oxInvalidCode => kernel_rfl)
      (case saInvalidCode => k_is)
      (case tfInvalidCode => k_is)
      (case n_InvalidCode_place => k_is)
      (case xContradiction => k_is)
      (case xkContradiction => k_is)
      (case esContradiction => k_is)
      (case etContradiction => k_is)
      (case kr_emContradiction => kernel_rfl)
      (case xUnknownVoice => k_is)
      (case xkUnknownVoice => k_is)
      (case esUnknownVoice => k_is)
      (case etUnknownVoice => k_is)
      (case kr_emUnknownVoice => kernel_rfl)
      (case xTooManyVoices => k_is)
      (case xkTooManyVoices => k_is)
      (case esTooManyVoices => k_is)
      (case etTooManyVoices => k_is)
      (case kr_emTooManyVoices => kernel_rfl)
      (case xInvalidName => k_is)
      (case xkInvalidName => k_is)
      (case esInvalidName => k_is)
      (case etInvalidName => k_is)
      (case kr_emInvalidName => kernel_rfl)
      (case xUnknownName => k_is)
      (case xkUnknownName => k_is)
      (case esUnknownName => k_is)
      (case etUnknownName => k_is)
      (case kr_emUnknownName => kernel_rfl)
      (case xInvalidOperation => k_is)
      (case xkInvalidOperation => k_is)
      (case esInvalidOperation => k_is)
      (case etInvalidOperation => k_is)
      (case a5 => k_is)
      (case i5 => k_is)
      (case l5 => k_is)
      (case c5 => k_is)
      (case k5 => k_is)
      (case kr_oxInvalidOperation => kernel_rfl)
      (case saInvalidOperation => k_is)
      (case tfInvalidOperation => k_is)
      (case n_InvalidOperation_place => k_is)
      (case v_MAX_NUMBER => k_is)
      (case v_DIGITS => k_is)
      (case v_REST => k_is)
      (case a6 => k_is)
      (case l6 => k_is)
      (case c6 => k_is)
      (case k6 => k_is)
      (case a7 => k_is)
      (case l7 => k_is)
      (case c7 => k_is)
      (case k7 => k_is)
      (case xMelody => k_is)
      (case xkMelody => k_is)
      (case pgMelody => k_is)
      (case hdMelody => k_is)
      (case poMelody => k_is)
      (case saMelody => k_is)
      (case mkMelody => k_is)
      (case rdMelody => k_is)
      (case gaMelody => k_is)
      (case y1Melody => k_is)
      (case y2Melody => k_is)
      (case y3Melody => k_is)
      (case y4Melody => k_is)
      (case v_Melody_MAX_NOTES => k_is)
      (case v_Melody_MAX_BEATS => k_is)
      (case v_Melody_MAX_PITCH => k_is)
      (case a8 => k_is)
      (case i8 => k_is)
      (case l8 => k_is)
      (case c8 => k_is)
      (case k8 => k_is)
      (case a9 => k_is)
      (case r9 => k_is)
      (case n9 => k_is)
      (case l9 => k_is)
      (case c9 => k_is)
      (case k9 => k_is)
      (case a10 => k_is)
      (case g10 => k_is)
      (case t10 => k_is)
      (case r10 => k_is)
      (case l10 => k_is)
      (case c10 => k_is)
      (case k10 => k_is)
      (case a11 => k_is)
      (case g11 => k_is)
      (case t11 => k_is)
      (case r11 => k_is)
      (case l11 => k_is)
      (case c11 => k_is)
      (case k11 => k_is)
      (case a12 => k_is)
      (case g12 => k_is)
      (case t12 => k_is)
      (case r12 => k_is)
      (case l12 => k_is)
      (case c12 => k_is)
      (case k12 => k_is)
      (case a13 => k_is)
      (case i13 => k_is)
      (case l13 => k_is)
      (case c13 => k_is)
      (case k13 => k_is)
      (case a14 => k_is)
      (case i14 => k_is)
      (case l14 => k_is)
      (case c14 => k_is)
      (case k14 => k_is)
      (case a15 => k_is)
      (case i15 => k_is)
      (case l15 => k_is)
      (case c15 => k_is)
      (case k15 => k_is)
      (case a16 => k_is)
      (case i16 => k_is)
      (case l16 => k_is)
      (case c16 => k_is)
      (case k16 => k_is)
      (case a17 => k_is)
      (case i17 => k_is)
      (case l17 => k_is)
      (case c17 => k_is)
      (case k17 => k_is)
      (case a18 => k_is)
      (case i18 => k_is)
      (case l18 => k_is)
      (case c18 => k_is)
      (case k18 => k_is)
      (case a19 => k_is)
      (case i19 => k_is)
      (case l19 => k_is)
      (case c19 => k_is)
      (case k19 => k_is)
      (case a20 => k_is)
      (case i20 => k_is)
      (case l20 => k_is)
      (case c20 => k_is)
      (case k20 => k_is)
      (case a21 => k_is)
      (case i21 => k_is)
      (case l21 => k_is)
      (case c21 => k_is)
      (case k21 => k_is)
      (case a22 => k_is)
      (case i22 => k_is)
      (case l22 => k_is)
      (case c22 => k_is)
      (case k22 => k_is)
      (case a23 => k_is)
      (case i23 => k_is)
      (case l23 => k_is)
      (case c23 => k_is)
      (case k23 => k_is)
      (case a24 => k_is)
      (case i24 => k_is)
      (case l24 => k_is)
      (case c24 => k_is)
      (case k24 => k_is)
      (case a25 => k_is)
      (case i25 => k_is)
      (case l25 => k_is)
      (case c25 => k_is)
      (case k25 => k_is)
      (case fi_Melody_call => k_is)
      (case fi_Melody_getitem => k_is)
      (case ne_Melody => k_is)
      (case sfMelody => k_is)
      (case sb_Melody_int => k_is)
      (case sb_Melody_bool => k_is)
      (case sb_Melody_str => k_is)
      (case sb_Melody_NoneType => k_is)
      (case sb_Melody_tuple => k_is)
      (case sb_Melody_list => k_is)
      (case rr_Melody_rshift => k_is)
      (case rr_Melody_mul => k_is)
      (case n_Melody_given => k_is)
      (case n_Melody_row => k_is)
      (case a26 => k_is)
      (case l26 => k_is)
      (case c26 => k_is)
      (case k26 => k_is)
      (case a27 => k_is)
      (case l27 => k_is)
      (case c27 => k_is)
      (case k27 => k_is)
      (case v_MAX_SHIFT => k_is)
      (case a28 => k_is)
      (case l28 => k_is)
      (case c28 => k_is)
      (case k28 => k_is)
      (case a29 => k_is)
      (case l29 => k_is)
      (case c29 => k_is)
      (case k29 => k_is)
      (case v_MAX_LIMIT => k_is)
      (case v_MAX_TRIED => k_is)
      (case xListener => k_is)
      (case xkListener => k_is)
      (case pgListener => k_is)
      (case hdListener => k_is)
      (case poListener => k_is)
      (case saListener => k_is)
      (case mkListener => k_is)
      (case rdListener => k_is)
      (case gaListener => k_is)
      (case y1Listener => k_is)
      (case y2Listener => k_is)
      (case y3Listener => k_is)
      (case y4Listener => k_is)
      (case a30 => k_is)
      (case i30 => k_is)
      (case l30 => k_is)
      (case c30 => k_is)
      (case k30 => k_is)
      (case a31 => k_is)
      (case i31 => k_is)
      (case l31 => k_is)
      (case c31 => k_is)
      (case k31 => k_is)
      (case a32 => k_is)
      (case i32 => k_is)
      (case l32 => k_is)
      (case c32 => k_is)
      (case k32 => k_is)
      (case a33 => k_is)
      (case g33 => k_is)
      (case t33 => k_is)
      (case r33 => k_is)
      (case l33 => k_is)
      (case c33 => k_is)
      (case k33 => k_is)
      (case a34 => k_is)
      (case g34 => k_is)
      (case t34 => k_is)
      (case r34 => k_is)
      (case l34 => k_is)
      (case c34 => k_is)
      (case k34 => k_is)
      (case a35 => k_is)
      (case i35 => k_is)
      (case l35 => k_is)
      (case c35 => k_is)
      (case k35 => k_is)
      (case n_Listener_one => k_is)
      (case n_Listener_other => k_is)
      (case n_Listener_kept => k_is)
      (case n_Listener_facts => k_is)
      (case a36 => k_is)
      (case l36 => k_is)
      (case c36 => k_is)
      (case k36 => k_is)
      (case a37 => k_is)
      (case l37 => k_is)
      (case c37 => k_is)
      (case k37 => k_is)
      (case a38 => k_is)
      (case l38 => k_is)
      (case c38 => k_is)
      (case k38 => k_is)
      (case a39 => k_is)
      (case l39 => k_is)
      (case c39 => k_is)
      (case k39 => k_is)
      (case a40 => k_is)
      (case l40 => k_is)
      (case c40 => k_is)
      (case k40 => k_is)
      (case a41 => k_is)
      (case l41 => k_is)
      (case c41 => k_is)
      (case k41 => k_is)
      (case a42 => k_is)
      (case l42 => k_is)
      (case c42 => k_is)
      (case k42 => k_is)
      (case a43 => k_is)
      (case l43 => k_is)
      (case c43 => k_is)
      (case k43 => k_is)
      (case a44 => k_is)
      (case l44 => k_is)
      (case c44 => k_is)
      (case k44 => k_is)
      (case a45 => k_is)
      (case l45 => k_is)
      (case c45 => k_is)
      (case k45 => k_is)
      (case a46 => k_is)
      (case l46 => k_is)
      (case c46 => k_is)
      (case k46 => k_is)
      (case a47 => k_is)
      (case l47 => k_is)
      (case c47 => k_is)
      (case k47 => k_is)
      (case a48 => k_is)
      (case l48 => k_is)
      (case c48 => k_is)
      (case k48 => k_is)
      (case a49 => k_is)
      (case l49 => k_is)
      (case c49 => k_is)
      (case k49 => k_is)
      (case a50 => k_is)
      (case l50 => k_is)
      (case c50 => k_is)
      (case k50 => k_is)
      (case lc_law => k_is)
      (case rf_pa_law => (with_unfolding_all rfl))
      (case kr_hd_law => kernel_rfl)
      (case kr_no_law => kernel_rfl)
      (case b_abs => k_is)
      (case b_all => k_is)
      (case b_any => k_is)
      (case b_bool => k_is)
      (case b_enumerate => k_is)
      (case b_int => k_is)
      (case b_isinstance => k_is)
      (case b_len => k_is)
      (case b_list => k_is)
      (case b_max => k_is)
      (case b_min => k_is)
      (case b_range => k_is)
      (case b_sorted => k_is)
      (case b_str => k_is)
      (case b_tuple => k_is)
      (case kr_errt => kernel_rfl)
      (case kr_errc => kernel_rfl)
      (case eg2 => k_is)
      (case eg3 => k_is)
      (case b_ValueError => k_is)⟩
    obtain ⟨a, T⟩ := T
    have e : a.f_law = fa := by
      have h1 := T.law.g
      have h2 : mg "law" = some (.ref fa) := hmg
      rw [h1] at h2
      injection h2 with h2
      injection h2
    subst e
    exact ⟨KK.s_law, a.cA_law, a.PA_law, _, T.L_law, KK.sc_law, fun _ _ _ _ _ _ _ => BindsTo.of_eq rfl, fun base TB => okl T TB⟩

end

section
set_option maxRecDepth 100000
set_option maxHeartbeats 4000000
set_option autoImplicit false
namespace KK
open PySem PySem.Spec PyProof.Rows L2 DL
set_option hygiene false in
local macro_rules | `(tactic| walk_at "go") => `(tactic| (repeat (first
  | (with_reducible refine as_DE ?_; (first
    | (with_reducible refine as_name ?_; (first
    | (with_reducible refine' de_name (by assumption) ?hi ?hd ?_; (case hi => (repeat (with_reducible constructor))); (case hd => (repeat (with_reducible constructor))))
    | with_reducible refine de_cint (by assumption) T.v_MAX_NUMBER ?_
    | with_reducible refine de_cstr (by assumption) T.v_DIGITS ?_
    | with_reducible refine de_cstr (by assumption) T.v_REST ?_
    | with_reducible refine de_cint (by assumption) T.v_MAX_SHIFT ?_
    | with_reducible refine de_cint (by assumption) T.v_MAX_LIMIT ?_
    | with_reducible refine de_cint (by assumption) T.v_MAX_TRIED ?_
    | with_reducible refine de_bltn (T := "bool") (by assumption) T.b_bool boot_bool ?_
    | with_reducible refine de_bltn (T := "int") (by assumption) T.b_int boot_int ?_
    | with_reducible refine de_bltn (T := "list") (by assumption) T.b_list boot_list ?_
    | with_reducible refine de_bltn (T := "str") (by assumption) T.b_str boot_str ?_
    | with_reducible refine de_bltn (T := "tuple") (by assumption) T.b_tuple boot_tuple ?_))
    | (with_reducible refine as_call ?_; (first
    | with_reducible refine de_append ?_
    | with_reducible refine de_join ?_
    | with_reducible refine de_split ?_
    | with_reducible refine de_extend ?_
    | with_reducible refine de_call (by assumption) T.is_int_in.g T.is_int_in.k ?_
    | with_reducible refine de_call (by assumption) T.is_note.g T.is_note.k ?_
    | with_reducible refine de_call (by assumption) T.Melody.g T.Melody.k ?_
    | with_reducible refine de_callS (by assumption) T.Melody.g T.Melody.k ?_
    | with_reducible refine de_call0 (by assumption) T.Melody.g T.Melody.k ?_
    | with_reducible refine de_callKw (by assumption) T.Melody.g T.Melody.k ?_
    | with_reducible refine de_call (by assumption) T.melody_of.g T.melody_of.k ?_
    | with_reducible refine de_call (by assumption) T.is_number.g T.is_number.k ?_
    | with_reducible refine de_call (by assumption) T.heard.g T.heard.k ?_
    | with_reducible refine de_call (by assumption) T.check_shift.g T.check_shift.k ?_
    | with_reducible refine de_call (by assumption) T.Listener.g T.Listener.k ?_
    | with_reducible refine de_callS (by assumption) T.Listener.g T.Listener.k ?_
    | with_reducible refine de_call0 (by assumption) T.Listener.g T.Listener.k ?_
    | with_reducible refine de_callKw (by assumption) T.Listener.g T.Listener.k ?_
    | with_reducible refine de_call (by assumption) T.law_random.g T.law_random.k ?_
    | with_reducible refine de_call (by assumption) T.law_below.g T.law_below.k ?_
    | with_reducible refine de_call (by assumption) T.law_notes.g T.law_notes.k ?_
    | with_reducible refine de_call (by assumption) T.law_fits.g T.law_fits.k ?_
    | with_reducible refine de_call (by assumption) T.law_shifted.g T.law_shifted.k ?_
    | with_reducible refine de_call (by assumption) T.law_in_range.g T.law_in_range.k ?_
    | with_reducible refine de_call (by assumption) T.law_row.g T.law_row.k ?_
    | with_reducible refine de_call (by assumption) T.law_words.g T.law_words.k ?_
    | with_reducible refine de_call (by assumption) T.law_melody.g T.law_melody.k ?_
    | with_reducible refine de_call (by assumption) T.law_some_beat.g T.law_some_beat.k ?_
    | with_reducible refine de_call (by assumption) T.law_heard.g T.law_heard.k ?_
    | with_reducible refine de_call (by assumption) T.law_error_of.g T.law_error_of.k ?_
    | with_reducible refine de_call (by assumption) T.law_hear.g T.law_hear.k ?_
    | with_reducible refine de_call (by assumption) T.law_equal.g T.law_equal.k ?_
    | with_reducible refine de_call (by assumption) T.law.g T.law.k ?_
    | with_reducible refine de_callB (id := "abs") (by assumption) T.b_abs boot_abs ?_
    | with_reducible refine de_callB (id := "all") (by assumption) T.b_all boot_all ?_
    | with_reducible refine de_callB (id := "any") (by assumption) T.b_any boot_any ?_
    | with_reducible refine de_callT (T := "bool") (by assumption) T.b_bool boot_bool ?_
    | with_reducible refine de_callT (T := "int") (by assumption) T.b_int boot_int ?_
    | with_reducible refine de_callB (id := "isinstance") (by assumption) T.b_isinstance boot_isinstance ?_
    | with_reducible refine de_callB (id := "len") (by assumption) T.b_len boot_len ?_
    | with_reducible refine de_callT (T := "list") (by assumption) T.b_list boot_list ?_
    | with_reducible refine de_callB (id := "max") (by assumption) T.b_max boot_max ?_
    | with_reducible refine de_callB (id := "min") (by assumption) T.b_min boot_min ?_
    | with_reducible refine de_callB (id := "sorted") (by assumption) T.b_sorted boot_sorted ?_
    | with_reducible refine de_callT (T := "str") (by assumption) T.b_str boot_str ?_
    | with_reducible refine de_callT (T := "tuple") (by assumption) T.b_tuple boot_tuple ?_))
    | (with_reducible refine as_con ?_; (first
    | with_reducible refine de_int ?_
    | with_reducible refine de_str ?_
    | with_reducible refine de_non ?_
    | with_reducible refine de_bl ?_))
    | with_reducible refine de_revL ?_
    | with_reducible refine de_bin ?_
    | with_reducible refine de_cmp ?_
    | with_reducible refine de_lele ?_
    | with_reducible refine de_if ?_
    | with_reducible refine de_ix ?_ (by with_unfolding_all (intro _ _; rfl)) (by with_unfolding_all (intro _ _; rfl))
    | with_reducible refine de_tup ?_
    | with_reducible refine de_and ?_
    | with_reducible refine de_or ?_
    | with_reducible refine de_one ?_
    | with_reducible refine de_not ?_
    | with_reducible refine de_lst ?_
    | (with_reducible refine as_attr ?_; (first
    | with_reducible refine de_fldG T.InvalidRound.cl T.n_InvalidRound_part ?_
    | with_reducible refine de_fldG T.TextFault.cl T.n_TextFault_word ?_
    | with_reducible refine de_cconst (by assumption) T.Melody T.v_Melody_MAX_NOTES ?_
    | with_reducible refine de_cconst (by assumption) T.Melody T.v_Melody_MAX_BEATS ?_
    | with_reducible refine de_cconst (by assumption) T.Melody T.v_Melody_MAX_PITCH ?_
    | with_reducible refine de_fldG T.Melody.cl T.n_Melody_given ?_
    | with_reducible refine de_fldG T.Melody.cl T.n_Melody_row ?_
    | with_reducible refine de_fldG T.Listener.cl T.n_Listener_one ?_
    | with_reducible refine de_fldG T.Listener.cl T.n_Listener_other ?_
    | with_reducible refine de_fldG T.Listener.cl T.n_Listener_kept ?_
    | with_reducible refine de_fldG T.Listener.cl T.n_Listener_facts ?_
    | with_reducible refine de_fldN T.n_InvalidMelody_index ?_
    | with_reducible refine de_fldN T.n_InvalidCode_place ?_))))
  | (with_reducible refine as_DA ?_; (first
    | with_reducible refine da_cons ?_
    | with_reducible refine da_nil ?_
    | with_reducible refine da_star ?_))
  | (with_reducible refine as_DSs ?_; (first
    | with_reducible refine dss_one ?_
    | with_reducible refine dss_cons ?_
    | with_reducible refine dss_nil ?_))
  | (with_reducible refine as_DS ?_; (first
    | with_reducible refine ds_ret ?_
    | with_reducible refine ds_if ?_
    | with_reducible refine ds_expr ?_
    | with_reducible refine ds_pass ?_
    | with_reducible refine ds_retN ?_
    | (with_reducible refine' ds_set (hl := ?hl) (by assumption) ?hi ?_; (case hl => ((repeat (with_reducible constructor)); done)); (case hi => (repeat (with_reducible constructor))))
    | (with_reducible refine' ds_par2 (hx := ?hx) (hy := ?hy) (by assumption) ?hi ?hj ?hk ?_; (case hx => ((repeat (with_reducible constructor)); done)); (case hy => ((repeat (with_reducible constructor)); done)); (case hi => repeat (with_reducible constructor)); (case hj => repeat (with_reducible constructor)); (case hk => with_unfolding_all rfl))
    | (with_reducible refine' ds_par3 (hx := ?hx) (hy := ?hy) (hz := ?hz) (by assumption) ?hi ?hj ?hl ?hk ?hm ?ho ?_; (case hx => ((repeat (with_reducible constructor)); done)); (case hy => ((repeat (with_reducible constructor)); done)); (case hz => ((repeat (with_reducible constructor)); done)); (case hi => repeat (with_reducible constructor)); (case hj => repeat (with_reducible constructor)); (case hl => repeat (with_reducible constructor)); (case hk => with_unfolding_all rfl); (case hm => with_unfolding_all rfl); (case ho => with_unfolding_all rfl))
    | (with_reducible refine' ds_aug (hl := ?hl) (by assumption) ?hi ?hd ?_; (case hl => ((repeat (with_reducible constructor)); done)); (case hi => repeat (with_reducible constructor)); (case hd => repeat (with_reducible constructor)))
    | with_reducible refine ds_fld ?_
    | with_reducible refine ds_asg ?_
    | with_reducible refine ds_continue ?_
    | with_reducible refine ds_break ?_))
  | (with_reducible refine as_DT ?_; (first
    | with_reducible refine dt_cmp ?_
    | with_reducible refine dt_lele ?_
    | with_reducible refine dt_not ?_
    | with_reducible refine dt_w (dw_and ?_)
    | with_reducible refine dt_w (dw_or ?_)
    | with_reducible refine dt_val ?_))
  | (with_reducible refine as_DW ?_; (first
    | with_reducible refine dw_and ?_
    | with_reducible refine dw_or ?_
    | with_reducible refine dw_one ?_))
  | (with_reducible refine as_DB ?_; (first
    | with_reducible refine db_add ?_
    | with_reducible refine db_sub ?_
    | with_reducible refine db_lt ?_
    | with_reducible refine db_le ?_
    | with_reducible refine db_gt ?_
    | with_reducible refine db_ge ?_
    | with_reducible refine db_eq_int ?_
    | with_reducible refine db_ne_int ?_
    | with_reducible refine db_eq_str ?_
    | with_reducible refine db_ne_str ?_
    | with_reducible refine db_isN ?_
    | with_reducible refine db_notN ?_
    | with_reducible refine db_iadd ?_
    | with_reducible refine db_isub ?_
    | with_reducible refine db_eq_bl ?_
    | with_reducible refine db_ne_bl ?_
    | with_reducible refine db_in_sign ?_
    | with_reducible refine db_notin_sign ?_
    | with_reducible refine db_mul (cm_r (by decide) (by decide)) ?_
    | with_reducible refine db_mul (cm_l (by decide) (by decide)) ?_
    | with_reducible refine db_fdiv (cdiv_ (by decide) (by decide)) ?_
    | with_reducible refine db_mod (by first | decide | omega) ?_
    | with_reducible refine db_pow (cpow_ (by decide) (by decide) (by decide)) ?_))
  | (with_reducible refine as_DC ?_; (first
    | with_reducible refine dc_abs ?_
    | with_reducible refine dc_intB ?_
    | with_reducible refine dc_len_own (by (repeat (first | with_reducible assumption | with_reducible constructor))) ?_
    | with_reducible refine dc_int ?_
    | with_reducible refine dc_tuple ?_
    | with_reducible refine dc_len_tup ?_
    | with_reducible refine dc_len_str (by first | assumption | omega) ?_
    | with_reducible refine dc_len_lst ?_
    | (with_reducible refine' dc_isi_int ?hty ?_; (case hty => first | assumption | (simp [tyD]; done)))
    | (with_reducible refine' dc_isi_bl ?hty ?_; (case hty => first | assumption | (simp [tyD]; done)))
    | (with_reducible refine' dc_isi_str ?hty ?_; (case hty => first | assumption | (simp [tyD]; done)))
    | (with_reducible refine' dc_isi_tup ?hty ?_; (case hty => first | assumption | (simp [tyD]; done)))
    | (with_reducible refine' dc_isi_lst ?hty ?_; (case hty => first | assumption | (simp [tyD]; done)))))
  | (with_reducible refine as_DG ?_; (first
    | (with_reducible refine' dg_name (hl := ?hl) (by assumption) ?hi ?hs ?_; (case hl => ((repeat (with_reducible constructor)); done)); (case hi => (repeat (with_reducible constructor))); (case hs => (repeat (with_reducible constructor))))
    | with_reducible refine dg_sub ?_
    | (with_reducible refine' dg_cell (hl := ?hl) (by assumption) Df.fn ?hi ?hs ?_; (case hl => ((repeat (with_reducible constructor)); done)); (case hi => (repeat (with_reducible constructor))); (case hs => (repeat (with_reducible constructor))))
    | with_reducible refine dg_tup (by assumption) (by with_unfolding_all rfl) ?_))
  | (with_reducible refine as_DX ?_; (first
    | with_reducible refine dx_tup (by first | exact atI_0 | exact atI_1 | exact atI_2 | exact atI_3) ?_
    | with_reducible refine dx_lst (by first | exact atI_0 | exact atI_1 | exact atI_2 | exact atI_3) ?_
    | with_reducible refine dx_own (by (repeat (first | with_reducible assumption | with_reducible constructor))) (by first | exact atI_0 | exact atI_1 | exact atI_2 | exact atI_3) ?_))
  | with_reducible refine ex_bl ?_
  | with_reducible refine ref_in ?_
  | with_reducible refine int_in ?_
  | with_reducible refine int_in2 ?_
  | with_reducible refine str_in ?_
  | with_reducible refine br_t ?_
  | with_reducible refine br_f ?_
  | with_reducible refine rb_t ?_
  | with_reducible refine rb_f ?_
  | with_reducible refine br_nt ?_
  | with_reducible refine br_nf ?_
  | with_reducible refine rb_nt ?_
  | with_reducible refine rb_nf ?_
  | with_reducible refine len_and (by with_unfolding_all rfl) ?_
  | with_reducible refine fld_ins (by with_unfolding_all rfl) ?_
  | with_reducible refine fld_own (by (repeat (first | with_reducible assumption | with_reducible constructor))) (by with_unfolding_all rfl) ?_
  | (with_reducible refine' sd_in ?hs ?_; (case hs => (repeat (with_reducible constructor))))
  | ((with_reducible refine' wp_in ?gw ?_); (case gw => (repeat (first | exact Wp.nil | exact SetN.head | apply SetN.tail | apply Wp.cons))))
  | (with_reducible refine' own2_in ?ga ?_; (case ga => repeat (first | with_reducible assumption | with_reducible exact At.head | with_reducible apply At.tail)))
  | (with_reducible refine' par_in ?h1 ?h2 ?_; (case h1 => repeat (with_reducible constructor)); (case h2 => repeat (with_reducible constructor)))
  | (with_reducible refine' par3_in ?h1 ?h2 ?h3 ?_; (case h1 => repeat (with_reducible constructor)); (case h2 => repeat (with_reducible constructor)); (case h3 => repeat (with_reducible constructor)))
  | with_reducible refine dpo_none ?_
  | with_reducible refine dpo_some ?_
  | (with_reducible refine' dgc_name (by assumption) ?hi ?hs ?hv ?_; (case hi => (repeat (with_reducible constructor))); (case hs => (repeat (with_reducible constructor))); (case hv => decide))
  | with_reducible refine dgc_tup (by assumption) (by with_unfolding_all rfl) ?_
  | with_reducible refine dgs_cons ?_
  | with_reducible refine dgs_nil ?_
  | with_reducible refine dgcs_cons ?_
  | with_reducible refine dgcs_nil ?_
  | with_reducible refine dts_nil ?_
  | with_reducible refine dts_one ?_
  | (with_reducible refine as_br ?_; (first
    | with_reducible refine br_et (by with_unfolding_all rfl) ?_
    | with_reducible refine br_ef (by with_unfolding_all rfl) ?_))
  | (with_reducible refine as_rb ?_; (first
    | with_reducible refine rb_et (by with_unfolding_all rfl) ?_
    | with_reducible refine rb_ef (by with_unfolding_all rfl) ?_))
  | (dsimp only))))
set_option hygiene false in
local macro_rules | `(tactic| walk_at "g1") => `(tactic| (first
  | (with_reducible exact REST)
  | (with_reducible refine as_DE ?_; (first
    | (with_reducible refine' de_listR1 (by assumption) T.b_range T.b_list ?_)
    | (with_reducible refine' de_clashes T ?hr (by assumption) ?_; (case hr => exact hr.mono (by decide)))
    | with_reducible refine de_count hr.u65 ?_
    | with_reducible refine de_index hr.u65 ?_
    | (with_reducible refine' de_callErr T (by assumption) (by assumption) (by assumption) (by assumption) hr ?ha ?_; (case ha => (repeat (first | with_reducible exact At.head | with_reducible assumption | with_reducible apply At.tail))))
    | (with_reducible refine as_name ?_; (first
    | (with_reducible refine' de_name (by assumption) ?hi ?hd ?_; (case hi => (repeat (with_reducible constructor))); (case hd => (repeat (with_reducible constructor))))
    | with_reducible refine de_cint (by assumption) T.v_MAX_NUMBER ?_
    | with_reducible refine de_cstr (by assumption) T.v_DIGITS ?_
    | with_reducible refine de_cstr (by assumption) T.v_REST ?_
    | with_reducible refine de_cint (by assumption) T.v_MAX_SHIFT ?_
    | with_reducible refine de_cint (by assumption) T.v_MAX_LIMIT ?_
    | with_reducible refine de_cint (by assumption) T.v_MAX_TRIED ?_
    | with_reducible refine de_bltn (T := "bool") (by assumption) T.b_bool boot_bool ?_
    | with_reducible refine de_bltn (T := "int") (by assumption) T.b_int boot_int ?_
    | with_reducible refine de_bltn (T := "list") (by assumption) T.b_list boot_list ?_
    | with_reducible refine de_bltn (T := "str") (by assumption) T.b_str boot_str ?_
    | with_reducible refine de_bltn (T := "tuple") (by assumption) T.b_tuple boot_tuple ?_))
    | (with_reducible refine as_call ?_; (first
    | with_reducible refine de_append ?_
    | with_reducible refine de_join ?_
    | with_reducible refine de_split ?_
    | with_reducible refine de_extend ?_
    | with_reducible refine de_call (by assumption) T.is_int_in.g T.is_int_in.k ?_
    | with_reducible refine de_call (by assumption) T.is_note.g T.is_note.k ?_
    | with_reducible refine de_call (by assumption) T.Melody.g T.Melody.k ?_
    | with_reducible refine de_callS (by assumption) T.Melody.g T.Melody.k ?_
    | with_reducible refine de_call0 (by assumption) T.Melody.g T.Melody.k ?_
    | with_reducible refine de_callKw (by assumption) T.Melody.g T.Melody.k ?_
    | with_reducible refine de_call (by assumption) T.melody_of.g T.melody_of.k ?_
    | with_reducible refine de_call (by assumption) T.is_number.g T.is_number.k ?_
    | with_reducible refine de_call (by assumption) T.heard.g T.heard.k ?_
    | with_reducible refine de_call (by assumption) T.check_shift.g T.check_shift.k ?_
    | with_reducible refine de_call (by assumption) T.Listener.g T.Listener.k ?_
    | with_reducible refine de_callS (by assumption) T.Listener.g T.Listener.k ?_
    | with_reducible refine de_call0 (by assumption) T.Listener.g T.Listener.k ?_
    | with_reducible refine de_callKw (by assumption) T.Listener.g T.Listener.k ?_
    | with_reducible refine de_call (by assumption) T.law_random.g T.law_random.k ?_
    | with_reducible refine de_call (by assumption) T.law_below.g T.law_below.k ?_
    | with_reducible refine de_call (by assumption) T.law_notes.g T.law_notes.k ?_
    | with_reducible refine de_call (by assumption) T.law_fits.g T.law_fits.k ?_
    | with_reducible refine de_call (by assumption) T.law_shifted.g T.law_shifted.k ?_
    | with_reducible refine de_call (by assumption) T.law_in_range.g T.law_in_range.k ?_
    | with_reducible refine de_call (by assumption) T.law_row.g T.law_row.k ?_
    | with_reducible refine de_call (by assumption) T.law_words.g T.law_words.k ?_
    | with_reducible refine de_call (by assumption) T.law_melody.g T.law_melody.k ?_
    | with_reducible refine de_call (by assumption) T.law_some_beat.g T.law_some_beat.k ?_
    | with_reducible refine de_call (by assumption) T.law_heard.g T.law_heard.k ?_
    | with_reducible refine de_call (by assumption) T.law_error_of.g T.law_error_of.k ?_
    | with_reducible refine de_call (by assumption) T.law_hear.g T.law_hear.k ?_
    | with_reducible refine de_call (by assumption) T.law_equal.g T.law_equal.k ?_
    | with_reducible refine de_call (by assumption) T.law.g T.law.k ?_
    | with_reducible refine de_callB (id := "abs") (by assumption) T.b_abs boot_abs ?_
    | with_reducible refine de_callB (id := "all") (by assumption) T.b_all boot_all ?_
    | with_reducible refine de_callB (id := "any") (by assumption) T.b_any boot_any ?_
    | with_reducible refine de_callT (T := "bool") (by assumption) T.b_bool boot_bool ?_
    | with_reducible refine de_callT (T := "int") (by assumption) T.b_int boot_int ?_
    | with_reducible refine de_callB (id := "isinstance") (by assumption) T.b_isinstance boot_isinstance ?_
    | with_reducible refine de_callB (id := "len") (by assumption) T.b_len boot_len ?_
    | with_reducible refine de_callT (T := "list") (by assumption) T.b_list boot_list ?_
    | with_reducible refine de_callB (id := "max") (by assumption) T.b_max boot_max ?_
    | with_reducible refine de_callB (id := "min") (by assumption) T.b_min boot_min ?_
    | with_reducible refine de_callB (id := "sorted") (by assumption) T.b_sorted boot_sorted ?_
    | with_reducible refine de_callT (T := "str") (by assumption) T.b_str boot_str ?_
    | with_reducible refine de_callT (T := "tuple") (by assumption) T.b_tuple boot_tuple ?_
    | with_reducible refine de_cmeth T.Melody.rd T.Melody_parse.c ?_
    | with_reducible refine de_meth ?_
    | with_reducible refine de_meth0 ?_))
    | (with_reducible refine as_con ?_; (first
    | with_reducible refine de_int ?_
    | with_reducible refine de_str ?_
    | with_reducible refine de_non ?_
    | with_reducible refine de_bl ?_))
    | with_reducible refine de_revL ?_
    | with_reducible refine de_bin ?_
    | with_reducible refine de_cmp ?_
    | with_reducible refine de_lele ?_
    | with_reducible refine de_if ?_
    | with_reducible refine de_ix ?_ (by with_unfolding_all (intro _ _; rfl)) (by with_unfolding_all (intro _ _; rfl))
    | with_reducible refine de_tup ?_
    | with_reducible refine de_and ?_
    | with_reducible refine de_or ?_
    | with_reducible refine de_one ?_
    | with_reducible refine de_not ?_
    | with_reducible refine de_lst ?_
    | with_reducible refine de_neg ?_
    | (with_reducible refine de_sliceL ?_)
    | (with_reducible refine as_attr ?_; (first
    | with_reducible refine de_fldG T.InvalidRound.cl T.n_InvalidRound_part ?_
    | with_reducible refine de_fldG T.TextFault.cl T.n_TextFault_word ?_
    | with_reducible refine de_cconst (by assumption) T.Melody T.v_Melody_MAX_NOTES ?_
    | with_reducible refine de_cconst (by assumption) T.Melody T.v_Melody_MAX_BEATS ?_
    | with_reducible refine de_cconst (by assumption) T.Melody T.v_Melody_MAX_PITCH ?_
    | with_reducible refine de_fldG T.Melody.cl T.n_Melody_given ?_
    | with_reducible refine de_fldG T.Melody.cl T.n_Melody_row ?_
    | with_reducible refine de_fldG T.Listener.cl T.n_Listener_one ?_
    | with_reducible refine de_fldG T.Listener.cl T.n_Listener_other ?_
    | with_reducible refine de_fldG T.Listener.cl T.n_Listener_kept ?_
    | with_reducible refine de_fldG T.Listener.cl T.n_Listener_facts ?_
    | with_reducible refine de_fldN T.n_InvalidMelody_index ?_
    | with_reducible refine de_fldN T.n_InvalidCode_place ?_
    | with_reducible refine de_propS ?_))))
  | (with_reducible refine as_DA ?_; (first
    | with_reducible refine da_cons ?_
    | with_reducible refine da_nil ?_
    | with_reducible refine da_star ?_))
  | (with_reducible refine as_DSs ?_; (first
    | with_reducible refine dss_one ?_
    | with_reducible refine dss_cons ?_
    | with_reducible refine dss_nil ?_))
  | (with_reducible refine as_DS ?_; (first
    | (with_reducible refine' rs_InvalidMelody T (by assumption) hr ?hk ?_; (case hk => decide))
    | (with_reducible refine' rs_InvalidRound T (by assumption) hr ?hk ?_; (case hk => decide))
    | with_reducible refine ds_raise0 (by assumption) T.OutOfRange ?_
    | with_reducible refine ds_raise0 (by assumption) T.InvalidNumber ?_
    | with_reducible refine ds_raise0 (by assumption) T.TooLong ?_
    | (with_reducible refine' rs_TextFault T (by assumption) hr ?hk ?_; (case hk => decide))
    | (with_reducible refine' rs_InvalidCode T (by assumption) hr ?hk ?_; (case hk => decide))
    | with_reducible refine ds_raise0 (by assumption) T.Contradiction ?_
    | with_reducible refine ds_raise0 (by assumption) T.UnknownVoice ?_
    | with_reducible refine ds_raise0 (by assumption) T.TooManyVoices ?_
    | with_reducible refine ds_raise0 (by assumption) T.InvalidName ?_
    | with_reducible refine ds_raise0 (by assumption) T.UnknownName ?_
    | (with_reducible refine' rs_InvalidOperation T (by assumption) hr ?hk ?_; (case hk => decide))
    | with_reducible refine ds_ret ?_
    | with_reducible refine ds_if ?_
    | with_reducible refine ds_expr ?_
    | with_reducible refine ds_pass ?_
    | with_reducible refine ds_retN ?_
    | (with_reducible refine' ds_set (hl := ?hl) (by assumption) ?hi ?_; (case hl => ((repeat (with_reducible constructor)); done)); (case hi => (repeat (with_reducible constructor))))
    | (with_reducible refine' ds_par2 (hx := ?hx) (hy := ?hy) (by assumption) ?hi ?hj ?hk ?_; (case hx => ((repeat (with_reducible constructor)); done)); (case hy => ((repeat (with_reducible constructor)); done)); (case hi => repeat (with_reducible constructor)); (case hj => repeat (with_reducible constructor)); (case hk => with_unfolding_all rfl))
    | (with_reducible refine' ds_par3 (hx := ?hx) (hy := ?hy) (hz := ?hz) (by assumption) ?hi ?hj ?hl ?hk ?hm ?ho ?_; (case hx => ((repeat (with_reducible constructor)); done)); (case hy => ((repeat (with_reducible constructor)); done)); (case hz => ((repeat (with_reducible constructor)); done)); (case hi => repeat (with_reducible constructor)); (case hj => repeat (with_reducible constructor)); (case hl => repeat (with_reducible constructor)); (case hk => with_unfolding_all rfl); (case hm => with_unfolding_all rfl); (case ho => with_unfolding_all rfl))
    | (with_reducible refine' ds_aug (hl := ?hl) (by assumption) ?hi ?hd ?_; (case hl => ((repeat (with_reducible constructor)); done)); (case hi => repeat (with_reducible constructor)); (case hd => repeat (with_reducible constructor)))
    | with_reducible refine ds_fld ?_
    | with_reducible refine ds_asg ?_
    | with_reducible refine ds_continue ?_
    | with_reducible refine ds_break ?_))
  | (with_reducible refine as_DT ?_; (first
    | with_reducible refine dt_cmp ?_
    | with_reducible refine dt_lele ?_
    | with_reducible refine dt_ltle ?_
    | with_reducible refine dt_lelt ?_
    | with_reducible refine dt_not ?_
    | with_reducible refine dt_w (dw_and ?_)
    | with_reducible refine dt_w (dw_or ?_)
    | with_reducible refine dt_val ?_))
  | (with_reducible refine as_DW ?_; (first
    | with_reducible refine dw_and ?_
    | with_reducible refine dw_or ?_
    | with_reducible refine dw_one ?_))
  | (with_reducible refine as_DB ?_; (first
    | (with_reducible refine' db_shift T hr ?hk ?h1 ?h2 ?hm ?hm2 ?_; (case hk => decide); (case h1 => omega); (case h2 => omega); (case hm => assumption); (case hm2 => assumption))
    | with_reducible refine db_p18 ?_
    | with_reducible refine db_p17 ?_
    | with_reducible refine db_p9 ?_
    | with_reducible refine db_p6 ?_
    | with_reducible refine db_p26 ?_
    | with_reducible refine db_add ?_
    | with_reducible refine db_sub ?_
    | with_reducible refine db_lt ?_
    | with_reducible refine db_le ?_
    | with_reducible refine db_gt ?_
    | with_reducible refine db_ge ?_
    | with_reducible refine db_eq_int ?_
    | with_reducible refine db_ne_int ?_
    | with_reducible refine db_eq_str ?_
    | with_reducible refine db_ne_str ?_
    | with_reducible refine db_isN ?_
    | with_reducible refine db_notN ?_
    | with_reducible refine db_iadd ?_
    | with_reducible refine db_isub ?_
    | with_reducible refine db_eq_bl ?_
    | with_reducible refine db_ne_bl ?_
    | with_reducible refine db_in_sign ?_
    | with_reducible refine db_notin_sign ?_
    | with_reducible refine db_mul (cm_r (by decide) (by decide)) ?_
    | with_reducible refine db_mul (cm_l (by decide) (by decide)) ?_
    | with_reducible refine db_fdiv (cdiv_ (by decide) (by decide)) ?_
    | with_reducible refine db_mod (by first | decide | omega) ?_
    | with_reducible refine db_pow (cpow_ (by decide) (by decide) (by decide)) ?_
    | with_reducible refine db_inI .tup ?_
    | with_reducible refine db_inI .lst ?_))
  | (with_reducible refine as_DC ?_; (first
    | (with_reducible refine' dc_isinT T hr ?hk ?h1 ?h2 ?_; (case hk => decide); (case h1 => omega); (case h2 => omega))
    | (with_reducible refine' dc_isin T hr ?hk ?ht ?_; (case hk => decide); (case ht => (first | assumption | (simp [tyD]; done) | exact tyD_opt _)))
    | (with_reducible refine' mk_melK T hr ?hk ?hm ?_; (case hk => decide); (case hm => assumption))
    | (with_reducible refine' dc_bel T hr ?hk ?ha ?h0 ?h1 ?_; (case hk => decide); (case ha => (repeat (first | with_reducible assumption | with_reducible constructor))); (case h0 => (first | decide | omega)); (case h1 => (first | decide | omega)))
    | (with_reducible refine' dc_sound T hr ?hk ?hm ?_; (case hk => decide); (case hm => assumption))
    | (with_reducible refine' dc_mlen T hr ?hk ?hm ?_; (case hk => decide); (case hm => assumption))
    | (with_reducible refine' dc_rpairs T hr ?hk ?hm ?_; (case hk => decide); (case hm => assumption))
    | (with_reducible refine' dc_rcounts T hr ?hk ?hm ?_; (case hk => decide); (case hm => assumption))
    | with_reducible refine dc_sum S.calm ?_
    | (with_reducible refine' dc_rsoundsF T hr ?hk ?hm ?_; (case hk => decide); (case hm => assumption))
    | (with_reducible refine' dc_heard T hr ?hk ?hl ?_; (case hk => decide); (case hl => omega))
    | with_reducible refine dc_abs ?_
    | with_reducible refine dc_intB ?_
    | with_reducible refine dc_len_own (by (repeat (first | with_reducible assumption | with_reducible constructor))) ?_
    | with_reducible refine dc_int ?_
    | with_reducible refine dc_tuple ?_
    | with_reducible refine dc_len_tup ?_
    | with_reducible refine dc_len_str (by first | assumption | omega) ?_
    | with_reducible refine dc_len_lst ?_
    | (with_reducible refine' dc_isi_int ?hty ?_; (case hty => first | assumption | (simp [tyD]; done)))
    | (with_reducible refine' dc_isi_bl ?hty ?_; (case hty => first | assumption | (simp [tyD]; done)))
    | (with_reducible refine' dc_isi_str ?hty ?_; (case hty => first | assumption | (simp [tyD]; done)))
    | (with_reducible refine' dc_isi_tup ?hty ?_; (case hty => first | assumption | (simp [tyD]; done)))
    | (with_reducible refine' dc_isi_lst ?hty ?_; (case hty => first | assumption | (simp [tyD]; done)))))
  | (with_reducible refine as_DKw ?_; (first
    | with_reducible refine dkw_nil ?_
    | with_reducible refine dkw_cons ?_))
  | (with_reducible refine as_DCk ?_; (first
    | fail))
  | (with_reducible refine as_DG ?_; (first
    | (with_reducible refine' dg_name (hl := ?hl) (by assumption) ?hi ?hs ?_; (case hl => ((repeat (with_reducible constructor)); done)); (case hi => (repeat (with_reducible constructor))); (case hs => (repeat (with_reducible constructor))))
    | with_reducible refine dg_sub ?_
    | (with_reducible refine' dg_cell (hl := ?hl) (by assumption) Df.fn ?hi ?hs ?_; (case hl => ((repeat (with_reducible constructor)); done)); (case hi => (repeat (with_reducible constructor))); (case hs => (repeat (with_reducible constructor))))
    | with_reducible refine dg_tup (by assumption) (by with_unfolding_all rfl) ?_
    | (with_reducible refine' dg_cellD (by assumption) (by assumption) ?hi ?hs ?_; (case hi => (repeat (with_reducible constructor))); (case hs => (repeat (with_reducible constructor))))))
  | (with_reducible refine as_DI ?_; (first
    | (with_reducible refine' di_range1 (by assumption) T.b_range ?_)
    | (with_reducible refine' di_range2 (by assumption) T.b_range ?_)
    | (with_reducible refine' di_range3 (by assumption) T.b_range ?_)
    | (with_reducible refine' di_enumS (by assumption) T.b_enumerate ?_)))
  | (with_reducible refine as_DX ?_; (first
    | with_reducible refine dx_tup (by first | exact atI_0 | exact atI_1 | exact atI_2 | exact atI_3) ?_
    | with_reducible refine dx_lst (by first | exact atI_0 | exact atI_1 | exact atI_2 | exact atI_3) ?_
    | with_reducible refine dx_own (by (repeat (first | with_reducible assumption | with_reducible constructor))) (by first | exact atI_0 | exact atI_1 | exact atI_2 | exact atI_3) ?_))
  | with_reducible refine ex_bl ?_
  | with_reducible refine ref_in ?_
  | with_reducible refine int_in ?_
  | with_reducible refine int_in2 ?_
  | with_reducible refine str_in ?_
  | with_reducible refine br_t ?_
  | with_reducible refine br_f ?_
  | with_reducible refine rb_t ?_
  | with_reducible refine rb_f ?_
  | with_reducible refine br_nt ?_
  | with_reducible refine br_nf ?_
  | with_reducible refine rb_nt ?_
  | with_reducible refine rb_nf ?_
  | with_reducible refine len_and (by with_unfolding_all rfl) ?_
  | with_reducible refine fld_ins (by with_unfolding_all rfl) ?_
  | with_reducible refine fld_own (by (repeat (first | with_reducible assumption | with_reducible constructor))) (by with_unfolding_all rfl) ?_
  | (with_reducible refine' sd_in ?hs ?_; (case hs => (repeat (with_reducible constructor))))
  | ((with_reducible refine' wp_in ?gw ?_); (case gw => (repeat (first | exact Wp.nil | exact SetN.head | apply SetN.tail | apply Wp.cons))))
  | (with_reducible refine' own2_in ?ga ?_; (case ga => repeat (first | with_reducible assumption | with_reducible exact At.head | with_reducible apply At.tail)))
  | (with_reducible refine' par_in ?h1 ?h2 ?_; (case h1 => repeat (with_reducible constructor)); (case h2 => repeat (with_reducible constructor)))
  | (with_reducible refine' par3_in ?h1 ?h2 ?h3 ?_; (case h1 => repeat (with_reducible constructor)); (case h2 => repeat (with_reducible constructor)); (case h3 => repeat (with_reducible constructor)))
  | with_reducible refine seq_lst ?_
  | with_reducible refine seq_fz ?_
  | with_reducible refine seq_tup ?_
  | with_reducible refine seq1_lst ?_
  | with_reducible refine seq1_fz ?_
  | with_reducible refine seq1_tup ?_
  | (with_reducible refine' rng1_in ?h1 ?h2 ?_; (case h1 => (first | decide | omega)); (case h2 => (first | decide | omega)))
  | (with_reducible refine' rng2_in ?h1 ?h2 ?h3 ?h4 ?_; (case h1 => (first | decide | omega)); (case h2 => (first | decide | omega)); (case h3 => (first | decide | omega)); (case h4 => (first | decide | omega)))
  | (with_reducible refine' app_in ?h1 ?h2 ?h3 ?_; (case h1 => (repeat (first | with_reducible assumption | with_reducible constructor))); (case h2 => (first | omega | (simp; done) | (simp; omega))); (case h3 => (repeat (first | with_reducible assumption | with_reducible constructor))))
  | (with_reducible refine' pr_size T hr ?hk ?hm ?_; (case hk => decide); (case hm => assumption))
  | with_reducible refine lst_in ?_
  | (with_reducible refine' pr_delays T hr ?hk ?ha ?_; (case hk => decide); (case ha => (repeat (first | with_reducible assumption | with_reducible constructor))))
  | (with_reducible refine' pr_history T hr ?hk ?ha ?hf ?_; (case hk => decide); (case ha => (repeat (first | with_reducible assumption | with_reducible constructor))); (case hf => (repeat (first | with_reducible assumption | with_reducible constructor))))
  | (with_reducible refine' mt_in T.InvalidMelody.cl T.InvalidMelody_init.mt ?hl ?_; (case hl => with_unfolding_all rfl))
  | (with_reducible refine' mt_own ?ha T.InvalidMelody.cl T.InvalidMelody_init.mt ?hl ?_; (case ha => (repeat (first | with_reducible assumption | with_reducible constructor))); (case hl => with_unfolding_all rfl))
  | (with_reducible refine' mt_in T.InvalidRound.cl T.InvalidRound_init.mt ?hl ?_; (case hl => with_unfolding_all rfl))
  | (with_reducible refine' mt_own ?ha T.InvalidRound.cl T.InvalidRound_init.mt ?hl ?_; (case ha => (repeat (first | with_reducible assumption | with_reducible constructor))); (case hl => with_unfolding_all rfl))
  | (with_reducible refine' mt_in T.TextFault.cl T.TextFault_init.mt ?hl ?_; (case hl => with_unfolding_all rfl))
  | (with_reducible refine' mt_own ?ha T.TextFault.cl T.TextFault_init.mt ?hl ?_; (case ha => (repeat (first | with_reducible assumption | with_reducible constructor))); (case hl => with_unfolding_all rfl))
  | (with_reducible refine' mt_in T.InvalidCode.cl T.InvalidCode_init.mt ?hl ?_; (case hl => with_unfolding_all rfl))
  | (with_reducible refine' mt_own ?ha T.InvalidCode.cl T.InvalidCode_init.mt ?hl ?_; (case ha => (repeat (first | with_reducible assumption | with_reducible constructor))); (case hl => with_unfolding_all rfl))
  | (with_reducible refine' mt_in T.InvalidOperation.cl T.InvalidOperation_init.mt ?hl ?_; (case hl => with_unfolding_all rfl))
  | (with_reducible refine' mt_own ?ha T.InvalidOperation.cl T.InvalidOperation_init.mt ?hl ?_; (case ha => (repeat (first | with_reducible assumption | with_reducible constructor))); (case hl => with_unfolding_all rfl))
  | (with_reducible refine' mt_in T.Melody.cl T.Melody_init.mt ?hl ?_; (case hl => with_unfolding_all rfl))
  | (with_reducible refine' mt_own ?ha T.Melody.cl T.Melody_init.mt ?hl ?_; (case ha => (repeat (first | with_reducible assumption | with_reducible constructor))); (case hl => with_unfolding_all rfl))
  | (with_reducible refine' mt_in T.Melody.cl T.Melody_sound.mt ?hl ?_; (case hl => with_unfolding_all rfl))
  | (with_reducible refine' mt_own ?ha T.Melody.cl T.Melody_sound.mt ?hl ?_; (case ha => (repeat (first | with_reducible assumption | with_reducible constructor))); (case hl => with_unfolding_all rfl))
  | (with_reducible refine' mt_in T.Melody.cl T.Melody_call.mt ?hl ?_; (case hl => with_unfolding_all rfl))
  | (with_reducible refine' mt_own ?ha T.Melody.cl T.Melody_call.mt ?hl ?_; (case ha => (repeat (first | with_reducible assumption | with_reducible constructor))); (case hl => with_unfolding_all rfl))
  | (with_reducible refine' mt_in T.Melody.cl T.Melody_len.mt ?hl ?_; (case hl => with_unfolding_all rfl))
  | (with_reducible refine' mt_own ?ha T.Melody.cl T.Melody_len.mt ?hl ?_; (case ha => (repeat (first | with_reducible assumption | with_reducible constructor))); (case hl => with_unfolding_all rfl))
  | (with_reducible refine' mt_in T.Melody.cl T.Melody_eq.mt ?hl ?_; (case hl => with_unfolding_all rfl))
  | (with_reducible refine' mt_own ?ha T.Melody.cl T.Melody_eq.mt ?hl ?_; (case ha => (repeat (first | with_reducible assumption | with_reducible constructor))); (case hl => with_unfolding_all rfl))
  | (with_reducible refine' mt_in T.Melody.cl T.Melody_bool.mt ?hl ?_; (case hl => with_unfolding_all rfl))
  | (with_reducible refine' mt_own ?ha T.Melody.cl T.Melody_bool.mt ?hl ?_; (case ha => (repeat (first | with_reducible assumption | with_reducible constructor))); (case hl => with_unfolding_all rfl))
  | (with_reducible refine' mt_in T.Melody.cl T.Melody_contains.mt ?hl ?_; (case hl => with_unfolding_all rfl))
  | (with_reducible refine' mt_own ?ha T.Melody.cl T.Melody_contains.mt ?hl ?_; (case ha => (repeat (first | with_reducible assumption | with_reducible constructor))); (case hl => with_unfolding_all rfl))
  | (with_reducible refine' mt_in T.Melody.cl T.Melody_getitem.mt ?hl ?_; (case hl => with_unfolding_all rfl))
  | (with_reducible refine' mt_own ?ha T.Melody.cl T.Melody_getitem.mt ?hl ?_; (case ha => (repeat (first | with_reducible assumption | with_reducible constructor))); (case hl => with_unfolding_all rfl))
  | (with_reducible refine' mt_in T.Melody.cl T.Melody_iter.mt ?hl ?_; (case hl => with_unfolding_all rfl))
  | (with_reducible refine' mt_own ?ha T.Melody.cl T.Melody_iter.mt ?hl ?_; (case ha => (repeat (first | with_reducible assumption | with_reducible constructor))); (case hl => with_unfolding_all rfl))
  | (with_reducible refine' mt_in T.Melody.cl T.Melody_add.mt ?hl ?_; (case hl => with_unfolding_all rfl))
  | (with_reducible refine' mt_own ?ha T.Melody.cl T.Melody_add.mt ?hl ?_; (case ha => (repeat (first | with_reducible assumption | with_reducible constructor))); (case hl => with_unfolding_all rfl))
  | (with_reducible refine' mt_in T.Melody.cl T.Melody_mul.mt ?hl ?_; (case hl => with_unfolding_all rfl))
  | (with_reducible refine' mt_own ?ha T.Melody.cl T.Melody_mul.mt ?hl ?_; (case ha => (repeat (first | with_reducible assumption | with_reducible constructor))); (case hl => with_unfolding_all rfl))
  | (with_reducible refine' mt_in T.Melody.cl T.Melody_rshift.mt ?hl ?_; (case hl => with_unfolding_all rfl))
  | (with_reducible refine' mt_own ?ha T.Melody.cl T.Melody_rshift.mt ?hl ?_; (case ha => (repeat (first | with_reducible assumption | with_reducible constructor))); (case hl => with_unfolding_all rfl))
  | (with_reducible refine' mt_in T.Melody.cl T.Melody_invert.mt ?hl ?_; (case hl => with_unfolding_all rfl))
  | (with_reducible refine' mt_own ?ha T.Melody.cl T.Melody_invert.mt ?hl ?_; (case ha => (repeat (first | with_reducible assumption | with_reducible constructor))); (case hl => with_unfolding_all rfl))
  | (with_reducible refine' mt_in T.Melody.cl T.Melody_neg.mt ?hl ?_; (case hl => with_unfolding_all rfl))
  | (with_reducible refine' mt_own ?ha T.Melody.cl T.Melody_neg.mt ?hl ?_; (case ha => (repeat (first | with_reducible assumption | with_reducible constructor))); (case hl => with_unfolding_all rfl))
  | (with_reducible refine' mt_in T.Listener.cl T.Listener_init.mt ?hl ?_; (case hl => with_unfolding_all rfl))
  | (with_reducible refine' mt_own ?ha T.Listener.cl T.Listener_init.mt ?hl ?_; (case ha => (repeat (first | with_reducible assumption | with_reducible constructor))); (case hl => with_unfolding_all rfl))
  | (with_reducible refine' mt_in T.Listener.cl T.Listener_sounds.mt ?hl ?_; (case hl => with_unfolding_all rfl))
  | (with_reducible refine' mt_own ?ha T.Listener.cl T.Listener_sounds.mt ?hl ?_; (case ha => (repeat (first | with_reducible assumption | with_reducible constructor))); (case hl => with_unfolding_all rfl))
  | (with_reducible refine' mt_in T.Listener.cl T.Listener_hear.mt ?hl ?_; (case hl => with_unfolding_all rfl))
  | (with_reducible refine' mt_own ?ha T.Listener.cl T.Listener_hear.mt ?hl ?_; (case ha => (repeat (first | with_reducible assumption | with_reducible constructor))); (case hl => with_unfolding_all rfl))
  | (with_reducible refine' mt_in T.Listener.cl T.Listener_best_beat.mt ?hl ?_; (case hl => with_unfolding_all rfl))
  | (with_reducible refine' mt_own ?ha T.Listener.cl T.Listener_best_beat.mt ?hl ?_; (case ha => (repeat (first | with_reducible assumption | with_reducible constructor))); (case hl => with_unfolding_all rfl))
  | (with_reducible refine' fldA_ins T.InvalidMelody.cl T.n_InvalidMelody_index ?hl ?_; (case hl => with_unfolding_all rfl))
  | (with_reducible refine' fldA_own ?ha T.InvalidMelody.cl T.n_InvalidMelody_index ?hl ?_; (case ha => (repeat (first | with_reducible assumption | with_reducible constructor))); (case hl => with_unfolding_all rfl))
  | (with_reducible refine' fldA_ins T.InvalidRound.cl T.n_InvalidRound_index ?hl ?_; (case hl => with_unfolding_all rfl))
  | (with_reducible refine' fldA_own ?ha T.InvalidRound.cl T.n_InvalidRound_index ?hl ?_; (case ha => (repeat (first | with_reducible assumption | with_reducible constructor))); (case hl => with_unfolding_all rfl))
  | (with_reducible refine' fldA_ins T.InvalidCode.cl T.n_InvalidCode_place ?hl ?_; (case hl => with_unfolding_all rfl))
  | (with_reducible refine' fldA_own ?ha T.InvalidCode.cl T.n_InvalidCode_place ?hl ?_; (case ha => (repeat (first | with_reducible assumption | with_reducible constructor))); (case hl => with_unfolding_all rfl))
  | (with_reducible refine' fldA_ins T.InvalidOperation.cl T.n_InvalidOperation_place ?hl ?_; (case hl => with_unfolding_all rfl))
  | (with_reducible refine' fldA_own ?ha T.InvalidOperation.cl T.n_InvalidOperation_place ?hl ?_; (case ha => (repeat (first | with_reducible assumption | with_reducible constructor))); (case hl => with_unfolding_all rfl))
  | (with_reducible refine' fput_in ?ha T.InvalidMelody.cl T.n_InvalidMelody_index ?hl ?hp ?_; (case ha => (repeat (first | with_reducible assumption | with_reducible constructor))); (case hl => with_unfolding_all rfl); (case hp => (repeat (first | with_reducible assumption | with_reducible constructor))))
  | (with_reducible refine' fput_in ?ha T.InvalidRound.cl T.n_InvalidRound_part ?hl ?hp ?_; (case ha => (repeat (first | with_reducible assumption | with_reducible constructor))); (case hl => with_unfolding_all rfl); (case hp => (repeat (first | with_reducible assumption | with_reducible constructor))))
  | (with_reducible refine' fput_in ?ha T.InvalidRound.cl T.n_InvalidRound_index ?hl ?hp ?_; (case ha => (repeat (first | with_reducible assumption | with_reducible constructor))); (case hl => with_unfolding_all rfl); (case hp => (repeat (first | with_reducible assumption | with_reducible constructor))))
  | (with_reducible refine' fput_in ?ha T.TextFault.cl T.n_TextFault_word ?hl ?hp ?_; (case ha => (repeat (first | with_reducible assumption | with_reducible constructor))); (case hl => with_unfolding_all rfl); (case hp => (repeat (first | with_reducible assumption | with_reducible constructor))))
  | (with_reducible refine' fput_in ?ha T.InvalidCode.cl T.n_InvalidCode_place ?hl ?hp ?_; (case ha => (repeat (first | with_reducible assumption | with_reducible constructor))); (case hl => with_unfolding_all rfl); (case hp => (repeat (first | with_reducible assumption | with_reducible constructor))))
  | (with_reducible refine' fput_in ?ha T.InvalidOperation.cl T.n_InvalidOperation_place ?hl ?hp ?_; (case ha => (repeat (first | with_reducible assumption | with_reducible constructor))); (case hl => with_unfolding_all rfl); (case hp => (repeat (first | with_reducible assumption | with_reducible constructor))))
  | (with_reducible refine' fput_in ?ha T.Melody.cl T.n_Melody_given ?hl ?hp ?_; (case ha => (repeat (first | with_reducible assumption | with_reducible constructor))); (case hl => with_unfolding_all rfl); (case hp => (repeat (first | with_reducible assumption | with_reducible constructor))))
  | (with_reducible refine' fput_in ?ha T.Melody.cl T.n_Melody_row ?hl ?hp ?_; (case ha => (repeat (first | with_reducible assumption | with_reducible constructor))); (case hl => with_unfolding_all rfl); (case hp => (repeat (first | with_reducible assumption | with_reducible constructor))))
  | (with_reducible refine' fput_in ?ha T.Listener.cl T.n_Listener_one ?hl ?hp ?_; (case ha => (repeat (first | with_reducible assumption | with_reducible constructor))); (case hl => with_unfolding_all rfl); (case hp => (repeat (first | with_reducible assumption | with_reducible constructor))))
  | (with_reducible refine' fput_in ?ha T.Listener.cl T.n_Listener_other ?hl ?hp ?_; (case ha => (repeat (first | with_reducible assumption | with_reducible constructor))); (case hl => with_unfolding_all rfl); (case hp => (repeat (first | with_reducible assumption | with_reducible constructor))))
  | (with_reducible refine' fput_in ?ha T.Listener.cl T.n_Listener_kept ?hl ?hp ?_; (case ha => (repeat (first | with_reducible assumption | with_reducible constructor))); (case hl => with_unfolding_all rfl); (case hp => (repeat (first | with_reducible assumption | with_reducible constructor))))
  | (with_reducible refine' fput_in ?ha T.Listener.cl T.n_Listener_facts ?hl ?hp ?_; (case ha => (repeat (first | with_reducible assumption | with_reducible constructor))); (case hl => with_unfolding_all rfl); (case hp => (repeat (first | with_reducible assumption | with_reducible constructor))))
  | with_reducible refine dpo_none ?_
  | with_reducible refine dpo_some ?_
  | (with_reducible refine' dgc_name (by assumption) ?hi ?hs ?hv ?_; (case hi => (repeat (with_reducible constructor))); (case hs => (repeat (with_reducible constructor))); (case hv => decide))
  | with_reducible refine dgc_tup (by assumption) (by with_unfolding_all rfl) ?_
  | with_reducible refine dgs_cons ?_
  | with_reducible refine dgs_nil ?_
  | with_reducible refine dgcs_cons ?_
  | with_reducible refine dgcs_nil ?_
  | with_reducible refine dts_nil ?_
  | with_reducible refine dts_one ?_
  | (with_reducible refine as_blk ?_; (intro X2 B2; have T := (show Txt X2.K X2.mg a from by rw [B2.K, B2.mg]; assumption); have S2 := B2.sc; have hr := B2.room (by assumption)))
  | (with_reducible exact ⟨rfl, rfl⟩)
  | with_reducible refine star_tup ?_
  | with_reducible refine star_lst ?_
  | (with_reducible refine as_br ?_; (first
    | with_reducible refine br_et (by with_unfolding_all rfl) ?_
    | with_reducible refine br_ef (by with_unfolding_all rfl) ?_))
  | (with_reducible refine as_rb ?_; (first
    | with_reducible refine rb_et (by with_unfolding_all rfl) ?_
    | with_reducible refine rb_ef (by with_unfolding_all rfl) ?_))
  | (dsimp only [dOpt_none, dOpt_some])))
set_option hygiene false in
local macro_rules | `(tactic| walk_at "h1") => `(tactic| (first
  | (with_reducible exact REST)
  | (with_reducible refine as_DE ?_; (first
    | (with_reducible refine' de_listR1 (by assumption) T.b_range T.b_list ?_)
    | (with_reducible refine' de_clashes T ?hr (by assumption) ?_; (case hr => exact hr.mono (by decide)))
    | with_reducible refine de_count hr.u65 ?_
    | with_reducible refine de_index hr.u65 ?_
    | (with_reducible refine' de_callErr T (by assumption) (by assumption) (by assumption) (by assumption) hr ?ha ?_; (case ha => (repeat (first | with_reducible exact At.head | with_reducible assumption | with_reducible apply At.tail))))
    | (with_reducible refine as_name ?_; (first
    | (with_reducible refine' de_name (by assumption) ?hi ?hd ?_; (case hi => (repeat (with_reducible constructor))); (case hd => (repeat (with_reducible constructor))))
    | with_reducible refine de_cint (by assumption) T.v_MAX_NUMBER ?_
    | with_reducible refine de_cstr (by assumption) T.v_DIGITS ?_
    | with_reducible refine de_cstr (by assumption) T.v_REST ?_
    | with_reducible refine de_cint (by assumption) T.v_MAX_SHIFT ?_
    | with_reducible refine de_cint (by assumption) T.v_MAX_LIMIT ?_
    | with_reducible refine de_cint (by assumption) T.v_MAX_TRIED ?_
    | with_reducible refine de_bltn (T := "bool") (by assumption) T.b_bool boot_bool ?_
    | with_reducible refine de_bltn (T := "int") (by assumption) T.b_int boot_int ?_
    | with_reducible refine de_bltn (T := "list") (by assumption) T.b_list boot_list ?_
    | with_reducible refine de_bltn (T := "str") (by assumption) T.b_str boot_str ?_
    | with_reducible refine de_bltn (T := "tuple") (by assumption) T.b_tuple boot_tuple ?_))
    | (with_reducible refine as_call ?_; (first
    | with_reducible refine de_append ?_
    | with_reducible refine de_join ?_
    | with_reducible refine de_split ?_
    | with_reducible refine de_extend ?_
    | with_reducible refine de_call (by assumption) T.is_int_in.g T.is_int_in.k ?_
    | with_reducible refine de_call (by assumption) T.is_note.g T.is_note.k ?_
    | with_reducible refine de_call (by assumption) T.Melody.g T.Melody.k ?_
    | with_reducible refine de_callS (by assumption) T.Melody.g T.Melody.k ?_
    | with_reducible refine de_call0 (by assumption) T.Melody.g T.Melody.k ?_
    | with_reducible refine de_callKw (by assumption) T.Melody.g T.Melody.k ?_
    | with_reducible refine de_call (by assumption) T.melody_of.g T.melody_of.k ?_
    | with_reducible refine de_call (by assumption) T.is_number.g T.is_number.k ?_
    | with_reducible refine de_call (by assumption) T.heard.g T.heard.k ?_
    | with_reducible refine de_call (by assumption) T.check_shift.g T.check_shift.k ?_
    | with_reducible refine de_call (by assumption) T.Listener.g T.Listener.k ?_
    | with_reducible refine de_callS (by assumption) T.Listener.g T.Listener.k ?_
    | with_reducible refine de_call0 (by assumption) T.Listener.g T.Listener.k ?_
    | with_reducible refine de_callKw (by assumption) T.Listener.g T.Listener.k ?_
    | with_reducible refine de_call (by assumption) T.law_random.g T.law_random.k ?_
    | with_reducible refine de_call (by assumption) T.law_below.g T.law_below.k ?_
    | with_reducible refine de_call (by assumption) T.law_notes.g T.law_notes.k ?_
    | with_reducible refine de_call (by assumption) T.law_fits.g T.law_fits.k ?_
    | with_reducible refine de_call (by assumption) T.law_shifted.g T.law_shifted.k ?_
    | with_reducible refine de_call (by assumption) T.law_in_range.g T.law_in_range.k ?_
    | with_reducible refine de_call (by assumption) T.law_row.g T.law_row.k ?_
    | with_reducible refine de_call (by assumption) T.law_words.g T.law_words.k ?_
    | with_reducible refine de_call (by assumption) T.law_melody.g T.law_melody.k ?_
    | with_reducible refine de_call (by assumption) T.law_some_beat.g T.law_some_beat.k ?_
    | with_reducible refine de_call (by assumption) T.law_heard.g T.law_heard.k ?_
    | with_reducible refine de_call (by assumption) T.law_error_of.g T.law_error_of.k ?_
    | with_reducible refine de_call (by assumption) T.law_hear.g T.law_hear.k ?_
    | with_reducible refine de_call (by assumption) T.law_equal.g T.law_equal.k ?_
    | with_reducible refine de_call (by assumption) T.law.g T.law.k ?_
    | with_reducible refine de_callB (id := "abs") (by assumption) T.b_abs boot_abs ?_
    | with_reducible refine de_callB (id := "all") (by assumption) T.b_all boot_all ?_
    | with_reducible refine de_callB (id := "any") (by assumption) T.b_any boot_any ?_
    | with_reducible refine de_callT (T := "bool") (by assumption) T.b_bool boot_bool ?_
    | with_reducible refine de_callT (T := "int") (by assumption) T.b_int boot_int ?_
    | with_reducible refine de_callB (id := "isinstance") (by assumption) T.b_isinstance boot_isinstance ?_
    | with_reducible refine de_callB (id := "len") (by assumption) T.b_len boot_len ?_
    | with_reducible refine de_callT (T := "list") (by assumption) T.b_list boot_list ?_
    | with_reducible refine de_callB (id := "max") (by assumption) T.b_max boot_max ?_
    | with_reducible refine de_callB (id := "min") (by assumption) T.b_min boot_min ?_
    | with_reducible refine de_callB (id := "sorted") (by assumption) T.b_sorted boot_sorted ?_
    | with_reducible refine de_callT (T := "str") (by assumption) T.b_str boot_str ?_
    | with_reducible refine de_callT (T := "tuple") (by assumption) T.b_tuple boot_tuple ?_
    | with_reducible refine de_cmeth T.Melody.rd T.Melody_parse.c ?_
    | with_reducible refine de_meth ?_
    | with_reducible refine de_meth0 ?_))
    | (with_reducible refine as_con ?_; (first
    | with_reducible refine de_int ?_
    | with_reducible refine de_str ?_
    | with_reducible refine de_non ?_
    | with_reducible refine de_bl ?_))
    | with_reducible refine de_revL ?_
    | with_reducible refine de_bin ?_
    | with_reducible refine de_cmp ?_
    | with_reducible refine de_lele ?_
    | with_reducible refine de_if ?_
    | with_reducible refine de_ix ?_ (by with_unfolding_all (intro _ _; rfl)) (by with_unfolding_all (intro _ _; rfl))
    | with_reducible refine de_tup ?_
    | with_reducible refine de_and ?_
    | with_reducible refine de_or ?_
    | with_reducible refine de_one ?_
    | with_reducible refine de_not ?_
    | with_reducible refine de_lst ?_
    | with_reducible refine de_neg ?_
    | (with_reducible refine de_sliceL ?_)
    | (with_reducible refine as_attr ?_; (first
    | with_reducible refine de_fldG T.InvalidRound.cl T.n_InvalidRound_part ?_
    | with_reducible refine de_fldG T.TextFault.cl T.n_TextFault_word ?_
    | with_reducible refine de_cconst (by assumption) T.Melody T.v_Melody_MAX_NOTES ?_
    | with_reducible refine de_cconst (by assumption) T.Melody T.v_Melody_MAX_BEATS ?_
    | with_reducible refine de_cconst (by assumption) T.Melody T.v_Melody_MAX_PITCH ?_
    | with_reducible refine de_fldG T.Melody.cl T.n_Melody_given ?_
    | with_reducible refine de_fldG T.Melody.cl T.n_Melody_row ?_
    | with_reducible refine de_fldG T.Listener.cl T.n_Listener_one ?_
    | with_reducible refine de_fldG T.Listener.cl T.n_Listener_other ?_
    | with_reducible refine de_fldG T.Listener.cl T.n_Listener_kept ?_
    | with_reducible refine de_fldG T.Listener.cl T.n_Listener_facts ?_
    | with_reducible refine de_fldN T.n_InvalidMelody_index ?_
    | with_reducible refine de_fldN T.n_InvalidCode_place ?_
    | with_reducible refine de_propS ?_))))
  | (with_reducible refine as_DA ?_; (first
    | with_reducible refine da_cons ?_
    | with_reducible refine da_nil ?_
    | with_reducible refine da_star ?_))
  | (with_reducible refine as_DSs ?_; (first
    | with_reducible refine dss_one ?_
    | with_reducible refine dss_nil ?_))
  | (with_reducible refine as_DS ?_; (first
    | (with_reducible refine' rs_InvalidMelody T (by assumption) hr ?hk ?_; (case hk => decide))
    | (with_reducible refine' rs_InvalidRound T (by assumption) hr ?hk ?_; (case hk => decide))
    | with_reducible refine ds_raise0 (by assumption) T.OutOfRange ?_
    | with_reducible refine ds_raise0 (by assumption) T.InvalidNumber ?_
    | with_reducible refine ds_raise0 (by assumption) T.TooLong ?_
    | (with_reducible refine' rs_TextFault T (by assumption) hr ?hk ?_; (case hk => decide))
    | (with_reducible refine' rs_InvalidCode T (by assumption) hr ?hk ?_; (case hk => decide))
    | with_reducible refine ds_raise0 (by assumption) T.Contradiction ?_
    | with_reducible refine ds_raise0 (by assumption) T.UnknownVoice ?_
    | with_reducible refine ds_raise0 (by assumption) T.TooManyVoices ?_
    | with_reducible refine ds_raise0 (by assumption) T.InvalidName ?_
    | with_reducible refine ds_raise0 (by assumption) T.UnknownName ?_
    | (with_reducible refine' rs_InvalidOperation T (by assumption) hr ?hk ?_; (case hk => decide))
    | with_reducible refine ds_ret ?_
    | with_reducible refine ds_if ?_
    | with_reducible refine ds_expr ?_
    | with_reducible refine ds_pass ?_
    | with_reducible refine ds_retN ?_
    | (with_reducible refine' ds_set (hl := ?hl) (by assumption) ?hi ?_; (case hl => ((repeat (with_reducible constructor)); done)); (case hi => (repeat (with_reducible constructor))))
    | (with_reducible refine' ds_par2 (hx := ?hx) (hy := ?hy) (by assumption) ?hi ?hj ?hk ?_; (case hx => ((repeat (with_reducible constructor)); done)); (case hy => ((repeat (with_reducible constructor)); done)); (case hi => repeat (with_reducible constructor)); (case hj => repeat (with_reducible constructor)); (case hk => with_unfolding_all rfl))
    | (with_reducible refine' ds_par3 (hx := ?hx) (hy := ?hy) (hz := ?hz) (by assumption) ?hi ?hj ?hl ?hk ?hm ?ho ?_; (case hx => ((repeat (with_reducible constructor)); done)); (case hy => ((repeat (with_reducible constructor)); done)); (case hz => ((repeat (with_reducible constructor)); done)); (case hi => repeat (with_reducible constructor)); (case hj => repeat (with_reducible constructor)); (case hl => repeat (with_reducible constructor)); (case hk => with_unfolding_all rfl); (case hm => with_unfolding_all rfl); (case ho => with_unfolding_all rfl))
    | (with_reducible refine' ds_aug (hl := ?hl) (by assumption) ?hi ?hd ?_; (case hl => ((repeat (with_reducible constructor)); done)); (case hi => repeat (with_reducible constructor)); (case hd => repeat (with_reducible constructor)))
    | with_reducible refine ds_fld ?_
    | with_reducible refine ds_asg ?_
    | with_reducible refine ds_continue ?_
    | with_reducible refine ds_break ?_))
  | (with_reducible refine as_DT ?_; (first
    | with_reducible refine dt_cmp ?_
    | with_reducible refine dt_lele ?_
    | with_reducible refine dt_ltle ?_
    | with_reducible refine dt_lelt ?_
    | with_reducible refine dt_not ?_
    | with_reducible refine dt_w (dw_and ?_)
    | with_reducible refine dt_w (dw_or ?_)
    | with_reducible refine dt_val ?_))
  | (with_reducible refine as_DW ?_; (first
    | with_reducible refine dw_and ?_
    | with_reducible refine dw_or ?_
    | with_reducible refine dw_one ?_))
  | (with_reducible refine as_DB ?_; (first
    | (with_reducible refine' db_shift T hr ?hk ?h1 ?h2 ?hm ?hm2 ?_; (case hk => decide); (case h1 => omega); (case h2 => omega); (case hm => assumption); (case hm2 => assumption))
    | with_reducible refine db_p18 ?_
    | with_reducible refine db_p17 ?_
    | with_reducible refine db_p9 ?_
    | with_reducible refine db_p6 ?_
    | with_reducible refine db_p26 ?_
    | with_reducible refine db_add ?_
    | with_reducible refine db_sub ?_
    | with_reducible refine db_lt ?_
    | with_reducible refine db_le ?_
    | with_reducible refine db_gt ?_
    | with_reducible refine db_ge ?_
    | with_reducible refine db_eq_int ?_
    | with_reducible refine db_ne_int ?_
    | with_reducible refine db_eq_str ?_
    | with_reducible refine db_ne_str ?_
    | with_reducible refine db_isN ?_
    | with_reducible refine db_notN ?_
    | with_reducible refine db_iadd ?_
    | with_reducible refine db_isub ?_
    | with_reducible refine db_eq_bl ?_
    | with_reducible refine db_ne_bl ?_
    | with_reducible refine db_in_sign ?_
    | with_reducible refine db_notin_sign ?_
    | with_reducible refine db_mul (cm_r (by decide) (by decide)) ?_
    | with_reducible refine db_mul (cm_l (by decide) (by decide)) ?_
    | with_reducible refine db_fdiv (cdiv_ (by decide) (by decide)) ?_
    | with_reducible refine db_mod (by first | decide | omega) ?_
    | with_reducible refine db_pow (cpow_ (by decide) (by decide) (by decide)) ?_
    | with_reducible refine db_inI .tup ?_
    | with_reducible refine db_inI .lst ?_))
  | (with_reducible refine as_DC ?_; (first
    | (with_reducible refine' dc_isinT T hr ?hk ?h1 ?h2 ?_; (case hk => decide); (case h1 => omega); (case h2 => omega))
    | (with_reducible refine' dc_isin T hr ?hk ?ht ?_; (case hk => decide); (case ht => (first | assumption | (simp [tyD]; done) | exact tyD_opt _)))
    | (with_reducible refine' mk_melK T hr ?hk ?hm ?_; (case hk => decide); (case hm => assumption))
    | (with_reducible refine' dc_bel T hr ?hk ?ha ?h0 ?h1 ?_; (case hk => decide); (case ha => (repeat (first | with_reducible assumption | with_reducible constructor))); (case h0 => (first | decide | omega)); (case h1 => (first | decide | omega)))
    | (with_reducible refine' dc_sound T hr ?hk ?hm ?_; (case hk => decide); (case hm => assumption))
    | (with_reducible refine' dc_mlen T hr ?hk ?hm ?_; (case hk => decide); (case hm => assumption))
    | (with_reducible refine' dc_rpairs T hr ?hk ?hm ?_; (case hk => decide); (case hm => assumption))
    | (with_reducible refine' dc_rcounts T hr ?hk ?hm ?_; (case hk => decide); (case hm => assumption))
    | with_reducible refine dc_sum S.calm ?_
    | (with_reducible refine' dc_rsoundsF T hr ?hk ?hm ?_; (case hk => decide); (case hm => assumption))
    | (with_reducible refine' dc_heard T hr ?hk ?hl ?_; (case hk => decide); (case hl => omega))
    | with_reducible refine dc_abs ?_
    | with_reducible refine dc_intB ?_
    | with_reducible refine dc_len_own (by (repeat (first | with_reducible assumption | with_reducible constructor))) ?_
    | with_reducible refine dc_int ?_
    | with_reducible refine dc_tuple ?_
    | with_reducible refine dc_len_tup ?_
    | with_reducible refine dc_len_str (by first | assumption | omega) ?_
    | with_reducible refine dc_len_lst ?_
    | (with_reducible refine' dc_isi_int ?hty ?_; (case hty => first | assumption | (simp [tyD]; done)))
    | (with_reducible refine' dc_isi_bl ?hty ?_; (case hty => first | assumption | (simp [tyD]; done)))
    | (with_reducible refine' dc_isi_str ?hty ?_; (case hty => first | assumption | (simp [tyD]; done)))
    | (with_reducible refine' dc_isi_tup ?hty ?_; (case hty => first | assumption | (simp [tyD]; done)))
    | (with_reducible refine' dc_isi_lst ?hty ?_; (case hty => first | assumption | (simp [tyD]; done)))))
  | (with_reducible refine as_DKw ?_; (first
    | with_reducible refine dkw_nil ?_
    | with_reducible refine dkw_cons ?_))
  | (with_reducible refine as_DCk ?_; (first
    | fail))
  | (with_reducible refine as_DG ?_; (first
    | (with_reducible refine' dg_name (hl := ?hl) (by assumption) ?hi ?hs ?_; (case hl => ((repeat (with_reducible constructor)); done)); (case hi => (repeat (with_reducible constructor))); (case hs => (repeat (with_reducible constructor))))
    | with_reducible refine dg_sub ?_
    | (with_reducible refine' dg_cell (hl := ?hl) (by assumption) Df.fn ?hi ?hs ?_; (case hl => ((repeat (with_reducible constructor)); done)); (case hi => (repeat (with_reducible constructor))); (case hs => (repeat (with_reducible constructor))))
    | with_reducible refine dg_tup (by assumption) (by with_unfolding_all rfl) ?_
    | (with_reducible refine' dg_cellD (by assumption) (by assumption) ?hi ?hs ?_; (case hi => (repeat (with_reducible constructor))); (case hs => (repeat (with_reducible constructor))))))
  | (with_reducible refine as_DI ?_; (first
    | (with_reducible refine' di_range1 (by assumption) T.b_range ?_)
    | (with_reducible refine' di_range2 (by assumption) T.b_range ?_)
    | (with_reducible refine' di_range3 (by assumption) T.b_range ?_)
    | (with_reducible refine' di_enumS (by assumption) T.b_enumerate ?_)))
  | (with_reducible refine as_DX ?_; (first
    | with_reducible refine dx_tup (by first | exact atI_0 | exact atI_1 | exact atI_2 | exact atI_3) ?_
    | with_reducible refine dx_lst (by first | exact atI_0 | exact atI_1 | exact atI_2 | exact atI_3) ?_
    | with_reducible refine dx_own (by (repeat (first | with_reducible assumption | with_reducible constructor))) (by first | exact atI_0 | exact atI_1 | exact atI_2 | exact atI_3) ?_))
  | with_reducible refine ex_bl ?_
  | with_reducible refine ref_in ?_
  | with_reducible refine int_in ?_
  | with_reducible refine int_in2 ?_
  | with_reducible refine str_in ?_
  | with_reducible refine br_t ?_
  | with_reducible refine br_f ?_
  | with_reducible refine rb_t ?_
  | with_reducible refine rb_f ?_
  | with_reducible refine br_nt ?_
  | with_reducible refine br_nf ?_
  | with_reducible refine rb_nt ?_
  | with_reducible refine rb_nf ?_
  | with_reducible refine len_and (by with_unfolding_all rfl) ?_
  | with_reducible refine fld_ins (by with_unfolding_all rfl) ?_
  | with_reducible refine fld_own (by (repeat (first | with_reducible assumption | with_reducible constructor))) (by with_unfolding_all rfl) ?_
  | (with_reducible refine' sd_in ?hs ?_; (case hs => (repeat (with_reducible constructor))))
  | ((with_reducible refine' wp_in ?gw ?_); (case gw => (repeat (first | exact Wp.nil | exact SetN.head | apply SetN.tail | apply Wp.cons))))
  | (with_reducible refine' own2_in ?ga ?_; (case ga => repeat (first | with_reducible assumption | with_reducible exact At.head | with_reducible apply At.tail)))
  | (with_reducible refine' par_in ?h1 ?h2 ?_; (case h1 => repeat (with_reducible constructor)); (case h2 => repeat (with_reducible constructor)))
  | (with_reducible refine' par3_in ?h1 ?h2 ?h3 ?_; (case h1 => repeat (with_reducible constructor)); (case h2 => repeat (with_reducible constructor)); (case h3 => repeat (with_reducible constructor)))
  | with_reducible refine seq_lst ?_
  | with_reducible refine seq_fz ?_
  | with_reducible refine seq_tup ?_
  | with_reducible refine seq1_lst ?_
  | with_reducible refine seq1_fz ?_
  | with_reducible refine seq1_tup ?_
  | (with_reducible refine' rng1_in ?h1 ?h2 ?_; (case h1 => (first | decide | omega)); (case h2 => (first | decide | omega)))
  | (with_reducible refine' rng2_in ?h1 ?h2 ?h3 ?h4 ?_; (case h1 => (first | decide | omega)); (case h2 => (first | decide | omega)); (case h3 => (first | decide | omega)); (case h4 => (first | decide | omega)))
  | (with_reducible refine' app_in ?h1 ?h2 ?h3 ?_; (case h1 => (repeat (first | with_reducible assumption | with_reducible constructor))); (case h2 => (first | omega | (simp; done) | (simp; omega))); (case h3 => (repeat (first | with_reducible assumption | with_reducible constructor))))
  | (with_reducible refine' pr_size T hr ?hk ?hm ?_; (case hk => decide); (case hm => assumption))
  | with_reducible refine lst_in ?_
  | (with_reducible refine' pr_delays T hr ?hk ?ha ?_; (case hk => decide); (case ha => (repeat (first | with_reducible assumption | with_reducible constructor))))
  | (with_reducible refine' pr_history T hr ?hk ?ha ?hf ?_; (case hk => decide); (case ha => (repeat (first | with_reducible assumption | with_reducible constructor))); (case hf => (repeat (first | with_reducible assumption | with_reducible constructor))))
  | (with_reducible refine' mt_in T.InvalidMelody.cl T.InvalidMelody_init.mt ?hl ?_; (case hl => with_unfolding_all rfl))
  | (with_reducible refine' mt_own ?ha T.InvalidMelody.cl T.InvalidMelody_init.mt ?hl ?_; (case ha => (repeat (first | with_reducible assumption | with_reducible constructor))); (case hl => with_unfolding_all rfl))
  | (with_reducible refine' mt_in T.InvalidRound.cl T.InvalidRound_init.mt ?hl ?_; (case hl => with_unfolding_all rfl))
  | (with_reducible refine' mt_own ?ha T.InvalidRound.cl T.InvalidRound_init.mt ?hl ?_; (case ha => (repeat (first | with_reducible assumption | with_reducible constructor))); (case hl => with_unfolding_all rfl))
  | (with_reducible refine' mt_in T.TextFault.cl T.TextFault_init.mt ?hl ?_; (case hl => with_unfolding_all rfl))
  | (with_reducible refine' mt_own ?ha T.TextFault.cl T.TextFault_init.mt ?hl ?_; (case ha => (repeat (first | with_reducible assumption | with_reducible constructor))); (case hl => with_unfolding_all rfl))
  | (with_reducible refine' mt_in T.InvalidCode.cl T.InvalidCode_init.mt ?hl ?_; (case hl => with_unfolding_all rfl))
  | (with_reducible refine' mt_own ?ha T.InvalidCode.cl T.InvalidCode_init.mt ?hl ?_; (case ha => (repeat (first | with_reducible assumption | with_reducible constructor))); (case hl => with_unfolding_all rfl))
  | (with_reducible refine' mt_in T.InvalidOperation.cl T.InvalidOperation_init.mt ?hl ?_; (case hl => with_unfolding_all rfl))
  | (with_reducible refine' mt_own ?ha T.InvalidOperation.cl T.InvalidOperation_init.mt ?hl ?_; (case ha => (repeat (first | with_reducible assumption | with_reducible constructor))); (case hl => with_unfolding_all rfl))
  | (with_reducible refine' mt_in T.Melody.cl T.Melody_init.mt ?hl ?_; (case hl => with_unfolding_all rfl))
  | (with_reducible refine' mt_own ?ha T.Melody.cl T.Melody_init.mt ?hl ?_; (case ha => (repeat (first | with_reducible assumption | with_reducible constructor))); (case hl => with_unfolding_all rfl))
  | (with_reducible refine' mt_in T.Melody.cl T.Melody_sound.mt ?hl ?_; (case hl => with_unfolding_all rfl))
  | (with_reducible refine' mt_own ?ha T.Melody.cl T.Melody_sound.mt ?hl ?_; (case ha => (repeat (first | with_reducible assumption | with_reducible constructor))); (case hl => with_unfolding_all rfl))
  | (with_reducible refine' mt_in T.Melody.cl T.Melody_call.mt ?hl ?_; (case hl => with_unfolding_all rfl))
  | (with_reducible refine' mt_own ?ha T.Melody.cl T.Melody_call.mt ?hl ?_; (case ha => (repeat (first | with_reducible assumption | with_reducible constructor))); (case hl => with_unfolding_all rfl))
  | (with_reducible refine' mt_in T.Melody.cl T.Melody_len.mt ?hl ?_; (case hl => with_unfolding_all rfl))
  | (with_reducible refine' mt_own ?ha T.Melody.cl T.Melody_len.mt ?hl ?_; (case ha => (repeat (first | with_reducible assumption | with_reducible constructor))); (case hl => with_unfolding_all rfl))
  | (with_reducible refine' mt_in T.Melody.cl T.Melody_eq.mt ?hl ?_; (case hl => with_unfolding_all rfl))
  | (with_reducible refine' mt_own ?ha T.Melody.cl T.Melody_eq.mt ?hl ?_; (case ha => (repeat (first | with_reducible assumption | with_reducible constructor))); (case hl => with_unfolding_all rfl))
  | (with_reducible refine' mt_in T.Melody.cl T.Melody_bool.mt ?hl ?_; (case hl => with_unfolding_all rfl))
  | (with_reducible refine' mt_own ?ha T.Melody.cl T.Melody_bool.mt ?hl ?_; (case ha => (repeat (first | with_reducible assumption | with_reducible constructor))); (case hl => with_unfolding_all rfl))
  | (with_reducible refine' mt_in T.Melody.cl T.Melody_contains.mt ?hl ?_; (case hl => with_unfolding_all rfl))
  | (with_reducible refine' mt_own ?ha T.Melody.cl T.Melody_contains.mt ?hl ?_; (case ha => (repeat (first | with_reducible assumption | with_reducible constructor))); (case hl => with_unfolding_all rfl))
  | (with_reducible refine' mt_in T.Melody.cl T.Melody_getitem.mt ?hl ?_; (case hl => with_unfolding_all rfl))
  | (with_reducible refine' mt_own ?ha T.Melody.cl T.Melody_getitem.mt ?hl ?_; (case ha => (repeat (first | with_reducible assumption | with_reducible constructor))); (case hl => with_unfolding_all rfl))
  | (with_reducible refine' mt_in T.Melody.cl T.Melody_iter.mt ?hl ?_; (case hl => with_unfolding_all rfl))
  | (with_reducible refine' mt_own ?ha T.Melody.cl T.Melody_iter.mt ?hl ?_; (case ha => (repeat (first | with_reducible assumption | with_reducible constructor))); (case hl => with_unfolding_all rfl))
  | (with_reducible refine' mt_in T.Melody.cl T.Melody_add.mt ?hl ?_; (case hl => with_unfolding_all rfl))
  | (with_reducible refine' mt_own ?ha T.Melody.cl T.Melody_add.mt ?hl ?_; (case ha => (repeat (first | with_reducible assumption | with_reducible constructor))); (case hl => with_unfolding_all rfl))
  | (with_reducible refine' mt_in T.Melody.cl T.Melody_mul.mt ?hl ?_; (case hl => with_unfolding_all rfl))
  | (with_reducible refine' mt_own ?ha T.Melody.cl T.Melody_mul.mt ?hl ?_; (case ha => (repeat (first | with_reducible assumption | with_reducible constructor))); (case hl => with_unfolding_all rfl))
  | (with_reducible refine' mt_in T.Melody.cl T.Melody_rshift.mt ?hl ?_; (case hl => with_unfolding_all rfl))
  | (with_reducible refine' mt_own ?ha T.Melody.cl T.Melody_rshift.mt ?hl ?_; (case ha => (repeat (first | with_reducible assumption | with_reducible constructor))); (case hl => with_unfolding_all rfl))
  | (with_reducible refine' mt_in T.Melody.cl T.Melody_invert.mt ?hl ?_; (case hl => with_unfolding_all rfl))
  | (with_reducible refine' mt_own ?ha T.Melody.cl T.Melody_invert.mt ?hl ?_; (case ha => (repeat (first | with_reducible assumption | with_reducible constructor))); (case hl => with_unfolding_all rfl))
  | (with_reducible refine' mt_in T.Melody.cl T.Melody_neg.mt ?hl ?_; (case hl => with_unfolding_all rfl))
  | (with_reducible refine' mt_own ?ha T.Melody.cl T.Melody_neg.mt ?hl ?_; (case ha => (repeat (first | with_reducible assumption | with_reducible constructor))); (case hl => with_unfolding_all rfl))
  | (with_reducible refine' mt_in T.Listener.cl T.Listener_init.mt ?hl ?_; (case hl => with_unfolding_all rfl))
  | (with_reducible refine' mt_own ?ha T.Listener.cl T.Listener_init.mt ?hl ?_; (case ha => (repeat (first | with_reducible assumption | with_reducible constructor))); (case hl => with_unfolding_all rfl))
  | (with_reducible refine' mt_in T.Listener.cl T.Listener_sounds.mt ?hl ?_; (case hl => with_unfolding_all rfl))
  | (with_reducible refine' mt_own ?ha T.Listener.cl T.Listener_sounds.mt ?hl ?_; (case ha => (repeat (first | with_reducible assumption | with_reducible constructor))); (case hl => with_unfolding_all rfl))
  | (with_reducible refine' mt_in T.Listener.cl T.Listener_hear.mt ?hl ?_; (case hl => with_unfolding_all rfl))
  | (with_reducible refine' mt_own ?ha T.Listener.cl T.Listener_hear.mt ?hl ?_; (case ha => (repeat (first | with_reducible assumption | with_reducible constructor))); (case hl => with_unfolding_all rfl))
  | (with_reducible refine' mt_in T.Listener.cl T.Listener_best_beat.mt ?hl ?_; (case hl => with_unfolding_all rfl))
  | (with_reducible refine' mt_own ?ha T.Listener.cl T.Listener_best_beat.mt ?hl ?_; (case ha => (repeat (first | with_reducible assumption | with_reducible constructor))); (case hl => with_unfolding_all rfl))
  | (with_reducible refine' fldA_ins T.InvalidMelody.cl T.n_InvalidMelody_index ?hl ?_; (case hl => with_unfolding_all rfl))
  | (with_reducible refine' fldA_own ?ha T.InvalidMelody.cl T.n_InvalidMelody_index ?hl ?_; (case ha => (repeat (first | with_reducible assumption | with_reducible constructor))); (case hl => with_unfolding_all rfl))
  | (with_reducible refine' fldA_ins T.InvalidRound.cl T.n_InvalidRound_index ?hl ?_; (case hl => with_unfolding_all rfl))
  | (with_reducible refine' fldA_own ?ha T.InvalidRound.cl T.n_InvalidRound_index ?hl ?_; (case ha => (repeat (first | with_reducible assumption | with_reducible constructor))); (case hl => with_unfolding_all rfl))
  | (with_reducible refine' fldA_ins T.InvalidCode.cl T.n_InvalidCode_place ?hl ?_; (case hl => with_unfolding_all rfl))
  | (with_reducible refine' fldA_own ?ha T.InvalidCode.cl T.n_InvalidCode_place ?hl ?_; (case ha => (repeat (first | with_reducible assumption | with_reducible constructor))); (case hl => with_unfolding_all rfl))
  | (with_reducible refine' fldA_ins T.InvalidOperation.cl T.n_InvalidOperation_place ?hl ?_; (case hl => with_unfolding_all rfl))
  | (with_reducible refine' fldA_own ?ha T.InvalidOperation.cl T.n_InvalidOperation_place ?hl ?_; (case ha => (repeat (first | with_reducible assumption | with_reducible constructor))); (case hl => with_unfolding_all rfl))
  | (with_reducible refine' fput_in ?ha T.InvalidMelody.cl T.n_InvalidMelody_index ?hl ?hp ?_; (case ha => (repeat (first | with_reducible assumption | with_reducible constructor))); (case hl => with_unfolding_all rfl); (case hp => (repeat (first | with_reducible assumption | with_reducible constructor))))
  | (with_reducible refine' fput_in ?ha T.InvalidRound.cl T.n_InvalidRound_part ?hl ?hp ?_; (case ha => (repeat (first | with_reducible assumption | with_reducible constructor))); (case hl => with_unfolding_all rfl); (case hp => (repeat (first | with_reducible assumption | with_reducible constructor))))
  | (with_reducible refine' fput_in ?ha T.InvalidRound.cl T.n_InvalidRound_index ?hl ?hp ?_; (case ha => (repeat (first | with_reducible assumption | with_reducible constructor))); (case hl => with_unfolding_all rfl); (case hp => (repeat (first | with_reducible assumption | with_reducible constructor))))
  | (with_reducible refine' fput_in ?ha T.TextFault.cl T.n_TextFault_word ?hl ?hp ?_; (case ha => (repeat (first | with_reducible assumption | with_reducible constructor))); (case hl => with_unfolding_all rfl); (case hp => (repeat (first | with_reducible assumption | with_reducible constructor))))
  | (with_reducible refine' fput_in ?ha T.InvalidCode.cl T.n_InvalidCode_place ?hl ?hp ?_; (case ha => (repeat (first | with_reducible assumption | with_reducible constructor))); (case hl => with_unfolding_all rfl); (case hp => (repeat (first | with_reducible assumption | with_reducible constructor))))
  | (with_reducible refine' fput_in ?ha T.InvalidOperation.cl T.n_InvalidOperation_place ?hl ?hp ?_; (case ha => (repeat (first | with_reducible assumption | with_reducible constructor))); (case hl => with_unfolding_all rfl); (case hp => (repeat (first | with_reducible assumption | with_reducible constructor))))
  | (with_reducible refine' fput_in ?ha T.Melody.cl T.n_Melody_given ?hl ?hp ?_; (case ha => (repeat (first | with_reducible assumption | with_reducible constructor))); (case hl => with_unfolding_all rfl); (case hp => (repeat (first | with_reducible assumption | with_reducible constructor))))
  | (with_reducible refine' fput_in ?ha T.Melody.cl T.n_Melody_row ?hl ?hp ?_; (case ha => (repeat (first | with_reducible assumption | with_reducible constructor))); (case hl => with_unfolding_all rfl); (case hp => (repeat (first | with_reducible assumption | with_reducible constructor))))
  | (with_reducible refine' fput_in ?ha T.Listener.cl T.n_Listener_one ?hl ?hp ?_; (case ha => (repeat (first | with_reducible assumption | with_reducible constructor))); (case hl => with_unfolding_all rfl); (case hp => (repeat (first | with_reducible assumption | with_reducible constructor))))
  | (with_reducible refine' fput_in ?ha T.Listener.cl T.n_Listener_other ?hl ?hp ?_; (case ha => (repeat (first | with_reducible assumption | with_reducible constructor))); (case hl => with_unfolding_all rfl); (case hp => (repeat (first | with_reducible assumption | with_reducible constructor))))
  | (with_reducible refine' fput_in ?ha T.Listener.cl T.n_Listener_kept ?hl ?hp ?_; (case ha => (repeat (first | with_reducible assumption | with_reducible constructor))); (case hl => with_unfolding_all rfl); (case hp => (repeat (first | with_reducible assumption | with_reducible constructor))))
  | (with_reducible refine' fput_in ?ha T.Listener.cl T.n_Listener_facts ?hl ?hp ?_; (case ha => (repeat (first | with_reducible assumption | with_reducible constructor))); (case hl => with_unfolding_all rfl); (case hp => (repeat (first | with_reducible assumption | with_reducible constructor))))
  | with_reducible refine dpo_none ?_
  | with_reducible refine dpo_some ?_
  | (with_reducible refine' dgc_name (by assumption) ?hi ?hs ?hv ?_; (case hi => (repeat (with_reducible constructor))); (case hs => (repeat (with_reducible constructor))); (case hv => decide))
  | with_reducible refine dgc_tup (by assumption) (by with_unfolding_all rfl) ?_
  | with_reducible refine dgs_cons ?_
  | with_reducible refine dgs_nil ?_
  | with_reducible refine dgcs_cons ?_
  | with_reducible refine dgcs_nil ?_
  | with_reducible refine dts_nil ?_
  | with_reducible refine dts_one ?_
  | (with_reducible refine as_blk ?_; (intro X2 B2; have T := (show Txt X2.K X2.mg a from by rw [B2.K, B2.mg]; assumption); have S2 := B2.sc; have hr := B2.room (by assumption)))
  | (with_reducible exact ⟨rfl, rfl⟩)
  | with_reducible refine star_tup ?_
  | with_reducible refine star_lst ?_
  | (with_reducible refine as_br ?_; (first
    | with_reducible refine br_et (by with_unfolding_all rfl) ?_
    | with_reducible refine br_ef (by with_unfolding_all rfl) ?_))
  | (with_reducible refine as_rb ?_; (first
    | with_reducible refine rb_et (by with_unfolding_all rfl) ?_
    | with_reducible refine rb_ef (by with_unfolding_all rfl) ?_))
  | (dsimp only [dOpt_none, dOpt_some])))
set_option hygiene false in
local macro_rules | `(tactic| walk_at "go_is_int_in") => `(tactic| (repeat (first
  | (with_reducible refine as_DS ?_; (first
    | (with_reducible refine' ds_parC (by assumption) (.inl ?hl) ?_; (case hl => ((repeat (with_reducible constructor)); done)))
    | (with_reducible refine' ds_parC (by assumption) (.inr ?hl) ?_; (case hl => ((repeat (with_reducible constructor)); done)))
    | (with_reducible refine' ds_setLcC (by assumption) (by assumption) ?hi ?_ ?hl; (case hl => ((repeat (with_reducible constructor)); done)); (case hi => (repeat (with_reducible constructor))))
    | (with_reducible refine' ds_setCD (by assumption) (by assumption) ?hi ?_ ?hl; (case hl => ((repeat (with_reducible constructor)); done)); (case hi => (repeat (with_reducible constructor))))
    | (with_reducible refine ds_forL (by assumption) Df.po ?_)))
  | (with_reducible refine as_NL ?_; (first
    | (with_reducible refine nl_ownT ?_)
    | (with_reducible refine nl_fz ?_)))
  | (with_reducible refine own_out ?_)
  | walk_at "g1"
  | (with_reducible refine as_DI ?_; (first
    | (with_reducible refine di_seq ?_))))))
set_option hygiene false in
local macro_rules | `(tactic| walk_at "go_is_note") => `(tactic| (repeat (first
  | (with_reducible refine as_DS ?_; (first
    | (with_reducible refine' ds_parC (by assumption) (.inl ?hl) ?_; (case hl => ((repeat (with_reducible constructor)); done)))
    | (with_reducible refine' ds_parC (by assumption) (.inr ?hl) ?_; (case hl => ((repeat (with_reducible constructor)); done)))
    | (with_reducible refine' ds_setLcC (by assumption) (by assumption) ?hi ?_ ?hl; (case hl => ((repeat (with_reducible constructor)); done)); (case hi => (repeat (with_reducible constructor))))
    | (with_reducible refine' ds_setCD (by assumption) (by assumption) ?hi ?_ ?hl; (case hl => ((repeat (with_reducible constructor)); done)); (case hi => (repeat (with_reducible constructor))))
    | (with_reducible refine ds_forL (by assumption) Df.po ?_)))
  | (with_reducible refine as_NL ?_; (first
    | (with_reducible refine nl_ownT ?_)
    | (with_reducible refine nl_fz ?_)))
  | (with_reducible refine own_out ?_)
  | walk_at "g1"
  | (with_reducible refine as_DI ?_; (first
    | (with_reducible refine di_seq ?_))))))
section
variable {P : Program} {w : World} {K : PySem.W.Frag} {mg : Str → Option Value} {base : Heap} {a : Adr}
def spIsIn : DSp := fun ds O E Q => ∃ d lo hi, ds = [d, .int lo, .int hi] ∧ tyD d ≠ "" ∧ Q (.bl (isIn d lo hi)) O
theorem ok_is_int_in (T : Txt K mg a) : DFn P w K mg base 1 a.f_is_int_in spIsIn := by
  refine T.is_int_in.ok sc_is_int_in (fun ds O E Q h => by obtain ⟨_, _, _, e, _⟩ := h; rw [e]; rfl) ?_
  intro X I S0 Df hr ds O E Q hsp; obtain ⟨rfl, rfl, rfl, rfl, rfl⟩ := I; have S : Sc X _ c_is_int_in := S0; clear S0
  obtain ⟨d, lo, hi, rfl, hd, q⟩ := hsp
  show DSs X _ [some d, some (.int lo), some (.int hi)] O _ _
  refine dss_cons ?_
  walk_at "go"
  refine ⟨fun hk => ?_, fun hk => ?_⟩
  · walk_at "go"
    refine ⟨fun hk2 => ?_, fun hk2 => ?_⟩
    · obtain ⟨i, rfl⟩ : ∃ i, d = .int i := by
        cases d <;> simp [isIntD, isBlD] at hk hk2 ⊢
      walk_at "go"
      refine ⟨fun h => ?_, fun h => ?_⟩
      · walk_at "go"
        have e : isIn (.int i) lo hi = decide (i ≤ hi) := by simp [isIn, h]
        rw [← e]; exact q
      · have e : isIn (.int i) lo hi = false := by simp [isIn, h]
        rw [← e]; exact q
    · have e : isIn d lo hi = false := by cases d <;> first | rfl | (simp [isBlD] at hk2)
      rw [← e]; exact q
  · have e : isIn d lo hi = false := by cases d <;> first | rfl | (simp [isIntD] at hk)
    rw [← e]; exact q
section
variable {X : Cx} {δ : DEnv} {O : Own} {E : XD → Own → Prop} {Q : D → Own → Prop}
theorem dc_isin {k : Nat} {d : D} {lo hi : Int} (T : Txt X.K X.mg a) (hr : Room k X.A) (hk : 1 ≤ k) (h : tyD d ≠ "") (q : Q (.bl (isIn d lo hi)) O) : DC X (.ref a.f_is_int_in) [d, .int lo, .int hi] δ O E Q := dc_fn (ok_is_int_in T) (hr.mono hk) ⟨d, lo, hi, rfl, h, q⟩
theorem dc_isinT {k : Nat} {i lo hi : Int} (T : Txt X.K X.mg a) (hr : Room k X.A) (hk : 1 ≤ k) (h1 : lo ≤ i) (h2 : i ≤ hi) (q : Q (.bl true) O) : DC X (.ref a.f_is_int_in) [.int i, .int lo, .int hi] δ O E Q :=
  dc_isin T hr hk (by simp [tyD]) (by rw [isIn_int, decide_eq_true ⟨h1, h2⟩]; exact q)
end
end
section
variable {P : Program} {w : World} {K : PySem.W.Frag} {mg : Str → Option Value} {base : Heap} {a : Adr}
def isNoteD : D → Bool
  | .tup [p, b] => (isNon p || isIn p 0 127) && isIn b 1 16
  | _ => false
def tyAll (d : D) : Prop := ∀ xs, d = .tup xs → ∀ x ∈ xs, tyD x ≠ ""
def spIsNote : DSp := fun ds O E Q => ∃ d, ds = [d] ∧ tyD d ≠ "" ∧ tyAll d ∧ Q (.bl (isNoteD d)) O
theorem ok_is_note (T : Txt K mg a) : DFn P w K mg base 2 a.f_is_note spIsNote := by
  refine T.is_note.ok sc_is_note (fun ds O E Q h => by obtain ⟨_, e, _⟩ := h; rw [e]; rfl) ?_
  intro X I S0 Df hr ds O E Q hsp; obtain ⟨rfl, rfl, rfl, rfl, rfl⟩ := I; have S : Sc X _ c_is_note := S0; clear S0
  obtain ⟨d, rfl, hd, ha, q⟩ := hsp
  show DSs X _ [some d, none, none] O _ _
  refine dss_cons ?_
  walk_at "go"
  refine ⟨fun hk => ?_, fun hk => ?_⟩
  · obtain ⟨xs, rfl⟩ : ∃ xs, d = .tup xs := by cases d <;> simp [isTupD] at hk ⊢
    walk_at "go"
    refine ⟨fun h2 => ?_, fun h2 => ?_⟩
    · have e : isNoteD (.tup xs) = false := by
        match xs, h2 with
        | [], _ => rfl
        | [_], _ => rfl
        | [_, _], h2 => simp at h2
        | _ :: _ :: _ :: _, _ => rfl
      walk_at "go"
      rw [← e]; exact q
    · obtain ⟨p, b, rfl⟩ : ∃ p b, xs = [p, b] := by
        match xs, h2 with
        | [p, b], _ => exact ⟨p, b, rfl⟩
        | [], h2 => simp at h2
        | [_], h2 => simp at h2
        | _ :: _ :: _ :: _, h2 => simp at h2; omega
      have hp : tyD p ≠ "" := ha _ rfl p (by simp)
      have hb : tyD b ≠ "" := ha _ rfl b (by simp)
      walk_at "go"
      refine ⟨fun h4 => ?_, fun h4 => ?_⟩
      · walk_at "go"
        refine dc_fn (ok_is_int_in T) (hr.mono (by decide)) ⟨b, 1, 16, rfl, hb, ?_⟩
        have e : isNoteD (.tup [p, b]) = isIn b 1 16 := by rw [isNoteD, show DL.isNon p = true from h4]; rfl
        rw [← e]; exact q
      · walk_at "go"
        refine dc_fn (ok_is_int_in T) (hr.mono (by decide)) ⟨p, 0, 127, rfl, hp, ?_⟩
        refine ⟨_, rfl, fun h5 => ?_, fun h5 => ?_⟩
        · walk_at "go"
          refine dc_fn (ok_is_int_in T) (hr.mono (by decide)) ⟨b, 1, 16, rfl, hb, ?_⟩
          have e : isNoteD (.tup [p, b]) = isIn b 1 16 := by rw [isNoteD, h5]; simp
          rw [← e]; exact q
        · have e : isNoteD (.tup [p, b]) = false := by rw [isNoteD, h5, show isNon p = false from h4]; rfl
          rw [← e]; exact q
  · have e : isNoteD d = false := by cases d <;> first | rfl | (simp [isTupD] at hk)
    walk_at "go"
    rw [← e]; exact q
end

set_option hygiene false in
local macro_rules | `(tactic| walk_at "go_Melody_init") => `(tactic| (repeat (first
  | (with_reducible refine as_DS ?_; (first
    | (with_reducible refine' ds_setO (x := "row") (hl := ?hl) (by assumption) ?hi ?_; (case hl => ((repeat (with_reducible constructor)); done)); (case hi => (repeat (with_reducible constructor))))
    | (with_reducible refine' ds_setCO (x := "row") (hl := ?hl) (by assumption) (by assumption) ?hi ?_; (case hl => ((repeat (with_reducible constructor)); done)); (case hi => (repeat (with_reducible constructor))))
    | (with_reducible refine' ds_parC (by assumption) (.inl ?hl) ?_; (case hl => ((repeat (with_reducible constructor)); done)))
    | (with_reducible refine' ds_parC (by assumption) (.inr ?hl) ?_; (case hl => ((repeat (with_reducible constructor)); done)))
    | (with_reducible refine' ds_setLcC (by assumption) (by assumption) ?hi ?_ ?hl; (case hl => ((repeat (with_reducible constructor)); done)); (case hi => (repeat (with_reducible constructor))))
    | (with_reducible refine' ds_setCD (by assumption) (by assumption) ?hi ?_ ?hl; (case hl => ((repeat (with_reducible constructor)); done)); (case hi => (repeat (with_reducible constructor))))
    | (with_reducible refine ds_forL (by assumption) Df.po ?_)))
  | (with_reducible refine as_NL ?_; (first
    | (with_reducible refine nl_ownT ?_)
    | (with_reducible refine nl_fz ?_)))
  | (with_reducible refine own_out ?_)
  | walk_at "g1"
  | (with_reducible refine as_DI ?_; (first
    | (with_reducible refine di_seq ?_))))))
section
variable {P : Program} {w : World} {K : PySem.W.Frag} {mg : Str → Option Value} {base : Heap} {a : Adr}
theorem isNote_ok {n : Note} (h : okNote n = true) : isNoteD (dNote n) = true := by
  obtain ⟨p, b⟩ := n
  cases p with
  | none => simp [okNote, isNoteD, dNote, dOpt, DL.isNon, isIn] at h ⊢; exact h
  | some p => simp [okNote, isNoteD, dNote, dOpt, DL.isNon, isIn] at h ⊢; exact h
theorem tyAll_note (n : Note) : tyAll (dNote n) := by
  intro xs e x hx
  injection e with e
  subst e
  simp at hx
  rcases hx with rfl | rfl
  · exact tyD_opt _
  · simp [tyD]




def spInit (C : Addr) : DSp := fun ds O E Q => ∃ s ns O', ds = [.ref s, .tup (ns.map dNote)] ∧ Mel ns ∧ O = (s, .ins C []) :: O' ∧ Q .non ((s, .ins C (melFs ns)) :: O')
theorem ok_Melody_init (T : Txt K mg a) : DFn P w K mg base 4 a.f_Melody_init (starSp 1 (spInit a.C_Melody)) := by
  refine T.Melody_init.ok sc_Melody_init ?_
  intro X I S0 Df hr ds O E Q hsp; obtain ⟨rfl, rfl, rfl, rfl, rfl⟩ := I; have S : Sc X _ c_Melody_init := S0; clear S0
  obtain ⟨s, ns, O', rfl, hm, rfl, q⟩ := hsp
  show DSs X _ [some (.ref s), some (.tup (ns.map dNote)), none, none, none, none, none, none] _ _ _
  refine dss_cons ?_
  refine ds_for S Df.po (di_enumT S T.b_enumerate ?_)
  walk_at "go"
  refine ⟨_, rfl, fun i δ' O1 => (∃ x y, δ' = [some (.ref s), some (.tup (ns.map dNote)), x, y, none, none, none, none]) ∧ O1 = (s, .ins a.C_Melody []) :: O', ⟨⟨_, _, rfl⟩, rfl⟩, ?_, ?_⟩
  · rintro i d δ' O1 hd ⟨⟨x, y, rfl⟩, rfl⟩
    obtain ⟨z, hz, rfl⟩ := enumD_get hd
    obtain ⟨n, hn, rfl⟩ : ∃ n, ns[i]? = some n ∧ z = dNote n := by
      rw [List.getElem?_map] at hz
      cases h : ns[i]? with
      | none => rw [h] at hz; simp at hz
      | some n => rw [h] at hz; simp at hz; exact ⟨n, rfl, hz.symm⟩
    have hi : i < 32 := by have := (List.getElem?_eq_some_iff.1 hn).1; have := hm.le; omega
    walk_at "go"
    refine ⟨fun h1 => ?_, fun h1 => absurd (of_decide_eq_true h1) (by omega)⟩
    walk_at "go"
    refine dc_fn (ok_is_note T) (hr.mono (by decide)) ⟨dNote n, rfl, by simp [dNote, tyD], tyAll_note n, ?_⟩
    rw [isNote_ok (hm.ok n (List.mem_of_getElem? hn))]
    walk_at "go"
    exact ⟨⟨_, _, rfl⟩, rfl⟩
  · rintro δ' O1 ⟨⟨x, y, rfl⟩, rfl⟩
    walk_at "go"
    refine db_eqP hr (okN_notes ns) (okN_tup (n := 0) fun _ h => nomatch h) (noBl_notes ns) rfl fun b hb => ?_
    have hb' : b = false := by
      cases b with
      | false => rfl
      | true =>
        have h1 := hb.1 rfl
        have h2 := hm.pos
        simp at h1
        rw [h1] at h2
        simp at h2
    subst hb'
    walk_at "go"
    refine ⟨_, _, _, _, rfl, .head, T.Melody.cl, T.n_Melody_given, by decide, .head, ?_⟩
    walk_at "go"
    refine nl_own fun r => ?_
    walk_at "go"
    refine ds_for S Df.po (di_enumT S T.b_enumerate ?_)
    walk_at "go"
    refine ⟨_, rfl, fun i δ' O1 => (∃ x1 x2 x3, δ' = [some (.ref s), some (.tup (ns.map dNote)), x, y, some (.ref r), x1, x2, x3]) ∧ O1 = (r, .lst (dRow (rowOf (ns.take i)))) :: (s, .ins a.C_Melody [("given", .tup (ns.map dNote))]) :: O', ⟨⟨_, _, _, rfl⟩, rfl⟩, ?_, ?_⟩
    · rintro i d δ' O1 hd ⟨⟨x1, x2, x3, rfl⟩, rfl⟩
      obtain ⟨z, hz, rfl⟩ := enumD_get hd
      obtain ⟨n, hn, rfl⟩ : ∃ n, ns[i]? = some n ∧ z = dNote n := by
        rw [List.getElem?_map] at hz
        cases h : ns[i]? with
        | none => rw [h] at hz; simp at hz
        | some n => rw [h] at hz; simp at hz; exact ⟨n, rfl, hz.symm⟩
      walk_at "go"
      walk_at "go"
      refine nl_fz ?_
      walk_at "go"
      have hb := okNote_le (hm.ok n (List.mem_of_getElem? hn))
      refine db_rep (by omega) (by omega) (by simp; omega) (nl_fz ?_)
      refine ⟨_, .head, _, _, rfl, ?_, .head, ?_⟩
      · have h1 := row_take_le hm i
        simp
        omega
      walk_at "go"
      refine ⟨⟨_, _, _, rfl⟩, ?_⟩
      rw [row_next hn]
    · rintro δ' O1 ⟨⟨x1, x2, x3, rfl⟩, rfl⟩
      refine' dss_fz _ ?gm ?gd ?gf ?_; (case gm => (repeat (first | with_reducible exact At.head | with_reducible assumption | with_reducible apply At.tail))); (case gd => (repeat (first | with_reducible exact Del.head | with_reducible apply Del.tail))); (case gf => (repeat (first | with_reducible exact Fz.nil | with_reducible apply Fz.swap | with_reducible apply Fz.keep)))
      walk_at "go"
      refine ⟨_, _, _, _, rfl, .head, T.Melody.cl, T.n_Melody_row, by simp, .head, ?_⟩
      rw [enumD_length, List.length_map, List.take_length]
      exact q
end

set_option hygiene false in
local macro_rules | `(tactic| walk_at "go_is_number") => `(tactic| (repeat (first
  | (with_reducible refine as_DS ?_; (first
    | (with_reducible refine' ds_parC (by assumption) (.inl ?hl) ?_; (case hl => ((repeat (with_reducible constructor)); done)))
    | (with_reducible refine' ds_parC (by assumption) (.inr ?hl) ?_; (case hl => ((repeat (with_reducible constructor)); done)))
    | (with_reducible refine' ds_setLcXc (hl := ?hl) [("digit", 2)] ⟨.function, [(".0", .local), ("digit", .local), ("DIGITS", .globalImplicit)], false, false, []⟩ (by assumption) ?hi ?_; (case hl => ((repeat (with_reducible constructor)); done)); (case hi => (repeat (with_reducible constructor))))
    | (with_reducible refine' ds_setLcC (by assumption) (by assumption) ?hi ?_ ?hl; (case hl => ((repeat (with_reducible constructor)); done)); (case hi => (repeat (with_reducible constructor))))
    | (with_reducible refine' ds_setCD (by assumption) (by assumption) ?hi ?_ ?hl; (case hl => ((repeat (with_reducible constructor)); done)); (case hi => (repeat (with_reducible constructor))))
    | (with_reducible refine ds_forL (by assumption) Df.po ?_)))
  | (with_reducible refine as_DE ?_; (first
    | (with_reducible refine de_lcXc [("digit", 2)] ⟨.function, [(".0", .local), ("digit", .local), ("DIGITS", .globalImplicit)], false, false, []⟩ (by assumption) ?_)))
  | (with_reducible refine as_NL ?_; (first
    | (with_reducible refine nl_ownT ?_)
    | (with_reducible refine nl_fz ?_)))
  | (with_reducible refine own_out ?_)
  | walk_at "g1")))
section
variable {P : Program} {w : World} {K : PySem.W.Frag} {mg : Str → Option Value} {base : Heap} {a : Adr}
def isDig (c : Nat) : Bool := decide (c ∈ ("0123456789" : Str).cps.toList)
def isNum (z : Str) (m : Int) : Bool := decide (1 ≤ (z.length : Int) ∧ (z.length : Int) ≤ m) && z.cps.toList.all isDig && (decide (z.length = 1) || decide (z.cps.toList[0]? ≠ some 48))
def spIsNum : DSp := fun ds O E Q => ∃ z m, ds = [.str z, .int m] ∧ z.length ≤ 100000 ∧ Q (.bl (isNum z m)) O
theorem ok_is_number (T : Txt K mg a) : DFn P w K mg base 1 a.f_is_number spIsNum := by
  refine T.is_number.ok sc_is_number (fun ds O E Q h => by obtain ⟨_, _, e, _⟩ := h; rw [e]; rfl) ?_
  intro X I S0 Df hr ds O E Q hsp; obtain ⟨rfl, rfl, rfl, rfl, rfl⟩ := I; have S : Sc X _ c_is_number := S0; clear S0
  obtain ⟨z, m, rfl, hz, q⟩ := hsp
  show DSs X _ [some (.str z), some (.int m), none] O _ _
  refine dss_cons ?_
  have e1 : (z.length : Int) = ((z.cps.toList.length : Nat) : Int) := rfl
  refine ds_if (DT.via (k := !(decide (1 ≤ (z.length : Int) ∧ (z.length : Int) ≤ m) && z.cps.toList.all isDig)) (O1 := O) ⟨fun h => ?_, fun h => ?_⟩ ?_)
  · walk_at "go"
    have e : isNum z m = false := by unfold isNum; rw [Bool.not_eq_true'] at h; rw [h]; rfl
    rw [← e]; exact q
  · rw [Bool.not_eq_false'] at h
    walk_at "go"
    refine ⟨fun h2 => ?_, fun h2 => ?_⟩
    · have e : isNum z m = true := by
        have h2' : (z.length : Int) = 1 := of_decide_eq_true h2
        unfold isNum
        rw [h, decide_eq_true (show z.length = 1 by omega)]
        rfl
      rw [← e]; exact q
    · walk_at "go"
      have hp : 1 ≤ z.length := by simp at h; omega
      obtain ⟨c, r, hcr⟩ : ∃ c r, z.cps.toList = c :: r := by
        cases hh : z.cps.toList with
        | nil => rw [hh] at e1; simp at e1; omega
        | cons c r => exact ⟨c, r, rfl⟩
      refine dx_str (c := c) (by omega) (by rw [hcr]; exact atI_nat (j := 0) rfl) ?_
      walk_at "go"
      have e : isNum z m = !decide ((⟨#[c]⟩ : Str) = "0") := by
        have h2' : ¬ (z.length : Int) = 1 := of_decide_eq_false h2
        unfold isNum
        rw [h, decide_eq_false (show ¬ z.length = 1 by omega), hcr]
        have ec : (decide ((⟨#[c]⟩ : Str) = "0")) = decide (c = 48) := by
          refine decide_eq_decide.2 ⟨fun z => ?_, fun z => by rw [z]; rfl⟩
          have z2 : (#[c] : Array Nat) = #[48] := congrArg Str.cps z
          simpa using z2
        rw [ec]
        simp
      rw [← e]; exact q
  · walk_at "go"
    refine ⟨fun h1 => ?_, fun h1 => ?_⟩
    · walk_at "go"
      refine ⟨fun h2 => ?_, fun h2 => ?_⟩
      · walk_at "go"
        refine de_lcX [("digit", 2)] S (di_str ?_)
        walk_at "go"
        refine ⟨Nat, z.cps.toList, fun c => .str ⟨#[c]⟩, fun c => [.bl (!isDig c)], rfl, hz, fun c hc => ?_, ?_⟩
        · intro X2 B2; have T := (show Txt X2.K X2.mg a from by rw [B2.K, B2.mg]; assumption); have S2 := B2.sc; have hr := B2.room (by assumption)
          walk_at "go"
          intro X2 B2; have T := (show Txt X2.K X2.mg a from by rw [B2.K, B2.mg]; assumption); have S2 := B2.sc; have hr := B2.room (by assumption)
          walk_at "go"
          intro X2 B2; have T := (show Txt X2.K X2.mg a from by rw [B2.K, B2.mg]; assumption); have S2 := B2.sc; have hr := B2.room (by assumption)
          walk_at "go"
          exact ⟨rfl, rfl⟩
        · rw [fm_map]
          refine nl_fz ?_
          walk_at "go"
          have e3 : (z.cps.toList.map fun c => D.bl !isDig c) = (z.cps.toList.map fun c => !isDig c).map D.bl := by rw [List.map_map]; rfl
          rw [e3]
          refine dc_any S.calm ?_
          refine ⟨_, rfl, ?_, rfl⟩
          have h2' : (z.length : Int) ≤ m := by simp at h2; exact h2
          rw [decide_eq_true (show 1 ≤ (z.length : Int) ∧ (z.length : Int) ≤ m from ⟨h1, h2'⟩), List.any_map, Bool.true_and, List.all_eq_not_any_not, Bool.not_not]
          rfl
      · walk_at "go"
        refine ⟨?_, rfl⟩
        have h2' : ¬ (z.length : Int) ≤ m := by simp at h2; omega
        rw [decide_eq_false (fun h => h2' h.2)]
        rfl
    · walk_at "go"
      refine ⟨?_, rfl⟩
      rw [decide_eq_false (fun h => h1 h.1)]
      rfl
end

set_option hygiene false in
local macro_rules | `(tactic| walk_at "go_Melody_parse") => `(tactic| (repeat (first
  | (with_reducible refine as_DS ?_; (first
    | (with_reducible refine' ds_setO (x := "notes") (hl := ?hl) (by assumption) ?hi ?_; (case hl => ((repeat (with_reducible constructor)); done)); (case hi => (repeat (with_reducible constructor))))
    | (with_reducible refine' ds_setCO (x := "notes") (hl := ?hl) (by assumption) (by assumption) ?hi ?_; (case hl => ((repeat (with_reducible constructor)); done)); (case hi => (repeat (with_reducible constructor))))
    | (with_reducible refine' ds_parC (by assumption) (.inl ?hl) ?_; (case hl => ((repeat (with_reducible constructor)); done)))
    | (with_reducible refine' ds_parC (by assumption) (.inr ?hl) ?_; (case hl => ((repeat (with_reducible constructor)); done)))
    | (with_reducible refine' ds_setLcC (by assumption) (by assumption) ?hi ?_ ?hl; (case hl => ((repeat (with_reducible constructor)); done)); (case hi => (repeat (with_reducible constructor))))
    | (with_reducible refine' ds_setCD (by assumption) (by assumption) ?hi ?_ ?hl; (case hl => ((repeat (with_reducible constructor)); done)); (case hi => (repeat (with_reducible constructor))))
    | (with_reducible refine ds_forL (by assumption) Df.po ?_)))
  | (with_reducible refine as_NL ?_; (first
    | (with_reducible refine nl_ownT ?_)
    | (with_reducible refine nl_fz ?_)))
  | (with_reducible refine own_out ?_)
  | walk_at "g1"
  | (with_reducible refine as_DI ?_; (first
    | (with_reducible refine di_seq ?_))))))
section
variable {X : Cx} {a : Adr} {δ : DEnv} {O : Own} {E : XD → Own → Prop} {Q : D → Own → Prop}
theorem mk_mel (T : Txt X.K X.mg a) (hr : Room 5 X.A) {ns : List Note} (hm : Mel ns) (q : Q (dMel a.C_Melody ns) O) : DC X (.ref a.C_Melody) (ns.map dNote) δ O E Q :=
  dc_make (T.Melody.make T.Melody_init.mt) (ok_Melody_init T) hr fun s => ⟨[.ref s], ns.map dNote, rfl, rfl, by have := hm.le; rw [List.length_map]; omega, s, ns, O, rfl, hm, rfl, rfl, .inl ⟨_, _, rfl, q⟩⟩
theorem mk_melK {k : Nat} (T : Txt X.K X.mg a) (hr : Room k X.A) (hk : 5 ≤ k) {ns : List Note} (hm : Mel ns) (q : Q (dMel a.C_Melody ns) O) : DC X (.ref a.C_Melody) (ns.map dNote) δ O E Q := mk_mel T (hr.mono hk) hm q
end
theorem isDig_eq (c : Nat) : isDig c = isDigN c := by
  have e : ("0123456789" : Str).cps.toList = [48, 49, 50, 51, 52, 53, 54, 55, 56, 57] := by decide +kernel
  unfold isDig isDigN
  rw [e]
  refine decide_eq_decide.2 ⟨fun h => ?_, fun h => ?_⟩
  · simp at h; omega
  · simp; omega
theorem isNum_eq (z : Str) (m : Int) : isNum z m = isNumL z.cps.toList m := by
  unfold isNum isNumL
  rw [show isDig = isDigN from funext isDig_eq]
  rfl
theorem isNum_p {i : Int} (h0 : 0 ≤ i) (h1 : i ≤ 127) : isNum (numT i) 3 = true := by
  obtain ⟨n, rfl⟩ := Int.eq_ofNat_of_zero_le h0
  rw [isNum_eq, numT_tl]
  exact (num3 n (by omega)).1
theorem isNum_b {i : Int} (h0 : 1 ≤ i) (h1 : i ≤ 16) : isNum (numT i) 2 = true := by
  obtain ⟨n, rfl⟩ := Int.eq_ofNat_of_zero_le (show 0 ≤ i by omega)
  rw [isNum_eq, numT_tl]
  exact (num2 n (by omega)).1
theorem numT_ne {i : Int} (h0 : 0 ≤ i) (h1 : i ≤ 127) : numT i ≠ "-" := fun e => by
  obtain ⟨n, rfl⟩ := Int.eq_ofNat_of_zero_le h0
  have e1 : (numT (n : Int)).cps.toList = [45] := by rw [e]; decide
  rw [numT_tl] at e1
  exact (num3 n (by omega)).2.2 e1
section
variable {P : Program} {w : World} {K : PySem.W.Frag} {mg : Str → Option Value} {base : Heap} {a : Adr}
def spParse (C : Addr) : DSp := fun ds O E Q => ∃ ns, ds = [.ref C, .str (textOf ns)] ∧ Mel ns ∧ Q (dMel C ns) O
theorem ok_Melody_parse (T : Txt K mg a) : DFn P w K mg base 6 a.f_Melody_parse (spParse a.C_Melody) := by
  refine T.Melody_parse.ok sc_Melody_parse (fun ds O E Q h => by obtain ⟨_, e, _⟩ := h; rw [e]; rfl) ?_
  intro X I S0 Df hr ds O E Q hsp; obtain ⟨rfl, rfl, rfl, rfl, rfl⟩ := I; have S : Sc X _ c_Melody_parse := S0; clear S0
  obtain ⟨ns, rfl, hm, q⟩ := hsp
  show DSs X _ [some (.ref a.C_Melody), some (.str (textOf ns)), none, none, none, none] O _ _
  refine dss_cons ?_
  walk_at "go"
  refine nl_own fun f => ?_
  walk_at "go"
  refine ds_for S Df.po (di_enum S T.b_enumerate ?_)
  walk_at "go"
  have hl := text_len hm.ok
  have h32 := hm.le
  have hne : ns ≠ [] := fun e => by have := hm.pos; rw [e] at this; simp at this
  refine ⟨by decide, by omega, ?_⟩
  rw [text_split hm.ok hne]
  refine nl_fz ?_
  walk_at "go"
  refine ⟨_, rfl, fun i δ' O1 => (∃ x y z, δ' = [some (.ref a.C_Melody), some (.str (textOf ns)), some (.ref f), x, y, z]) ∧ O1 = (f, .lst ((ns.take i).map dNote)) :: O, ⟨⟨_, _, _, rfl⟩, rfl⟩, ?_, ?_⟩
  · rintro i d δ' O1 hd ⟨⟨x, y, z, rfl⟩, rfl⟩
    obtain ⟨w, hw, rfl⟩ := enumD_get hd
    obtain ⟨w', hw', rfl⟩ := map_get hw
    obtain ⟨n, hn, rfl⟩ := map_get hw'
    have hk := hm.ok n (List.mem_of_getElem? hn)
    have hb := okNote_le hk
    walk_at "go"
    have hwl := word_len hk
    refine ⟨by decide, by omega, ?_⟩
    rw [word_split hk, List.map_cons, List.map_cons, List.map_nil]
    refine nl_fz ?_
    have l1 := headT_len (ok_p hk)
    have l2 := numT_len (i := n.2) (by omega) (by omega)
    walk_at "go"
    refine dc_fn (ok_is_number T) (hr.mono (by decide)) ⟨numT n.2, 2, rfl, by omega, ?_⟩
    rw [isNum_b hb.1 hb.2]
    have e1 : (ns.take (i + 1)).map dNote = (ns.take i).map dNote ++ [dNote n] := by rw [List.take_add_one, hn]; simp
    have l3 : ((ns.take i).map dNote).length ≤ 32 := by rw [List.length_map, List.length_take]; omega
    have fin : ∀ b : Int, b = n.2 → PySem.intText? (numT n.2) = some b := fun b e => by rw [e]; exact numT_int (by omega) (by omega)
    obtain ⟨p, b⟩ := n
    cases p with
    | none =>
      walk_at "go"
      refine dc_int_str (n := b) (fin b rfl) (by simp only at l2; omega) ?_
      walk_at "go"
      exact ⟨_, .head, _, by omega, .head, ⟨_, _, _, rfl⟩, by rw [e1]; rfl⟩
    | some p =>
      have hp := ok_p hk p rfl
      have e2 : decide (headT (some p) = "-") = false := decide_eq_false (numT_ne hp.1 hp.2)
      walk_at "go"
      rw [e2]
      walk_at "go"
      refine dc_fn (ok_is_number T) (hr.mono (by decide)) ⟨numT p, 3, rfl, by simp only [headT] at l1; omega, ?_⟩
      rw [isNum_p hp.1 hp.2]
      walk_at "go"
      rw [e2]
      walk_at "go"
      refine dc_int_str (n := p) (numT_int hp.1 (by omega)) (by simp only [headT] at l1 ⊢; omega) ?_
      walk_at "go"
      refine dc_int_str (n := b) (fin b rfl) (by simp only at l2; omega) ?_
      walk_at "go"
      exact ⟨_, .head, _, by omega, .head, ⟨_, _, _, rfl⟩, by rw [e1]; rfl⟩
  · rintro δ' O1 ⟨⟨x, y, z, rfl⟩, rfl⟩
    rw [enumD_length, List.length_map, List.length_map, List.take_length]
    refine' dss_fz _ ?gm ?gd ?gf ?_; (case gm => (repeat (first | with_reducible exact At.head | with_reducible assumption | with_reducible apply At.tail))); (case gd => (repeat (first | with_reducible exact Del.head | with_reducible apply Del.tail))); (case gf => (repeat (first | with_reducible exact Fz.nil | with_reducible apply Fz.swap | with_reducible apply Fz.keep)))
    walk_at "go"
    have hk := T.Melody.k
    (refine' de_callVS (by assumption) ?hi ?hd (by assumption) ?_; (case hi => repeat (with_reducible constructor)); (case hd => repeat (with_reducible constructor)))
    walk_at "go"
    exact ⟨_, .inr rfl, mk_mel T hr hm q⟩
end

set_option hygiene false in
local macro_rules | `(tactic| walk_at "go_law_random") => `(tactic| (repeat (first
  | (with_reducible refine as_DS ?_; (first
    | (with_reducible refine' ds_parC (by assumption) (.inl ?hl) ?_; (case hl => ((repeat (with_reducible constructor)); done)))
    | (with_reducible refine' ds_parC (by assumption) (.inr ?hl) ?_; (case hl => ((repeat (with_reducible constructor)); done)))
    | (with_reducible refine' ds_setLcXc (hl := ?hl) [("_law_cell", 3)] ⟨.function, [(".0", .local), ("_law_cell", .local)], false, false, []⟩ (by assumption) ?hi ?_; (case hl => ((repeat (with_reducible constructor)); done)); (case hi => (repeat (with_reducible constructor))))
    | (with_reducible refine' ds_setLcC (by assumption) (by assumption) ?hi ?_ ?hl; (case hl => ((repeat (with_reducible constructor)); done)); (case hi => (repeat (with_reducible constructor))))
    | (with_reducible refine' ds_setCD (by assumption) (by assumption) ?hi ?_ ?hl; (case hl => ((repeat (with_reducible constructor)); done)); (case hi => (repeat (with_reducible constructor))))
    | (with_reducible refine ds_forL (by assumption) Df.po ?_)))
  | (with_reducible refine as_DE ?_; (first
    | (with_reducible refine de_lcXc [("_law_cell", 3)] ⟨.function, [(".0", .local), ("_law_cell", .local)], false, false, []⟩ (by assumption) ?_)))
  | (with_reducible refine as_NL ?_; (first
    | (with_reducible refine nl_ownT ?_)
    | (with_reducible refine nl_fz ?_)))
  | (with_reducible refine own_out ?_)
  | walk_at "g1"
  | (with_reducible refine as_DI ?_; (first
    | (with_reducible refine di_seq ?_))))))
set_option hygiene false in
local macro_rules | `(tactic| walk_at "go_law_below") => `(tactic| (repeat (first
  | (with_reducible refine as_DS ?_; (first
    | (with_reducible refine' ds_setO (x := "_law_d") (hl := ?hl) (by assumption) ?hi ?_; (case hl => ((repeat (with_reducible constructor)); done)); (case hi => (repeat (with_reducible constructor))))
    | (with_reducible refine' ds_setCO (x := "_law_d") (hl := ?hl) (by assumption) (by assumption) ?hi ?_; (case hl => ((repeat (with_reducible constructor)); done)); (case hi => (repeat (with_reducible constructor))))
    | (with_reducible refine' ds_parC (by assumption) (.inl ?hl) ?_; (case hl => ((repeat (with_reducible constructor)); done)))
    | (with_reducible refine' ds_parC (by assumption) (.inr ?hl) ?_; (case hl => ((repeat (with_reducible constructor)); done)))
    | (with_reducible refine' ds_setLcC (by assumption) (by assumption) ?hi ?_ ?hl; (case hl => ((repeat (with_reducible constructor)); done)); (case hi => (repeat (with_reducible constructor))))
    | (with_reducible refine' ds_setCD (by assumption) (by assumption) ?hi ?_ ?hl; (case hl => ((repeat (with_reducible constructor)); done)); (case hi => (repeat (with_reducible constructor))))
    | (with_reducible refine ds_forL (by assumption) Df.po ?_)))
  | (with_reducible refine as_NL ?_; (first
    | (with_reducible refine nl_ownT ?_)
    | (with_reducible refine nl_fz ?_)))
  | (with_reducible refine own_out ?_)
  | walk_at "g1"
  | (with_reducible refine as_DI ?_; (first
    | (with_reducible refine di_seq ?_))))))
section
variable {P : Program} {w : World} {K : PySem.W.Frag} {mg : Str → Option Value} {base : Heap} {a : Adr}
def seedOf (ns : List Int) (s : Int) : Int := ns.foldl (fun s c => (s * 31 + (if c < 0 then -c else c)) % 2147483647) s
def rndL (ns : List Int) (s : Int) : List Int := [seedOf ns s, 0] ++ ns.filter fun c => decide (10 ^ 18 ≤ c)
def spRandom : DSp := fun ds O E Q => ∃ ns s, ds = [.fz (ns.map D.int), .int s] ∧ ns.length ≤ 63 ∧ ∀ r, Q (.ref r) ((r, .lst ((rndL ns s).map D.int)) :: O)
theorem ok_law_random (T : Txt K mg a) : DFn P w K mg base 1 a.f_law_random spRandom := by
  refine T.law_random.ok sc_law_random (fun ds O E Q h => by obtain ⟨_, _, e, _⟩ := h; rw [e]; rfl) ?_
  intro X I S0 Df hr ds O E Q hsp; obtain ⟨rfl, rfl, rfl, rfl, rfl⟩ := I; have S : Sc X _ c_law_random := S0; clear S0
  obtain ⟨ns, s, rfl, hl, q⟩ := hsp
  show DSs X _ [some (.fz (ns.map D.int)), some (.int s), none, none] O _ _
  refine dss_cons ?_
  walk_at "go"
  refine ds_for S Df.po (di_list ?_)
  walk_at "go"
  refine ⟨_, .inr rfl, fun i δ' O1 => (∃ x, δ' = [some (.fz (ns.map D.int)), some (.int s), some (.int (seedOf (ns.take i) s)), x]) ∧ O1 = O, ⟨⟨_, rfl⟩, rfl⟩, ?_, ?_⟩
  · rintro i d δ' O1 hd ⟨⟨x, rfl⟩, rfl⟩
    obtain ⟨c, hc, rfl⟩ := map_get hd
    walk_at "go"
    refine ⟨⟨some (.int c), ?_⟩, rfl⟩
    rw [show seedOf (ns.take (i + 1)) s = (seedOf (ns.take i) s * 31 + (if c < 0 then -c else c)) % 2147483647 by rw [List.take_add_one, hc]; simp [seedOf]]
  · rintro δ' O1 ⟨⟨x, rfl⟩, rfl⟩
    rw [List.length_map, List.take_length]
    walk_at "go"
    refine nl_fz ?_
    refine de_lcX [("_law_cell", 3)] S (di_list ?_)
    walk_at "go"
    refine ⟨_, .inr rfl, ?_⟩
    walk_at "go"
    refine ⟨Int, ns, D.int, fun c => if decide (10 ^ 18 ≤ c) then [.int c] else [], rfl, by omega, fun c hc => ?_, ?_⟩
    · intro X2 B2; have T := (show Txt X2.K X2.mg a from by rw [B2.K, B2.mg]; assumption); have S2 := B2.sc; have hr := B2.room (by assumption)
      walk_at "go"
      intro X2 B2; have T := (show Txt X2.K X2.mg a from by rw [B2.K, B2.mg]; assumption); have S2 := B2.sc; have hr := B2.room (by assumption)
      walk_at "go"
      refine ⟨fun h => ?_, fun h => ?_⟩
      · intro X2 B2; have T := (show Txt X2.K X2.mg a from by rw [B2.K, B2.mg]; assumption); have S2 := B2.sc; have hr := B2.room (by assumption)
        walk_at "go"
        refine ⟨rfl, ?_⟩
        exact if_pos h
      · refine ⟨rfl, ?_⟩
        exact if_neg (by rw [show decide ((10:Int) ^ 18 ≤ c) = false from h]; exact Bool.false_ne_true)
    · rw [fm_fil]
      refine nl_fz ?_
      refine db_cat (by have := List.length_filter_le (fun c : Int => decide (10 ^ 18 ≤ c)) ns; rw [List.length_map, List.length_cons, List.length_cons, List.length_nil]; omega) (nl_own fun r => ?_)
      have e : [D.int (seedOf ns s), D.int 0] ++ List.map D.int (ns.filter fun c => decide (10 ^ 18 ≤ c)) = (rndL ns s).map D.int := by simp [rndL]
      rw [e]
      exact q r
end
section
variable {P : Program} {w : World} {K : PySem.W.Frag} {mg : Str → Option Value} {base : Heap} {a : Adr}
def below2 (x y : Int) (l : List Int) (m : Int) : Int × List Int := if 0 < y then (y % m, x :: y / m :: l) else ((x * 48271 + 11) % 2147483647 / 64 % m, (x * 48271 + 11) % 2147483647 :: y :: l)
/-- the next number, from the cell's numbers: the result, and the numbers left -/
def belowL : List Int → Int → Int × List Int
  | x :: y :: z :: l, m => if y = 0 then below2 x z l m else below2 x y (z :: l) m
  | [x, y], m => below2 x y [] m
  | l, _ => (0, l)
def spBelow : DSp := fun ds O E Q => ∃ r l m, ds = [.ref r, .int m] ∧ 0 < m ∧ m < 1073741824 ∧ Src l ∧ At r (.lst (l.map D.int)) O ∧ ∃ O', Put r (.lst ((belowL l m).2.map D.int)) O O' ∧ Q (.int (belowL l m).1) O'
theorem ok_law_below (T : Txt K mg a) : DFn P w K mg base 1 a.f_law_below spBelow := by
  refine T.law_below.ok sc_law_below (fun ds O E Q h => by obtain ⟨_, _, _, e, _⟩ := h; rw [e]; rfl) ?_
  intro X I S0 Df hr ds O E Q hsp; obtain ⟨rfl, rfl, rfl, rfl, rfl⟩ := I; have S : Sc X _ c_law_below := S0; clear S0
  obtain ⟨r, l, m, rfl, h0, h1, hs, hm, O', hp, q⟩ := hsp
  show DSs X _ [some (.ref r), some (.int m), none] O _ _
  obtain ⟨x, y, l', rfl⟩ : ∃ x y l', l = x :: y :: l' := by
    match l, hs.two with
    | x :: y :: l', _ => exact ⟨x, y, l', rfl⟩
  have hl := hs.le
  simp only [List.length_cons] at hl
  rw [List.map_cons, List.map_cons] at hm
  refine dss_via (fun δ1 O1 => δ1 = [some (.ref r), some (.int m), none] ∧ ∃ y1 l1, At r (.lst (.int x :: .int y1 :: l1.map D.int)) O1 ∧ Put r (.lst ((belowL (x :: y :: l') m).2.map D.int)) O1 O' ∧ belowL (x :: y :: l') m = below2 x y1 l1 m) ?_ ?_
  · walk_at "go"
    refine ⟨fun h2 => ?_, fun h2 => ?_⟩
    · have h2 := of_decide_eq_true h2
      walk_at "go"
      refine ⟨fun h3 => ?_, fun h3 => ?_⟩
      · have h3 := of_decide_eq_true h3
        obtain ⟨z, l2, rfl⟩ : ∃ z l2, l' = z :: l2 := by
          cases l' with
          | nil => simp at h3
          | cons z l2 => exact ⟨z, l2, rfl⟩
        obtain ⟨O2, p1, p2⟩ := hp.mid (.lst ((.int x :: .int y :: .int z :: l2.map D.int).eraseIdx 2))
        obtain ⟨O3, p3, p4⟩ := p2.mid (.lst (.int x :: .int z :: l2.map D.int))
        walk_at "go"
        refine de_popAt ?_
        walk_at "go"
        walk_at "go"
        refine ⟨_, hm, 2, _, O2, rfl, rfl, by simp at hl ⊢; omega, p1, ?_⟩
        walk_at "go"
        refine ⟨1, _, O3, rfl, p1.at', by simp, p3, ?_⟩
        refine ⟨rfl, z, l2, p3.at', p4, ?_⟩
        rw [belowL, if_pos h2]
      · have h3 := of_decide_eq_false h3
        walk_at "go"
        refine ⟨rfl, y, l', hm, hp, ?_⟩
        cases l' with
        | nil => rfl
        | cons z l2 => simp at h3; omega
    · have h2 := of_decide_eq_false h2
      walk_at "go"
      refine ⟨rfl, y, l', hm, hp, ?_⟩
      cases l' with
      | nil => rfl
      | cons z l2 => rw [belowL, if_neg h2]
  · rintro δ1 O1 ⟨rfl, y1, l1, hm, hp, e⟩
    rw [e] at hp q
    walk_at "go"
    refine ⟨fun h2 => ?_, fun h2 => ?_⟩
    · have h2 := of_decide_eq_true h2
      rw [below2, if_pos h2] at hp q
      walk_at "go"
      refine db_fdiv ⟨h0, h1⟩ ?_
      walk_at "go"
      refine ⟨1, _, _, rfl, hm, by simp, hp, ?_⟩
      walk_at "go"
      exact q
    · have h2 := of_decide_eq_false h2
      rw [below2, if_neg h2] at hp q
      walk_at "go"
      refine ⟨0, _, _, rfl, hm, by simp, hp, ?_⟩
      have hm := hp.at'
      rw [List.map_cons, List.map_cons] at hm
      walk_at "go"
      exact q
theorem below2_ok {x y : Int} {l : List Int} {m : Int} (h0 : 0 < m) : 0 ≤ (below2 x y l m).1 ∧ (below2 x y l m).1 < m ∧ (below2 x y l m).2.length = l.length + 2 := by
  unfold below2
  split
  · exact ⟨Int.emod_nonneg _ (by omega), Int.emod_lt_of_pos _ h0, rfl⟩
  · exact ⟨Int.emod_nonneg _ (by omega), Int.emod_lt_of_pos _ h0, rfl⟩
theorem below_ok {l : List Int} {m : Int} (hs : Src l) (h0 : 0 < m) : 0 ≤ (belowL l m).1 ∧ (belowL l m).1 < m ∧ Src (belowL l m).2 := by
  have h1 := hs.two
  have h2 := hs.le
  match l, h1, h2 with
  | [x, y], _, _ =>
    have h := below2_ok (x := x) (y := y) (l := []) h0
    exact ⟨h.1, h.2.1, by rw [belowL, h.2.2]; simp, by rw [belowL, h.2.2]; simp⟩
  | x :: y :: z :: l, _, h2 =>
    simp only [List.length_cons] at h2
    rw [belowL]
    split
    · have h := below2_ok (x := x) (y := z) (l := l) h0
      exact ⟨h.1, h.2.1, by rw [h.2.2]; omega, by rw [h.2.2]; omega⟩
    · have h := below2_ok (x := x) (y := y) (l := z :: l) h0
      exact ⟨h.1, h.2.1, by rw [h.2.2]; simp, by rw [h.2.2]; simp; omega⟩
/-- a number from 0 to m - 1, whatever it is -/
def spBel : DSp := fun ds O E Q => ∃ r m, ds = [.ref r, .int m] ∧ 0 < m ∧ m < 1073741824 ∧ At r .src O ∧ ∀ v, 0 ≤ v → v < m → Q (.int v) O
theorem ok_bel (T : Txt K mg a) : DFn P w K mg base 1 a.f_law_below spBel := DFn.view (ok_law_below T) fun ds O E Q ⟨r, m, e, h0, h1, ha, q⟩ G H sta => by
  obtain ⟨_, o, ho, rc⟩ := sta.at_ ha
  cases o with
  | lst vs =>
    obtain ⟨l, hl, rfl⟩ := rc
    have b := below_ok hl h0
    have hat : At r (.lst (l.map D.int)) (setC r (.lst (l.map D.int)) O) := setC_at ha
    obtain ⟨O', hp⟩ := hat.put (.lst ((belowL l m).2.map D.int))
    refine ⟨setC r (.lst (l.map D.int)) O, E, fun d O2 => d = .int (belowL l m).1 ∧ O2 = O', sta.recell fun o2 h2 => ?_, setC_keys, ⟨r, l, m, e, h0, h1, hl, hat, O', hp, rfl, rfl⟩, fun x G' H' O2 s2 hE => ⟨O2, s2, rfl, hE⟩, fun d G' H' O2 s2 ⟨ed, eO⟩ => ?_⟩
    · rw [ho] at h2
      cases h2
      exact repL_map (fun _ => .int _) _
    · subst ed eO
      have eq : setC r .src O2 = O := by rw [setC_put hp, setC_set, setC_id ha sta.nd]
      obtain ⟨_, o3, ho3, rc3⟩ := s2.at_ hp.at'
      refine ⟨O, ?_, ?_, q _ b.1 b.2.1⟩
      · have s3 := s2.recell (r := r) (c := .src) fun o4 h4 => by
          rw [ho3] at h4
          cases h4
          cases o3 with
          | lst ws => exact ⟨_, b.2.2, repL_int rc3⟩
          | _ => exact rc3.elim
        rw [eq] at s3
        exact s3
      · rw [← eq, setC_keys]
  | _ => exact rc.elim
theorem rnd_src {ns : List Int} {s : Int} (h : ns.length ≤ 63) : Src (rndL ns s) := by
  have := List.length_filter_le (fun c : Int => decide (10 ^ 18 ≤ c)) ns
  constructor
  · simp [rndL]
  · simp [rndL] at this ⊢; omega
def spRandomS : DSp := fun ds O E Q => ∃ (ns : List Int) (s : Int), ds = [.fz (ns.map D.int), .int s] ∧ ns.length ≤ 63 ∧ ∀ r, Q (.ref r) ((r, .src) :: O)
theorem ok_random (T : Txt K mg a) : DFn P w K mg base 1 a.f_law_random spRandomS := DFn.view (ok_law_random T) fun ds O E Q ⟨ns, s, e, hl, q⟩ G H sta =>
  ⟨O, E, fun d O2 => ∃ r, d = .ref r ∧ O2 = (r, .lst ((rndL ns s).map D.int)) :: O, sta, rfl, ⟨ns, s, e, hl, fun r => ⟨r, rfl, rfl⟩⟩, fun x G' H' O2 s2 hE => ⟨O2, s2, rfl, hE⟩, fun d G' H' O2 s2 ⟨r, ed, eO⟩ => by
    subst ed eO
    refine ⟨(r, .src) :: O, ?_, rfl, q r⟩
    obtain ⟨_, o3, ho3, rc3⟩ := s2.own r _ List.mem_cons_self
    have s3 := s2.recell (r := r) (c := .src) fun o4 h4 => by
      rw [ho3] at h4
      cases h4
      cases o3 with
      | lst ws => exact ⟨_, rnd_src hl, repL_int rc3⟩
      | _ => exact rc3.elim
    have eq : setC r .src ((r, .lst ((rndL ns s).map D.int)) :: O) = (r, .src) :: O := by
      have nd := s2.nd
      rw [List.map_cons, List.nodup_cons] at nd
      unfold setC
      rw [List.map_cons, if_pos rfl]
      congr 1
      conv => rhs; rw [← List.map_id O]
      refine List.map_congr_left fun p hp => ?_
      rw [if_neg]
      · rfl
      · intro z
        exact nd.1 (by rw [← z]; exact own_mem (c := p.2) hp)
    rw [eq] at s3
    exact s3⟩
section
variable {X : Cx} {δ : DEnv} {O : Own} {E : XD → Own → Prop} {Q : D → Own → Prop}
theorem dc_bel {k : Nat} {r : Addr} {m : Int} (T : Txt X.K X.mg a) (hr : Room k X.A) (hk : 1 ≤ k) (ha : At r .src O) (h0 : 0 < m) (h1 : m < 1073741824) (q : ∀ v, 0 ≤ v → v < m → Q (.int v) O) : DC X (.ref a.f_law_below) [.ref r, .int m] δ O E Q :=
  dc_fn (ok_bel T) (hr.mono hk) ⟨r, m, rfl, h0, h1, ha, q⟩
end
end

set_option hygiene false in
local macro_rules | `(tactic| walk_at "go_law_notes") => `(tactic| (repeat (first
  | (with_reducible refine as_DS ?_; (first
    | (with_reducible refine' ds_setO (x := "_law_found") (hl := ?hl) (by assumption) ?hi ?_; (case hl => ((repeat (with_reducible constructor)); done)); (case hi => (repeat (with_reducible constructor))))
    | (with_reducible refine' ds_setCO (x := "_law_found") (hl := ?hl) (by assumption) (by assumption) ?hi ?_; (case hl => ((repeat (with_reducible constructor)); done)); (case hi => (repeat (with_reducible constructor))))
    | (with_reducible refine' ds_parC (by assumption) (.inl ?hl) ?_; (case hl => ((repeat (with_reducible constructor)); done)))
    | (with_reducible refine' ds_parC (by assumption) (.inr ?hl) ?_; (case hl => ((repeat (with_reducible constructor)); done)))
    | (with_reducible refine' ds_setLcC (by assumption) (by assumption) ?hi ?_ ?hl; (case hl => ((repeat (with_reducible constructor)); done)); (case hi => (repeat (with_reducible constructor))))
    | (with_reducible refine' ds_setCD (by assumption) (by assumption) ?hi ?_ ?hl; (case hl => ((repeat (with_reducible constructor)); done)); (case hi => (repeat (with_reducible constructor))))
    | (with_reducible refine ds_forL (by assumption) Df.po ?_)))
  | (with_reducible refine as_NL ?_; (first
    | (with_reducible refine nl_ownT ?_)
    | (with_reducible refine nl_fzc ?_)
    | (with_reducible refine nl_fzm ?_)
    | (with_reducible refine nl_fza ?_)))
  | (with_reducible refine own_out ?_)
  | walk_at "g1"
  | (with_reducible refine as_DI ?_; (first
    | (with_reducible refine di_seq ?_))))))
section
variable {P : Program} {w : World} {K : PySem.W.Frag} {mg : Str → Option Value} {base : Heap} {a : Adr}
/-- random notes: some melody, at most m long -/
def spNotes : DSp := fun ds O E Q => ∃ r m, ds = [.ref r, .int m] ∧ 1 ≤ m ∧ m ≤ 32 ∧ At r .src O ∧ ∀ ns, Mel ns → (ns.length : Int) ≤ m → Q (.lst (ns.map dNote)) O
theorem at_in {xs : List Int} {i : Int} {Q : Int → Prop} (h0 : 0 ≤ i) (h1 : i < xs.length) (q : ∀ x ∈ xs, Q x) : ∃ x, atI (xs.map D.int) i = some (.int x) ∧ Q x := by
  obtain ⟨n, rfl⟩ := Int.eq_ofNat_of_zero_le h0
  have hn : n < xs.length := by omega
  exact ⟨xs[n], atI_nat (by rw [List.getElem?_map, List.getElem?_eq_getElem hn]; rfl), q _ (List.getElem_mem hn)⟩
theorem ok_law_notes (T : Txt K mg a) : DFn P w K mg base 3 a.f_law_notes spNotes := by
  refine T.law_notes.ok sc_law_notes (fun ds O E Q h => by obtain ⟨_, _, e, _⟩ := h; rw [e]; rfl) ?_
  intro X I S0 Df hr ds O E Q hsp; obtain ⟨rfl, rfl, rfl, rfl, rfl⟩ := I; have S : Sc X _ c_law_notes := S0; clear S0
  obtain ⟨r, m, rfl, h0, h1, ha, q⟩ := hsp
  show DSs X _ [some (.ref r), some (.int m), none, none, none, none, none] _ _ _
  refine dss_cons ?_
  walk_at "go_law_notes"
  intro v v0 v1
  obtain ⟨low, e1, b1, b2⟩ := at_in (xs := [0, 50, 60, 100]) (Q := fun x => 0 ≤ x ∧ x ≤ 100) v0 (by simpa using v1) (by decide)
  refine dx_lst e1 ?_
  walk_at "go_law_notes"
  intro v v0 v1
  obtain ⟨span, e2, b3, b4⟩ := at_in (xs := [5, 13, 28]) (Q := fun x => 1 ≤ x ∧ x ≤ 28) v0 (by simpa using v1) (by decide)
  refine dx_lst e2 ?_
  walk_at "go_law_notes"
  intro v v0 v1
  obtain ⟨lon, e3, b5, b6⟩ := at_in (xs := [1, 3, 16]) (Q := fun x => 1 ≤ x ∧ x ≤ 16) v0 (by simpa using v1) (by decide)
  refine dx_lst e3 ?_
  walk_at "go_law_notes"
  refine nl_own fun f => ?_
  walk_at "go_law_notes"
  intro n n0 n1
  walk_at "go_law_notes"
  refine ⟨fun i δ' O1 => (∃ x, δ' = [some (.ref r), some (.int m), some (.int low), some (.int span), some (.int lon), some (.ref f), x]) ∧ ∃ ns, (ns.length = i ∧ (∀ n ∈ ns, okNote n = true)) ∧ O1 = (f, .lst (ns.map dNote)) :: O, ⟨⟨_, rfl⟩, [], ⟨rfl, fun _ h => nomatch h⟩, rfl⟩, ?_, ?_⟩
  · rintro i d δ' O1 hd ⟨⟨x, rfl⟩, ns, ⟨hi, hn⟩, rfl⟩
    have hd' : i < (1 + n).toNat := by have := (List.getElem?_eq_some_iff.1 hd).1; rwa [dInts_length] at this
    have ok2 : ∀ (p : Option Int) (b : Int), okNote (p, b) = true → ∀ n ∈ ns ++ [(p, b)], okNote n = true := fun p b h n hm => by
      rcases List.mem_append.1 hm with h2 | h2
      · exact hn n h2
      · rw [List.mem_singleton.1 h2]
        exact h
    walk_at "go_law_notes"
    intro v v0 v1
    walk_at "go_law_notes"
    refine br_d (fun h => ?_) (fun h => ?_)
    · walk_at "go_law_notes"
      intro u u0 u1
      walk_at "go_law_notes"
      exact lessd ⟨⟨_, rfl⟩, ns ++ [(none, 1 + u)], ⟨by simp; omega, ok2 _ _ (by simp [okNote]; omega)⟩, by simp [dOpt]⟩
    · walk_at "go_law_notes"
      intro w w0 w1
      walk_at "go_law_notes"
      intro u u0 u1
      walk_at "go_law_notes"
      exact lessd ⟨⟨_, rfl⟩, ns ++ [(some (low + w), 1 + u)], ⟨by simp; omega, ok2 _ _ (by simp [okNote]; omega)⟩, by simp [dOpt]⟩
  · rintro δ' O1 ⟨⟨x, rfl⟩, ns, ⟨hi, hn⟩, rfl⟩
    rw [dInts_length] at hi
    refine' dss_fz _ ?gm ?gd ?gf ?_; (case gm => (repeat (first | with_reducible exact At.head | with_reducible assumption | with_reducible apply At.tail))); (case gd => (repeat (first | with_reducible exact Del.head | with_reducible apply Del.tail))); (case gf => (repeat (first | with_reducible exact Fz.nil | with_reducible apply Fz.swap | with_reducible apply Fz.keep)))
    walk_at "go_law_notes"
    exact q ns ⟨hn, by omega, by omega⟩ (by omega)
end

set_option hygiene false in
local macro_rules | `(tactic| walk_at "go_law_words") => `(tactic| (repeat (first
  | (with_reducible refine as_DS ?_; (first
    | (with_reducible refine' ds_parC (by assumption) (.inl ?hl) ?_; (case hl => ((repeat (with_reducible constructor)); done)))
    | (with_reducible refine' ds_parC (by assumption) (.inr ?hl) ?_; (case hl => ((repeat (with_reducible constructor)); done)))
    | (with_reducible refine' ds_setLcXc (hl := ?hl) [("_law_pitch", 1), ("_law_beats", 2)] ⟨.function, [(".0", .local), ("_law_pitch", .local), ("_law_beats", .local), ("str", .globalImplicit)], false, false, []⟩ (by assumption) ?hi ?_; (case hl => ((repeat (with_reducible constructor)); done)); (case hi => (repeat (with_reducible constructor))))
    | (with_reducible refine' ds_setLcC (by assumption) (by assumption) ?hi ?_ ?hl; (case hl => ((repeat (with_reducible constructor)); done)); (case hi => (repeat (with_reducible constructor))))
    | (with_reducible refine' ds_setCD (by assumption) (by assumption) ?hi ?_ ?hl; (case hl => ((repeat (with_reducible constructor)); done)); (case hi => (repeat (with_reducible constructor))))
    | (with_reducible refine ds_forL (by assumption) Df.po ?_)))
  | (with_reducible refine as_DE ?_; (first
    | (with_reducible refine de_lcXc [("_law_pitch", 1), ("_law_beats", 2)] ⟨.function, [(".0", .local), ("_law_pitch", .local), ("_law_beats", .local), ("str", .globalImplicit)], false, false, []⟩ (by assumption) ?_)))
  | (with_reducible refine as_NL ?_; (first
    | (with_reducible refine nl_ownT ?_)
    | (with_reducible refine nl_fz ?_)))
  | (with_reducible refine own_out ?_)
  | walk_at "g1"
  | (with_reducible refine as_DI ?_; (first
    | (with_reducible refine di_seq ?_))))))
set_option hygiene false in
local macro_rules | `(tactic| walk_at "go_law_melody") => `(tactic| (repeat (first
  | (with_reducible refine as_DS ?_; (first
    | (with_reducible refine' ds_parC (by assumption) (.inl ?hl) ?_; (case hl => ((repeat (with_reducible constructor)); done)))
    | (with_reducible refine' ds_parC (by assumption) (.inr ?hl) ?_; (case hl => ((repeat (with_reducible constructor)); done)))
    | (with_reducible refine' ds_setLcC (by assumption) (by assumption) ?hi ?_ ?hl; (case hl => ((repeat (with_reducible constructor)); done)); (case hi => (repeat (with_reducible constructor))))
    | (with_reducible refine' ds_setCD (by assumption) (by assumption) ?hi ?_ ?hl; (case hl => ((repeat (with_reducible constructor)); done)); (case hi => (repeat (with_reducible constructor))))
    | (with_reducible refine ds_forL (by assumption) Df.po ?_)))
  | (with_reducible refine as_NL ?_; (first
    | (with_reducible refine nl_ownT ?_)
    | (with_reducible refine nl_fz ?_)))
  | (with_reducible refine own_out ?_)
  | walk_at "g1"
  | (with_reducible refine as_DI ?_; (first
    | (with_reducible refine di_seq ?_))))))
section
variable {P : Program} {w : World} {K : PySem.W.Frag} {mg : Str → Option Value} {base : Heap} {a : Adr}
def spWords : DSp := fun ds O E Q => ∃ ns, ds = [.lst (ns.map dNote)] ∧ Mel ns ∧ Q (.str (textOf ns)) O
theorem ok_law_words (T : Txt K mg a) : DFn P w K mg base 1 a.f_law_words spWords := by
  refine T.law_words.ok sc_law_words (fun ds O E Q h => by obtain ⟨_, e, _⟩ := h; rw [e]; rfl) ?_
  intro X I S0 Df hr ds O E Q hsp; obtain ⟨rfl, rfl, rfl, rfl, rfl⟩ := I; have S : Sc X _ c_law_words := S0; clear S0
  obtain ⟨ns, rfl, hm, q⟩ := hsp
  show DSs X _ [some (.lst (ns.map dNote)), none, none] O _ _
  refine dss_cons ?_
  walk_at "go"
  refine de_lcX [("_law_pitch", 1), ("_law_beats", 2)] S (di_list ?_)
  walk_at "go"
  refine ⟨_, .inl rfl, ?_⟩
  walk_at "go"
  have h32 := hm.le
  refine ⟨Note, ns, dNote, fun n => [.str (wordOf n)], rfl, by omega, fun n hn => ?_, ?_⟩
  · have hk := hm.ok n hn
    have hb := okNote_le hk
    have l1 := headT_len (ok_p hk)
    have l2 := numT_len (i := n.2) (by omega) (by omega)
    obtain ⟨p, b⟩ := n
    have e0 : ("/" : Str).length = 1 := by decide
    have e1 : ("-" : Str).length = 1 := by decide
    cases p with
    | none =>
      intro X2 B2; have T := (show Txt X2.K X2.mg a from by rw [B2.K, B2.mg]; assumption); have S2 := B2.sc; have hr := B2.room (by assumption)
      walk_at "go"
      intro X2 B2; have T := (show Txt X2.K X2.mg a from by rw [B2.K, B2.mg]; assumption); have S2 := B2.sc; have hr := B2.room (by assumption)
      walk_at "go"
      intro X2 B2; have T := (show Txt X2.K X2.mg a from by rw [B2.K, B2.mg]; assumption); have S2 := B2.sc; have hr := B2.room (by assumption)
      walk_at "go"
      refine db_catS (by decide) ?_
      walk_at "go"
      refine dc_str_int (log_small (by omega) (by omega)) ?_
      walk_at "go"
      refine db_catS (by rw [len_app, e0, e1]; simp only [numT] at l2; omega) ?_
      exact ⟨rfl, rfl⟩
    | some p =>
      have hp := ok_p hk p rfl
      intro X2 B2; have T := (show Txt X2.K X2.mg a from by rw [B2.K, B2.mg]; assumption); have S2 := B2.sc; have hr := B2.room (by assumption)
      walk_at "go"
      intro X2 B2; have T := (show Txt X2.K X2.mg a from by rw [B2.K, B2.mg]; assumption); have S2 := B2.sc; have hr := B2.room (by assumption)
      walk_at "go"
      intro X2 B2; have T := (show Txt X2.K X2.mg a from by rw [B2.K, B2.mg]; assumption); have S2 := B2.sc; have hr := B2.room (by assumption)
      walk_at "go"
      refine dc_str_int (log_small (by omega) (by omega)) ?_
      walk_at "go"
      refine db_catS (by rw [e0]; simp only [headT, numT] at l1; omega) ?_
      walk_at "go"
      refine dc_str_int (log_small (by omega) (by omega)) ?_
      walk_at "go"
      refine db_catS (by rw [len_app, e0]; simp only [headT, numT] at l1 l2; omega) ?_
      exact ⟨rfl, rfl⟩
  · rw [fm_map]
    refine nl_fz ?_
    walk_at "go"
    refine ⟨ns.map wordOf, by rw [List.map_map]; rfl, ?_, ?_⟩
    · have h := text_len hm.ok
      have hs : ((ns.map wordOf).map (·.length)).sum ≤ 7 * ns.length := words_sum hm.ok
      have e0 : (" " : Str).length = 1 := by decide
      rw [e0, List.length_map]
      omega
    · exact q
def spMelody (C : Addr) : DSp := fun ds O E Q => ∃ ns, ds = [.lst (ns.map dNote)] ∧ Mel ns ∧ Q (dMel C ns) O
theorem ok_law_melody (T : Txt K mg a) : DFn P w K mg base 7 a.f_law_melody (spMelody a.C_Melody) := by
  refine T.law_melody.ok sc_law_melody (fun ds O E Q h => by obtain ⟨_, e, _⟩ := h; rw [e]; rfl) ?_
  intro X I S0 Df hr ds O E Q hsp; obtain ⟨rfl, rfl, rfl, rfl, rfl⟩ := I; have S : Sc X _ c_law_melody := S0; clear S0
  obtain ⟨ns, rfl, hm, q⟩ := hsp
  show DSs X _ [some (.lst (ns.map dNote))] O _ _
  refine dss_cons ?_
  walk_at "go"
  refine de_cmeth T.Melody.rd T.Melody_parse.c (de_glob (v := .ref a.C_Melody) (by assumption) T.Melody.g rfl (fun _ => .ref _) ⟨rfl, ?_⟩)
  walk_at "go"
  refine dc_fn (ok_law_words T) (hr.mono (by decide)) ⟨ns, rfl, hm, ?_⟩
  walk_at "go"
  refine dk_fn (ok_Melody_parse T) (hr.mono (by decide)) ⟨ns, rfl, hm, ?_⟩
  exact q
end

set_option hygiene false in
local macro_rules | `(tactic| walk_at "go_law_equal") => `(tactic| (repeat (first
  | (with_reducible refine as_DS ?_; (first
    | (with_reducible refine' ds_parC (by assumption) (.inl ?hl) ?_; (case hl => ((repeat (with_reducible constructor)); done)))
    | (with_reducible refine' ds_parC (by assumption) (.inr ?hl) ?_; (case hl => ((repeat (with_reducible constructor)); done)))
    | (with_reducible refine' ds_setLcXc (hl := ?hl) [("_law_k", 2)] ⟨.function, [(".0", .local), ("_law_k", .local), ("_law_equal", .globalImplicit), ("_law_actual", .cell), ("_law_expected", .cell)], false, false, []⟩ (by assumption) ?hi ?_; (case hl => ((repeat (with_reducible constructor)); done)); (case hi => (repeat (with_reducible constructor))))
    | (with_reducible refine' ds_setLcC (by assumption) (by assumption) ?hi ?_ ?hl; (case hl => ((repeat (with_reducible constructor)); done)); (case hi => (repeat (with_reducible constructor))))
    | (with_reducible refine' ds_setCD (by assumption) (by assumption) ?hi ?_ ?hl; (case hl => ((repeat (with_reducible constructor)); done)); (case hi => (repeat (with_reducible constructor))))
    | (with_reducible refine ds_forL (by assumption) Df.po ?_)))
  | (with_reducible refine as_DE ?_; (first
    | (with_reducible refine de_lcXc [("_law_k", 2)] ⟨.function, [(".0", .local), ("_law_k", .local), ("_law_equal", .globalImplicit), ("_law_actual", .cell), ("_law_expected", .cell)], false, false, []⟩ (by assumption) ?_)))
  | (with_reducible refine as_NL ?_; (first
    | (with_reducible refine nl_ownT ?_)
    | (with_reducible refine nl_fz ?_)))
  | (with_reducible refine own_out ?_)
  | walk_at "g1"
  | (with_reducible refine as_DI ?_; (first
    | (with_reducible refine di_seq ?_))))))
section
variable {P : Program} {w : World} {K : PySem.W.Frag} {mg : Str → Option Value} {base : Heap} {a : Adr}
mutual
def shortD : D → Bool
  | .tup ds => decide (ds.length ≤ 100000) && shortDs ds
  | .lst ds => decide (ds.length ≤ 100000) && shortDs ds
  | _ => true
def shortDs : List D → Bool
  | [] => true
  | d :: ds => shortD d && shortDs ds
end
structure Eqd (n : Nat) (p : D) : Prop where
  pl : plainD p = true
  dp : depthD p ≤ n
  sh : shortD p = true
theorem kit_int {p : D} (h : plainD p = true) : kitB (tyD p) "int" = some (isIntD p) := by cases p <;> first | rfl | (simp [plainD] at h)
theorem kit_bl {p : D} (h : plainD p = true) : kitB (tyD p) "bool" = some (isBlD p) := by cases p <;> first | rfl | (simp [plainD] at h)
theorem kit_str {p : D} (h : plainD p = true) : kitB (tyD p) "str" = some (isStrD p) := by cases p <;> first | rfl | (simp [plainD] at h)
theorem kit_tup {p : D} (h : plainD p = true) : kitB (tyD p) "tuple" = some (isTupD p) := by cases p <;> first | rfl | (simp [plainD] at h)
theorem kit_lst {p : D} (h : plainD p = true) : kitB (tyD p) "list" = some (isLstD p) := by cases p <;> first | rfl | (simp [plainD] at h)
def spEq (n : Nat) : DSp := fun ds O E Q => ∃ d e p q, ds = [d, e] ∧ View O d p ∧ View O e q ∧ Eqd n p ∧ Eqd n q ∧ ∀ b, (b = true ↔ p = q) → Q (.bl b) O
theorem view_non {O : Own} {d p : D} (v : View O d p) : DL.isNon d = DL.isNon p := by cases v <;> rfl
theorem non_iff {p : D} : DL.isNon p = true ↔ p = .non := by cases p <;> simp [DL.isNon]
theorem shortDs_at : ∀ {ds : List D} {i : Nat} {x : D}, shortDs ds = true → ds[i]? = some x → shortD x = true
  | [], _, _, _, h => by simp at h
  | d :: ds, 0, x, hs, h => by simp at h; subst h; simp [shortDs] at hs; exact hs.1
  | d :: ds, i + 1, x, hs, h => by simp at h; simp [shortDs] at hs; exact shortDs_at hs.2 h
theorem plainDs_at : ∀ {ds : List D} {i : Nat} {x : D}, plainDs ds = true → ds[i]? = some x → plainD x = true
  | [], _, _, _, h => by simp at h
  | d :: ds, 0, x, hs, h => by simp at h; subst h; simp [plainDs] at hs; exact hs.1
  | d :: ds, i + 1, x, hs, h => by simp at h; simp [plainDs] at hs; exact plainDs_at hs.2 h
theorem depthDs_at : ∀ {ds : List D} {i : Nat} {x : D}, ds[i]? = some x → depthD x ≤ depthDs ds
  | [], _, _, h => by simp at h
  | d :: ds, 0, x, h => by simp at h; subst h; simp only [depthDs]; exact Nat.le_max_left _ _
  | d :: ds, i + 1, x, h => by simp at h; simp only [depthDs]; exact Nat.le_trans (depthDs_at h) (Nat.le_max_right _ _)
theorem Eqd.item {n : Nat} {p x : D} {i : Nat} (h : Eqd n p) (hx : (itemsD p)[i]? = some x) : ∃ m, n = m + 1 ∧ Eqd m x := by
  have h1 := h.pl
  have h2 := h.dp
  have h3 := h.sh
  cases p with
  | tup ds =>
    simp only [itemsD] at hx
    simp only [depthD] at h2
    simp only [shortD, Bool.and_eq_true] at h3
    exact ⟨n - 1, by omega, plainDs_at h1 hx, by have := depthDs_at hx; omega, shortDs_at h3.2 hx⟩
  | lst ds =>
    simp only [itemsD] at hx
    simp only [depthD] at h2
    simp only [shortD, Bool.and_eq_true] at h3
    exact ⟨n - 1, by omega, plainDs_at h1 hx, by have := depthDs_at hx; omega, shortDs_at h3.2 hx⟩
  | _ => simp [itemsD] at hx
theorem same_of {p q : D} (hp : plainD p = true) (hq : plainD q = true) (hs : isTupD q = true ∨ isLstD q = true) (h4 : isTupD q = isTupD p) (h5 : isLstD q = isLstD p) (hi : itemsD p = itemsD q) : p = q := by
  cases q <;> cases p <;> simp_all [isTupD, isLstD, itemsD, plainD]
theorem eq_leaf (T : Txt K mg a) (n : Nat) (hn : n ≤ 60) (ih : ∀ m, m < n → DFn P w K mg base (1 + m) a.f_law_equal (spEq m)) : DFn P w K mg base (1 + n) a.f_law_equal (spEq n) := by
  rw [Nat.add_comm]
  refine T.law_equal.ok sc_law_equal (fun ds O E Q h => by obtain ⟨_, _, _, _, e, _⟩ := h; rw [e]; rfl) ?_
  intro X I S0 Df hr ds O E Q hsp; obtain ⟨rfl, rfl, rfl, rfl, rfl⟩ := I; have S : Sc X _ c_law_equal := S0; clear S0
  obtain ⟨d, e, p, q, rfl, vd, ve, hp, hq, k⟩ := hsp
  show DSs X _ [some d, some e, none] O _ _
  refine dss_cons ?_
  have ok64 : ∀ {x}, Eqd n x → okD x := fun h => okD_of h.pl (by have := h.dp; omega)
  walk_at "go"
  refine ⟨fun h => ?_, fun h0 => ?_⟩
  · rw [view_non ve, non_iff] at h
    subst h
    walk_at "go"
    exact k _ (by rw [view_non vd]; exact non_iff)
  rw [view_non ve] at h0
  walk_at "go"
  refine dc_isiV ve (kit_bl hq.pl) ?_
  walk_at "go"
  refine ⟨fun h => ?_, fun h1 => ?_⟩
  · obtain ⟨c, rfl⟩ : ∃ c, q = .bl c := by cases q <;> simp [isBlD] at h ⊢
    walk_at "go"
    refine dc_isiV vd (kit_bl hp.pl) ?_
    walk_at "go"
    refine ⟨fun h2 => ?_, fun h2 => ?_⟩
    · obtain ⟨c2, rfl⟩ : ∃ c, p = .bl c := by cases p <;> simp [isBlD] at h2 ⊢
      walk_at "go"
      refine db_eqV hr vd ve (ok64 hp) (ok64 hq) ?_
      exact k _ (by simp [toP, PyData.eqv])
    · exact k false ⟨fun z => (nomatch z), fun z => by rw [z] at h2; cases h2⟩
  walk_at "go"
  refine dc_isiV ve (kit_int hq.pl) ?_
  walk_at "go"
  refine ⟨fun h => ?_, fun h2 => ?_⟩
  · obtain ⟨c, rfl⟩ : ∃ c, q = .int c := by cases q <;> simp [isBlD, isIntD] at h h1 ⊢
    walk_at "go"
    refine dc_isiV vd (kit_int hp.pl) ?_
    walk_at "go"
    refine ⟨fun h3 => ?_, fun h3 => ?_⟩
    · walk_at "go"
      refine dc_isiV vd (kit_bl hp.pl) ?_
      walk_at "go"
      refine ⟨fun h4 => ?_, fun h4 => ?_⟩
      · obtain ⟨c2, rfl⟩ : ∃ c, p = .int c := by cases p <;> simp [isBlD, isIntD] at h3 h4 ⊢
        walk_at "go"
        refine db_eqV hr vd ve (ok64 hp) (ok64 hq) ?_
        exact k _ (by simp [toP, PyData.eqv])
      · exact k false ⟨fun z => (nomatch z), fun z => by rw [z] at h4; cases h4⟩
    · exact k false ⟨fun z => (nomatch z), fun z => by rw [z] at h3; cases h3⟩
  walk_at "go"
  refine dc_isiV ve (kit_str hq.pl) ?_
  walk_at "go"
  refine ⟨fun h => ?_, fun h3 => ?_⟩
  · obtain ⟨c, rfl⟩ : ∃ c, q = .str c := by cases q <;> simp [isStrD] at h ⊢
    walk_at "go"
    refine dc_isiV vd (kit_str hp.pl) ?_
    walk_at "go"
    refine ⟨fun h3 => ?_, fun h3 => ?_⟩
    · obtain ⟨c2, rfl⟩ : ∃ c, p = .str c := by cases p <;> simp [isStrD] at h3 ⊢
      walk_at "go"
      refine db_eqV hr vd ve (ok64 hp) (ok64 hq) ?_
      exact k _ (by simp [toP, PyData.eqv])
    · exact k false ⟨fun z => (nomatch z), fun z => by rw [z] at h3; cases h3⟩
  walk_at "go"
  refine dc_isiV ve (kit_tup hq.pl) ?_
  walk_at "go"
  refine dc_isiV vd (kit_tup hp.pl) ?_
  walk_at "go"
  refine ⟨fun h => ?_, fun h4 => ?_⟩
  · walk_at "go"
    exact k false ⟨fun z => (nomatch z), fun z => by rw [z] at h; simp at h⟩
  walk_at "go"
  refine dc_isiV ve (kit_lst hq.pl) ?_
  walk_at "go"
  refine dc_isiV vd (kit_lst hp.pl) ?_
  walk_at "go"
  refine ⟨fun h => ?_, fun h5 => ?_⟩
  · walk_at "go"
    exact k false ⟨fun z => (nomatch z), fun z => by rw [z] at h; simp at h⟩
  have hsq : isTupD q = true ∨ isLstD q = true := by
    have := hq.pl
    cases q <;> simp_all [isTupD, isLstD, DL.isNon, isBlD, isIntD, isStrD, plainD]
  have hsp : isTupD p = true ∨ isLstD p = true := by
    simp only [Bool.not_eq_false', decide_eq_true_eq] at h4 h5
    rw [← h4, ← h5]
    exact hsq
  walk_at "go"
  refine dc_lenV vd hsp ?_
  walk_at "go"
  refine dc_lenV ve hsq ?_
  walk_at "go"
  refine ⟨fun h => ?_, fun h6 => ?_⟩
  · walk_at "go"
    exact k false ⟨fun z => (nomatch z), fun z => by rw [z] at h; simp at h⟩
  have hlen : (itemsD p).length = (itemsD q).length := by
    simp only [Bool.not_eq_false', decide_eq_true_eq] at h6
    omega
  have hz : (itemsD q).length ≤ 100000 := by
    have := hq.sh
    cases q <;> simp_all [itemsD, shortD]
  walk_at "go"
  refine de_lcXc [("_law_k", 2)] ⟨.function, [(".0", .local), ("_law_k", .local), ("_law_equal", .globalImplicit), ("_law_actual", .cell), ("_law_expected", .cell)], false, false, []⟩ S (di_range1 S T.b_range ?_)
  walk_at "go"
  refine dc_lenV ve hsq ?_
  walk_at "go"
  refine ⟨_, rfl, by omega, by omega, ?_⟩
  walk_at "go"
  refine ⟨Nat, List.range (itemsD q).length, fun i => D.int ((0 : Int) + (i : Nat)), fun i => [.bl (@decide ((itemsD p)[i]? = (itemsD q)[i]?) (Classical.propDecidable _))], by simp [dInts], by rw [List.length_range]; exact hz, fun i hi => ?_, ?_⟩
  · have hi := List.mem_range.1 hi
    intro X2 B2; have T := (show Txt X2.K X2.mg a from by rw [B2.K, B2.mg]; assumption); have S2 := B2.sc; have hr := B2.room (by assumption)
    walk_at "go"
    intro X2 B2; have T := (show Txt X2.K X2.mg a from by rw [B2.K, B2.mg]; assumption); have S2 := B2.sc; have hr := B2.room (by assumption)
    walk_at "go"
    intro X2 B2; have T := (show Txt X2.K X2.mg a from by rw [B2.K, B2.mg]; assumption); have S2 := B2.sc; have hr := B2.room (by assumption)
    walk_at "go"
    obtain ⟨y, hy⟩ : ∃ y, (itemsD q)[i]? = some y := ⟨_, List.getElem?_eq_getElem hi⟩
    obtain ⟨x, hx⟩ : ∃ x, (itemsD p)[i]? = some x := ⟨_, List.getElem?_eq_getElem (by omega)⟩
    obtain ⟨m, hm, ey⟩ := Eqd.item hq hy
    obtain ⟨m', hm', ex⟩ := Eqd.item hp hx
    have em : m' = m := by omega
    subst em
    have z0 : (0 : Int) + (i : Nat) = ((i : Nat) : Int) := by omega
    rw [z0]
    refine dx_V vd hx fun d1 v1 => ?_
    walk_at "go"
    refine dx_V ve hy fun e1 v2 => ?_
    walk_at "go"
    refine dc_fn (B2.fn (ih m' (by omega))) (hr.mono (by omega)) ⟨d1, e1, x, y, rfl, v1, v2, ex, ey, fun b hb => ⟨rfl, ?_⟩⟩
    rw [hx, hy]
    have e2 : b = @decide (some x = some y) (Classical.propDecidable _) := by
      by_cases hxy : x = y
      · rw [hb.2 hxy]; exact (@decide_eq_true _ (Classical.propDecidable _) (by rw [hxy])).symm
      · have : b = false := by cases b with | false => rfl | true => exact absurd (hb.1 rfl) hxy
        rw [this]; exact (@decide_eq_false _ (Classical.propDecidable _) (fun h => hxy (Option.some.inj h))).symm
    rw [e2]
  · rw [fm_map]
    refine nl_fz ?_
    walk_at "go"
    have e3 : (List.range (itemsD q).length).map (fun i => D.bl (@decide ((itemsD p)[i]? = (itemsD q)[i]?) (Classical.propDecidable _))) = ((List.range (itemsD q).length).map fun i => @decide ((itemsD p)[i]? = (itemsD q)[i]?) (Classical.propDecidable _)).map D.bl := by rw [List.map_map]; rfl
    rw [e3]
    refine dc_all S.calm (k _ ?_)
    rw [List.all_map, List.all_eq_true]
    constructor
    · intro h
      have hit : itemsD p = itemsD q := by
        refine List.ext_getElem? fun i => ?_
        by_cases hi : i < (itemsD q).length
        · have := h i (List.mem_range.2 hi)
          simp only [Function.comp, id] at this
          exact @of_decide_eq_true _ (Classical.propDecidable _) this
        · rw [List.getElem?_eq_none (by omega), List.getElem?_eq_none (by omega)]
      simp only [Bool.not_eq_false', decide_eq_true_eq] at h4 h5
      exact same_of hp.pl hq.pl hsq h4 h5 hit
    · intro h i _
      rw [h]
      simp
theorem ok_law_equal (T : Txt K mg a) : ∀ n, n ≤ 60 → DFn P w K mg base (1 + n) a.f_law_equal (spEq n) := by
  intro n
  induction n using Nat.strongRecOn with
  | ind n ih => exact fun hn => eq_leaf T n hn fun m hm => ih m hm (by omega)
end

set_option hygiene false in
local macro_rules | `(tactic| walk_at "go_Melody_sound") => `(tactic| (repeat (first
  | (with_reducible refine as_DS ?_; (first
    | (with_reducible refine' ds_parC (by assumption) (.inl ?hl) ?_; (case hl => ((repeat (with_reducible constructor)); done)))
    | (with_reducible refine' ds_parC (by assumption) (.inr ?hl) ?_; (case hl => ((repeat (with_reducible constructor)); done)))
    | (with_reducible refine' ds_setLcC (by assumption) (by assumption) ?hi ?_ ?hl; (case hl => ((repeat (with_reducible constructor)); done)); (case hi => (repeat (with_reducible constructor))))
    | (with_reducible refine' ds_setCD (by assumption) (by assumption) ?hi ?_ ?hl; (case hl => ((repeat (with_reducible constructor)); done)); (case hi => (repeat (with_reducible constructor))))
    | (with_reducible refine ds_forL (by assumption) Df.po ?_)))
  | (with_reducible refine as_NL ?_; (first
    | (with_reducible refine nl_ownT ?_)
    | (with_reducible refine nl_fz ?_)))
  | (with_reducible refine own_out ?_)
  | walk_at "g1"
  | (with_reducible refine as_DI ?_; (first
    | (with_reducible refine di_seq ?_))))))
set_option hygiene false in
local macro_rules | `(tactic| walk_at "go_Melody_len") => `(tactic| (repeat (first
  | (with_reducible refine as_DS ?_; (first
    | (with_reducible refine' ds_parC (by assumption) (.inl ?hl) ?_; (case hl => ((repeat (with_reducible constructor)); done)))
    | (with_reducible refine' ds_parC (by assumption) (.inr ?hl) ?_; (case hl => ((repeat (with_reducible constructor)); done)))
    | (with_reducible refine' ds_setLcC (by assumption) (by assumption) ?hi ?_ ?hl; (case hl => ((repeat (with_reducible constructor)); done)); (case hi => (repeat (with_reducible constructor))))
    | (with_reducible refine' ds_setCD (by assumption) (by assumption) ?hi ?_ ?hl; (case hl => ((repeat (with_reducible constructor)); done)); (case hi => (repeat (with_reducible constructor))))
    | (with_reducible refine ds_forL (by assumption) Df.po ?_)))
  | (with_reducible refine as_NL ?_; (first
    | (with_reducible refine nl_ownT ?_)
    | (with_reducible refine nl_fz ?_)))
  | (with_reducible refine own_out ?_)
  | walk_at "g1"
  | (with_reducible refine as_DI ?_; (first
    | (with_reducible refine di_seq ?_))))))
set_option hygiene false in
local macro_rules | `(tactic| walk_at "go_melody_of") => `(tactic| (repeat (first
  | (with_reducible refine as_DS ?_; (first
    | (with_reducible refine' ds_parC (by assumption) (.inl ?hl) ?_; (case hl => ((repeat (with_reducible constructor)); done)))
    | (with_reducible refine' ds_parC (by assumption) (.inr ?hl) ?_; (case hl => ((repeat (with_reducible constructor)); done)))
    | (with_reducible refine' ds_setLcC (by assumption) (by assumption) ?hi ?_ ?hl; (case hl => ((repeat (with_reducible constructor)); done)); (case hi => (repeat (with_reducible constructor))))
    | (with_reducible refine' ds_setCD (by assumption) (by assumption) ?hi ?_ ?hl; (case hl => ((repeat (with_reducible constructor)); done)); (case hi => (repeat (with_reducible constructor))))
    | (with_reducible refine ds_forL (by assumption) Df.po ?_)))
  | (with_reducible refine as_NL ?_; (first
    | (with_reducible refine nl_ownT ?_)
    | (with_reducible refine nl_fz ?_)))
  | (with_reducible refine own_out ?_)
  | walk_at "g1"
  | (with_reducible refine as_DI ?_; (first
    | (with_reducible refine di_seq ?_))))))
set_option hygiene false in
local macro_rules | `(tactic| walk_at "go_Melody_rshift") => `(tactic| (repeat (first
  | (with_reducible refine as_DS ?_; (first
    | (with_reducible refine' ds_parC (by assumption) (.inl ?hl) ?_; (case hl => ((repeat (with_reducible constructor)); done)))
    | (with_reducible refine' ds_parC (by assumption) (.inr ?hl) ?_; (case hl => ((repeat (with_reducible constructor)); done)))
    | (with_reducible refine' ds_setLcXc (hl := ?hl) [("pitch", 3), ("beats", 4)] ⟨.function, [(".0", .local), ("pitch", .local), ("beats", .local), ("int", .globalImplicit), ("steps", .cell)], false, false, []⟩ (by assumption) ?hi ?_; (case hl => ((repeat (with_reducible constructor)); done)); (case hi => (repeat (with_reducible constructor))))
    | (with_reducible refine' ds_setLcC (by assumption) (by assumption) ?hi ?_ ?hl; (case hl => ((repeat (with_reducible constructor)); done)); (case hi => (repeat (with_reducible constructor))))
    | (with_reducible refine' ds_setCD (by assumption) (by assumption) ?hi ?_ ?hl; (case hl => ((repeat (with_reducible constructor)); done)); (case hi => (repeat (with_reducible constructor))))
    | (with_reducible refine ds_forL (by assumption) Df.po ?_)))
  | (with_reducible refine as_DE ?_; (first
    | (with_reducible refine de_lcXc [("pitch", 3), ("beats", 4)] ⟨.function, [(".0", .local), ("pitch", .local), ("beats", .local), ("int", .globalImplicit), ("steps", .cell)], false, false, []⟩ (by assumption) ?_)))
  | (with_reducible refine as_NL ?_; (first
    | (with_reducible refine nl_ownT ?_)
    | (with_reducible refine nl_fz ?_)))
  | (with_reducible refine own_out ?_)
  | walk_at "g1"
  | (with_reducible refine as_DI ?_; (first
    | (with_reducible refine di_seq ?_))))))
section
variable {P : Program} {w : World} {K : PySem.W.Frag} {mg : Str → Option Value} {base : Heap} {a : Adr}
theorem dRow_length (r : List (Option Int × Nat)) : (dRow r).length = r.length := by simp [dRow]
def spSound (C : Addr) : DSp := fun ds O E Q => ∃ ns b, ds = [dMel C ns, .int b] ∧ Mel ns ∧ Q (dOpt (soundAt ns b)) O
theorem ok_Melody_sound (T : Txt K mg a) : DFn P w K mg base 1 a.f_Melody_sound (spSound a.C_Melody) := by
  refine T.Melody_sound.ok sc_Melody_sound (fun ds O E Q h => by obtain ⟨_, _, e, _⟩ := h; rw [e]; rfl) ?_
  intro X I S0 Df hr ds O E Q hsp; obtain ⟨rfl, rfl, rfl, rfl, rfl⟩ := I; have S : Sc X _ c_Melody_sound := S0; clear S0
  obtain ⟨ns, b, rfl, hm, q⟩ := hsp
  have hl := hm.row_len
  have h0 := Int.emod_nonneg b (show ((rowOf ns).length : Int) ≠ 0 by omega)
  have h1 := Int.emod_lt_of_pos b (show (0 : Int) < (rowOf ns).length by omega)
  show DSs X _ [some (dMel a.C_Melody ns), some (.int b)] O _ _
  refine dss_cons ?_
  walk_at "go_Melody_sound"
  refine db_mod (by rw [dRow_length]; omega) ?_
  rw [dRow_length]
  obtain ⟨k, hk⟩ := Int.eq_ofNat_of_zero_le h0
  obtain ⟨x, hx⟩ : ∃ x, (rowOf ns)[k]? = some x := ⟨_, List.getElem?_eq_getElem (by omega)⟩
  have e : soundAt ns b = x.1 := by
    unfold soundAt
    rw [rowP_length, hk, ← rowOf_fst, List.getElem?_map]
    simp [hx]
  rw [hk]
  refine dx_lst (d := .tup [dOpt x.1, .int (x.2 : Nat)]) (atI_nat (by unfold dRow; rw [List.getElem?_map, hx]; rfl)) ?_
  walk_at "go_Melody_sound"
  rw [← e]
  exact q
def spLen (C : Addr) : DSp := fun ds O E Q => ∃ ns, ds = [dMel C ns] ∧ Mel ns ∧ Q (.int ((rowP ns).length : Nat)) O
theorem ok_Melody_len (T : Txt K mg a) : DFn P w K mg base 1 a.f_Melody_len (spLen a.C_Melody) := by
  refine T.Melody_len.ok sc_Melody_len (fun ds O E Q h => by obtain ⟨_, e, _⟩ := h; rw [e]; rfl) ?_
  intro X I S0 Df hr ds O E Q hsp; obtain ⟨rfl, rfl, rfl, rfl, rfl⟩ := I; have S : Sc X _ c_Melody_len := S0; clear S0
  obtain ⟨ns, rfl, hm, q⟩ := hsp
  show DSs X _ [some (dMel a.C_Melody ns)] O _ _
  refine dss_cons ?_
  walk_at "go_Melody_len"
  rw [dRow_length, ← rowP_length]
  exact q
def spMelodyOf (C : Addr) : DSp := fun ds O E Q => ∃ ns, ds = [.lst (ns.map dNote)] ∧ Mel ns ∧ Q (dMel C ns) O
theorem ok_melody_of (T : Txt K mg a) : DFn P w K mg base 6 a.f_melody_of (spMelodyOf a.C_Melody) := by
  refine T.melody_of.ok sc_melody_of (fun ds O E Q h => by obtain ⟨_, e, _⟩ := h; rw [e]; rfl) ?_
  intro X I S0 Df hr ds O E Q hsp; obtain ⟨rfl, rfl, rfl, rfl, rfl⟩ := I; have S : Sc X _ c_melody_of := S0; clear S0
  obtain ⟨ns, rfl, hm, q⟩ := hsp
  show DSs X _ [some (.lst (ns.map dNote)), none, none] O _ _
  refine dss_cons ?_
  walk_at "go_melody_of"
  refine ⟨fun i δ' O1 => (∃ x y, δ' = [some (.lst (ns.map dNote)), x, y]) ∧ O1 = O, ⟨⟨_, _, rfl⟩, rfl⟩, ?_, ?_⟩
  · rintro i d δ' O1 hd ⟨⟨x, y, rfl⟩, rfl⟩
    obtain ⟨n, hn, rfl⟩ := map_get hd
    have hk := ok_p (hm.ok n (List.mem_of_getElem? hn))
    obtain ⟨p, b⟩ := n
    cases p with
    | none =>
      walk_at "go_melody_of"
      exact lessd ⟨⟨_, _, rfl⟩, rfl⟩
    | some p =>
      have := hk p rfl
      walk_at "go_melody_of"
      refine ⟨fun h => ?_, fun h => absurd (show (0:Int) ≤ p by omega) h⟩
      walk_at "go_melody_of"
      refine br_nd (fun h => by omega) fun h => ?_
      walk_at "go_melody_of"
      exact lessd ⟨⟨_, _, rfl⟩, rfl⟩
  · rintro δ' O1 ⟨⟨x, y, rfl⟩, rfl⟩
    walk_at "go_melody_of"
    exact q
def spShift (C : Addr) : DSp := fun ds O E Q => ∃ ns k, ds = [dMel C ns, .int k] ∧ -127 ≤ k ∧ k ≤ 127 ∧ Mel ns ∧ Mel (shiftN k ns) ∧ Q (dMel C (shiftN k ns)) O
theorem ok_Melody_rshift (T : Txt K mg a) : DFn P w K mg base 8 a.f_Melody_rshift (spShift a.C_Melody) := by
  refine T.Melody_rshift.ok sc_Melody_rshift (fun ds O E Q h => by obtain ⟨_, _, e, _⟩ := h; rw [e]; rfl) ?_
  intro X I S0 Df hr ds O E Q hsp; obtain ⟨rfl, rfl, rfl, rfl, rfl⟩ := I; have S : Sc X _ c_Melody_rshift := S0; clear S0
  obtain ⟨ns, k, rfl, h1, h2, hm, hm2, q⟩ := hsp
  show DSs X _ [some (dMel a.C_Melody ns), some (.int k), none, none, none] O _ _
  refine dss_cons ?_
  have h32 := hm.le
  walk_at "go_Melody_rshift"
  refine ⟨Note, ns, dNote, fun n => [dNote (n.1.map (· + k), n.2)], rfl, by omega, fun n hn => ?_, ?_⟩
  · obtain ⟨p, b⟩ := n
    cases p with
    | none => walk_at "go_Melody_rshift"
    | some p => walk_at "go_Melody_rshift"
  · rw [fm_map, show ns.map (fun n => dNote (n.1.map (· + k), n.2)) = (shiftN k ns).map dNote by rw [shiftN, List.map_map]; rfl]
    walk_at "go_Melody_rshift"
    refine dc_fn (ok_melody_of T) (hr.mono (by decide)) ⟨_, rfl, hm2, q⟩
section
variable {X : Cx} {δ : DEnv} {O : Own} {E : XD → Own → Prop} {Q : D → Own → Prop}
theorem dc_sound {k : Nat} {ns : List Note} {b : Int} (T : Txt X.K X.mg a) (hr : Room k X.A) (hk : 1 ≤ k) (hm : Mel ns) (q : Q (dOpt (soundAt ns b)) O) : DC X (.ref a.f_Melody_sound) [dMel a.C_Melody ns, .int b] δ O E Q := dc_fn (ok_Melody_sound T) (hr.mono hk) ⟨ns, b, rfl, hm, q⟩
theorem dc_mlen {k : Nat} {ns : List Note} (T : Txt X.K X.mg a) (hr : Room k X.A) (hk : 2 ≤ k) (hm : Mel ns) (q : Q (.int ((rowP ns).length : Nat)) O) : DC X (.builtin "len") [dMel a.C_Melody ns] δ O E Q :=
  dc_lenI (C := a.C_Melody) .fz T.Melody_len.mt.at_ T.Melody_len.mt.fn (ok_Melody_len T) (hr.mono hk) ⟨ns, rfl, hm, _, rfl, by omega, by have := hm.rowP_len; omega, q⟩
theorem db_shift {k : Nat} {ns : List Note} {i : Int} (T : Txt X.K X.mg a) (hr : Room k X.A) (hk : 8 ≤ k) (h1 : -127 ≤ i) (h2 : i ≤ 127) (hm : Mel ns) (hm2 : Mel (shiftN i ns)) (q : Q (dMel a.C_Melody (shiftN i ns)) O) : DB X (binaryOp .RShift) (dMel a.C_Melody ns) (.int i) δ O E Q := by
  exact db_ownI (C := a.C_Melody) (f := a.f_Melody_rshift) (rb := true) .fz (by simp [tyD]) T.o_Melody_rshift (ok_Melody_rshift T) (hr.mono hk) fs_int_rshift T.sb_Melody_int (ns_type _ _) tl_int_rshift ⟨ns, i, rfl, h1, h2, hm, hm2, q⟩
end
end

section
variable {P : Program} {w : World} {K : PySem.W.Frag} {mg : Str → Option Value} {base : Heap} {a : Adr}
def spChk : DSp := fun ds O E Q => ∃ is, ds = [.tup (is.map D.int)] ∧ Sharp is ∧ Q .non O
def spClash : DSp := fun ds O E Q => ∃ x y sharp, ds = [dOpt x, dOpt y, .tup (sharp.map D.int)] ∧ Q (.bl (clashP sharp x y)) O
def spVoice : DSp := fun ds O E Q => ∃ v, ds = [dVoice v] ∧ okVoice v = true ∧ Q (.bl true) O
def spRInit (R M : Addr) : DSp := fun ds O E Q => ∃ s ns vs sharp O', ds = [.ref s, dMel M ns, .tup (sharp.map D.int), .tup (vs.map dVoice)] ∧ Rnd ns vs sharp ∧ O = (s, .ins R []) :: O' ∧ Q .non ((s, .ins R (rndFs M ns vs sharp)) :: O')
section
variable {X : Cx} {δ : DEnv} {O : Own} {E : XD → Own → Prop} {Q : D → Own → Prop}
end
end

section
variable {P : Program} {w : World} {K : PySem.W.Frag} {mg : Str → Option Value} {base : Heap} {a : Adr}
def spRSounds (R M : Addr) : DSp := fun ds O E Q => ∃ ns vs sharp b, ds = [dRnd R M ns vs sharp, .int b] ∧ Rnd ns vs sharp ∧ ∀ f, Q (.ref f) ((f, .lst (dSnd (soundsR ns vs b))) :: O)
section
variable {X : Cx} {δ : DEnv} {O : Own} {E : XD → Own → Prop} {Q : D → Own → Prop}
end
def spRPairs (R M : Addr) : DSp := fun ds O E Q => ∃ ns vs sharp b, ds = [dRnd R M ns vs sharp, .int b] ∧ Rnd ns vs sharp ∧ Q (.lst ((pairsAt ns vs sharp b).map dPair)) O
section
variable {X : Cx} {δ : DEnv} {O : Own} {E : XD → Own → Prop} {Q : D → Own → Prop}
end
end

section
variable {P : Program} {w : World} {K : PySem.W.Frag} {mg : Str → Option Value} {base : Heap} {a : Adr}
def spRSize (R M : Addr) : DSp := fun ds O E Q => ∃ ns vs sharp, ds = [dRnd R M ns vs sharp] ∧ Rnd ns vs sharp ∧ Q (.int (DL.sizeOf ns : Nat)) O
section
variable {X : Cx} {O : Own} {Q : D → Own → Prop}
end
def spRCounts (R M : Addr) : DSp := fun ds O E Q => ∃ ns vs sharp, ds = [dRnd R M ns vs sharp] ∧ Rnd ns vs sharp ∧ Q (.lst ((countsR ns vs sharp).map D.int)) O
def spRFirst (R M : Addr) : DSp := fun ds O E Q => ∃ ns vs sharp, ds = [dRnd R M ns vs sharp] ∧ Rnd ns vs sharp ∧ Q (dFirst (firstR ns vs sharp)) O
end

section
variable {P : Program} {w : World} {K : PySem.W.Frag} {mg : Str → Option Value} {base : Heap} {a : Adr}
section
variable {X : Cx} {δ : DEnv} {O : Own} {E : XD → Own → Prop} {Q : D → Own → Prop}
end
def spRCount (R M : Addr) : DSp := fun ds O E Q => ∃ ns vs sharp b, ds = [dRnd R M ns vs sharp, .int b] ∧ Rnd ns vs sharp ∧ 0 ≤ b ∧ b ≤ 1000000000000000000 ∧ Q (.int (upTo (cntR ns vs sharp) b.toNat)) O
section
variable {X : Cx} {δ : DEnv} {O : Own} {E : XD → Own → Prop} {Q : D → Own → Prop}
end
def spRNth (R M : Addr) : DSp := fun ds O E Q => ∃ ns vs sharp n, ds = [dRnd R M ns vs sharp, .int n] ∧ Rnd ns vs sharp ∧ 1 ≤ n ∧ n ≤ 1000000000000000000 ∧ ∀ r, IsNth (cntR ns vs sharp) n r → Q (dOptN r) O
section
variable {X : Cx} {δ : DEnv} {O : Own} {E : XD → Own → Prop} {Q : D → Own → Prop}
end
end

set_option hygiene false in
local macro_rules | `(tactic| walk_at "go_law_fits") => `(tactic| (repeat (first
  | (with_reducible refine as_DS ?_; (first
    | (with_reducible refine' ds_parC (by assumption) (.inl ?hl) ?_; (case hl => ((repeat (with_reducible constructor)); done)))
    | (with_reducible refine' ds_parC (by assumption) (.inr ?hl) ?_; (case hl => ((repeat (with_reducible constructor)); done)))
    | (with_reducible refine' ds_setLcXc (hl := ?hl) [("_law_pitch", 1), ("_law_beats", 2)] ⟨.function, [(".0", .local), ("_law_pitch", .local), ("_law_beats", .local)], false, false, []⟩ (by assumption) ?hi ?_; (case hl => ((repeat (with_reducible constructor)); done)); (case hi => (repeat (with_reducible constructor))))
    | (with_reducible refine' ds_setLcC (by assumption) (by assumption) ?hi ?_ ?hl; (case hl => ((repeat (with_reducible constructor)); done)); (case hi => (repeat (with_reducible constructor))))
    | (with_reducible refine' ds_setCD (by assumption) (by assumption) ?hi ?_ ?hl; (case hl => ((repeat (with_reducible constructor)); done)); (case hi => (repeat (with_reducible constructor))))
    | (with_reducible refine ds_forL (by assumption) Df.po ?_)))
  | (with_reducible refine as_DE ?_; (first
    | (with_reducible refine de_lcXc [("_law_pitch", 1), ("_law_beats", 2)] ⟨.function, [(".0", .local), ("_law_pitch", .local), ("_law_beats", .local)], false, false, []⟩ (by assumption) ?_)))
  | (with_reducible refine as_NL ?_; (first
    | (with_reducible refine nl_ownT ?_)
    | (with_reducible refine nl_fz ?_)))
  | (with_reducible refine own_out ?_)
  | walk_at "g1"
  | (with_reducible refine as_DI ?_; (first
    | (with_reducible refine di_seq ?_))))))
set_option hygiene false in
local macro_rules | `(tactic| walk_at "go_law_shifted") => `(tactic| (repeat (first
  | (with_reducible refine as_DS ?_; (first
    | (with_reducible refine' ds_parC (by assumption) (.inl ?hl) ?_; (case hl => ((repeat (with_reducible constructor)); done)))
    | (with_reducible refine' ds_parC (by assumption) (.inr ?hl) ?_; (case hl => ((repeat (with_reducible constructor)); done)))
    | (with_reducible refine' ds_setLcXc (hl := ?hl) [("_law_pitch", 2), ("_law_beats", 3)] ⟨.function, [(".0", .local), ("_law_pitch", .local), ("_law_beats", .local), ("_law_steps", .cell)], false, false, []⟩ (by assumption) ?hi ?_; (case hl => ((repeat (with_reducible constructor)); done)); (case hi => (repeat (with_reducible constructor))))
    | (with_reducible refine' ds_setLcC (by assumption) (by assumption) ?hi ?_ ?hl; (case hl => ((repeat (with_reducible constructor)); done)); (case hi => (repeat (with_reducible constructor))))
    | (with_reducible refine' ds_setCD (by assumption) (by assumption) ?hi ?_ ?hl; (case hl => ((repeat (with_reducible constructor)); done)); (case hi => (repeat (with_reducible constructor))))
    | (with_reducible refine ds_forL (by assumption) Df.po ?_)))
  | (with_reducible refine as_DE ?_; (first
    | (with_reducible refine de_lcXc [("_law_pitch", 2), ("_law_beats", 3)] ⟨.function, [(".0", .local), ("_law_pitch", .local), ("_law_beats", .local), ("_law_steps", .cell)], false, false, []⟩ (by assumption) ?_)))
  | (with_reducible refine as_NL ?_; (first
    | (with_reducible refine nl_ownT ?_)
    | (with_reducible refine nl_fz ?_)))
  | (with_reducible refine own_out ?_)
  | walk_at "g1"
  | (with_reducible refine as_DI ?_; (first
    | (with_reducible refine di_seq ?_))))))
section
variable {P : Program} {w : World} {K : PySem.W.Frag} {mg : Str → Option Value} {base : Heap} {a : Adr}
def spClashing : DSp := fun ds O E Q => ∃ r, ds = [.ref r] ∧ At r .src O ∧ ∀ sharp, Sharp sharp → Q (.tup (sharp.map D.int)) O
def spFits : DSp := fun ds O E Q => ∃ ns : List Note, ds = [.lst (ns.map dNote)] ∧ ns.length ≤ 100000 ∧ Q (.bl (inRange ns)) O
theorem fits_nil : ∀ ns : List Note, (ns.flatMap fun n => if inRange [n] = true then ([] : List D) else [dOpt n.1]).isEmpty = inRange ns
  | [] => rfl
  | n :: ns => by
    have ih := fits_nil ns
    rw [List.flatMap_cons]
    by_cases h : inRange [n] = true
    · rw [if_pos h, List.nil_append, ih]
      unfold inRange at h ⊢
      rw [List.all_cons] at h ⊢
      simp at h
      simp [h]
    · rw [if_neg h]
      have h2 : inRange (n :: ns) = false := by
        unfold inRange at h ⊢
        rw [List.all_cons] at h ⊢
        simp at h
        simp [h]
      rw [h2]
      rfl
theorem fits_ok (ns : List Note) : okD (.lst (ns.flatMap fun n => if inRange [n] = true then ([] : List D) else [dOpt n.1])) := by
  refine (okD_ltup (n := 0) (fun d h => ?_) (fun d h => ?_) (by decide)).2
  · obtain ⟨n, _, h2⟩ := List.mem_flatMap.1 h
    split at h2
    · exact nomatch h2
    · rw [List.mem_singleton.1 h2]; exact (plain_dOpt _).1
  · obtain ⟨n, _, h2⟩ := List.mem_flatMap.1 h
    split at h2
    · exact nomatch h2
    · rw [List.mem_singleton.1 h2, (plain_dOpt _).2]; exact Nat.le_refl _
theorem ok_law_fits (T : Txt K mg a) : DFn P w K mg base 1 a.f_law_fits spFits := by
  refine T.law_fits.ok sc_law_fits (fun ds O E Q h => by obtain ⟨_, e, _⟩ := h; rw [e]; rfl) ?_
  intro X I S0 Df hr ds O E Q hsp; obtain ⟨rfl, rfl, rfl, rfl, rfl⟩ := I; have S : Sc X _ c_law_fits := S0; clear S0
  obtain ⟨ns, rfl, hl, q⟩ := hsp
  show DSs X _ [some (.lst (ns.map dNote)), none, none] O _ _
  refine dss_cons ?_
  walk_at "go_law_fits"
  refine ⟨Note, ns, dNote, fun n => if inRange [n] then [] else [dOpt n.1], rfl, by omega, fun n hn => ?_, ?_⟩
  · obtain ⟨p, b⟩ := n
    cases p with
    | none =>
      walk_at "go_law_fits"
    | some p =>
      walk_at "go_law_fits"
      refine ⟨fun h => ?_, fun h => ?_⟩
      · walk_at "go_law_fits"
        refine br_nd (fun h2 => ?_) (fun h2 => ?_)
        · walk_at "go_law_fits"
          exact ⟨rfl, if_neg (by simp [inRange]; omega)⟩
        · exact ⟨rfl, if_pos (by simp [inRange]; omega)⟩
      · walk_at "go_law_fits"
        exact ⟨rfl, if_neg (by simp [inRange]; omega)⟩
  · walk_at "go_law_fits"
    refine db_eqNil hr (view_plain _ (fits_ok ns).1) (fits_ok ns) ?_
    rw [fits_nil]
    exact q
def spShifted : DSp := fun ds O E Q => ∃ (ns : List Note) (k : Int), ds = [.lst (ns.map dNote), .int k] ∧ ns.length ≤ 100000 ∧ Q (.lst ((shiftN k ns).map dNote)) O
theorem ok_law_shifted (T : Txt K mg a) : DFn P w K mg base 1 a.f_law_shifted spShifted := by
  refine T.law_shifted.ok sc_law_shifted (fun ds O E Q h => by obtain ⟨_, _, e, _⟩ := h; rw [e]; rfl) ?_
  intro X I S0 Df hr ds O E Q hsp; obtain ⟨rfl, rfl, rfl, rfl, rfl⟩ := I; have S : Sc X _ c_law_shifted := S0; clear S0
  obtain ⟨ns, k, rfl, hl, q⟩ := hsp
  show DSs X _ [some (.lst (ns.map dNote)), some (.int k), none, none] O _ _
  refine dss_cons ?_
  walk_at "go_law_shifted"
  refine ⟨Note, ns, dNote, fun n => [dNote (n.1.map (· + k), n.2)], rfl, by omega, fun n hn => ?_, ?_⟩
  · obtain ⟨p, b⟩ := n
    cases p with
    | none =>
      walk_at "go_law_shifted"
    | some p =>
      walk_at "go_law_shifted"
  · rw [fm_map]
    walk_at "go_law_shifted"
    rw [show ns.map (fun n => dNote (n.1.map (· + k), n.2)) = (shiftN k ns).map dNote by unfold shiftN; rw [List.map_map]; rfl]
    exact q
/-- random voices -/
def spVoices : DSp := fun ds O E Q => ∃ r ns m, ds = [.ref r, .lst (ns.map dNote), .int m] ∧ Mel ns ∧ 1 ≤ m ∧ m ≤ 8 ∧ At r .src O ∧ ∀ vs : List Voice, 1 ≤ vs.length → (vs.length : Int) ≤ m → (∀ v ∈ vs, okVoice v = true ∧ v.1 < 60 ∧ Mel (shiftN v.2 ns)) → Q (.lst (vs.map dVoice)) O
def spLRound (R M : Addr) : DSp := fun ds O E Q => ∃ ns vs sharp, ds = [.lst (ns.map dNote), .lst (vs.map dVoice), .tup (sharp.map D.int)] ∧ Rnd ns vs sharp ∧ vs.length ≤ 4 ∧ Q (dRnd R M ns vs sharp) O
end

set_option hygiene false in
local macro_rules | `(tactic| walk_at "go_law_row") => `(tactic| (repeat (first
  | (with_reducible refine as_DS ?_; (first
    | (with_reducible refine' ds_parC (by assumption) (.inl ?hl) ?_; (case hl => ((repeat (with_reducible constructor)); done)))
    | (with_reducible refine' ds_parC (by assumption) (.inr ?hl) ?_; (case hl => ((repeat (with_reducible constructor)); done)))
    | (with_reducible refine' ds_setLcC (by assumption) (by assumption) ?hi ?_ ?hl; (case hl => ((repeat (with_reducible constructor)); done)); (case hi => (repeat (with_reducible constructor))))
    | (with_reducible refine' ds_setCD (by assumption) (by assumption) ?hi ?_ ?hl; (case hl => ((repeat (with_reducible constructor)); done)); (case hi => (repeat (with_reducible constructor))))
    | (with_reducible refine ds_forL (by assumption) Df.po ?_)))
  | (with_reducible refine as_NL ?_; (first
    | (with_reducible refine nl_ownT ?_)
    | (with_reducible refine nl_fz ?_)))
  | (with_reducible refine own_out ?_)
  | walk_at "g1"
  | (with_reducible refine as_DI ?_; (first
    | (with_reducible refine di_seq ?_))))))
section
variable {P : Program} {w : World} {K : PySem.W.Frag} {mg : Str → Option Value} {base : Heap} {a : Adr}
def spStart : DSp := fun ds O E Q => ∃ vs : List Voice, ds = [.lst (vs.map dVoice)] ∧ 1 ≤ vs.length ∧ vs.length ≤ 8 ∧ (∀ v ∈ vs, okVoice v = true) ∧ Q (.int (startOf vs)) O
def spRow : DSp := fun ds O E Q => ∃ ns : List Note, ds = [.lst (ns.map dNote)] ∧ Mel ns ∧ Q (.lst (dSnd (rowP ns))) O
theorem ok_law_row (T : Txt K mg a) : DFn P w K mg base 1 a.f_law_row spRow := by
  refine T.law_row.ok sc_law_row (fun ds O E Q h => by obtain ⟨_, e, _⟩ := h; rw [e]; rfl) ?_
  intro X I S0 Df hr ds O E Q hsp; obtain ⟨rfl, rfl, rfl, rfl, rfl⟩ := I; have S : Sc X _ c_law_row := S0; clear S0
  obtain ⟨ns, rfl, hm, q⟩ := hsp
  show DSs X _ [some (.lst (ns.map dNote)), none, none, none] O _ _
  refine dss_cons ?_
  walk_at "go_law_row"
  refine ⟨fun i δ' O1 => (∃ x y, δ' = [some (.lst (ns.map dNote)), some (.lst (dSnd (rowP (ns.take i)))), x, y]) ∧ O1 = O, ⟨⟨_, _, rfl⟩, rfl⟩, ?_, ?_⟩
  · rintro i d δ' O1 hd ⟨⟨x, y, rfl⟩, rfl⟩
    obtain ⟨n, hn, rfl⟩ := map_get hd
    have hk := okNote_iff.1 (hm.ok n (List.mem_of_getElem? hn))
    have e : rowP (ns.take (i + 1)) = rowP (ns.take i) ++ List.replicate n.2.toNat n.1 := by
      rw [List.take_add_one, hn, rowP_append]; simp [rowP]
    have hl : (rowP ns).length = (rowP (ns.take (i + 1))).length + (rowP (ns.drop (i + 1))).length := by
      rw [← List.length_append, ← rowP_append, List.take_append_drop]
    have hz := hm.rowP_len
    rw [e, List.length_append, List.length_replicate] at hl
    walk_at "go_law_row"
    refine db_rep (by omega) (by omega) (by simp; omega) ?_
    walk_at "go_law_row"
    have e3 : (List.replicate n.2.toNat [dOpt n.1]).flatten = dSnd (List.replicate n.2.toNat n.1) := by simp
    rw [e3]
    refine db_cat (by simp; omega) ?_
    walk_at "go_law_row"
    exact lessd ⟨⟨some (dOpt n.1), some (.int n.2), by rw [e]; simp⟩, rfl⟩
  · rintro δ' O1 ⟨⟨x, y, rfl⟩, rfl⟩
    rw [List.length_map, List.take_length]
    walk_at "go_law_row"
    exact q
theorem clash_gt {sharp : List Int} {x y : Int} (h : y < x) : clashP sharp (some x) (some y) = decide ((x - y) % 12 ∈ sharp) := by
  show decide ((if x - y < 0 then -(x - y) else x - y) % 12 ∈ sharp) = _
  rw [if_neg (by omega)]
theorem clash_le {sharp : List Int} {x y : Int} (h : x ≤ y) : clashP sharp (some x) (some y) = decide ((y - x) % 12 ∈ sharp) := by
  show decide ((if x - y < 0 then -(x - y) else x - y) % 12 ∈ sharp) = _
  rw [show (if x - y < 0 then -(x - y) else x - y) = y - x by split <;> omega]
def spIsClash : DSp := fun ds O E Q => ∃ (x y : Option Int) (sharp : List Int), ds = [dOpt x, dOpt y, .tup (sharp.map D.int)] ∧ Q (.bl (clashP sharp x y)) O
theorem dInts_range' {a n : Nat} {m : Int} (h : m.toNat = n) : dInts ((a : Int) + 1) m.toNat = (List.range' (a + 1) n).map fun k : Nat => D.int (k : Nat) := by
  rw [h, List.range'_eq_map_range, List.map_map]
  unfold dInts
  refine List.map_congr_left fun k _ => ?_
  show D.int _ = D.int _
  congr 1
/-- the pairs that clash -/
def spLPairs : DSp := fun ds O E Q => ∃ (row : List (Option Int)) (sharp : List Int), ds = [.lst (dSnd row), .tup (sharp.map D.int)] ∧ row.length ≤ 8 ∧ Q (.lst ((pairsOf sharp row).map dPair)) O
def spLSounds : DSp := fun ds O E Q => ∃ (ns : List Note) (vs : List Voice) (b : Int), ds = [.lst (ns.map dNote), .lst (vs.map dVoice), .int b] ∧ Mel ns ∧ vs.length ≤ 8 ∧ Q (.lst (dSnd (soundsR ns vs b))) O
end

set_option hygiene false in
local macro_rules | `(tactic| walk_at "go_law_some_beat") => `(tactic| (repeat (first
  | (with_reducible refine as_DS ?_; (first
    | (with_reducible refine' ds_parC (by assumption) (.inl ?hl) ?_; (case hl => ((repeat (with_reducible constructor)); done)))
    | (with_reducible refine' ds_parC (by assumption) (.inr ?hl) ?_; (case hl => ((repeat (with_reducible constructor)); done)))
    | (with_reducible refine' ds_setLcC (by assumption) (by assumption) ?hi ?_ ?hl; (case hl => ((repeat (with_reducible constructor)); done)); (case hi => (repeat (with_reducible constructor))))
    | (with_reducible refine' ds_setCD (by assumption) (by assumption) ?hi ?_ ?hl; (case hl => ((repeat (with_reducible constructor)); done)); (case hi => (repeat (with_reducible constructor))))
    | (with_reducible refine ds_forL (by assumption) Df.po ?_)))
  | (with_reducible refine as_NL ?_; (first
    | (with_reducible refine nl_ownT ?_)
    | (with_reducible refine nl_fz ?_)))
  | (with_reducible refine own_out ?_)
  | walk_at "g1"
  | (with_reducible refine as_DI ?_; (first
    | (with_reducible refine di_seq ?_))))))
section
variable {P : Program} {w : World} {K : PySem.W.Frag} {mg : Str → Option Value} {base : Heap} {a : Adr}
def dCountsR (ns : List Note) (vs : List Voice) (sharp : List Int) : List D := (List.range (endR ns vs)).map fun b : Nat => D.lst ((pairsAt ns vs sharp (b : Nat)).map dPair)
theorem dCountsR_len {ns : List Note} {vs : List Voice} {sharp : List Int} : (dCountsR ns vs sharp).length = endR ns vs := by simp [dCountsR]
theorem dCountsR_get {ns : List Note} {vs : List Voice} {sharp : List Int} {b : Nat} (h : b < endR ns vs) : (dCountsR ns vs sharp)[b]? = some (D.lst ((pairsAt ns vs sharp (b : Nat)).map dPair)) := by
  unfold dCountsR
  rw [List.getElem?_map, List.getElem?_range h]
  rfl
def spLCounts : DSp := fun ds O E Q => ∃ ns vs sharp, ds = [.lst (ns.map dNote), .lst (vs.map dVoice), .tup (sharp.map D.int)] ∧ Rnd ns vs sharp ∧ Q (.lst (dCountsR ns vs sharp)) O
def spSomeBeat : DSp := fun ds O E Q => ∃ r, ds = [.ref r] ∧ At r .src O ∧ ∀ v, 0 ≤ v → v ≤ 1000000000000000000 → Q (.int v) O
theorem ok_law_some_beat (T : Txt K mg a) : DFn P w K mg base 2 a.f_law_some_beat spSomeBeat := by
  refine T.law_some_beat.ok sc_law_some_beat (fun ds O E Q h => by obtain ⟨_, e, _⟩ := h; rw [e]; rfl) ?_
  intro X I S0 Df hr ds O E Q hsp; obtain ⟨rfl, rfl, rfl, rfl, rfl⟩ := I; have S : Sc X _ c_law_some_beat := S0; clear S0
  obtain ⟨r, rfl, ha, q⟩ := hsp
  show DSs X _ [some (.ref r)] O _ _
  refine dss_cons ?_
  walk_at "go_law_some_beat"
  intro v v0 v1
  walk_at "go_law_some_beat"
  intro u u0 u1
  walk_at "go_law_some_beat"
  intro t t0 t1
  have u1 : u < 1000000 := u1
  obtain ⟨y, e1, b1, b2⟩ := at_in (xs := [v, 1000000000000000000 - u]) (Q := fun x => 0 ≤ x ∧ x ≤ 1000000000000000000) t0 (by simpa using t1) (by simp; omega)
  refine dx_lst e1 ?_
  exact q y b1 b2
theorem sum_mid (f : Nat → Int) {n s r : Nat} (h : s + r ≤ n) : ((((List.range n).map f).drop s).take r).sum = upTo f (s + r) - upTo f s := by
  rw [List.take_drop, ← List.map_take, List.take_range, Nat.min_eq_left h, upTo_drop _ _ _ (by omega)]
def spSum : DSp := fun ds O E Q => ∃ ns vs sharp b, ds = [.int (startOf vs), .lst (dCountsR ns vs sharp), .int b] ∧ Rnd ns vs sharp ∧ 0 ≤ b ∧ Q (.int (upTo (cntR ns vs sharp) b.toNat)) O
end

section
variable {P : Program} {w : World} {K : PySem.W.Frag} {mg : Str → Option Value} {base : Heap} {a : Adr}
/-- the clashes from a beat on, so many beats -/
def clashesR (ns : List Note) (vs : List Voice) (sharp : List Int) (a : Int) (n : Nat) : List D := (List.range n).flatMap fun i : Nat => (pairsAt ns vs sharp (a + (i : Nat))).map fun p => D.tup [.int (a + (i : Nat)), .int (p.1 : Nat), .int (p.2 : Nat)]
theorem clashesR_succ {ns : List Note} {vs : List Voice} {sharp : List Int} {a : Int} {n : Nat} : clashesR ns vs sharp a (n + 1) = clashesR ns vs sharp a n ++ (pairsAt ns vs sharp (a + (n : Nat))).map fun p => D.tup [.int (a + (n : Nat)), .int (p.1 : Nat), .int (p.2 : Nat)] := by
  unfold clashesR
  rw [List.range_succ, List.flatMap_append]
  simp
theorem clashesR_len {ns : List Note} {vs : List Voice} {sharp : List Int} {a : Int} (h : vs.length ≤ 8) : ∀ n, (clashesR ns vs sharp a n).length ≤ n * 64
  | 0 => by simp [clashesR]
  | n + 1 => by
    have h1 := clashesR_len (ns := ns) (sharp := sharp) (a := a) h n
    have h2 := pairsAt_len (ns := ns) (sharp := sharp) h (a + (n : Nat))
    rw [clashesR_succ, List.length_append, List.length_map, Nat.succ_mul]
    omega
def spClashes (R M : Addr) : YSp := fun ds O E Q => ∃ ns vs sharp a b, ds = [dRnd R M ns vs sharp, .int a, .int b] ∧ Rnd ns vs sharp ∧ 0 ≤ a ∧ a ≤ 1000000000000000000 ∧ a - 1 ≤ b ∧ b ≤ 1000000000000000000 ∧ b ≤ a + 499 ∧ Q (clashesR ns vs sharp a (b + 1 - a).toNat) O
def spChord (R M : Addr) : DSp := fun ds O E Q => ∃ ns vs sharp b, ds = [dRnd R M ns vs sharp, .int b] ∧ Rnd ns vs sharp ∧ 0 ≤ b ∧ b ≤ 1000000000000000000 ∧ ∀ f, Q (.ref f) ((f, .lst (dSnd (soundsR ns vs b))) :: O)
section
variable {X : Cx} {N : List Str} {sc : Scope} {δ : DEnv} {O : Own} {E : XD → Own → Prop} {Q : D → Own → Prop} {pos p apos pos' : Pos}
end
end

section
variable {P : Program} {w : World} {K : PySem.W.Frag} {mg : Str → Option Value} {base : Heap} {a : Adr}
theorem shortDs_all : ∀ {ds : List D}, (∀ d ∈ ds, shortD d = true) → shortDs ds = true
  | [], _ => rfl
  | d :: ds, h => by rw [shortDs, h d List.mem_cons_self, shortDs_all fun e he => h e (List.mem_cons_of_mem _ he)]; rfl
theorem eqd_lst {n : Nat} {ds : List D} (h : ∀ d ∈ ds, Eqd n d) (hl : ds.length ≤ 100000) : Eqd (n + 1) (.lst ds) :=
  ⟨plainDs_all fun d hd => (h d hd).pl, by simp only [depthD]; have := depthDs_all (n := n) fun d hd => (h d hd).dp; omega, by simp only [shortD, Bool.and_eq_true, decide_eq_true_eq]; exact ⟨hl, shortDs_all fun d hd => (h d hd).sh⟩⟩
theorem eqd_tup {n : Nat} {ds : List D} (h : ∀ d ∈ ds, Eqd n d) (hl : ds.length ≤ 100000) : Eqd (n + 1) (.tup ds) :=
  ⟨plainDs_all fun d hd => (h d hd).pl, by simp only [depthD]; have := depthDs_all (n := n) fun d hd => (h d hd).dp; omega, by simp only [shortD, Bool.and_eq_true, decide_eq_true_eq]; exact ⟨hl, shortDs_all fun d hd => (h d hd).sh⟩⟩
theorem eqd_int {n : Nat} (i : Int) : Eqd n (.int i) := ⟨rfl, by simp [depthD], rfl⟩
theorem eqd_non {n : Nat} : Eqd n .non := ⟨rfl, by simp [depthD], rfl⟩
theorem eqd_opt {n : Nat} (o : Option Int) : Eqd n (dOpt o) := by
  cases o
  · exact eqd_non
  · exact eqd_int _
theorem Eqd.mono {n m : Nat} {d : D} (h : Eqd n d) (hn : n ≤ m) : Eqd m d := ⟨h.pl, Nat.le_trans h.dp hn, h.sh⟩
theorem eqd_snd (l : List (Option Int)) (hl : l.length ≤ 100000) : Eqd 1 (.lst (dSnd l)) := eqd_lst (fun d hd => by obtain ⟨o, _, rfl⟩ := List.mem_map.1 hd; exact eqd_opt o) (by rw [List.length_map]; exact hl)
theorem eqd_intsT (l : List Int) (hl : l.length ≤ 100000) : Eqd 1 (.tup (l.map D.int)) := eqd_tup (fun d hd => by obtain ⟨o, _, rfl⟩ := List.mem_map.1 hd; exact eqd_int o) (by rw [List.length_map]; exact hl)
theorem eqd_intsL (l : List Int) (hl : l.length ≤ 100000) : Eqd 1 (.lst (l.map D.int)) := eqd_lst (fun d hd => by obtain ⟨o, _, rfl⟩ := List.mem_map.1 hd; exact eqd_int o) (by rw [List.length_map]; exact hl)
theorem eqd_voice (v : Voice) : Eqd 1 (dVoice v) := eqd_tup (fun d hd => by
  rcases List.mem_cons.1 hd with rfl | hd
  · exact eqd_int _
  · rw [List.mem_singleton.1 hd]; exact eqd_int _) (by simp)
theorem eqd_voicesT (l : List Voice) (hl : l.length ≤ 100000) : Eqd 2 (.tup (l.map dVoice)) := eqd_tup (fun d hd => by obtain ⟨o, _, rfl⟩ := List.mem_map.1 hd; exact eqd_voice o) (by rw [List.length_map]; exact hl)
section
variable {X : Cx} {δ : DEnv} {O : Own} {E : XD → Own → Prop} {Q : D → Own → Prop}
theorem dc_eqv {k n : Nat} {d e p : D} (T : Txt X.K X.mg a) (hr : Room k X.A) (hk : 1 + n ≤ k) (hn : n ≤ 60) (h : Eqd n p) (v : View O d p) (w : View O e p) (q : Q (.bl true) O) : DC X (.ref a.f_law_equal) [d, e] δ O E Q :=
  dc_fn (ok_law_equal T n hn) (hr.mono hk) ⟨d, e, p, p, rfl, v, w, h, h, fun b hb => by rw [hb.2 rfl]; exact q⟩
theorem dc_eqs {k n : Nat} {p : D} (T : Txt X.K X.mg a) (hr : Room k X.A) (hk : 1 + n ≤ k) (hn : n ≤ 60) (h : Eqd n p) (q : Q (.bl true) O) : DC X (.ref a.f_law_equal) [p, p] δ O E Q :=
  dc_eqv T hr hk hn h (view_plain _ h.pl) (view_plain _ h.pl) q
end
end

set_option hygiene false in
local macro_rules | `(tactic| walk_at "go_heard") => `(tactic| (repeat (first
  | (with_reducible refine as_DS ?_; (first
    | (with_reducible refine' ds_parC (by assumption) (.inl ?hl) ?_; (case hl => ((repeat (with_reducible constructor)); done)))
    | (with_reducible refine' ds_parC (by assumption) (.inr ?hl) ?_; (case hl => ((repeat (with_reducible constructor)); done)))
    | (with_reducible refine' ds_setLcXc (hl := ?hl) [("pitch", 1)] ⟨.function, [(".0", .local), ("pitch", .local), ("int", .globalImplicit)], false, false, []⟩ (by assumption) ?hi ?_; (case hl => ((repeat (with_reducible constructor)); done)); (case hi => (repeat (with_reducible constructor))))
    | (with_reducible refine' ds_setLcC (by assumption) (by assumption) ?hi ?_ ?hl; (case hl => ((repeat (with_reducible constructor)); done)); (case hi => (repeat (with_reducible constructor))))
    | (with_reducible refine' ds_setCD (by assumption) (by assumption) ?hi ?_ ?hl; (case hl => ((repeat (with_reducible constructor)); done)); (case hi => (repeat (with_reducible constructor))))
    | (with_reducible refine ds_forL (by assumption) Df.po ?_)))
  | (with_reducible refine as_DE ?_; (first
    | (with_reducible refine de_lcXc [("pitch", 1)] ⟨.function, [(".0", .local), ("pitch", .local), ("int", .globalImplicit)], false, false, []⟩ (by assumption) ?_)))
  | (with_reducible refine as_NL ?_; (first
    | (with_reducible refine nl_ownT ?_)
    | (with_reducible refine nl_fz ?_)))
  | (with_reducible refine own_out ?_)
  | walk_at "g1"
  | (with_reducible refine as_DI ?_; (first
    | (with_reducible refine di_seq ?_))))))
section
variable {P : Program} {w : World} {K : PySem.W.Frag} {mg : Str → Option Value} {base : Heap} {a : Adr}
section
variable {X : Cx} {δ : DEnv} {O : Own} {E : XD → Own → Prop} {Q : D → Own → Prop}
end
def spHeard : DSp := fun ds O E Q => ∃ row : List (Option Int), ds = [.lst (dSnd row)] ∧ row.length ≤ 8 ∧ Q (.lst ((heardL row).map D.int)) O
theorem ok_heard (T : Txt K mg a) : DFn P w K mg base 1 a.f_heard spHeard := by
  refine T.heard.ok sc_heard (fun ds O E Q h => by obtain ⟨_, e, _⟩ := h; rw [e]; rfl) ?_
  intro X I S0 Df hr ds O E Q hsp; obtain ⟨rfl, rfl, rfl, rfl, rfl⟩ := I; have S : Sc X _ c_heard := S0; clear S0
  obtain ⟨row, rfl, h8, q⟩ := hsp
  show DSs X _ [some (.lst (dSnd row)), none] O _ _
  refine dss_cons ?_
  walk_at "go_heard"
  refine ⟨Option Int, row, dOpt, optI, rfl, by omega, fun o ho => ?_, ?_⟩
  · cases o with
    | none =>
      walk_at "go_heard"
    | some p =>
      walk_at "go_heard"
  rw [heard_fm]
  walk_at "go_heard"
  refine dc_sortedI .lst rfl (by have := List.length_filterMap_le id row; omega) fun js h1 h2 => ?_
  rw [sortI_eq h1 h2]
  walk_at "go_heard"
  exact q
section
variable {X : Cx} {δ : DEnv} {O : Own} {E : XD → Own → Prop} {Q : D → Own → Prop}
theorem dc_heard {k : Nat} {row : List (Option Int)} (T : Txt X.K X.mg a) (hr : Room k X.A) (hk : 1 ≤ k) (h8 : row.length ≤ 8) (q : Q (.lst ((heardL row).map D.int)) O) : DC X (.ref a.f_heard) [.lst (dSnd row)] δ O E Q := dc_fn (ok_heard T) (hr.mono hk) ⟨row, rfl, h8, q⟩
end
/-- in this beat other pitches are heard -/
def diffAt (n1 : List Note) (v1 : List Voice) (n2 : List Note) (v2 : List Voice) (b : Nat) : Prop := heardL (soundsR n1 v1 (b : Nat)) ≠ heardL (soundsR n2 v2 (b : Nat))
def spDiff (R M : Addr) : DSp := fun ds O E Q => ∃ n1 v1 s1 n2 v2 s2, ds = [dRnd R M n1 v1 s1, dRnd R M n2 v2 s2] ∧ Rnd n1 v1 s1 ∧ Rnd n2 v2 s2 ∧ ∀ r, IsFst (diffAt n1 v1 n2 v2) r → Q (dOptN r) O
end

set_option hygiene false in
local macro_rules | `(tactic| walk_at "go_check_shift") => `(tactic| (repeat (first
  | (with_reducible refine as_DS ?_; (first
    | (with_reducible refine' ds_parC (by assumption) (.inl ?hl) ?_; (case hl => ((repeat (with_reducible constructor)); done)))
    | (with_reducible refine' ds_parC (by assumption) (.inr ?hl) ?_; (case hl => ((repeat (with_reducible constructor)); done)))
    | (with_reducible refine' ds_setLcC (by assumption) (by assumption) ?hi ?_ ?hl; (case hl => ((repeat (with_reducible constructor)); done)); (case hi => (repeat (with_reducible constructor))))
    | (with_reducible refine' ds_setCD (by assumption) (by assumption) ?hi ?_ ?hl; (case hl => ((repeat (with_reducible constructor)); done)); (case hi => (repeat (with_reducible constructor))))
    | (with_reducible refine ds_forL (by assumption) Df.po ?_)))
  | (with_reducible refine as_NL ?_; (first
    | (with_reducible refine nl_ownT ?_)
    | (with_reducible refine nl_fz ?_)))
  | (with_reducible refine own_out ?_)
  | walk_at "g1"
  | (with_reducible refine as_DI ?_; (first
    | (with_reducible refine di_seq ?_))))))
set_option hygiene false in
local macro_rules | `(tactic| walk_at "go_Listener_init") => `(tactic| (repeat (first
  | (with_reducible refine as_DS ?_; (first
    | (with_reducible refine' ds_parC (by assumption) (.inl ?hl) ?_; (case hl => ((repeat (with_reducible constructor)); done)))
    | (with_reducible refine' ds_parC (by assumption) (.inr ?hl) ?_; (case hl => ((repeat (with_reducible constructor)); done)))
    | (with_reducible refine' ds_setLcC (by assumption) (by assumption) ?hi ?_ ?hl; (case hl => ((repeat (with_reducible constructor)); done)); (case hi => (repeat (with_reducible constructor))))
    | (with_reducible refine' ds_setCD (by assumption) (by assumption) ?hi ?_ ?hl; (case hl => ((repeat (with_reducible constructor)); done)); (case hi => (repeat (with_reducible constructor))))
    | (with_reducible refine ds_forL (by assumption) Df.po ?_)))
  | (with_reducible refine as_NL ?_; (first
    | (with_reducible refine nl_ownT ?_)))
  | (with_reducible refine own_out ?_)
  | walk_at "g1"
  | (with_reducible refine as_DI ?_; (first
    | (with_reducible refine di_seq ?_))))))
set_option hygiene false in
local macro_rules | `(tactic| walk_at "go_Listener_sounds") => `(tactic| (repeat (first
  | (with_reducible refine as_DS ?_; (first
    | (with_reducible refine' ds_parC (by assumption) (.inl ?hl) ?_; (case hl => ((repeat (with_reducible constructor)); done)))
    | (with_reducible refine' ds_parC (by assumption) (.inr ?hl) ?_; (case hl => ((repeat (with_reducible constructor)); done)))
    | (with_reducible refine' ds_setLcC (by assumption) (by assumption) ?hi ?_ ?hl; (case hl => ((repeat (with_reducible constructor)); done)); (case hi => (repeat (with_reducible constructor))))
    | (with_reducible refine' ds_setCD (by assumption) (by assumption) ?hi ?_ ?hl; (case hl => ((repeat (with_reducible constructor)); done)); (case hi => (repeat (with_reducible constructor))))
    | (with_reducible refine ds_forL (by assumption) Df.po ?_)))
  | (with_reducible refine as_NL ?_; (first
    | (with_reducible refine nl_ownT ?_)
    | (with_reducible refine nl_fz ?_)))
  | (with_reducible refine own_out ?_)
  | walk_at "g1"
  | (with_reducible refine as_DI ?_; (first
    | (with_reducible refine di_seq ?_))))))
set_option hygiene false in
local macro_rules | `(tactic| walk_at "go_Listener_hear") => `(tactic| (repeat (first
  | (with_reducible refine as_DS ?_; (first
    | (with_reducible refine' ds_parC (by assumption) (.inl ?hl) ?_; (case hl => ((repeat (with_reducible constructor)); done)))
    | (with_reducible refine' ds_parC (by assumption) (.inr ?hl) ?_; (case hl => ((repeat (with_reducible constructor)); done)))
    | (with_reducible refine' ds_setLcXc (hl := ?hl) [("pitch", 6)] ⟨.function, [(".0", .local), ("pitch", .local), ("int", .globalImplicit)], false, false, []⟩ (by assumption) ?hi ?_; (case hl => ((repeat (with_reducible constructor)); done)); (case hi => (repeat (with_reducible constructor))))
    | (with_reducible refine' ds_setLcXc (hl := ?hl) [("delay", 5)] ⟨.function, [(".0", .local), ("delay", .local), ("beat", .cell), ("row", .cell), ("self", .cell)], false, false, []⟩ (by assumption) ?hi ?_; (case hl => ((repeat (with_reducible constructor)); done)); (case hi => (repeat (with_reducible constructor))))
    | (with_reducible refine' ds_setLcC (by assumption) (by assumption) ?hi ?_ ?hl; (case hl => ((repeat (with_reducible constructor)); done)); (case hi => (repeat (with_reducible constructor))))
    | (with_reducible refine' ds_setCD (by assumption) (by assumption) ?hi ?_ ?hl; (case hl => ((repeat (with_reducible constructor)); done)); (case hi => (repeat (with_reducible constructor))))
    | (with_reducible refine ds_forL (by assumption) Df.po ?_)))
  | (with_reducible refine as_DE ?_; (first
    | (with_reducible refine de_lcXc [("pitch", 6)] ⟨.function, [(".0", .local), ("pitch", .local), ("int", .globalImplicit)], false, false, []⟩ (by assumption) ?_)
    | (with_reducible refine de_lcXc [("delay", 5)] ⟨.function, [(".0", .local), ("delay", .local), ("beat", .cell), ("row", .cell), ("self", .cell)], false, false, []⟩ (by assumption) ?_)))
  | (with_reducible refine as_NL ?_; (first
    | (with_reducible refine nl_ownT ?_)
    | (with_reducible refine nl_fz ?_)))
  | (with_reducible refine own_out ?_)
  | walk_at "g1"
  | (with_reducible refine as_DI ?_; (first
    | (with_reducible refine di_seq ?_))))))
set_option hygiene false in
local macro_rules | `(tactic| walk_at "go_Listener_delays") => `(tactic| (repeat (first
  | (with_reducible refine as_DS ?_; (first
    | (with_reducible refine' ds_parC (by assumption) (.inl ?hl) ?_; (case hl => ((repeat (with_reducible constructor)); done)))
    | (with_reducible refine' ds_parC (by assumption) (.inr ?hl) ?_; (case hl => ((repeat (with_reducible constructor)); done)))
    | (with_reducible refine' ds_setLcC (by assumption) (by assumption) ?hi ?_ ?hl; (case hl => ((repeat (with_reducible constructor)); done)); (case hi => (repeat (with_reducible constructor))))
    | (with_reducible refine' ds_setCD (by assumption) (by assumption) ?hi ?_ ?hl; (case hl => ((repeat (with_reducible constructor)); done)); (case hi => (repeat (with_reducible constructor))))
    | (with_reducible refine ds_forL (by assumption) Df.po ?_)))
  | (with_reducible refine as_NL ?_; (first
    | (with_reducible refine nl_ownT ?_)
    | (with_reducible refine nl_fz ?_)))
  | (with_reducible refine own_out ?_)
  | walk_at "g1"
  | (with_reducible refine as_DI ?_; (first
    | (with_reducible refine di_seq ?_))))))
set_option hygiene false in
local macro_rules | `(tactic| walk_at "go_Listener_history") => `(tactic| (repeat (first
  | (with_reducible refine as_DS ?_; (first
    | (with_reducible refine' ds_parC (by assumption) (.inl ?hl) ?_; (case hl => ((repeat (with_reducible constructor)); done)))
    | (with_reducible refine' ds_parC (by assumption) (.inr ?hl) ?_; (case hl => ((repeat (with_reducible constructor)); done)))
    | (with_reducible refine' ds_setLcC (by assumption) (by assumption) ?hi ?_ ?hl; (case hl => ((repeat (with_reducible constructor)); done)); (case hi => (repeat (with_reducible constructor))))
    | (with_reducible refine' ds_setCD (by assumption) (by assumption) ?hi ?_ ?hl; (case hl => ((repeat (with_reducible constructor)); done)); (case hi => (repeat (with_reducible constructor))))
    | (with_reducible refine ds_forL (by assumption) Df.po ?_)))
  | (with_reducible refine as_NL ?_; (first
    | (with_reducible refine nl_ownT ?_)
    | (with_reducible refine nl_fz ?_)))
  | (with_reducible refine own_out ?_)
  | walk_at "g1"
  | (with_reducible refine as_DI ?_; (first
    | (with_reducible refine di_seq ?_))))))
set_option hygiene false in
local macro_rules | `(tactic| walk_at "go_Listener_best_beat") => `(tactic| (repeat (first
  | (with_reducible refine as_DS ?_; (first
    | (with_reducible refine' ds_setLcXO (x := "worst") (hl := ?hl) [("delay", 5)] ⟨.function, [(".0", .local), ("delay", .local), ("tuple", .globalImplicit), ("beat", .cell), ("self", .cell)], false, false, []⟩ (by assumption) ?hi ?_; (case hl => ((repeat (with_reducible constructor)); done)); (case hi => (repeat (with_reducible constructor))))
    | (with_reducible refine' ds_setLcXO (x := "worst") (hl := ?hl) [("chord", 6)] ⟨.function, [(".0", .local), ("chord", .local), ("chords", .cell)], false, false, []⟩ (by assumption) ?hi ?_; (case hl => ((repeat (with_reducible constructor)); done)); (case hi => (repeat (with_reducible constructor))))
    | (with_reducible refine' ds_setO (x := "worst") (hl := ?hl) (by assumption) ?hi ?_; (case hl => ((repeat (with_reducible constructor)); done)); (case hi => (repeat (with_reducible constructor))))
    | (with_reducible refine' ds_setCO (x := "worst") (hl := ?hl) (by assumption) (by assumption) ?hi ?_; (case hl => ((repeat (with_reducible constructor)); done)); (case hi => (repeat (with_reducible constructor))))
    | (with_reducible refine' ds_parC (by assumption) (.inl ?hl) ?_; (case hl => ((repeat (with_reducible constructor)); done)))
    | (with_reducible refine' ds_parC (by assumption) (.inr ?hl) ?_; (case hl => ((repeat (with_reducible constructor)); done)))
    | (with_reducible refine' ds_setLcXc (hl := ?hl) [("delay", 5)] ⟨.function, [(".0", .local), ("delay", .local), ("tuple", .globalImplicit), ("beat", .cell), ("self", .cell)], false, false, []⟩ (by assumption) ?hi ?_; (case hl => ((repeat (with_reducible constructor)); done)); (case hi => (repeat (with_reducible constructor))))
    | (with_reducible refine' ds_setLcXc (hl := ?hl) [("chord", 6)] ⟨.function, [(".0", .local), ("chord", .local), ("chords", .cell)], false, false, []⟩ (by assumption) ?hi ?_; (case hl => ((repeat (with_reducible constructor)); done)); (case hi => (repeat (with_reducible constructor))))
    | (with_reducible refine' ds_setLcC (by assumption) (by assumption) ?hi ?_ ?hl; (case hl => ((repeat (with_reducible constructor)); done)); (case hi => (repeat (with_reducible constructor))))
    | (with_reducible refine' ds_setCD (by assumption) (by assumption) ?hi ?_ ?hl; (case hl => ((repeat (with_reducible constructor)); done)); (case hi => (repeat (with_reducible constructor))))
    | (with_reducible refine ds_forL (by assumption) Df.po ?_)))
  | (with_reducible refine as_DE ?_; (first
    | (with_reducible refine de_lcXc [("delay", 5)] ⟨.function, [(".0", .local), ("delay", .local), ("tuple", .globalImplicit), ("beat", .cell), ("self", .cell)], false, false, []⟩ (by assumption) ?_)
    | (with_reducible refine de_lcXc [("chord", 6)] ⟨.function, [(".0", .local), ("chord", .local), ("chords", .cell)], false, false, []⟩ (by assumption) ?_)))
  | (with_reducible refine as_NL ?_; (first
    | (with_reducible refine nl_ownT ?_)
    | (with_reducible refine nl_fz ?_)))
  | (with_reducible refine own_out ?_)
  | walk_at "g1"
  | (with_reducible refine as_DI ?_; (first
    | (with_reducible refine di_seq ?_))))))
section
variable {P : Program} {w : World} {K : PySem.W.Frag} {mg : Str → Option Value} {base : Heap} {a : Adr}
def spCheckShift : DSp := fun ds O E Q => ∃ k : Int, ds = [.int k] ∧ -24 ≤ k ∧ k ≤ 24 ∧ Q .non O
theorem ok_check_shift (T : Txt K mg a) : DFn P w K mg base 2 a.f_check_shift spCheckShift := by
  refine T.check_shift.ok sc_check_shift (fun ds O E Q h => by obtain ⟨_, e, _⟩ := h; rw [e]; rfl) ?_
  intro X I S0 Df hr ds O E Q hsp; obtain ⟨rfl, rfl, rfl, rfl, rfl⟩ := I; have S : Sc X _ c_check_shift := S0; clear S0
  obtain ⟨k, rfl, h1, h2, q⟩ := hsp
  show DSs X _ [some (.int k)] O _ _
  refine dss_cons ?_
  walk_at "go_check_shift"
  exact q
/-- what both voices sing in a beat -/
def lsSnd (ns : List Note) (sh : Int) (b d : Int) : List Int := heardL [soundAt ns b, if d ≤ b then (soundAt ns (b - d)).map (· + sh) else none]
theorem lsSnd_le (ns : List Note) (sh b d : Int) : (lsSnd ns sh b d).length ≤ 2 := heardL_le _
abbrev Fact := Int × List Int
abbrev dFact (f : Fact) : D := .tup [.int f.1, .tup (f.2.map D.int)]
def lsFs (M : Addr) (ns : List Note) (sh : Int) (kept : List Int) (fa : Addr) : List (Str × D) := [("one", dMel M ns), ("other", dMel M (shiftN sh ns)), ("kept", .lst (kept.map D.int)), ("facts", .ref fa)]
def spLsInit (C M : Addr) : DSp := fun ds O E Q => ∃ l ns sh n O', ds = [.ref l, dMel M ns, .int sh, .int n] ∧ Mel ns ∧ Mel (shiftN sh ns) ∧ -24 ≤ sh ∧ sh ≤ 24 ∧ 0 ≤ n ∧ n ≤ 500 ∧ O = (l, .ins C []) :: O' ∧
  ∀ fa, Q .non ((fa, .lst []) :: (l, .ins C (lsFs M ns sh ((List.range (n + 1).toNat).map fun i : Nat => ((0 : Int) + (i : Nat))) fa)) :: O')
theorem ok_Listener_init (T : Txt K mg a) : DFn P w K mg base 9 a.f_Listener_init (spLsInit a.C_Listener a.C_Melody) := by
  refine T.Listener_init.ok sc_Listener_init (fun ds O E Q h => by obtain ⟨_, _, _, _, _, e, _⟩ := h; rw [e]; rfl) ?_
  intro X I S0 Df hr ds O E Q hsp; obtain ⟨rfl, rfl, rfl, rfl, rfl⟩ := I; have S : Sc X _ c_Listener_init := S0; clear S0
  obtain ⟨l, ns, sh, n, O', rfl, hm, hm2, h1, h2, h3, h4, rfl, q⟩ := hsp
  show DSs X _ [some (.ref l), some (dMel a.C_Melody ns), some (.int sh), some (.int n)] _ _ _
  refine dss_cons ?_
  walk_at "go_Listener_init"
  refine dc_fn (ok_check_shift T) (hr.mono (by decide)) ⟨sh, rfl, h1, h2, ?_⟩
  walk_at "go_Listener_init"
  refine ⟨by omega, by omega, nl_fz ?_⟩
  walk_at "go_Listener_init"
  refine nl_own fun fa => ?_
  walk_at "go_Listener_init"
  have e : dInts 0 (n + 1).toNat = ((List.range (n + 1).toNat).map fun i : Nat => ((0 : Int) + (i : Nat))).map D.int := by unfold dInts; rw [List.map_map]; rfl
  rw [e]
  exact q fa
def lsCell (C M : Addr) (ns : List Note) (sh : Int) (kept : List Int) (fa : Addr) : Cell := .ins C (lsFs M ns sh kept fa)
def spLsSounds (C M : Addr) : DSp := fun ds O E Q => ∃ l fa ns sh kept d b, ds = [.ref l, .int d, .int b] ∧ At l (.ins C (lsFs M ns sh kept fa)) O ∧ Mel ns ∧ Mel (shiftN sh ns) ∧ Q (.lst ((lsSnd ns sh b d).map D.int)) O
theorem ok_Listener_sounds (T : Txt K mg a) : DFn P w K mg base 3 a.f_Listener_sounds (spLsSounds a.C_Listener a.C_Melody) := by
  refine T.Listener_sounds.ok sc_Listener_sounds (fun ds O E Q h => by obtain ⟨_, _, _, _, _, _, _, e, _⟩ := h; rw [e]; rfl) ?_
  intro X I S0 Df hr ds O E Q hsp; obtain ⟨rfl, rfl, rfl, rfl, rfl⟩ := I; have S : Sc X _ c_Listener_sounds := S0; clear S0
  obtain ⟨l, fa, ns, sh, kept, d, b, rfl, hl, hm, hm2, q⟩ := hsp
  show DSs X _ [some (.ref l), some (.int d), some (.int b)] _ _ _
  refine dss_cons ?_
  walk_at "go_Listener_sounds"
  (first | with_reducible refine br_d (fun h => ?_) (fun h => ?_) | with_reducible refine rb_d (fun h => ?_) (fun h => ?_) | with_reducible refine br_nd (fun h => ?_) (fun h => ?_) | with_reducible refine rb_nd (fun h => ?_) (fun h => ?_))
  · walk_at "go_Listener_sounds"
    refine dc_heard T hr (by decide) (row := [soundAt ns b, soundAt (shiftN sh ns) (b - d)]) (by simp) ?_
    unfold lsSnd at q
    rw [if_pos h, ← soundAt_shift] at q
    exact q
  · walk_at "go_Listener_sounds"
    refine dc_heard T hr (by decide) (row := [soundAt ns b, none]) (by simp) ?_
    unfold lsSnd at q
    rw [if_neg h] at q
    exact q
/-- the delays that agree -/
def agree (ns : List Note) (sh b : Int) (row : List Int) (kept : List Int) : List Int := kept.filter fun d => decide (lsSnd ns sh b d = row)
def spHear (C M : Addr) : DSp := fun ds O E Q => ∃ l fa ns sh kept facts b ps O1 O2, ds = [.ref l, .int b] ++ [.tup (List.map D.int ps)] ∧ At l (.ins C (lsFs M ns sh kept fa)) O ∧ Mel ns ∧ Mel (shiftN sh ns) ∧ 0 ≤ b ∧ b ≤ 1000000000000000000 ∧ ps.length ≤ 10 ∧ kept.length ≤ 501 ∧ facts.length ≤ 1000 ∧
  agree ns sh b (sortI ps) kept ≠ [] ∧ Put l (.ins C (lsFs M ns sh (agree ns sh b (sortI ps) kept) fa)) O O1 ∧ At fa (.lst (List.map dFact facts)) O1 ∧ Put fa (.lst (List.map dFact (facts ++ [(b, sortI ps)]))) O1 O2 ∧ Q (.int ((agree ns sh b (sortI ps) kept).length : Nat)) O2
theorem ok_Listener_hear (T : Txt K mg a) : DFn P w K mg base 5 a.f_Listener_hear (starSp 2 (spHear a.C_Listener a.C_Melody)) := by
  refine T.Listener_hear.ok sc_Listener_hear ?_
  intro X I S0 Df hr ds O E Q hsp; obtain ⟨rfl, rfl, rfl, rfl, rfl⟩ := I; have S : Sc X _ c_Listener_hear := S0; clear S0
  obtain ⟨l, fa, ns, sh, kept, facts, b, ps, O1, O2, rfl, hl, hm, hm2, h0, h1, hp, hk, hf, hne, hput1, hfa1, hput2, q⟩ := hsp
  show DSs X _ [some (.ref l), some (.int b), some (.tup (ps.map D.int)), none, none, none, none] _ _ _
  refine dss_cons ?_
  walk_at "go_Listener_hear"
  refine ⟨Int, ps, D.int, fun p => [.int p], rfl, by omega, fun p hp => ?_, ?_⟩
  · walk_at "go_Listener_hear"
  rw [fm_map]
  walk_at "go_Listener_hear"
  refine dc_sortedI .lst rfl (by omega) fun js h2 h3 => ?_
  rw [sortI_eq h2 h3]
  walk_at "go_Listener_hear"
  refine ⟨Int, kept, D.int, fun d => if decide (lsSnd ns sh b d = sortI ps) then [.int d] else [], rfl, by omega, fun d hd => ?_, ?_⟩
  · walk_at "go_Listener_hear"
    refine dc_fn (ok_Listener_sounds T) (hr.mono (by decide)) ⟨l, fa, ns, sh, kept, d, b, rfl, hl, hm, hm2, ?_⟩
    walk_at "go_Listener_hear"
    refine db_eqP hr (okN_ints _) (okN_ints _) (noBl_ints _) (noBl_ints _) fun c hc => ?_
    have hc2 : c = decide (lsSnd ns sh b d = sortI ps) := Bool.eq_iff_iff.2 (by rw [hc, decide_eq_true_iff]; exact ⟨fun h => ints_inj h, fun h => by rw [h]⟩)
    rw [hc2]
    refine ex_bl ?_
    (first | with_reducible refine br_d (fun h => ?_) (fun h => ?_) | with_reducible refine rb_d (fun h => ?_) (fun h => ?_) | with_reducible refine br_nd (fun h => ?_) (fun h => ?_) | with_reducible refine rb_nd (fun h => ?_) (fun h => ?_))
    · walk_at "go_Listener_hear"
      exact ⟨rfl, if_pos (decide_eq_true h)⟩
    · walk_at "go_Listener_hear"
      exact ⟨rfl, if_neg (by simpa using h)⟩
  rw [fm_fil, show kept.filter (fun d => decide (lsSnd ns sh b d = sortI ps)) = agree ns sh b (sortI ps) kept from rfl]
  have hka : (agree ns sh b (sortI ps) kept).length ≤ kept.length := List.length_filter_le _ _
  generalize hK : agree ns sh b (sortI ps) kept = K2 at *
  walk_at "go_Listener_hear"
  refine db_eqNil hr (view_plain _ (okD_intsL _).1) (okD_intsL _) ?_
  rw [isEmpty_false (by rw [List.length_map]; exact List.length_pos_iff.2 hne)]
  walk_at "go_Listener_hear"
  refine ⟨_, _, _, O1, rfl, hl, T.Listener.cl, T.n_Listener_kept, (by show 4 < 900; decide), hput1, ?_⟩
  have hl1 := hput1.at'
  walk_at "go_Listener_hear"
  refine ⟨_, hfa1, O2, by rw [List.length_map]; omega, by rw [List.map_append] at hput2; exact hput2, ?_⟩
  walk_at "go_Listener_hear"
  rw [List.length_map]
  exact q
def spLsDelays (C M : Addr) : DSp := fun ds O E Q => ∃ l fa ns sh kept, ds = [.ref l] ∧ At l (.ins C (lsFs M ns sh kept fa)) O ∧ Q (.lst (kept.map D.int)) O
theorem ok_Listener_delays (T : Txt K mg a) : DFn P w K mg base 1 a.f_Listener_delays (spLsDelays a.C_Listener a.C_Melody) := by
  refine T.Listener_delays.ok sc_Listener_delays (fun ds O E Q h => by obtain ⟨_, _, _, _, _, e, _⟩ := h; rw [e]; rfl) ?_
  intro X I S0 Df hr ds O E Q hsp; obtain ⟨rfl, rfl, rfl, rfl, rfl⟩ := I; have S : Sc X _ c_Listener_delays := S0; clear S0
  obtain ⟨l, fa, ns, sh, kept, rfl, hl, q⟩ := hsp
  show DSs X _ [some (.ref l)] _ _ _
  refine dss_cons ?_
  walk_at "go_Listener_delays"
  refine dc_list ?_
  walk_at "go_Listener_delays"
  exact q
def spLsHistory (C M : Addr) : DSp := fun ds O E Q => ∃ l fa ns sh kept facts, ds = [.ref l] ∧ At l (.ins C (lsFs M ns sh kept fa)) O ∧ At fa (.lst (List.map dFact facts)) O ∧ Q (.lst (facts.map dFact)) O
theorem ok_Listener_history (T : Txt K mg a) : DFn P w K mg base 1 a.f_Listener_history (spLsHistory a.C_Listener a.C_Melody) := by
  refine T.Listener_history.ok sc_Listener_history (fun ds O E Q h => by obtain ⟨_, _, _, _, _, _, e, _⟩ := h; rw [e]; rfl) ?_
  intro X I S0 Df hr ds O E Q hsp; obtain ⟨rfl, rfl, rfl, rfl, rfl⟩ := I; have S : Sc X _ c_Listener_history := S0; clear S0
  obtain ⟨l, fa, ns, sh, kept, facts, rfl, hl, hfa, q⟩ := hsp
  show DSs X _ [some (.ref l)] _ _ _
  refine dss_cons ?_
  walk_at "go_Listener_history"
  refine dc_list_own hfa ?_
  walk_at "go_Listener_history"
  exact q
/-- with how many delays the same is heard -/
def cntSame (ns : List Note) (sh : Int) (kept : List Int) (b d : Int) : Nat := kept.countP fun e => decide (lsSnd ns sh b e = lsSnd ns sh b d)
def worstAt (ns : List Note) (sh : Int) (kept : List Int) (b : Int) : Int := maxL (kept.map fun d => (cntSame ns sh kept b d : Int))
def worstL (ns : List Note) (sh : Int) (kept : List Int) (n : Nat) : List Int := (List.range n).map fun b : Nat => worstAt ns sh kept (b : Nat)
/-- the first place of the least number -/
def IsMinIx (W : List Int) (j : Nat) : Prop := ∃ m, W[j]? = some m ∧ (∀ y ∈ W, m ≤ y) ∧ ∀ i : Nat, i < j → W[i]? ≠ some m
theorem IsMinIx.uniq {W : List Int} {i j : Nat} (h1 : IsMinIx W i) (h2 : IsMinIx W j) : i = j := by
  obtain ⟨m, a1, b1, c1⟩ := h1
  obtain ⟨m2, a2, b2, c2⟩ := h2
  have e : m = m2 := by
    have := b1 m2 (List.mem_of_getElem? a2)
    have := b2 m (List.mem_of_getElem? a1)
    omega
  subst e
  rcases Nat.lt_trichotomy i j with l | l | l
  · exact absurd a1 (c2 i l)
  · exact l
  · exact absurd a2 (c1 j l)
theorem first_ix {W : List Int} {m : Int} (h : m ∈ W) : ∃ j, W[j]? = some m ∧ ∀ i : Nat, i < j → W[i]? ≠ some m := by
  induction W with
  | nil => cases h
  | cons w ws ih =>
    by_cases e : w = m
    · exact ⟨0, by rw [e]; rfl, fun i hi => by omega⟩
    · have hm : m ∈ ws := by
        rcases List.mem_cons.1 h with h | h
        · exact absurd h.symm e
        · exact h
      obtain ⟨j, h1, h2⟩ := ih hm
      refine ⟨j + 1, h1, fun i hi => ?_⟩
      cases i with
      | zero => exact fun z => e (Option.some.inj z)
      | succ i => exact h2 i (by omega)
theorem eqv_ints {x y : List Int} : PyData.eqv (toP (.tup (x.map D.int))) (toP (.tup (y.map D.int))) = decide (x = y) ∧ PyData.eqv (toP (.lst (x.map D.int))) (toP (.lst (y.map D.int))) = decide (x = y) := by
  have hp : ∀ l : List Int, plainDs (l.map D.int) = true := fun l => plainDs_all fun d hd => by obtain ⟨i, _, rfl⟩ := List.mem_map.1 hd; rfl
  refine ⟨Bool.eq_iff_iff.2 ?_, Bool.eq_iff_iff.2 ?_⟩
  · rw [decide_eq_true_iff, eqv_iff _ _ (by simpa [plainD] using hp x) (by simpa [plainD] using hp y) (by simpa [noBl] using noBls_ints x) (by simpa [noBl] using noBls_ints y)]
    exact ⟨fun h => by injection h with h; exact map_inj (fun a b e => by injection e) h, fun h => by rw [h]⟩
  · rw [decide_eq_true_iff, eqv_iff _ _ (by simpa [plainD] using hp x) (by simpa [plainD] using hp y) (by simpa [noBl] using noBls_ints x) (by simpa [noBl] using noBls_ints y)]
    exact ⟨fun h => by injection h with h; exact map_inj (fun a b e => by injection e) h, fun h => by rw [h]⟩
theorem okD_tints (l : List Int) : okD (.tup (l.map D.int)) := (okD_ltup (n := 0) (fun d hd => by obtain ⟨i, _, rfl⟩ := List.mem_map.1 hd; rfl) (fun d hd => by obtain ⟨i, _, rfl⟩ := List.mem_map.1 hd; exact Nat.le_refl _) (by decide)).1
theorem okD_lints2 (f : Int → List Int) (l : List Int) : okD (.lst (l.map fun d => D.tup ((f d).map D.int))) ∧ okD (.lst (l.map fun d => D.lst ((f d).map D.int))) := by
  have hp : ∀ l : List Int, plainDs (l.map D.int) = true := fun l => plainDs_all fun d hd => by obtain ⟨i, _, rfl⟩ := List.mem_map.1 hd; rfl
  have hd : ∀ l : List Int, depthDs (l.map D.int) ≤ 0 := fun l => depthDs_all fun d hd => by obtain ⟨i, _, rfl⟩ := List.mem_map.1 hd; exact Nat.le_refl _
  refine ⟨(okD_ltup (n := 1) (fun d hd => ?_) (fun d hd2 => ?_) (by decide)).2, (okD_ltup (n := 1) (fun d hd => ?_) (fun d hd2 => ?_) (by decide)).2⟩
  · obtain ⟨i, _, rfl⟩ := List.mem_map.1 hd; simpa [plainD] using hp _
  · obtain ⟨i, _, rfl⟩ := List.mem_map.1 hd2; simp only [depthD]; have := hd (f i); omega
  · obtain ⟨i, _, rfl⟩ := List.mem_map.1 hd; simpa [plainD] using hp _
  · obtain ⟨i, _, rfl⟩ := List.mem_map.1 hd2; simp only [depthD]; have := hd (f i); omega
theorem eqv_int {a b : Int} : PyData.eqv (toP (.int a)) (toP (.int b)) = decide (a = b) := Bool.eq_iff_iff.2 (by
  rw [decide_eq_true_iff, eqv_iff _ _ rfl rfl rfl rfl]
  exact ⟨fun h => by injection h, fun h => by rw [h]⟩)
theorem worstL_succ {ns : List Note} {sh : Int} {kept : List Int} {n : Nat} : worstL ns sh kept (n + 1) = worstL ns sh kept n ++ [worstAt ns sh kept (n : Nat)] := by
  unfold worstL
  rw [List.range_succ, List.map_append]
  rfl
theorem worstL_length {ns : List Note} {sh : Int} {kept : List Int} {n : Nat} : (worstL ns sh kept n).length = n := by simp [worstL]
/-- counted among the chords, as tuples or as lists -/
theorem cnt_tup {ns : List Note} {sh : Int} {kept : List Int} {b d : Int} : (kept.map fun e => D.tup ((lsSnd ns sh b e).map D.int)).countP (fun z => PyData.eqv (toP z) (toP (.tup ((lsSnd ns sh b d).map D.int)))) = cntSame ns sh kept b d := by
  unfold cntSame
  rw [List.countP_map]
  congr 1
  funext e
  exact eqv_ints.1
theorem cnt_lst {ns : List Note} {sh : Int} {kept : List Int} {b d : Int} : (kept.map fun e => D.lst ((lsSnd ns sh b e).map D.int)).countP (fun z => PyData.eqv (toP z) (toP (.lst ((lsSnd ns sh b d).map D.int)))) = cntSame ns sh kept b d := by
  unfold cntSame
  rw [List.countP_map]
  congr 1
  funext e
  exact eqv_ints.2
theorem worst_of {ns : List Note} {sh : Int} {kept : List Int} {b m : Int} (h1 : m ∈ kept.map fun d => (cntSame ns sh kept b d : Int)) (h2 : ∀ y ∈ kept.map fun d => (cntSame ns sh kept b d : Int), y ≤ m) : m = worstAt ns sh kept b :=
  (maxL_eq h1 (fun x hx => by obtain ⟨d, _, rfl⟩ := List.mem_map.1 hx; omega) h2).symm
def spBest (C M : Addr) : DSp := fun ds O E Q => ∃ l fa ns sh kept n, ds = [.ref l, .int n] ∧ At l (.ins C (lsFs M ns sh kept fa)) O ∧ Mel ns ∧ Mel (shiftN sh ns) ∧ 0 ≤ n ∧ n ≤ 200 ∧ kept ≠ [] ∧ kept.length ≤ 501 ∧ ∀ j, IsMinIx (worstL ns sh kept (n + 1).toNat) j → Q (.int (j : Nat)) O
theorem ok_Listener_best (T : Txt K mg a) : DFn P w K mg base 5 a.f_Listener_best_beat (spBest a.C_Listener a.C_Melody) := by
  refine T.Listener_best_beat.ok sc_Listener_best_beat (fun ds O E Q h => by obtain ⟨_, _, _, _, _, _, e, _⟩ := h; rw [e]; rfl) ?_
  intro X I S0 Df hr ds O E Q hsp; obtain ⟨rfl, rfl, rfl, rfl, rfl⟩ := I; have S : Sc X _ c_Listener_best_beat := S0; clear S0
  obtain ⟨l, fa, ns, sh, kept, n, rfl, hl, hm, hm2, h0, h1, hne, hk, q⟩ := hsp
  have hkp := List.length_pos_iff.2 hne
  show DSs X _ [some (.ref l), some (.int n), none, none, none, none, none] _ _ _
  refine dss_cons ?_
  walk_at "go_Listener_best_beat"
  intro f
  walk_at "go_Listener_best_beat"
  obtain ⟨N, hN⟩ := Int.eq_ofNat_of_zero_le (show 0 ≤ n + 1 by omega)
  rw [hN, Int.toNat_natCast] at q ⊢
  refine ⟨fun i δ' O1 => (∃ x3 x4 x5 x6, δ' = [some (.ref l), some (.int n), some (.ref f), x3, x4, x5, x6]) ∧ O1 = (f, .lst ((worstL ns sh kept i).map D.int)) :: O, ⟨⟨_, _, _, _, rfl⟩, rfl⟩, ?_, ?_⟩
  · rintro i d δ' O1 hd ⟨⟨x3, x4, x5, x6, rfl⟩, rfl⟩
    obtain ⟨rfl, hi⟩ := dInts_get hd
    have e0 : (0 : Int) + (i : Nat) = (i : Nat) := by omega
    rw [e0]
    have hwl := worstL_length (ns := ns) (sh := sh) (kept := kept) (n := i)
    walk_at "go_Listener_best_beat"
    refine ⟨Int, kept, D.int, fun d => [.tup ((lsSnd ns sh (i : Nat) d).map D.int)], rfl, by omega, fun d hd => ?_, ?_⟩
    · walk_at "go_Listener_best_beat"
      refine dc_fn (ok_Listener_sounds T) (hr.mono (by decide)) ⟨l, fa, ns, sh, kept, d, (i : Nat), rfl, hl.tail, hm, hm2, ?_⟩
      walk_at "go_Listener_best_beat"
    rw [fm_map]
    walk_at "go_Listener_best_beat"
    refine ⟨Int, kept, fun e => D.tup ((lsSnd ns sh (i : Nat) e).map D.int), fun d => [.int (cntSame ns sh kept (i : Nat) d : Nat)], rfl, by omega, fun d hd => ?_, ?_⟩
    · walk_at "go_Listener_best_beat"
      refine ⟨_, .fz, ?_⟩
      walk_at "go_Listener_best_beat"
      refine ⟨_, _, view_plain _ (okD_lints2 (lsSnd ns sh (i : Nat)) kept).1.1, view_plain _ (okD_tints _).1, (okD_lints2 _ _).1, okD_tints _, ?_⟩
      rw [cnt_tup]
      exact ⟨rfl, rfl⟩
    rw [fm_map, show kept.map (fun d => D.int (cntSame ns sh kept (i : Nat) d : Nat)) = (kept.map fun d => (cntSame ns sh kept (i : Nat) d : Int)).map D.int by rw [List.map_map]; rfl]
    walk_at "go_Listener_best_beat"
    refine dc_maxL S.calm .lst rfl (by rw [List.length_map]; omega) fun m h1 h2 => ?_
    rw [worst_of h1 h2]
    walk_at "go_Listener_best_beat"
    exact lessd ⟨⟨_, _, _, _, rfl⟩, by rw [worstL_succ, List.map_append]; rfl⟩
  · rintro δ' O1 ⟨⟨x3, x4, x5, x6, rfl⟩, rfl⟩
    rw [dInts_length]
    have hwl := worstL_length (ns := ns) (sh := sh) (kept := kept) (n := N)
    refine' dss_fz _ ?gm ?gd ?gf ?_; (case gm => (repeat (first | with_reducible exact At.head | with_reducible assumption | with_reducible apply At.tail))); (case gd => (repeat (first | with_reducible exact Del.head | with_reducible apply Del.tail))); (case gf => (repeat (first | with_reducible exact Fz.nil | with_reducible apply Fz.swap | with_reducible apply Fz.keep)))
    walk_at "go_Listener_best_beat"
    refine ⟨_, .fz, ?_⟩
    walk_at "go_Listener_best_beat"
    refine dc_minL S.calm .lst rfl (by omega) fun m h1 h2 => ?_
    obtain ⟨j, hj1, hj2⟩ := first_ix h1
    refine ⟨_, .int m, j, .int m, view_plain _ (okD_intsL _).1, view_plain _ rfl, okD_intsL _, (okN_int (n := 0)).ok, by rw [List.getElem?_map, hj1]; rfl, by rw [eqv_int]; simp, fun i z' hi hz' => ?_, q j ⟨m, hj1, h2, hj2⟩⟩
    obtain ⟨y, hy, rfl⟩ := map_get hz'
    rw [eqv_int]
    exact decide_eq_false fun h => hj2 i hi (by rw [hy, h])
section
variable {X : Cx} {O : Own} {Q : D → Own → Prop}
theorem pr_delays {k : Nat} {l fa : Addr} {ns : List Note} {sh : Int} {kept : List Int} (T : Txt X.K X.mg a) (hr : Room k X.A) (hk : 2 ≤ k) (ha : At l (.ins a.C_Listener (lsFs a.C_Melody ns sh kept fa)) O) (q : Q (.lst (kept.map D.int)) O) :
    ∃ C fs pr g k sp, IsIns (.ref l) O C fs ∧ Cls X.K C ∧ PropOf X.K C "delays" pr g ∧ DFn X.prog X.w X.K X.mg X.base k g sp ∧ Room (k + 1) X.A ∧ sp [.ref l] O noE Q :=
  ⟨_, _, _, _, _, _, .own ha, T.Listener.cl, T.Listener_delays.p, ok_Listener_delays T, hr.mono hk, l, fa, ns, sh, kept, rfl, ha, q⟩
theorem pr_history {k : Nat} {l fa : Addr} {ns : List Note} {sh : Int} {kept : List Int} {facts : List Fact} (T : Txt X.K X.mg a) (hr : Room k X.A) (hk : 2 ≤ k) (ha : At l (.ins a.C_Listener (lsFs a.C_Melody ns sh kept fa)) O) (hf : At fa (.lst (List.map dFact facts)) O) (q : Q (.lst (List.map dFact facts)) O) :
    ∃ C fs pr g k sp, IsIns (.ref l) O C fs ∧ Cls X.K C ∧ PropOf X.K C "history" pr g ∧ DFn X.prog X.w X.K X.mg X.base k g sp ∧ Room (k + 1) X.A ∧ sp [.ref l] O noE Q :=
  ⟨_, _, _, _, _, _, .own ha, T.Listener.cl, T.Listener_history.p, ok_Listener_history T, hr.mono hk, l, fa, ns, sh, kept, facts, rfl, ha, hf, q⟩
end
end

set_option hygiene false in
local macro_rules | `(tactic| walk_at "go_law_in_range") => `(tactic| (repeat (first
  | (with_reducible refine as_DS ?_; (first
    | (with_reducible refine' ds_parC (by assumption) (.inl ?hl) ?_; (case hl => ((repeat (with_reducible constructor)); done)))
    | (with_reducible refine' ds_parC (by assumption) (.inr ?hl) ?_; (case hl => ((repeat (with_reducible constructor)); done)))
    | (with_reducible refine' ds_setLcC (by assumption) (by assumption) ?hi ?_ ?hl; (case hl => ((repeat (with_reducible constructor)); done)); (case hi => (repeat (with_reducible constructor))))
    | (with_reducible refine' ds_setCD (by assumption) (by assumption) ?hi ?_ ?hl; (case hl => ((repeat (with_reducible constructor)); done)); (case hi => (repeat (with_reducible constructor))))
    | (with_reducible refine ds_forL (by assumption) Df.po ?_)))
  | (with_reducible refine as_NL ?_; (first
    | (with_reducible refine nl_ownT ?_)
    | (with_reducible refine nl_fz ?_)))
  | (with_reducible refine own_out ?_)
  | walk_at "g1"
  | (with_reducible refine as_DI ?_; (first
    | (with_reducible refine di_seq ?_))))))
set_option hygiene false in
local macro_rules | `(tactic| walk_at "go_law_heard") => `(tactic| (repeat (first
  | (with_reducible refine as_DS ?_; (first
    | (with_reducible refine' ds_parC (by assumption) (.inl ?hl) ?_; (case hl => ((repeat (with_reducible constructor)); done)))
    | (with_reducible refine' ds_parC (by assumption) (.inr ?hl) ?_; (case hl => ((repeat (with_reducible constructor)); done)))
    | (with_reducible refine' ds_setLcXc (hl := ?hl) [("_law_pitch", 5)] ⟨.function, [(".0", .local), ("_law_pitch", .local)], false, false, []⟩ (by assumption) ?hi ?_; (case hl => ((repeat (with_reducible constructor)); done)); (case hi => (repeat (with_reducible constructor))))
    | (with_reducible refine' ds_setLcC (by assumption) (by assumption) ?hi ?_ ?hl; (case hl => ((repeat (with_reducible constructor)); done)); (case hi => (repeat (with_reducible constructor))))
    | (with_reducible refine' ds_setCD (by assumption) (by assumption) ?hi ?_ ?hl; (case hl => ((repeat (with_reducible constructor)); done)); (case hi => (repeat (with_reducible constructor))))
    | (with_reducible refine ds_forL (by assumption) Df.po ?_)))
  | (with_reducible refine as_DE ?_; (first
    | (with_reducible refine de_lcXc [("_law_pitch", 5)] ⟨.function, [(".0", .local), ("_law_pitch", .local)], false, false, []⟩ (by assumption) ?_)))
  | (with_reducible refine as_NL ?_; (first
    | (with_reducible refine nl_ownT ?_)
    | (with_reducible refine nl_fz ?_)))
  | (with_reducible refine own_out ?_)
  | walk_at "g1"
  | (with_reducible refine as_DI ?_; (first
    | (with_reducible refine di_seq ?_))))))
set_option hygiene false in
local macro_rules | `(tactic| walk_at "go_law_hear") => `(tactic| (repeat (first
  | (with_reducible refine as_DS ?_; (first
    | (with_reducible refine' ds_parC (by assumption) (.inl ?hl) ?_; (case hl => ((repeat (with_reducible constructor)); done)))
    | (with_reducible refine' ds_parC (by assumption) (.inr ?hl) ?_; (case hl => ((repeat (with_reducible constructor)); done)))
    | (with_reducible refine' ds_setLcC (by assumption) (by assumption) ?hi ?_ ?hl; (case hl => ((repeat (with_reducible constructor)); done)); (case hi => (repeat (with_reducible constructor))))
    | (with_reducible refine' ds_setCD (by assumption) (by assumption) ?hi ?_ ?hl; (case hl => ((repeat (with_reducible constructor)); done)); (case hi => (repeat (with_reducible constructor))))
    | (with_reducible refine ds_forL (by assumption) Df.po ?_)))
  | (with_reducible refine as_NL ?_; (first
    | (with_reducible refine nl_ownT ?_)
    | (with_reducible refine nl_fz ?_)))
  | (with_reducible refine own_out ?_)
  | walk_at "g1"
  | (with_reducible refine as_DI ?_; (first
    | (with_reducible refine di_seq ?_))))))
section
variable {P : Program} {w : World} {K : PySem.W.Frag} {mg : Str → Option Value} {base : Heap} {a : Adr}
/-- a random shift with which notes are in range -/
def spInRange : DSp := fun ds O E Q => ∃ r ns, ds = [.ref r, .lst (ns.map dNote)] ∧ Mel ns ∧ At r .src O ∧ ∀ sh, -24 ≤ sh → sh ≤ 24 → Mel (shiftN sh ns) → Q (.int sh) O
theorem ok_law_in_range (T : Txt K mg a) : DFn P w K mg base 2 a.f_law_in_range spInRange := by
  refine T.law_in_range.ok sc_law_in_range (fun ds O E Q h => by obtain ⟨_, _, e, _⟩ := h; rw [e]; rfl) ?_
  intro X I S0 Df hr ds O E Q hsp; obtain ⟨rfl, rfl, rfl, rfl, rfl⟩ := I; have S : Sc X _ c_law_in_range := S0; clear S0
  obtain ⟨r, ns, rfl, hm, ha, q⟩ := hsp
  have h32 := hm.le
  show DSs X _ [some (.ref r), some (.lst (ns.map dNote)), none] O _ _
  refine dss_cons ?_
  walk_at "go_law_in_range"
  intro v v0 v1
  walk_at "go_law_in_range"
  intro u u0 u1
  obtain ⟨sh, e1, b1, b2⟩ := at_in (xs := [0, v - 24]) (Q := fun x => -24 ≤ x ∧ x ≤ 24) u0 (by simpa using u1) (by simp; omega)
  refine dx_lst e1 ?_
  walk_at "go_law_in_range"
  refine dc_fn (ok_law_shifted T) (hr.mono (by decide)) ⟨ns, sh, rfl, by omega, ?_⟩
  walk_at "go_law_in_range"
  refine dc_fn (ok_law_fits T) (hr.mono (by decide)) ⟨shiftN sh ns, rfl, by rw [shiftN_length]; omega, ?_⟩
  refine ⟨_, rfl, fun h => ?_, fun h => ?_⟩
  · walk_at "go_law_in_range"
    exact q sh b1 b2 (mel_shift hm h)
  · walk_at "go_law_in_range"
    exact q 0 (by omega) (by omega) ((shift0 ns).symm ▸ hm)
theorem row_at {ns : List Note} (hm : Mel ns) (b : Int) : atI (dSnd (rowP ns)) (b % ((rowP ns).length : Nat)) = some (dOpt (soundAt ns b)) := by
  have hz := hm.rowP_len
  have hm0 := Int.emod_nonneg b (show ((rowP ns).length : Int) ≠ 0 by omega)
  have hm1 := Int.emod_lt_of_pos b (show (0 : Int) < (rowP ns).length by omega)
  unfold soundAt
  generalize b % ((rowP ns).length : Int) = j at *
  obtain ⟨n, rfl⟩ := Int.eq_ofNat_of_zero_le hm0
  refine atI_nat ?_
  rw [List.getElem?_map, List.getElem?_eq_getElem (by omega)]
  simp [List.getElem?_eq_getElem (show n < (rowP ns).length by omega)]
/-- what is heard with a delay -/
def spLHeard : DSp := fun ds O E Q => ∃ ns sh d b, ds = [.lst (dSnd (rowP ns)), .lst (dSnd (rowP (shiftN sh ns))), .int d, .int b] ∧ Mel ns ∧ Mel (shiftN sh ns) ∧ Q (.lst ((lsSnd ns sh b d).map D.int)) O
theorem ok_law_heard (T : Txt K mg a) : DFn P w K mg base 1 a.f_law_heard spLHeard := by
  refine T.law_heard.ok sc_law_heard (fun ds O E Q h => by obtain ⟨_, _, _, _, e, _⟩ := h; rw [e]; rfl) ?_
  intro X I S0 Df hr ds O E Q hsp; obtain ⟨rfl, rfl, rfl, rfl, rfl⟩ := I; have S : Sc X _ c_law_heard := S0; clear S0
  obtain ⟨ns, sh, d, b, rfl, hm, hm2, q⟩ := hsp
  have hz := hm.rowP_len
  have hz2 := hm2.rowP_len
  have hlr : (dSnd (rowP ns)).length = (rowP ns).length := List.length_map ..
  have hlr2 : (dSnd (rowP (shiftN sh ns))).length = (rowP (shiftN sh ns)).length := List.length_map ..
  show DSs X _ [some (.lst (dSnd (rowP ns))), some (.lst (dSnd (rowP (shiftN sh ns)))), some (.int d), some (.int b), none, none] O _ _
  refine dss_cons ?_
  walk_at "go_law_heard"
  rw [hlr]
  refine dx_lst (row_at hm b) ?_
  walk_at "go_law_heard"
  (first | with_reducible refine br_d (fun h => ?_) (fun h => ?_) | with_reducible refine rb_d (fun h => ?_) (fun h => ?_) | with_reducible refine br_nd (fun h => ?_) (fun h => ?_) | with_reducible refine rb_nd (fun h => ?_) (fun h => ?_))
  · walk_at "go_law_heard"
    rw [hlr2]
    refine dx_lst (row_at hm2 (b - d)) ?_
    walk_at "go_law_heard"
    refine ⟨Option Int, [soundAt ns b, soundAt (shiftN sh ns) (b - d)], dOpt, optI, rfl, by simp, fun o ho => ?_, ?_⟩
    · cases o with
      | none =>
        walk_at "go_law_heard"
      | some p =>
        walk_at "go_law_heard"
    rw [heard_fm]
    walk_at "go_law_heard"
    refine dc_sortedI .lst rfl (by have := List.length_filterMap_le id [soundAt ns b, soundAt (shiftN sh ns) (b - d)]; simp at this ⊢; omega) fun js h1 h2 => ?_
    rw [sortI_eq h1 h2]
    walk_at "go_law_heard"
    unfold lsSnd at q
    rw [if_pos h, ← soundAt_shift] at q
    exact q
  · walk_at "go_law_heard"
    refine ⟨Option Int, [soundAt ns b, none], dOpt, optI, rfl, by simp, fun o ho => ?_, ?_⟩
    · cases o with
      | none =>
        walk_at "go_law_heard"
      | some p =>
        walk_at "go_law_heard"
    rw [heard_fm]
    walk_at "go_law_heard"
    refine dc_sortedI .lst rfl (by have := List.length_filterMap_le id [soundAt ns b, none]; simp at this ⊢; omega) fun js h1 h2 => ?_
    rw [sortI_eq h1 h2]
    walk_at "go_law_heard"
    unfold lsSnd at q
    rw [if_neg h] at q
    exact q
/-- none, one or two pitches are heard -/
def spLHear (C M : Addr) : DSp := fun ds O E Q => ∃ l fa ns sh kept facts b ps O1 O2, ds = [.ref l, .int b, .lst (List.map D.int ps)] ∧ At l (.ins C (lsFs M ns sh kept fa)) O ∧ Mel ns ∧ Mel (shiftN sh ns) ∧ 0 ≤ b ∧ b ≤ 1000000000000000000 ∧ ps.length ≤ 2 ∧ kept.length ≤ 501 ∧ facts.length ≤ 1000 ∧
  agree ns sh b (sortI ps) kept ≠ [] ∧ Put l (.ins C (lsFs M ns sh (agree ns sh b (sortI ps) kept) fa)) O O1 ∧ At fa (.lst (List.map dFact facts)) O1 ∧ Put fa (.lst (List.map dFact (facts ++ [(b, sortI ps)]))) O1 O2 ∧ Q (.int ((agree ns sh b (sortI ps) kept).length : Nat)) O2
theorem ok_law_hear (T : Txt K mg a) : DFn P w K mg base 6 a.f_law_hear (spLHear a.C_Listener a.C_Melody) := by
  refine T.law_hear.ok sc_law_hear (fun ds O E Q h => by obtain ⟨_, _, _, _, _, _, _, _, _, _, e, _⟩ := h; rw [e]; rfl) ?_
  intro X I S0 Df hr ds O E Q hsp; obtain ⟨rfl, rfl, rfl, rfl, rfl⟩ := I; have S : Sc X _ c_law_hear := S0; clear S0
  obtain ⟨l, fa, ns, sh, kept, facts, b, ps, O1, O2, rfl, hl, hm, hm2, h0, h1, hp, hk, hf, hne, hput1, hfa1, hput2, q⟩ := hsp
  show DSs X _ [some (.ref l), some (.int b), some (.lst (ps.map D.int))] O _ _
  refine dss_cons ?_
  walk_at "go_law_hear"
  refine db_eqNil hr (view_plain _ (okD_intsL _).1) (okD_intsL _) ?_
  match ps, hp with
  | [], _ =>
    walk_at "go_law_hear"
    refine dc_fn (ok_Listener_hear T) (hr.mono (by decide)) ⟨[.ref l, .int b], [], rfl, rfl, by decide, l, fa, ns, sh, kept, facts, b, [], O1, O2, rfl, hl, hm, hm2, h0, h1, by decide, hk, hf, hne, hput1, hfa1, hput2, q⟩
  | [p0], _ =>
    simp only [List.map_cons, List.map_nil]
    walk_at "go_law_hear"
    refine dc_fn (ok_Listener_hear T) (hr.mono (by decide)) ⟨[.ref l, .int b], [.int p0], rfl, rfl, by simp, l, fa, ns, sh, kept, facts, b, [p0], O1, O2, rfl, hl, hm, hm2, h0, h1, by simp, hk, hf, hne, hput1, hfa1, hput2, q⟩
  | [p0, p1], _ =>
    have e : sortI [p1, p0] = sortI [p0, p1] := sortI_iff.2 (.swap _ _ _)
    rw [← e] at hne hput1 hput2 q
    simp only [List.map_cons, List.map_nil]
    walk_at "go_law_hear"
    refine dc_fn (ok_Listener_hear T) (hr.mono (by decide)) ⟨[.ref l, .int b], [.int p1, .int p0], rfl, rfl, by simp, l, fa, ns, sh, kept, facts, b, [p1, p0], O1, O2, rfl, hl, hm, hm2, h0, h1, by simp, hk, hf, hne, hput1, hfa1, hput2, q⟩
end

section
variable {P : Program} {w : World} {K : PySem.W.Frag} {mg : Str → Option Value} {base : Heap} {a : Adr}
def erC (a : Adr) : Er → Addr
  | .melody _ => a.C_InvalidMelody
  | .round _ _ => a.C_InvalidRound
  | .range => a.C_OutOfRange
  | .number => a.C_InvalidNumber
  | .long => a.C_TooLong
  | .text _ => a.C_TextFault
  | .code _ => a.C_InvalidCode
  | .contra => a.C_Contradiction
  | .voice => a.C_UnknownVoice
  | .many => a.C_TooManyVoices
  | .name => a.C_InvalidName
  | .unknown => a.C_UnknownName
  | .op _ => a.C_InvalidOperation
def xdA (a : Adr) (e : Er) : XD := ⟨erC a e, e.fs⟩
def erN : Er → Str
  | .melody _ => "melody"
  | .round _ _ => "round"
  | .range => "range"
  | .number => "number"
  | .long => "long"
  | .text _ => "text"
  | .code _ => "code"
  | .contra => "contradiction"
  | .voice => "voice"
  | .many => "many"
  | .name => "name"
  | .unknown => "unknown"
  | .op _ => "operation"
abbrev erCs (a : Adr) : List Addr := [a.C_InvalidMelody, a.C_InvalidRound, a.C_OutOfRange, a.C_InvalidNumber, a.C_TooLong, a.C_TextFault, a.C_InvalidCode, a.C_Contradiction, a.C_UnknownVoice, a.C_TooManyVoices, a.C_InvalidName, a.C_UnknownName, a.C_InvalidOperation]
theorem ini_InvalidMelody (T : Txt K mg a) : ∃ fd, FnOk P w K mg base (L2.CX P w) 1 a.f_InvalidMelody_init fd ["self", "index"] (spIni a.C_InvalidMelody ["index"]) ∧ Binds K fd ["self", "index"] [] := by
  obtain ⟨fd, F, b⟩ := T.InvalidMelody_init.fn
  exact ⟨fd, ini1 T.InvalidMelody T.CanonError F sc_InvalidMelody_init T.n_InvalidMelody_index rfl (fun _ => ⟨_, by with_unfolding_all rfl⟩) (show Nk ("CanonError" : Str) .globalImplicit c_InvalidMelody_init.names by (repeat (with_reducible constructor))) (show LkV "self" c_InvalidMelody_init.names by (repeat (with_reducible constructor))) (show LkV "index" c_InvalidMelody_init.names by (repeat (with_reducible constructor))), b⟩
theorem ini_InvalidRound (T : Txt K mg a) : ∃ fd, FnOk P w K mg base (L2.CX P w) 1 a.f_InvalidRound_init fd ["self", "part", "index"] (spIni a.C_InvalidRound ["part", "index"]) ∧ Binds K fd ["self", "part", "index"] [] := by
  obtain ⟨fd, F, b⟩ := T.InvalidRound_init.fn
  exact ⟨fd, ini2 T.InvalidRound T.CanonError F sc_InvalidRound_init T.n_InvalidRound_part T.n_InvalidRound_index rfl (fun _ => ⟨_, by with_unfolding_all rfl⟩) (show Nk ("CanonError" : Str) .globalImplicit c_InvalidRound_init.names by (repeat (with_reducible constructor))) (show LkV "self" c_InvalidRound_init.names by (repeat (with_reducible constructor))) (show LkV "part" c_InvalidRound_init.names by (repeat (with_reducible constructor))) (show LkV "index" c_InvalidRound_init.names by (repeat (with_reducible constructor))), b⟩
theorem ini_TextFault (T : Txt K mg a) : ∃ fd, FnOk P w K mg base (L2.CX P w) 1 a.f_TextFault_init fd ["self", "word"] (spIni a.C_TextFault ["word"]) ∧ Binds K fd ["self", "word"] [] := by
  obtain ⟨fd, F, b⟩ := T.TextFault_init.fn
  exact ⟨fd, ini1 T.TextFault T.CanonError F sc_TextFault_init T.n_TextFault_word rfl (fun _ => ⟨_, by with_unfolding_all rfl⟩) (show Nk ("CanonError" : Str) .globalImplicit c_TextFault_init.names by (repeat (with_reducible constructor))) (show LkV "self" c_TextFault_init.names by (repeat (with_reducible constructor))) (show LkV "word" c_TextFault_init.names by (repeat (with_reducible constructor))), b⟩
theorem ini_InvalidCode (T : Txt K mg a) : ∃ fd, FnOk P w K mg base (L2.CX P w) 1 a.f_InvalidCode_init fd ["self", "place"] (spIni a.C_InvalidCode ["place"]) ∧ Binds K fd ["self", "place"] [] := by
  obtain ⟨fd, F, b⟩ := T.InvalidCode_init.fn
  exact ⟨fd, ini1 T.InvalidCode T.CanonError F sc_InvalidCode_init T.n_InvalidCode_place rfl (fun _ => ⟨_, by with_unfolding_all rfl⟩) (show Nk ("CanonError" : Str) .globalImplicit c_InvalidCode_init.names by (repeat (with_reducible constructor))) (show LkV "self" c_InvalidCode_init.names by (repeat (with_reducible constructor))) (show LkV "place" c_InvalidCode_init.names by (repeat (with_reducible constructor))), b⟩
theorem ini_InvalidOperation (T : Txt K mg a) : ∃ fd, FnOk P w K mg base (L2.CX P w) 1 a.f_InvalidOperation_init fd ["self", "place"] (spIni a.C_InvalidOperation ["place"]) ∧ Binds K fd ["self", "place"] [] := by
  obtain ⟨fd, F, b⟩ := T.InvalidOperation_init.fn
  exact ⟨fd, ini1 T.InvalidOperation T.CanonError F sc_InvalidOperation_init T.n_InvalidOperation_place rfl (fun _ => ⟨_, by with_unfolding_all rfl⟩) (show Nk ("CanonError" : Str) .globalImplicit c_InvalidOperation_init.names by (repeat (with_reducible constructor))) (show LkV "self" c_InvalidOperation_init.names by (repeat (with_reducible constructor))) (show LkV "place" c_InvalidOperation_init.names by (repeat (with_reducible constructor))), b⟩
section
variable {X : Cx} {N : List Str} {sc : Scope} {δ : DEnv} {O : Own} {B : Bk} {nx : DEnv → Own → Prop} {pos p p3 : Pos} {e e2 : Expr} {k : Nat}
theorem rs_InvalidMelody (T : Txt X.K X.mg a) (S : Sc X N sc) (hr : Room k X.A) (hk : 2 ≤ k) (h : DE X e δ O (fun x O' => B.ex x δ O') fun d O1 => B.ex ⟨a.C_InvalidMelody, [("index", d)]⟩ δ O1) (hg : Nk ("InvalidMelody" : Str) .globalImplicit sc.names := by (repeat (with_reducible constructor)))
    (h1 : starEach [e] X.env = (false, eval e X.env) :: starEach [] X.env := by with_unfolding_all rfl) : DS X (.Raise (some (.Call (.Name "InvalidMelody" p) [e] [] p3)) none pos) δ O B nx := by
  obtain ⟨fd, F, b⟩ := ini_InvalidMelody (P := X.prog) (w := X.w) (base := X.base) T
  exact ds_raiseI S T.InvalidMelody F b (hr.mono hk) (by simp) (da_cons (M.imp h fun d O1 q => da_nil ⟨rfl, by simp, q⟩) h1) hg h1 rfl
theorem rs_InvalidRound (T : Txt X.K X.mg a) (S : Sc X N sc) (hr : Room k X.A) (hk : 2 ≤ k) (h : DE X e δ O (fun x O' => B.ex x δ O') fun d O1 => DE X e2 δ O1 (fun x O' => B.ex x δ O') fun d2 O2 => B.ex ⟨a.C_InvalidRound, [("index", d2), ("part", d)]⟩ δ O2) (hg : Nk ("InvalidRound" : Str) .globalImplicit sc.names := by (repeat (with_reducible constructor)))
    (h1 : starEach [e, e2] X.env = (false, eval e X.env) :: starEach [e2] X.env := by with_unfolding_all rfl) (h2 : starEach [e2] X.env = (false, eval e2 X.env) :: starEach [] X.env := by with_unfolding_all rfl) (h3 : (backTo p3 (starEach [e2] X.env)).any (·.1) = false := by with_unfolding_all rfl) : DS X (.Raise (some (.Call (.Name "InvalidRound" p) [e, e2] [] p3)) none pos) δ O B nx := by
  obtain ⟨fd, F, b⟩ := ini_InvalidRound (P := X.prog) (w := X.w) (base := X.base) T
  exact ds_raiseI S T.InvalidRound F b (hr.mono hk) (by simp) (da_cons (M.imp h fun d O1 h => da_cons (M.imp h fun d2 O2 q => da_nil ⟨rfl, by simp, q⟩) h2) h1) hg h1 h3
theorem rs_TextFault (T : Txt X.K X.mg a) (S : Sc X N sc) (hr : Room k X.A) (hk : 2 ≤ k) (h : DE X e δ O (fun x O' => B.ex x δ O') fun d O1 => B.ex ⟨a.C_TextFault, [("word", d)]⟩ δ O1) (hg : Nk ("TextFault" : Str) .globalImplicit sc.names := by (repeat (with_reducible constructor)))
    (h1 : starEach [e] X.env = (false, eval e X.env) :: starEach [] X.env := by with_unfolding_all rfl) : DS X (.Raise (some (.Call (.Name "TextFault" p) [e] [] p3)) none pos) δ O B nx := by
  obtain ⟨fd, F, b⟩ := ini_TextFault (P := X.prog) (w := X.w) (base := X.base) T
  exact ds_raiseI S T.TextFault F b (hr.mono hk) (by simp) (da_cons (M.imp h fun d O1 q => da_nil ⟨rfl, by simp, q⟩) h1) hg h1 rfl
theorem rs_InvalidCode (T : Txt X.K X.mg a) (S : Sc X N sc) (hr : Room k X.A) (hk : 2 ≤ k) (h : DE X e δ O (fun x O' => B.ex x δ O') fun d O1 => B.ex ⟨a.C_InvalidCode, [("place", d)]⟩ δ O1) (hg : Nk ("InvalidCode" : Str) .globalImplicit sc.names := by (repeat (with_reducible constructor)))
    (h1 : starEach [e] X.env = (false, eval e X.env) :: starEach [] X.env := by with_unfolding_all rfl) : DS X (.Raise (some (.Call (.Name "InvalidCode" p) [e] [] p3)) none pos) δ O B nx := by
  obtain ⟨fd, F, b⟩ := ini_InvalidCode (P := X.prog) (w := X.w) (base := X.base) T
  exact ds_raiseI S T.InvalidCode F b (hr.mono hk) (by simp) (da_cons (M.imp h fun d O1 q => da_nil ⟨rfl, by simp, q⟩) h1) hg h1 rfl
theorem rs_InvalidOperation (T : Txt X.K X.mg a) (S : Sc X N sc) (hr : Room k X.A) (hk : 2 ≤ k) (h : DE X e δ O (fun x O' => B.ex x δ O') fun d O1 => B.ex ⟨a.C_InvalidOperation, [("place", d)]⟩ δ O1) (hg : Nk ("InvalidOperation" : Str) .globalImplicit sc.names := by (repeat (with_reducible constructor)))
    (h1 : starEach [e] X.env = (false, eval e X.env) :: starEach [] X.env := by with_unfolding_all rfl) : DS X (.Raise (some (.Call (.Name "InvalidOperation" p) [e] [] p3)) none pos) δ O B nx := by
  obtain ⟨fd, F, b⟩ := ini_InvalidOperation (P := X.prog) (w := X.w) (base := X.base) T
  exact ds_raiseI S T.InvalidOperation F b (hr.mono hk) (by simp) (da_cons (M.imp h fun d O1 q => da_nil ⟨rfl, by simp, q⟩) h1) hg h1 rfl
end
theorem er_ix (e : Er) : e.ix < 13 := by cases e <;> simp [Er.ix]
theorem er_get (a : Adr) (e : Er) : (erCs a).getD e.ix 0 = erC a e := by cases e <;> rfl
theorem er_mem (a : Adr) (e : Er) : erC a e ∈ erCs a := by cases e <;> simp [erC, erCs]
theorem er_kit (T : Txt K mg a) (e : Er) {j : Nat} {C : Addr} (hj : j < 13) (hC : (erCs a).getD j 0 = C) : PySem.W.kitOne K (.ref (xdA a e).C) (.ref C) = some (decide (e.ix = j)) := by
  have h := errTab_at T.errt (er_ix e) hj
  rw [show ([a.C_InvalidMelody, a.C_InvalidRound, a.C_OutOfRange, a.C_InvalidNumber, a.C_TooLong, a.C_TextFault, a.C_InvalidCode, a.C_Contradiction, a.C_UnknownVoice, a.C_TooManyVoices, a.C_InvalidName, a.C_UnknownName, a.C_InvalidOperation] : List Addr) = erCs a from rfl, er_get, hC] at h
  exact h
theorem er_cls (T : Txt K mg a) (e : Er) : ErrC K (xdA a e).C a.C_CanonError := errCls_at T.errc T.eg2 T.eg3 (er_mem a e)
section
variable {Z : Cx} {N : List Str} {sc : Scope} {e : Er} {y : D} {δ : DEnv} {O : Own} {E : XD → Own → Prop} {Q : D → Own → Prop}
theorem is_j {j : Nat} {C : Addr} (T : Txt Z.K Z.mg a) (Su : Suit Z N sc Z.K Z.mg (xdA a e) y) (hj : j < 13) (hC : (erCs a).getD j 0 = C) (q : Q (.bl (decide (e.ix = j))) O) : DC Z (.builtin "isinstance") [y, .ref C] δ O E Q := dc_isE Su (er_cls T e).r (.inl ⟨C, rfl, rfl⟩) (er_kit T e hj hC) q
theorem is_ve (T : Txt Z.K Z.mg a) (Su : Suit Z N sc Z.K Z.mg (xdA a e) y) (q : Q (.bl true) O) : DC Z (.builtin "isinstance") [y, .ty "ValueError"] δ O E Q := dc_isE Su (er_cls T e).r (.inr ⟨"ValueError", rfl, rfl⟩) (er_cls T e).ve q
theorem is_InvalidMelody (T : Txt Z.K Z.mg a) (Su : Suit Z N sc Z.K Z.mg (xdA a e) y) (q : Q (.bl (decide (e.ix = 0))) O) : DC Z (.builtin "isinstance") [y, .ref a.C_InvalidMelody] δ O E Q := is_j T Su (by decide) rfl q
theorem is_InvalidRound (T : Txt Z.K Z.mg a) (Su : Suit Z N sc Z.K Z.mg (xdA a e) y) (q : Q (.bl (decide (e.ix = 1))) O) : DC Z (.builtin "isinstance") [y, .ref a.C_InvalidRound] δ O E Q := is_j T Su (by decide) rfl q
theorem is_OutOfRange (T : Txt Z.K Z.mg a) (Su : Suit Z N sc Z.K Z.mg (xdA a e) y) (q : Q (.bl (decide (e.ix = 2))) O) : DC Z (.builtin "isinstance") [y, .ref a.C_OutOfRange] δ O E Q := is_j T Su (by decide) rfl q
theorem is_InvalidNumber (T : Txt Z.K Z.mg a) (Su : Suit Z N sc Z.K Z.mg (xdA a e) y) (q : Q (.bl (decide (e.ix = 3))) O) : DC Z (.builtin "isinstance") [y, .ref a.C_InvalidNumber] δ O E Q := is_j T Su (by decide) rfl q
theorem is_TooLong (T : Txt Z.K Z.mg a) (Su : Suit Z N sc Z.K Z.mg (xdA a e) y) (q : Q (.bl (decide (e.ix = 4))) O) : DC Z (.builtin "isinstance") [y, .ref a.C_TooLong] δ O E Q := is_j T Su (by decide) rfl q
theorem is_TextFault (T : Txt Z.K Z.mg a) (Su : Suit Z N sc Z.K Z.mg (xdA a e) y) (q : Q (.bl (decide (e.ix = 5))) O) : DC Z (.builtin "isinstance") [y, .ref a.C_TextFault] δ O E Q := is_j T Su (by decide) rfl q
theorem is_InvalidCode (T : Txt Z.K Z.mg a) (Su : Suit Z N sc Z.K Z.mg (xdA a e) y) (q : Q (.bl (decide (e.ix = 6))) O) : DC Z (.builtin "isinstance") [y, .ref a.C_InvalidCode] δ O E Q := is_j T Su (by decide) rfl q
theorem is_Contradiction (T : Txt Z.K Z.mg a) (Su : Suit Z N sc Z.K Z.mg (xdA a e) y) (q : Q (.bl (decide (e.ix = 7))) O) : DC Z (.builtin "isinstance") [y, .ref a.C_Contradiction] δ O E Q := is_j T Su (by decide) rfl q
theorem is_UnknownVoice (T : Txt Z.K Z.mg a) (Su : Suit Z N sc Z.K Z.mg (xdA a e) y) (q : Q (.bl (decide (e.ix = 8))) O) : DC Z (.builtin "isinstance") [y, .ref a.C_UnknownVoice] δ O E Q := is_j T Su (by decide) rfl q
theorem is_TooManyVoices (T : Txt Z.K Z.mg a) (Su : Suit Z N sc Z.K Z.mg (xdA a e) y) (q : Q (.bl (decide (e.ix = 9))) O) : DC Z (.builtin "isinstance") [y, .ref a.C_TooManyVoices] δ O E Q := is_j T Su (by decide) rfl q
theorem is_InvalidName (T : Txt Z.K Z.mg a) (Su : Suit Z N sc Z.K Z.mg (xdA a e) y) (q : Q (.bl (decide (e.ix = 10))) O) : DC Z (.builtin "isinstance") [y, .ref a.C_InvalidName] δ O E Q := is_j T Su (by decide) rfl q
theorem is_UnknownName (T : Txt Z.K Z.mg a) (Su : Suit Z N sc Z.K Z.mg (xdA a e) y) (q : Q (.bl (decide (e.ix = 11))) O) : DC Z (.builtin "isinstance") [y, .ref a.C_UnknownName] δ O E Q := is_j T Su (by decide) rfl q
theorem is_InvalidOperation (T : Txt Z.K Z.mg a) (Su : Suit Z N sc Z.K Z.mg (xdA a e) y) (q : Q (.bl (decide (e.ix = 12))) O) : DC Z (.builtin "isinstance") [y, .ref a.C_InvalidOperation] δ O E Q := is_j T Su (by decide) rfl q
end
def SameD (y d : D) (R : Prop) : Prop := d = y ∧ R
theorem same_in {y : D} {R : Prop} (h : R) : SameD y y R := ⟨rfl, h⟩
section
variable {Z : Cx} {N : List Str} {sc : Scope} {e : Expr} {i : Int} {q0 : Str} {y : D} {δ : DEnv} {O : Own} {E : XD → Own → Prop} {Q : D → Own → Prop} {pos : Pos}
theorem xf_InvalidMelody_index (T : Txt Z.K Z.mg a) (Su : Suit Z N sc Z.K Z.mg (xdA a (.melody i)) y) (h : DE Z e δ O E fun d O1 => SameD y d (Q (.int i) O1)) (hb : attributeBase e "index" Z.env (eval e Z.env) = eval e Z.env := by with_unfolding_all rfl) : DE Z (.Attribute e "index" pos) δ O E Q := de_xfld Su (er_cls T (.melody i)).r T.n_InvalidMelody_index (M.imp h fun d O1 q => ⟨q.1, rfl, q.2⟩) hb
theorem xf_InvalidRound_part (T : Txt Z.K Z.mg a) (Su : Suit Z N sc Z.K Z.mg (xdA a (.round q0 i)) y) (h : DE Z e δ O E fun d O1 => SameD y d (Q (.str q0) O1)) (hb : attributeBase e "part" Z.env (eval e Z.env) = eval e Z.env := by with_unfolding_all rfl) : DE Z (.Attribute e "part" pos) δ O E Q := de_xfld Su (er_cls T (.round q0 i)).r T.n_InvalidRound_part (M.imp h fun d O1 q => ⟨q.1, rfl, q.2⟩) hb
theorem xf_InvalidRound_index (T : Txt Z.K Z.mg a) (Su : Suit Z N sc Z.K Z.mg (xdA a (.round q0 i)) y) (h : DE Z e δ O E fun d O1 => SameD y d (Q (.int i) O1)) (hb : attributeBase e "index" Z.env (eval e Z.env) = eval e Z.env := by with_unfolding_all rfl) : DE Z (.Attribute e "index" pos) δ O E Q := de_xfld Su (er_cls T (.round q0 i)).r T.n_InvalidRound_index (M.imp h fun d O1 q => ⟨q.1, rfl, q.2⟩) hb
theorem xf_TextFault_word (T : Txt Z.K Z.mg a) (Su : Suit Z N sc Z.K Z.mg (xdA a (.text i)) y) (h : DE Z e δ O E fun d O1 => SameD y d (Q (.int i) O1)) (hb : attributeBase e "word" Z.env (eval e Z.env) = eval e Z.env := by with_unfolding_all rfl) : DE Z (.Attribute e "word" pos) δ O E Q := de_xfld Su (er_cls T (.text i)).r T.n_TextFault_word (M.imp h fun d O1 q => ⟨q.1, rfl, q.2⟩) hb
theorem xf_InvalidCode_place (T : Txt Z.K Z.mg a) (Su : Suit Z N sc Z.K Z.mg (xdA a (.code i)) y) (h : DE Z e δ O E fun d O1 => SameD y d (Q (.int i) O1)) (hb : attributeBase e "place" Z.env (eval e Z.env) = eval e Z.env := by with_unfolding_all rfl) : DE Z (.Attribute e "place" pos) δ O E Q := de_xfld Su (er_cls T (.code i)).r T.n_InvalidCode_place (M.imp h fun d O1 q => ⟨q.1, rfl, q.2⟩) hb
theorem xf_InvalidOperation_place (T : Txt Z.K Z.mg a) (Su : Suit Z N sc Z.K Z.mg (xdA a (.op i)) y) (h : DE Z e δ O E fun d O1 => SameD y d (Q (.int i) O1)) (hb : attributeBase e "place" Z.env (eval e Z.env) = eval e Z.env := by with_unfolding_all rfl) : DE Z (.Attribute e "place" pos) δ O E Q := de_xfld Su (er_cls T (.op i)).r T.n_InvalidOperation_place (M.imp h fun d O1 q => ⟨q.1, rfl, q.2⟩) hb
end
set_option hygiene false in
local macro_rules | `(tactic| walk_at "gz") => `(tactic| (repeat (first
  | (with_reducible refine as_name ?_; (first | (with_reducible refine' de_nameZ Su ?hi ?hd ?_; (case hi => (repeat (with_reducible constructor))); (case hd => (repeat (with_reducible constructor)))) | with_reducible refine de_globZ Su T.InvalidMelody.g ?_ | with_reducible refine de_globZ Su T.InvalidRound.g ?_ | with_reducible refine de_globZ Su T.OutOfRange.g ?_ | with_reducible refine de_globZ Su T.InvalidNumber.g ?_ | with_reducible refine de_globZ Su T.TooLong.g ?_ | with_reducible refine de_globZ Su T.TextFault.g ?_ | with_reducible refine de_globZ Su T.InvalidCode.g ?_ | with_reducible refine de_globZ Su T.Contradiction.g ?_ | with_reducible refine de_globZ Su T.UnknownVoice.g ?_ | with_reducible refine de_globZ Su T.TooManyVoices.g ?_ | with_reducible refine de_globZ Su T.InvalidName.g ?_ | with_reducible refine de_globZ Su T.UnknownName.g ?_ | with_reducible refine de_globZ Su T.InvalidOperation.g ?_ | with_reducible refine de_bltnZ (T := "ValueError") Su T.bv_ValueError PyProof.Rows.Boot.«ValueError» ?_))
  | (with_reducible refine as_call ?_; (first | with_reducible refine de_callBZ (id := "isinstance") Su T.b_isinstance boot_isinstance ?_))
  | (with_reducible refine as_DS ?_; (first | (with_reducible refine' ds_setZ (hl := ?hl) Su ?hi ?_; (case hl => ((repeat (with_reducible constructor)); done)); (case hi => (repeat (with_reducible constructor))))))
  | (with_reducible refine as_DC ?_; (first | with_reducible refine is_InvalidMelody T Su ?_ | with_reducible refine is_InvalidRound T Su ?_ | with_reducible refine is_OutOfRange T Su ?_ | with_reducible refine is_InvalidNumber T Su ?_ | with_reducible refine is_TooLong T Su ?_ | with_reducible refine is_TextFault T Su ?_ | with_reducible refine is_InvalidCode T Su ?_ | with_reducible refine is_Contradiction T Su ?_ | with_reducible refine is_UnknownVoice T Su ?_ | with_reducible refine is_TooManyVoices T Su ?_ | with_reducible refine is_InvalidName T Su ?_ | with_reducible refine is_UnknownName T Su ?_ | with_reducible refine is_InvalidOperation T Su ?_ | with_reducible refine is_ve T Su ?_))
  | (with_reducible refine as_attr ?_; (first | with_reducible refine xf_InvalidMelody_index T Su ?_ | with_reducible refine xf_InvalidRound_part T Su ?_ | with_reducible refine xf_InvalidRound_index T Su ?_ | with_reducible refine xf_TextFault_word T Su ?_ | with_reducible refine xf_InvalidCode_place T Su ?_ | with_reducible refine xf_InvalidOperation_place T Su ?_))
  | (with_reducible refine same_in ?_)
  | (with_reducible refine nl_fz ?_)
  | (with_reducible refine de_count Su.un ?_)
  | (with_reducible refine de_index Su.un ?_)
  | (with_reducible refine db_cat (by simp) ?_)
  | ((with_reducible refine' db_inD Su.un ?h1 ?h2 ?_); (case h1 => exact er_ok _); (case h2 => exact er_ok2))
  | (dsimp only [List.cons_append, List.nil_append])
  | walk_at "g1")))
abbrev erKs (e : Er) : List D := [.bl (decide (e.ix = 0)), .bl (decide (e.ix = 1)), .bl (decide (e.ix = 2)), .bl (decide (e.ix = 3)), .bl (decide (e.ix = 4)), .bl (decide (e.ix = 5)), .bl (decide (e.ix = 6)), .bl (decide (e.ix = 7)), .bl (decide (e.ix = 8)), .bl (decide (e.ix = 9)), .bl (decide (e.ix = 10)), .bl (decide (e.ix = 11)), .bl (decide (e.ix = 12))]
theorem er_cnt (e : Er) : (erKs e).countP (fun z => PyData.eqv (toP z) (toP (.bl true))) = 1 := by cases e <;> rfl
theorem er_at (e : Er) : (erKs e)[e.ix]? = some (.bl true) := by cases e <;> rfl
theorem er_bef (e : Er) (m : Nat) (z' : D) (hm : m < e.ix) (hz : (erKs e)[m]? = some z') : PyData.eqv (toP z') (toP (.bl true)) = false := by
  have hk : erKs e = (List.range 13).map fun j => D.bl (decide (e.ix = j)) := rfl
  rw [hk, List.getElem?_map] at hz
  cases h : (List.range 13)[m]? with
  | none => rw [h] at hz; cases hz
  | some j =>
    rw [h] at hz
    obtain ⟨h1, h2⟩ := List.getElem?_eq_some_iff.mp h
    rw [List.getElem_range] at h2
    cases hz
    have hn : ¬ (e.ix = j) := by omega
    show PyData.eqv (toP (.bl (decide (e.ix = j)))) (toP (.bl true)) = false
    rw [decide_eq_false hn]
    rfl
theorem er_strs : ∀ x ∈ (["melody", "round", "range", "number", "long", "text", "code", "contradiction", "voice", "many", "name", "unknown", "operation"] : List Str), plainD (.str x) = true := by decide +kernel
theorem er_ok (e : Er) : okD (.str (erN e)) := okD_of (er_strs _ (by cases e <;> simp [erN])) (Nat.zero_le _)
theorem er_ok2 : okD (.lst [.str "code", .str "operation"]) := okD_of (by decide +kernel) (by decide)
/-- what the caught error is told as -/
theorem gives_err {X : Cx} (T : Txt X.K X.mg a) (hu : X.A.units + 100 < cLine) (cdg : Value) (q : Str) : LamX.GivesTo X ["_law_call", "e", "_law_kinds", "_law_names", "_law_name"] "_law_error_of" (defScope s_law_error_of) a.f_law_error_of cdg (defBody s_law_error_of) "_law_call" q (TTd X.K (xdA a)) := by
  refine gives_of (n := "e") (CE := a.C_CanonError) sc_law_error_of.nd sc_law_error_of.nm hu (fun _ => rfl) (by (repeat (with_reducible constructor))) (show Nk ("e" : Str) .local c_law_error_of.names by (repeat (with_reducible constructor))) (show Nk ("CanonError" : Str) .globalImplicit c_law_error_of.names by (repeat (with_reducible constructor))) T.CanonError.g (fun e => (er_cls T e).ex) fun Z e y Su0 O Q q => ?_
  have eK := Su0.K
  have eM := Su0.mg
  have T : Txt Z.K Z.mg a := by rw [eK, eM]; exact T
  have Su : Suit Z ["_law_call", "e", "_law_kinds", "_law_names", "_law_name"] c_law_error_of Z.K Z.mg (xdA a e) y := by rw [eK, eM]; exact Su0
  clear Su0 eK eM
  show DSs Z _ [none, some y, none, none, none] _ _ _
  refine dss_cons ?_
  walk_at "gz"
  refine ⟨_, .fz, ?_⟩
  walk_at "gz"
  refine ⟨_, _, view_plain _ rfl, view_plain _ rfl, okD_of rfl (Nat.le_of_ble_eq_true rfl), okD_of rfl (by decide), ?_⟩
  rw [er_cnt e]
  walk_at "gz"
  refine ⟨_, .fz, ?_⟩
  walk_at "gz"
  refine ⟨erKs e, .bl true, e.ix, .bl true, view_plain _ rfl, view_plain _ rfl, okD_of rfl (Nat.le_of_ble_eq_true rfl), okD_of rfl (by decide), er_at e, rfl, er_bef e, ?_⟩
  refine dx_lst (d := .str (erN e)) (by cases e <;> rfl) ?_
  walk_at "gz"
  generalize erKs e = ks
  cases e <;> walk_at "gz" <;> try exact q
section
variable {X : Cx} {N : List Str} {sc scope : Scope} {δ : DEnv} {O : Own} {E : XD → Own → Prop} {Q : D → Own → Prop} {cA PA : Addr} {params : Arguments} {body : Expr} {p lp pos : Pos}
theorem de_callErr (T : Txt X.K X.mg a) (S : Sc X N sc) (TB : LamX.TabB X.base X.mg cA PA) (ec : X.env.code = .ref cA) (eq : X.env.qual ++ "<lambda>" = lamQ) (hr : Room 29 X.A) (ha : At PA (.tab lamQ) O) (h : ∀ X2, LBlk X X2 N scope 27 → DE X2 body δ O (fun x O' => ∃ e : Er, x = xdA a e ∧ Q e.d O') fun _ O' => Q .non O')
    (hL : LamX.lamSB sc scope = true := by decide +kernel) (hn : nmOk scope = true := by decide +kernel) (nd : defaultsOf params X.env = ([], []) := by with_unfolding_all rfl)
    (bd : ∀ (q : Str) (cl : List (Str × Addr)) (pm cv ctv : Value), bindArgs (PySem.W.kla_fn "<lambda>" q params body scope cl pm cv ctv) ⟨[], []⟩ = pure [] := by intros; with_unfolding_all rfl) (hg : Nk ("_law_error_of" : Str) .globalImplicit sc.names := by (repeat (with_reducible constructor))) :
    DE X (.Call (.Name "_law_error_of" p) [.Lambda params body scope lp] [] pos) δ O E Q :=
  de_errof (xd := xdA a) (k := 27) S T.law_error_of sc_law_error_of rfl (show LkV "_law_call" c_law_error_of.names by (repeat (with_reducible constructor))) (fun cdg q => gives_err T (by have := hr.un; omega) cdg q) TB ec eq hr ha h hL hn nd bd hg
end
end

set_option hygiene false in
local macro_rules | `(tactic| walk_at "go_Listener_hear") => `(tactic| (repeat (first
  | (with_reducible refine as_DS ?_; (first
    | (with_reducible refine' ds_parC (by assumption) (.inl ?hl) ?_; (case hl => ((repeat (with_reducible constructor)); done)))
    | (with_reducible refine' ds_parC (by assumption) (.inr ?hl) ?_; (case hl => ((repeat (with_reducible constructor)); done)))
    | (with_reducible refine' ds_setLcXc (hl := ?hl) [("pitch", 6)] ⟨.function, [(".0", .local), ("pitch", .local), ("int", .globalImplicit)], false, false, []⟩ (by assumption) ?hi ?_; (case hl => ((repeat (with_reducible constructor)); done)); (case hi => (repeat (with_reducible constructor))))
    | (with_reducible refine' ds_setLcXc (hl := ?hl) [("delay", 5)] ⟨.function, [(".0", .local), ("delay", .local), ("beat", .cell), ("row", .cell), ("self", .cell)], false, false, []⟩ (by assumption) ?hi ?_; (case hl => ((repeat (with_reducible constructor)); done)); (case hi => (repeat (with_reducible constructor))))
    | (with_reducible refine' ds_setLcC (by assumption) (by assumption) ?hi ?_ ?hl; (case hl => ((repeat (with_reducible constructor)); done)); (case hi => (repeat (with_reducible constructor))))
    | (with_reducible refine' ds_setCD (by assumption) (by assumption) ?hi ?_ ?hl; (case hl => ((repeat (with_reducible constructor)); done)); (case hi => (repeat (with_reducible constructor))))
    | (with_reducible refine ds_forL (by assumption) Df.po ?_)))
  | (with_reducible refine as_DE ?_; (first
    | (with_reducible refine de_lcXc [("pitch", 6)] ⟨.function, [(".0", .local), ("pitch", .local), ("int", .globalImplicit)], false, false, []⟩ (by assumption) ?_)
    | (with_reducible refine de_lcXc [("delay", 5)] ⟨.function, [(".0", .local), ("delay", .local), ("beat", .cell), ("row", .cell), ("self", .cell)], false, false, []⟩ (by assumption) ?_)))
  | (with_reducible refine as_NL ?_; (first
    | (with_reducible refine nl_ownT ?_)
    | (with_reducible refine nl_fz ?_)))
  | (with_reducible refine own_out ?_)
  | walk_at "g1"
  | (with_reducible refine as_DI ?_; (first
    | (with_reducible refine di_seq ?_))))))
set_option hygiene false in
local macro_rules | `(tactic| walk_at "go_law_hear") => `(tactic| (repeat (first
  | (with_reducible refine as_DS ?_; (first
    | (with_reducible refine' ds_parC (by assumption) (.inl ?hl) ?_; (case hl => ((repeat (with_reducible constructor)); done)))
    | (with_reducible refine' ds_parC (by assumption) (.inr ?hl) ?_; (case hl => ((repeat (with_reducible constructor)); done)))
    | (with_reducible refine' ds_setLcC (by assumption) (by assumption) ?hi ?_ ?hl; (case hl => ((repeat (with_reducible constructor)); done)); (case hi => (repeat (with_reducible constructor))))
    | (with_reducible refine' ds_setCD (by assumption) (by assumption) ?hi ?_ ?hl; (case hl => ((repeat (with_reducible constructor)); done)); (case hi => (repeat (with_reducible constructor))))
    | (with_reducible refine ds_forL (by assumption) Df.po ?_)))
  | (with_reducible refine as_NL ?_; (first
    | (with_reducible refine nl_ownT ?_)
    | (with_reducible refine nl_fz ?_)))
  | (with_reducible refine own_out ?_)
  | walk_at "g1"
  | (with_reducible refine as_DI ?_; (first
    | (with_reducible refine di_seq ?_))))))
section
variable {P : Program} {w : World} {K : PySem.W.Frag} {mg : Str → Option Value} {base : Heap} {a : Adr}
/-- no delay agrees -/
def spHearE (a : Adr) : DSp := fun ds O E _ => ∃ l fa ns sh kept b ps, ds = [.ref l, .int b] ++ [.tup (List.map D.int ps)] ∧ At l (.ins a.C_Listener (lsFs a.C_Melody ns sh kept fa)) O ∧ Mel ns ∧ Mel (shiftN sh ns) ∧ 0 ≤ b ∧ b ≤ 1000000000000000000 ∧ ps.length ≤ 10 ∧ kept.length ≤ 501 ∧
  agree ns sh b (sortI ps) kept = [] ∧ E (xdA a .contra) O
theorem ok_Listener_hearE (T : Txt K mg a) : DFn P w K mg base 5 a.f_Listener_hear (starSp 2 (spHearE a)) := by
  refine T.Listener_hear.ok sc_Listener_hear ?_
  intro X I S0 Df hr ds O E Q hsp; obtain ⟨rfl, rfl, rfl, rfl, rfl⟩ := I; have S : Sc X _ c_Listener_hear := S0; clear S0
  obtain ⟨l, fa, ns, sh, kept, b, ps, rfl, hl, hm, hm2, h0, h1, hp, hk, hne, q⟩ := hsp
  show DSs X _ [some (.ref l), some (.int b), some (.tup (ps.map D.int)), none, none, none, none] _ _ _
  refine dss_cons ?_
  walk_at "go_Listener_hear"
  refine ⟨Int, ps, D.int, fun p => [.int p], rfl, by omega, fun p hp => ?_, ?_⟩
  · walk_at "go_Listener_hear"
  rw [fm_map]
  walk_at "go_Listener_hear"
  refine dc_sortedI .lst rfl (by omega) fun js h2 h3 => ?_
  rw [sortI_eq h2 h3]
  walk_at "go_Listener_hear"
  refine ⟨Int, kept, D.int, fun d => if decide (lsSnd ns sh b d = sortI ps) then [.int d] else [], rfl, by omega, fun d hd => ?_, ?_⟩
  · walk_at "go_Listener_hear"
    refine dc_fn (ok_Listener_sounds T) (hr.mono (by decide)) ⟨l, fa, ns, sh, kept, d, b, rfl, hl, hm, hm2, ?_⟩
    walk_at "go_Listener_hear"
    refine db_eqP hr (okN_ints _) (okN_ints _) (noBl_ints _) (noBl_ints _) fun c hc => ?_
    have hc2 : c = decide (lsSnd ns sh b d = sortI ps) := Bool.eq_iff_iff.2 (by rw [hc, decide_eq_true_iff]; exact ⟨fun h => ints_inj h, fun h => by rw [h]⟩)
    rw [hc2]
    refine ex_bl ?_
    (first | with_reducible refine br_d (fun h => ?_) (fun h => ?_) | with_reducible refine rb_d (fun h => ?_) (fun h => ?_) | with_reducible refine br_nd (fun h => ?_) (fun h => ?_) | with_reducible refine rb_nd (fun h => ?_) (fun h => ?_))
    · walk_at "go_Listener_hear"
      exact ⟨rfl, if_pos (decide_eq_true h)⟩
    · walk_at "go_Listener_hear"
      exact ⟨rfl, if_neg (by simpa using h)⟩
  rw [fm_fil, show kept.filter (fun d => decide (lsSnd ns sh b d = sortI ps)) = agree ns sh b (sortI ps) kept from rfl]
  rw [hne]
  walk_at "go_Listener_hear"
  refine db_eqNil hr (view_plain _ (okD_intsL []).1) (okD_intsL []) ?_
  walk_at "go_Listener_hear"
  exact q
def spLHearE (a : Adr) : DSp := fun ds O E _ => ∃ l fa ns sh kept b ps, ds = [.ref l, .int b, .lst (List.map D.int ps)] ∧ At l (.ins a.C_Listener (lsFs a.C_Melody ns sh kept fa)) O ∧ Mel ns ∧ Mel (shiftN sh ns) ∧ 0 ≤ b ∧ b ≤ 1000000000000000000 ∧ ps.length ≤ 2 ∧ kept.length ≤ 501 ∧
  agree ns sh b (sortI ps) kept = [] ∧ E (xdA a .contra) O
theorem ok_law_hearE (T : Txt K mg a) : DFn P w K mg base 6 a.f_law_hear (spLHearE a) := by
  refine T.law_hear.ok sc_law_hear (fun ds O E Q h => by obtain ⟨_, _, _, _, _, _, _, e, _⟩ := h; rw [e]; rfl) ?_
  intro X I S0 Df hr ds O E Q hsp; obtain ⟨rfl, rfl, rfl, rfl, rfl⟩ := I; have S : Sc X _ c_law_hear := S0; clear S0
  obtain ⟨l, fa, ns, sh, kept, b, ps, rfl, hl, hm, hm2, h0, h1, hp, hk, hne, q⟩ := hsp
  show DSs X _ [some (.ref l), some (.int b), some (.lst (ps.map D.int))] O _ _
  refine dss_cons ?_
  walk_at "go_law_hear"
  refine db_eqNil hr (view_plain _ (okD_intsL _).1) (okD_intsL _) ?_
  match ps, hp with
  | [], _ =>
    walk_at "go_law_hear"
    refine dc_fn (ok_Listener_hearE T) (hr.mono (by decide)) ⟨[.ref l, .int b], [], rfl, rfl, by decide, l, fa, ns, sh, kept, b, [], rfl, hl, hm, hm2, h0, h1, by decide, hk, hne, q⟩
  | [p0], _ =>
    simp only [List.map_cons, List.map_nil]
    walk_at "go_law_hear"
    refine dc_fn (ok_Listener_hearE T) (hr.mono (by decide)) ⟨[.ref l, .int b], [.int p0], rfl, rfl, by simp, l, fa, ns, sh, kept, b, [p0], rfl, hl, hm, hm2, h0, h1, by simp, hk, hne, q⟩
  | [p0, p1], _ =>
    have e : sortI [p1, p0] = sortI [p0, p1] := sortI_iff.2 (.swap _ _ _)
    rw [← e] at hne
    simp only [List.map_cons, List.map_nil]
    walk_at "go_law_hear"
    refine dc_fn (ok_Listener_hearE T) (hr.mono (by decide)) ⟨[.ref l, .int b], [.int p1, .int p0], rfl, rfl, by simp, l, fa, ns, sh, kept, b, [p1, p0], rfl, hl, hm, hm2, h0, h1, by simp, hk, hne, q⟩
end

set_option hygiene false in
local macro_rules | `(tactic| walk_at "go_Listener_delays") => `(tactic| (repeat (first
  | (with_reducible refine as_DS ?_; (first
    | (with_reducible refine' ds_parC (by assumption) (.inl ?hl) ?_; (case hl => ((repeat (with_reducible constructor)); done)))
    | (with_reducible refine' ds_parC (by assumption) (.inr ?hl) ?_; (case hl => ((repeat (with_reducible constructor)); done)))
    | (with_reducible refine' ds_setLcC (by assumption) (by assumption) ?hi ?_ ?hl; (case hl => ((repeat (with_reducible constructor)); done)); (case hi => (repeat (with_reducible constructor))))
    | (with_reducible refine' ds_setCD (by assumption) (by assumption) ?hi ?_ ?hl; (case hl => ((repeat (with_reducible constructor)); done)); (case hi => (repeat (with_reducible constructor))))
    | (with_reducible refine ds_forL (by assumption) Df.po ?_)))
  | (with_reducible refine as_NL ?_; (first
    | (with_reducible refine nl_ownT ?_)))
  | (with_reducible refine own_out ?_)
  | walk_at "g1"
  | (with_reducible refine as_DI ?_; (first
    | (with_reducible refine di_seq ?_))))))
set_option hygiene false in
local macro_rules | `(tactic| walk_at "go_Listener_history") => `(tactic| (repeat (first
  | (with_reducible refine as_DS ?_; (first
    | (with_reducible refine' ds_parC (by assumption) (.inl ?hl) ?_; (case hl => ((repeat (with_reducible constructor)); done)))
    | (with_reducible refine' ds_parC (by assumption) (.inr ?hl) ?_; (case hl => ((repeat (with_reducible constructor)); done)))
    | (with_reducible refine' ds_setLcC (by assumption) (by assumption) ?hi ?_ ?hl; (case hl => ((repeat (with_reducible constructor)); done)); (case hi => (repeat (with_reducible constructor))))
    | (with_reducible refine' ds_setCD (by assumption) (by assumption) ?hi ?_ ?hl; (case hl => ((repeat (with_reducible constructor)); done)); (case hi => (repeat (with_reducible constructor))))
    | (with_reducible refine ds_forL (by assumption) Df.po ?_)))
  | (with_reducible refine as_NL ?_; (first
    | (with_reducible refine nl_ownT ?_)))
  | (with_reducible refine own_out ?_)
  | walk_at "g1"
  | (with_reducible refine as_DI ?_; (first
    | (with_reducible refine di_seq ?_))))))
set_option hygiene false in
local macro_rules | `(tactic| walk_at "lm_law") => `(tactic| (first
  | (with_reducible refine de_lcMc [("_law_pitch", 19)] ⟨.function, [(".0", .local), ("_law_pitch", .local)], false, false, []⟩ (by assumption) ?_)
  | (with_reducible refine de_lcMc [("_law_delay", 18)] ⟨.function, [(".0", .local), ("_law_delay", .local), ("_law_heard", .globalImplicit), ("_law_beat", .cell), ("_law_later", .cell), ("_law_pitches", .cell), ("_law_row_here", .cell)], false, false, []⟩ (by assumption) ?_)
  | (with_reducible refine de_lcMc [("_law_delay", 18)] ⟨.function, [(".0", .local), ("_law_delay", .local), ("_law_heard", .globalImplicit), ("_law_beat", .cell), ("_law_later", .cell), ("_law_row_here", .cell)], false, false, []⟩ (by assumption) ?_)
  | (with_reducible refine de_lcMc [("_law_chord", 20)] ⟨.function, [(".0", .local), ("_law_chord", .local), ("_law_chords", .cell)], false, false, []⟩ (by assumption) ?_)))
set_option hygiene false in
local macro_rules | `(tactic| walk_at "sm_law") => `(tactic| (first
  | (with_reducible refine' ds_setLcMc [("_law_pitch", 19)] ⟨.function, [(".0", .local), ("_law_pitch", .local)], false, false, []⟩ (by assumption) ?hi ?_; (case hi => (repeat (with_reducible constructor))))
  | (with_reducible refine' ds_setLcMc [("_law_delay", 18)] ⟨.function, [(".0", .local), ("_law_delay", .local), ("_law_heard", .globalImplicit), ("_law_beat", .cell), ("_law_later", .cell), ("_law_pitches", .cell), ("_law_row_here", .cell)], false, false, []⟩ (by assumption) ?hi ?_; (case hi => (repeat (with_reducible constructor))))
  | (with_reducible refine' ds_setLcMc [("_law_delay", 18)] ⟨.function, [(".0", .local), ("_law_delay", .local), ("_law_heard", .globalImplicit), ("_law_beat", .cell), ("_law_later", .cell), ("_law_row_here", .cell)], false, false, []⟩ (by assumption) ?hi ?_; (case hi => (repeat (with_reducible constructor))))
  | (with_reducible refine' ds_setLcMc [("_law_chord", 20)] ⟨.function, [(".0", .local), ("_law_chord", .local), ("_law_chords", .cell)], false, false, []⟩ (by assumption) ?hi ?_; (case hi => (repeat (with_reducible constructor))))))
set_option hygiene false in
local macro_rules | `(tactic| walk_at "go_law") => `(tactic| (repeat (first
  | (with_reducible refine as_DS ?_; (first
    | (with_reducible refine' ds_setLcXO (x := "_law_worst") (hl := ?hl) [("_law_pitch", 19)] ⟨.function, [(".0", .local), ("_law_pitch", .local)], false, false, []⟩ (by assumption) ?hi ?_; (case hl => ((repeat (with_reducible constructor)); done)); (case hi => (repeat (with_reducible constructor))))
    | (with_reducible refine' ds_setLcXO (x := "_law_worst") (hl := ?hl) [("_law_delay", 18)] ⟨.function, [(".0", .local), ("_law_delay", .local), ("_law_heard", .globalImplicit), ("_law_beat", .cell), ("_law_later", .cell), ("_law_pitches", .cell), ("_law_row_here", .cell)], false, false, []⟩ (by assumption) ?hi ?_; (case hl => ((repeat (with_reducible constructor)); done)); (case hi => (repeat (with_reducible constructor))))
    | (with_reducible refine' ds_setLcXO (x := "_law_worst") (hl := ?hl) [("_law_delay", 18)] ⟨.function, [(".0", .local), ("_law_delay", .local), ("_law_heard", .globalImplicit), ("_law_beat", .cell), ("_law_later", .cell), ("_law_row_here", .cell)], false, false, []⟩ (by assumption) ?hi ?_; (case hl => ((repeat (with_reducible constructor)); done)); (case hi => (repeat (with_reducible constructor))))
    | (with_reducible refine' ds_setLcXO (x := "_law_worst") (hl := ?hl) [("_law_chord", 20)] ⟨.function, [(".0", .local), ("_law_chord", .local), ("_law_chords", .cell)], false, false, []⟩ (by assumption) ?hi ?_; (case hl => ((repeat (with_reducible constructor)); done)); (case hi => (repeat (with_reducible constructor))))
    | (with_reducible refine' ds_setO (x := "_law_worst") (hl := ?hl) (by assumption) ?hi ?_; (case hl => ((repeat (with_reducible constructor)); done)); (case hi => (repeat (with_reducible constructor))))
    | (with_reducible refine' ds_setCO (x := "_law_worst") (hl := ?hl) (by assumption) (by assumption) ?hi ?_; (case hl => ((repeat (with_reducible constructor)); done)); (case hi => (repeat (with_reducible constructor))))
    | (with_reducible refine' ds_parC (by assumption) (.inl ?hl) ?_; (case hl => ((repeat (with_reducible constructor)); done)))
    | (with_reducible refine' ds_parC (by assumption) (.inr ?hl) ?_; (case hl => ((repeat (with_reducible constructor)); done)))
    | (with_reducible refine' ds_setLcXc (hl := ?hl) [("_law_pitch", 19)] ⟨.function, [(".0", .local), ("_law_pitch", .local)], false, false, []⟩ (by assumption) ?hi ?_; (case hl => ((repeat (with_reducible constructor)); done)); (case hi => (repeat (with_reducible constructor))))
    | (with_reducible refine' ds_setLcXc (hl := ?hl) [("_law_delay", 18)] ⟨.function, [(".0", .local), ("_law_delay", .local), ("_law_heard", .globalImplicit), ("_law_beat", .cell), ("_law_later", .cell), ("_law_pitches", .cell), ("_law_row_here", .cell)], false, false, []⟩ (by assumption) ?hi ?_; (case hl => ((repeat (with_reducible constructor)); done)); (case hi => (repeat (with_reducible constructor))))
    | (with_reducible refine' ds_setLcXc (hl := ?hl) [("_law_delay", 18)] ⟨.function, [(".0", .local), ("_law_delay", .local), ("_law_heard", .globalImplicit), ("_law_beat", .cell), ("_law_later", .cell), ("_law_row_here", .cell)], false, false, []⟩ (by assumption) ?hi ?_; (case hl => ((repeat (with_reducible constructor)); done)); (case hi => (repeat (with_reducible constructor))))
    | (with_reducible refine' ds_setLcXc (hl := ?hl) [("_law_chord", 20)] ⟨.function, [(".0", .local), ("_law_chord", .local), ("_law_chords", .cell)], false, false, []⟩ (by assumption) ?hi ?_; (case hl => ((repeat (with_reducible constructor)); done)); (case hi => (repeat (with_reducible constructor))))
    | (with_reducible refine' ds_setLcC (by assumption) (by assumption) ?hi ?_ ?hl; (case hl => ((repeat (with_reducible constructor)); done)); (case hi => (repeat (with_reducible constructor))))
    | (with_reducible refine' ds_setCD (by assumption) (by assumption) ?hi ?_ ?hl; (case hl => ((repeat (with_reducible constructor)); done)); (case hi => (repeat (with_reducible constructor))))
    | (with_reducible refine ds_forL (by assumption) Df.po ?_)))
  | (with_reducible refine as_DE ?_; (first
    | (with_reducible refine de_lcXc [("_law_pitch", 19)] ⟨.function, [(".0", .local), ("_law_pitch", .local)], false, false, []⟩ (by assumption) ?_)
    | (with_reducible refine de_lcXc [("_law_delay", 18)] ⟨.function, [(".0", .local), ("_law_delay", .local), ("_law_heard", .globalImplicit), ("_law_beat", .cell), ("_law_later", .cell), ("_law_pitches", .cell), ("_law_row_here", .cell)], false, false, []⟩ (by assumption) ?_)
    | (with_reducible refine de_lcXc [("_law_delay", 18)] ⟨.function, [(".0", .local), ("_law_delay", .local), ("_law_heard", .globalImplicit), ("_law_beat", .cell), ("_law_later", .cell), ("_law_row_here", .cell)], false, false, []⟩ (by assumption) ?_)
    | (with_reducible refine de_lcXc [("_law_chord", 20)] ⟨.function, [(".0", .local), ("_law_chord", .local), ("_law_chords", .cell)], false, false, []⟩ (by assumption) ?_)))
  | (with_reducible refine as_NL ?_; (first
    | (with_reducible refine nl_ownT ?_)
    | (with_reducible refine nl_fzc ?_)
    | (with_reducible refine nl_fzm ?_)
    | (with_reducible refine nl_fza ?_)))
  | (with_reducible refine own_out ?_)
  | walk_at "g1"
  | (with_reducible refine as_DI ?_; (first
    | (with_reducible refine di_seq ?_))))))
set_option hygiene false in
local macro_rules | `(tactic| walk_at "ho_law") => `(tactic| (repeat (first
  | (with_reducible refine as_DS ?_; (first
    | (with_reducible refine' ds_setLcXO (x := "_law_worst") (hl := ?hl) [("_law_pitch", 19)] ⟨.function, [(".0", .local), ("_law_pitch", .local)], false, false, []⟩ (by assumption) ?hi ?_; (case hl => ((repeat (with_reducible constructor)); done)); (case hi => (repeat (with_reducible constructor))))
    | (with_reducible refine' ds_setLcXO (x := "_law_worst") (hl := ?hl) [("_law_delay", 18)] ⟨.function, [(".0", .local), ("_law_delay", .local), ("_law_heard", .globalImplicit), ("_law_beat", .cell), ("_law_later", .cell), ("_law_pitches", .cell), ("_law_row_here", .cell)], false, false, []⟩ (by assumption) ?hi ?_; (case hl => ((repeat (with_reducible constructor)); done)); (case hi => (repeat (with_reducible constructor))))
    | (with_reducible refine' ds_setLcXO (x := "_law_worst") (hl := ?hl) [("_law_delay", 18)] ⟨.function, [(".0", .local), ("_law_delay", .local), ("_law_heard", .globalImplicit), ("_law_beat", .cell), ("_law_later", .cell), ("_law_row_here", .cell)], false, false, []⟩ (by assumption) ?hi ?_; (case hl => ((repeat (with_reducible constructor)); done)); (case hi => (repeat (with_reducible constructor))))
    | (with_reducible refine' ds_setLcXO (x := "_law_worst") (hl := ?hl) [("_law_chord", 20)] ⟨.function, [(".0", .local), ("_law_chord", .local), ("_law_chords", .cell)], false, false, []⟩ (by assumption) ?hi ?_; (case hl => ((repeat (with_reducible constructor)); done)); (case hi => (repeat (with_reducible constructor))))
    | (with_reducible refine' ds_setO (x := "_law_worst") (hl := ?hl) (by assumption) ?hi ?_; (case hl => ((repeat (with_reducible constructor)); done)); (case hi => (repeat (with_reducible constructor))))
    | (with_reducible refine' ds_setCO (x := "_law_worst") (hl := ?hl) (by assumption) (by assumption) ?hi ?_; (case hl => ((repeat (with_reducible constructor)); done)); (case hi => (repeat (with_reducible constructor))))
    | (with_reducible refine' ds_parC (by assumption) (.inl ?hl) ?_; (case hl => ((repeat (with_reducible constructor)); done)))
    | (with_reducible refine' ds_parC (by assumption) (.inr ?hl) ?_; (case hl => ((repeat (with_reducible constructor)); done)))
    | (with_reducible refine' ds_setLcXc (hl := ?hl) [("_law_pitch", 19)] ⟨.function, [(".0", .local), ("_law_pitch", .local)], false, false, []⟩ (by assumption) ?hi ?_; (case hl => ((repeat (with_reducible constructor)); done)); (case hi => (repeat (with_reducible constructor))))
    | (with_reducible refine' ds_setLcXc (hl := ?hl) [("_law_delay", 18)] ⟨.function, [(".0", .local), ("_law_delay", .local), ("_law_heard", .globalImplicit), ("_law_beat", .cell), ("_law_later", .cell), ("_law_pitches", .cell), ("_law_row_here", .cell)], false, false, []⟩ (by assumption) ?hi ?_; (case hl => ((repeat (with_reducible constructor)); done)); (case hi => (repeat (with_reducible constructor))))
    | (with_reducible refine' ds_setLcXc (hl := ?hl) [("_law_delay", 18)] ⟨.function, [(".0", .local), ("_law_delay", .local), ("_law_heard", .globalImplicit), ("_law_beat", .cell), ("_law_later", .cell), ("_law_row_here", .cell)], false, false, []⟩ (by assumption) ?hi ?_; (case hl => ((repeat (with_reducible constructor)); done)); (case hi => (repeat (with_reducible constructor))))
    | (with_reducible refine' ds_setLcXc (hl := ?hl) [("_law_chord", 20)] ⟨.function, [(".0", .local), ("_law_chord", .local), ("_law_chords", .cell)], false, false, []⟩ (by assumption) ?hi ?_; (case hl => ((repeat (with_reducible constructor)); done)); (case hi => (repeat (with_reducible constructor))))
    | (with_reducible refine' ds_setLcC (by assumption) (by assumption) ?hi ?_ ?hl; (case hl => ((repeat (with_reducible constructor)); done)); (case hi => (repeat (with_reducible constructor))))
    | (with_reducible refine' ds_setCD (by assumption) (by assumption) ?hi ?_ ?hl; (case hl => ((repeat (with_reducible constructor)); done)); (case hi => (repeat (with_reducible constructor))))
    | (with_reducible refine ds_forL (by assumption) Df.po ?_)))
  | (with_reducible refine as_DE ?_; (first
    | (with_reducible refine de_lcXc [("_law_pitch", 19)] ⟨.function, [(".0", .local), ("_law_pitch", .local)], false, false, []⟩ (by assumption) ?_)
    | (with_reducible refine de_lcXc [("_law_delay", 18)] ⟨.function, [(".0", .local), ("_law_delay", .local), ("_law_heard", .globalImplicit), ("_law_beat", .cell), ("_law_later", .cell), ("_law_pitches", .cell), ("_law_row_here", .cell)], false, false, []⟩ (by assumption) ?_)
    | (with_reducible refine de_lcXc [("_law_delay", 18)] ⟨.function, [(".0", .local), ("_law_delay", .local), ("_law_heard", .globalImplicit), ("_law_beat", .cell), ("_law_later", .cell), ("_law_row_here", .cell)], false, false, []⟩ (by assumption) ?_)
    | (with_reducible refine de_lcXc [("_law_chord", 20)] ⟨.function, [(".0", .local), ("_law_chord", .local), ("_law_chords", .cell)], false, false, []⟩ (by assumption) ?_)))
  | (with_reducible refine as_NL ?_; (first
    | (with_reducible refine nl_ownT ?_)
    | (with_reducible refine nl_fzc ?_)
    | (with_reducible refine nl_fzm ?_)
    | (with_reducible refine nl_fza ?_)))
  | (with_reducible refine own_out ?_)
  | walk_at "h1"
  | (with_reducible refine as_DI ?_; (first
    | (with_reducible refine di_seq ?_))))))
section
variable {P : Program} {w : World} {K : PySem.W.Frag} {mg : Str → Option Value} {base : Heap} {a : Adr}
section
variable {X : Cx} {δ : DEnv} {O : Own} {E : XD → Own → Prop} {Q : D → Own → Prop}
theorem dc_listener {k : Nat} {ns : List Note} {sh n : Int} (T : Txt X.K X.mg a) (hr : Room k X.A) (hk : 10 ≤ k) (hm : Mel ns) (hm2 : Mel (shiftN sh ns)) (h1 : -24 ≤ sh) (h2 : sh ≤ 24) (h3 : 0 ≤ n) (h4 : n ≤ 500)
    (q : ∀ l fa, Q (.ref l) ((fa, .lst []) :: (l, .ins a.C_Listener (lsFs a.C_Melody ns sh ((List.range (n + 1).toNat).map fun i : Nat => ((0 : Int) + (i : Nat))) fa)) :: O)) : DC X (.ref a.C_Listener) [dMel a.C_Melody ns, .int sh, .int n] δ O E Q :=
  dc_make (T.Listener.make T.Listener_init.mt) (ok_Listener_init T) (hr.mono hk) fun l => ⟨l, ns, sh, n, O, rfl, hm, hm2, h1, h2, h3, h4, rfl, fun fa => ⟨rfl, .inr (q l fa)⟩⟩
end
/-- a new list of the possible delays, of the observations -/
def spLsDelaysN (C M : Addr) : DSp := fun ds O E Q => ∃ l fa ns sh kept, ds = [.ref l] ∧ At l (.ins C (lsFs M ns sh kept fa)) O ∧ NewL (kept.map D.int) O Q
theorem ok_Listener_delaysN (T : Txt K mg a) : DFn P w K mg base 1 a.f_Listener_delays (spLsDelaysN a.C_Listener a.C_Melody) := by
  refine T.Listener_delays.ok sc_Listener_delays (fun ds O E Q h => by obtain ⟨_, _, _, _, _, e, _⟩ := h; rw [e]; rfl) ?_
  intro X I S0 Df hr ds O E Q hsp; obtain ⟨rfl, rfl, rfl, rfl, rfl⟩ := I; have S : Sc X _ c_Listener_delays := S0; clear S0
  obtain ⟨l, fa, ns, sh, kept, rfl, hl, q⟩ := hsp
  show DSs X _ [some (.ref l)] _ _ _
  refine dss_cons ?_
  walk_at "go_Listener_delays"
  refine dc_list ?_
  exact q
def spLsHistoryN (C M : Addr) : DSp := fun ds O E Q => ∃ l fa ns sh kept facts, ds = [.ref l] ∧ At l (.ins C (lsFs M ns sh kept fa)) O ∧ At fa (.lst (List.map dFact facts)) O ∧ NewL (facts.map dFact) O Q
theorem ok_Listener_historyN (T : Txt K mg a) : DFn P w K mg base 1 a.f_Listener_history (spLsHistoryN a.C_Listener a.C_Melody) := by
  refine T.Listener_history.ok sc_Listener_history (fun ds O E Q h => by obtain ⟨_, _, _, _, _, _, e, _⟩ := h; rw [e]; rfl) ?_
  intro X I S0 Df hr ds O E Q hsp; obtain ⟨rfl, rfl, rfl, rfl, rfl⟩ := I; have S : Sc X _ c_Listener_history := S0; clear S0
  obtain ⟨l, fa, ns, sh, kept, facts, rfl, hl, hfa, q⟩ := hsp
  show DSs X _ [some (.ref l)] _ _ _
  refine dss_cons ?_
  walk_at "go_Listener_history"
  refine dc_list_own hfa ?_
  exact q
section
variable {X : Cx} {O : Own} {Q : D → Own → Prop}
theorem pr_delaysN {k : Nat} {l fa : Addr} {ns : List Note} {sh : Int} {kept : List Int} (T : Txt X.K X.mg a) (hr : Room k X.A) (hk : 2 ≤ k) (ha : At l (.ins a.C_Listener (lsFs a.C_Melody ns sh kept fa)) O) (q : ∀ f, Q (.ref f) ((f, .lst (kept.map D.int)) :: O)) :
    ∃ C fs pr g k sp, IsIns (.ref l) O C fs ∧ Cls X.K C ∧ PropOf X.K C "delays" pr g ∧ DFn X.prog X.w X.K X.mg X.base k g sp ∧ Room (k + 1) X.A ∧ sp [.ref l] O noE Q :=
  ⟨_, _, _, _, _, _, .own ha, T.Listener.cl, T.Listener_delays.p, ok_Listener_delaysN T, hr.mono hk, l, fa, ns, sh, kept, rfl, ha, .inr q⟩
theorem pr_historyN {k : Nat} {l fa : Addr} {ns : List Note} {sh : Int} {kept : List Int} {facts : List Fact} (T : Txt X.K X.mg a) (hr : Room k X.A) (hk : 2 ≤ k) (ha : At l (.ins a.C_Listener (lsFs a.C_Melody ns sh kept fa)) O) (hf : At fa (.lst (List.map dFact facts)) O) (q : ∀ f, Q (.ref f) ((f, .lst (List.map dFact facts)) :: O)) :
    ∃ C fs pr g k sp, IsIns (.ref l) O C fs ∧ Cls X.K C ∧ PropOf X.K C "history" pr g ∧ DFn X.prog X.w X.K X.mg X.base k g sp ∧ Room (k + 1) X.A ∧ sp [.ref l] O noE Q :=
  ⟨_, _, _, _, _, _, .own ha, T.Listener.cl, T.Listener_history.p, ok_Listener_historyN T, hr.mono hk, l, fa, ns, sh, kept, facts, rfl, ha, hf, .inr q⟩
end
theorem cut_row1 (xs : List (Option Int)) : cutD (dSnd xs) none (some 1) = dSnd (xs.take 1) := by
  rw [cut_to (by decide), ← List.map_take]
  rfl
theorem okN_es2 {x : Str} {i : Int} (h : plainD (.str x) = true) : okN 1 (.tup [.str x, .int i]) := okN_tup (n := 0) fun d hd => by
  rcases List.mem_cons.1 hd with rfl | hd
  · exact ⟨h, Nat.le_refl _⟩
  · rw [List.mem_singleton.1 hd]; exact okN_int
theorem ok_contra : okN 1 (.tup [.str "contradiction", .int 0]) := okN_es2 (er_strs _ (by simp))
theorem pick12 {xs : List (Option Int)} {v : Int} (v0 : 0 ≤ v) (v1 : v < 4) : ∃ ys : List (Option Int), atI [D.lst [], D.lst [D.int 60], D.lst [D.int 60, D.int 64], D.lst (dSnd (xs.take 1))] v = some (.lst (dSnd ys)) ∧ ys.length ≤ 2 := by
  have e : v = 0 ∨ v = 1 ∨ v = 2 ∨ v = 3 := by omega
  rcases e with rfl | rfl | rfl | rfl
  · exact ⟨[], atI_0, by decide⟩
  · exact ⟨[some 60], atI_1, by decide⟩
  · exact ⟨[some 60, some 64], atI_2, by decide⟩
  · exact ⟨xs.take 1, atI_3, by simp; omega⟩
theorem sortI_heard (row : List (Option Int)) : sortI (heardL row) = heardL row := (sortI_eq (List.Perm.refl _) (sortI_sorted _)).symm
theorem ok_law (T : Txt K mg a) (TB : LamX.TabB base mg a.cA_law a.PA_law) : BodyOkL P w K mg base 29 ["_law_script", "_law_d", "_law_notes_here", "_law_shift", "_law_limit", "_law_facts", "_law_row_here", "_law_later", "_law_listener", "_law_left", "_law_truth", "_law_turn", "_law_beat", "_law_pitches", "_law_kept", "_law_worst", "_law_most", "_law_chords", "_law_delay", "_law_pitch", "_law_chord"] s_law a.cA_law lamQ (spLawL a.PA_law lamQ) := by
  -- intro X I S0 Df hr ds O E Q hsp; obtain ⟨rfl, rfl, rfl, rfl, rfl⟩ := I; have S : Sc X _ c_law := S0; clear S0
  intro X I S0 Df hr ec eq ds O E Q hsp; obtain ⟨rfl, rfl, rfl, rfl, rfl⟩ := I; have S : Sc X _ c_law := S0; clear S0
  obtain ⟨ns, rfl, hl, rfl, q⟩ := hsp
  show DSs X _ [some (.fz (ns.map D.int)), none, none, none, none, none, none, none, none, none, none, none, none, none, none, none, none, none, none, none, none] [(a.PA_law, .tab lamQ)] _ _
  refine dss_cons ?_
  walk_at "go_law"
  refine dc_fn (ok_random T) (hr.mono (by decide)) ⟨ns, 12, rfl, hl, fun r => ?_⟩
  walk_at "go_law"
  refine dc_fn (ok_law_notes T) (hr.mono (by decide)) ⟨r, 6, rfl, by decide, by decide, .head, fun ms hm h6 => ?_⟩
  walk_at "go_law"
  refine dc_fn (ok_law_in_range T) (hr.mono (by decide)) ⟨r, ms, rfl, hm, .head, fun sh s0 s1 hm2 => ?_⟩
  walk_at "go_law"
  intro l1 l10 l11
  walk_at "go_law"
  intro l2 l20 l21
  walk_at "go_law"
  obtain ⟨lim, e1, m0, m1⟩ : ∃ lim : Int, atI [D.int l1, D.int 500] (if decide (l2 = 0) = true then 1 else 0) = some (.int lim) ∧ 0 ≤ lim ∧ lim ≤ 500 := by
    cases decide (l2 = 0)
    · exact ⟨l1, rfl, l10, by omega⟩
    · exact ⟨500, rfl, by decide, by decide⟩
  refine dx_lst e1 ?_
  walk_at "go_law"
  refine nl_fz ?_
  walk_at "go_law"
  refine dc_fn (ok_law_row T) (hr.mono (by decide)) ⟨ms, rfl, hm, ?_⟩
  walk_at "go_law"
  refine dc_fn (ok_law_shifted T) (hr.mono (by decide)) ⟨ms, sh, rfl, by have := hm.le; omega, ?_⟩
  walk_at "go_law"
  refine dc_fn (ok_law_row T) (hr.mono (by decide)) ⟨shiftN sh ms, rfl, hm2, ?_⟩
  walk_at "go_law"
  refine dc_fn (ok_law_melody T) (hr.mono (by decide)) ⟨ms, rfl, hm, ?_⟩
  walk_at "go_law"
  refine dc_listener T hr (by decide) hm hm2 s0 s1 m0 m1 fun l fa => ?_
  walk_at "go_law"
  refine ⟨by omega, by omega, nl_fz ?_⟩
  walk_at "go_law"
  intro truth t0 t1
  walk_at "go_law"
  intro tn u0 u1
  have e0 : dInts 0 (lim + 1).toNat = ((List.range (lim + 1).toNat).map fun i : Nat => ((0 : Int) + (i : Nat))).map D.int := by unfold dInts; rw [List.map_map]; rfl
  rw [e0]
  walk_at "go_law"
  refine ⟨fun i δ' O1 => ∃ kept facts truth x11 x12 x13 x14, δ' = [some (.fz (ns.map D.int)), some (.ref r), some (.lst (ms.map dNote)), some (.int sh), some (.int lim), some (.lst (List.map dFact facts)), some (.lst (dSnd (rowP ms))), some (.lst (dSnd (rowP (shiftN sh ms)))), some (.ref l), some (.lst (List.map D.int kept)), some (.int truth), x11, x12, x13, x14, none, none, none, none, none, none] ∧ O1 = [(fa, .lst (List.map dFact facts)), (l, .ins a.C_Listener (lsFs a.C_Melody ms sh kept fa)), (r, .src), (a.PA_law, .tab lamQ)] ∧ facts.length ≤ i ∧ (∀ f ∈ facts, f.2.length ≤ 2) ∧ kept.length ≤ 501 ∧ truth ∈ kept, ⟨_, [], truth, _, _, _, _, rfl, rfl, Nat.le_refl _, fun f hf => (nomatch hf), by simp; omega, ?_⟩, ?_, ?_⟩
  · exact List.mem_map.2 ⟨truth.toNat, List.mem_range.2 (by omega), by omega⟩
  · rintro i d δ' O1 hd ⟨kept, facts, truth, x11, x12, x13, x14, rfl, rfl, hfl, hf2, hkl, htr⟩
    obtain ⟨rfl, hi⟩ := dInts_get hd
    walk_at "go_law"
    refine dc_fn (ok_law_some_beat T) (hr.mono (by decide)) ⟨r, rfl, .tail (.tail .head), fun b b0 b1 => ?_⟩
    walk_at "go_law"
    refine dc_fn (ok_law_heard T) (hr.mono (by decide)) ⟨ms, sh, truth, b, rfl, hm, hm2, ?_⟩
    walk_at "ho_law"
    refine dss_via (fun δ1 O1 => ∃ ps : List Int, δ1 = [some (.fz (ns.map D.int)), some (.ref r), some (.lst (ms.map dNote)), some (.int sh), some (.int lim), some (.lst (List.map dFact facts)), some (.lst (dSnd (rowP ms))), some (.lst (dSnd (rowP (shiftN sh ms)))), some (.ref l), some (.lst (List.map D.int kept)), some (.int truth), some (.int ((0 : Int) + (i : Nat))), some (.int b), some (.lst (ps.map D.int)), x14, none, none, none, none, none, none] ∧ O1 = [(fa, .lst (List.map dFact facts)), (l, .ins a.C_Listener (lsFs a.C_Melody ms sh kept fa)), (r, .src), (a.PA_law, .tab lamQ)] ∧ ps.length ≤ 2 ∧ sortI ps = ps) ?_ ?_
    · walk_at "go_law"
      intro v v0 v1
      walk_at "go_law"
      (first | with_reducible refine br_d (fun h => ?_) (fun h => ?_) | with_reducible refine rb_d (fun h => ?_) (fun h => ?_) | with_reducible refine br_nd (fun h => ?_) (fun h => ?_) | with_reducible refine rb_nd (fun h => ?_) (fun h => ?_))
      · walk_at "go_law"
        refine nl_fz ?_
        walk_at "go_law"
        rw [cut_row1]
        refine nl_fz ?_
        walk_at "go_law"
        intro u u0 u1
        obtain ⟨ys, e2, hy⟩ := pick12 (xs := rowP ms) u0 u1
        refine dx_lst e2 ?_
        walk_at "go_law"
        refine ⟨Option Int, ys, dOpt, optI, rfl, by omega, fun o ho => ?_, ?_⟩
        · cases o with
          | none =>
            walk_at "go_law"
          | some p =>
            walk_at "go_law"
        rw [heard_fm]
        walk_at "go_law"
        have hyl := List.length_filterMap_le id ys
        refine dc_sortedI .lst rfl (by omega) fun js h1 h2 => ?_
        rw [sortI_eq h1 h2]
        walk_at "go_law"
        exact ⟨_, rfl, rfl, by have := (sortI_perm (ys.filterMap id)).length_eq; omega, (sortI_eq (List.Perm.refl _) (sortI_sorted _)).symm⟩
      · walk_at "go_law"
        exact ⟨_, rfl, rfl, lsSnd_le _ _ _ _, sortI_heard _⟩
    rintro δ1 O1 ⟨ps, rfl, rfl, hp2, hps⟩
    walk_at "go_law"
    refine ⟨Int, kept, D.int, fun d => if decide (lsSnd ms sh b d = ps) then [.int d] else [], rfl, by omega, fun d hd => ?_, ?_⟩
    · walk_at "go_law"
      refine dc_fn (ok_law_heard T) (hr.mono (by decide)) ⟨ms, sh, d, b, rfl, hm, hm2, ?_⟩
      walk_at "go_law"
      refine db_eqP hr (okN_ints _) (okN_ints _) (noBl_ints _) (noBl_ints _) fun c hc => ?_
      have hc2 : c = decide (lsSnd ms sh b d = ps) := Bool.eq_iff_iff.2 (by rw [hc, decide_eq_true_iff]; exact ⟨fun h => ints_inj h, fun h => by rw [h]⟩)
      rw [hc2]
      refine ex_bl ?_
      (first | with_reducible refine br_d (fun h => ?_) (fun h => ?_) | with_reducible refine rb_d (fun h => ?_) (fun h => ?_) | with_reducible refine br_nd (fun h => ?_) (fun h => ?_) | with_reducible refine rb_nd (fun h => ?_) (fun h => ?_))
      · walk_at "go_law"
        exact ⟨rfl, if_pos (decide_eq_true h)⟩
      · walk_at "go_law"
        exact ⟨rfl, if_neg (by simpa using h)⟩
    rw [fm_fil, show kept.filter (fun d => decide (lsSnd ms sh b d = ps)) = agree ms sh b ps kept from rfl]
    have hka : (agree ms sh b ps kept).length ≤ kept.length := List.length_filter_le _ _
    generalize hK : agree ms sh b ps kept = K2 at *
    walk_at "ho_law"
    refine dss_via (fun δ2 O2 => ∃ kept2 facts2 truth2, δ2 = [some (.fz (ns.map D.int)), some (.ref r), some (.lst (ms.map dNote)), some (.int sh), some (.int lim), some (.lst (List.map dFact facts2)), some (.lst (dSnd (rowP ms))), some (.lst (dSnd (rowP (shiftN sh ms)))), some (.ref l), some (.lst (List.map D.int kept2)), some (.int truth2), some (.int ((0 : Int) + (i : Nat))), some (.int b), some (.lst (ps.map D.int)), some (.lst (K2.map D.int)), none, none, none, none, none, none] ∧ O2 = [(fa, .lst (List.map dFact facts2)), (l, .ins a.C_Listener (lsFs a.C_Melody ms sh kept2 fa)), (r, .src), (a.PA_law, .tab lamQ)] ∧ facts2.length ≤ i + 1 ∧ (∀ f ∈ facts2, f.2.length ≤ 2) ∧ kept2.length ≤ 501 ∧ truth2 ∈ kept2) ?_ ?_
    · walk_at "go_law"
      refine nl_fz ?_
      refine db_eqNil hr (view_plain _ (okD_intsL _).1) (okD_intsL _) ?_
      cases hK2 : K2 with
      | nil =>
        walk_at "go_law"
        intro X2 B2; have T := (show Txt X2.K X2.mg a from by rw [B2.K, B2.mg]; assumption); have S2 := B2.sc; have hr := B2.room
        walk_at "go_law"
        refine dc_fn (ok_law_hearE T) (hr.mono (by decide)) ⟨l, fa, ms, sh, kept, b, ps, rfl, .tail .head, hm, hm2, b0, b1, hp2, hkl, by rw [hps]; exact hK.trans hK2, .contra, rfl, ?_⟩
        have T : Txt X.K X.mg a := (by assumption); have hr : Room _ X.A := (by assumption); have Df : DL.Df X := (by assumption)
        walk_at "go_law"
        refine db_neSame hr ok_contra rfl ?_
        walk_at "go_law"
        exact ⟨kept, facts, truth, rfl, rfl, by omega, hf2, hkl, htr⟩
      | cons k2 ks2 =>
        walk_at "go_law"
        refine dc_fn (ok_law_hear T) (hr.mono (by decide)) ⟨l, fa, ms, sh, kept, facts, b, ps, _, _, rfl, .tail .head, hm, hm2, b0, b1, hp2, hkl, by omega, by rw [hps, hK, hK2]; simp, .tail .head, .head, .head, ?_⟩
        rw [hps, hK, hK2]
        walk_at "go_law"
        rw [List.length_map]
        refine dc_eqs T hr (by decide) (by decide) (eqd_int (n := 0) _) ?_
        walk_at "go_law"
        refine db_cat (by simp; omega) (nl_fz ?_)
        walk_at "go_law"
        have hK3 : K2.length ≤ 501 := by omega
        have hF3 : ∀ f ∈ facts ++ [(b, ps)], f.2.length ≤ 2 := fun f hf => by
          rcases List.mem_append.1 hf with hf | hf
          · exact hf2 f hf
          · rw [List.mem_singleton.1 hf]; exact hp2
        (first | with_reducible refine br_d (fun h => ?_) (fun h => ?_) | with_reducible refine rb_d (fun h => ?_) (fun h => ?_) | with_reducible refine br_nd (fun h => ?_) (fun h => ?_) | with_reducible refine rb_nd (fun h => ?_) (fun h => ?_))
        · walk_at "go_law"
          refine ⟨k2 :: ks2, facts ++ [(b, ps)], truth, by rw [List.map_append]; rfl, rfl, by simp; omega, hF3, by rw [← hK2]; exact hK3, h⟩
        · walk_at "go_law"
          refine dx_lst atI_0 ?_
          walk_at "go_law"
          refine ⟨k2 :: ks2, facts ++ [(b, ps)], k2, by rw [List.map_append]; rfl, rfl, by simp; omega, hF3, by rw [← hK2]; exact hK3, List.mem_cons_self⟩
    rintro δ2 O2 ⟨kept2, facts2, truth2, rfl, rfl, hfl2, hf22, hkl2, htr2⟩
    walk_at "go_law"
    refine dc_eqs T hr (by decide) (by decide) (eqd_lst (n := 3) (ds := [.lst (List.map D.int kept2), .lst (List.map dFact facts2)]) (fun d hd => ?_) (by simp)) ?_
    · rcases List.mem_cons.1 hd with rfl | hd
      · exact (eqd_intsL _ (by omega)).mono (by decide)
      · rw [List.mem_singleton.1 hd]
        refine eqd_lst (n := 2) (fun d hd => ?_) (by rw [List.length_map]; omega)
        obtain ⟨f, hf, rfl⟩ := List.mem_map.1 hd
        have := hf22 f hf
        refine eqd_tup (n := 1) (fun d hd => ?_) (by simp)
        rcases List.mem_cons.1 hd with rfl | hd
        · exact eqd_int _
        · rw [List.mem_singleton.1 hd]; exact eqd_intsT _ (by omega)
    walk_at "ho_law"
    refine dss_cons ?_
    refine ds_expr ?_
    refine de_append ?_
    refine de_propS ?_
    (with_reducible refine' de_name (by assumption) ?hi ?hd ?_; (case hi => (repeat (with_reducible constructor))); (case hd => (repeat (with_reducible constructor))))
    refine pr_delaysN T hr (by decide) (by (repeat (first | with_reducible assumption | with_reducible constructor))) fun f1 => ?_
    refine ⟨f1, _, rfl, .head, de_int ⟨_, .head, _, by rw [List.length_map]; omega, .head, ?_⟩⟩
    refine DSs.drop (.cons _ (.refl _)) ?_
    refine dss_one ?_
    refine ds_expr ?_
    refine de_append ?_
    refine de_propS ?_
    (with_reducible refine' de_name (by assumption) ?hi ?hd ?_; (case hi => (repeat (with_reducible constructor))); (case hd => (repeat (with_reducible constructor))))
    refine pr_historyN T hr (by decide) (by (repeat (first | with_reducible assumption | with_reducible constructor))) (by (repeat (first | with_reducible assumption | with_reducible constructor))) fun f3 => ?_
    refine ⟨f3, _, rfl, .head, de_int ⟨_, .head, _, by rw [List.length_map]; omega, .head, ?_⟩⟩
    refine ⟨_, .cons _ (.refl _), kept2, facts2, truth2, _, _, _, _, rfl, rfl, hfl2, hf22, hkl2, htr2⟩
  rintro δ' O1 ⟨kept, facts, truth, x11, x12, x13, x14, rfl, rfl, hfl, hf2, hkl, htr⟩
  walk_at "go_law"
  refine nl_own fun f => ?_
  walk_at "go_law"
  intro v1 v10 v11
  walk_at "go_law"
  intro v2 v20 v21
  walk_at "go_law"
  obtain ⟨tr, e2, r0, r1⟩ : ∃ tr : Int, atI [D.int v1, D.int 200] (if decide (v2 = 0) = true then 1 else 0) = some (.int tr) ∧ 0 ≤ tr ∧ tr ≤ 200 := by
    cases decide (v2 = 0)
    · exact ⟨v1, rfl, v10, by omega⟩
    · exact ⟨200, rfl, by decide, by decide⟩
  refine dx_lst e2 ?_
  walk_at "go_law"
  have hkne : kept ≠ [] := List.ne_nil_of_mem htr
  have hkp := List.length_pos_iff.2 hkne
  obtain ⟨M, hM⟩ := Int.eq_ofNat_of_zero_le (show 0 ≤ tr + 1 by omega)
  rw [hM, Int.toNat_natCast]
  refine ⟨fun i δ' O1 => (∃ x12 x17, δ' = [some (.fz (ns.map D.int)), some (.ref r), some (.lst (ms.map dNote)), some (.int sh), some (.int lim), some (.lst (List.map dFact facts)), some (.lst (dSnd (rowP ms))), some (.lst (dSnd (rowP (shiftN sh ms)))), some (.ref l), some (.lst (List.map D.int kept)), some (.int truth), x11, x12, x13, x14, some (.ref f), some (.int tr), x17, none, none, none]) ∧ O1 = [(f, .lst ((worstL ms sh kept i).map D.int)), (fa, .lst (List.map dFact facts)), (l, .ins a.C_Listener (lsFs a.C_Melody ms sh kept fa)), (r, .src), (a.PA_law, .tab lamQ)], ⟨⟨_, _, rfl⟩, rfl⟩, ?_, ?_⟩
  · rintro i d δ' O1 hd ⟨⟨x12, x17, rfl⟩, rfl⟩
    obtain ⟨rfl, hi⟩ := dInts_get hd
    have e0 : (0 : Int) + (i : Nat) = (i : Nat) := by omega
    rw [e0]
    have hwl := worstL_length (ns := ms) (sh := sh) (kept := kept) (n := i)
    walk_at "go_law"
    refine ⟨Int, kept, D.int, fun d => [.lst ((lsSnd ms sh (i : Nat) d).map D.int)], rfl, by omega, fun d hd => ?_, ?_⟩
    · walk_at "go_law"
      refine dc_fn (ok_law_heard T) (hr.mono (by decide)) ⟨ms, sh, d, (i : Nat), rfl, hm, hm2, ?_⟩
      walk_at "go_law"
    rw [fm_map]
    walk_at "go_law"
    refine ⟨Int, kept, fun e => D.lst ((lsSnd ms sh (i : Nat) e).map D.int), fun d => [.int (cntSame ms sh kept (i : Nat) d : Nat)], rfl, by omega, fun d hd => ?_, ?_⟩
    · walk_at "go_law"
      refine ⟨_, .fz, ?_⟩
      walk_at "go_law"
      refine ⟨_, _, view_plain _ (okD_lints2 (lsSnd ms sh (i : Nat)) kept).2.1, view_plain _ (okD_intsL _).1, (okD_lints2 _ _).2, okD_intsL _, ?_⟩
      rw [cnt_lst]
      exact ⟨rfl, rfl⟩
    rw [fm_map, show kept.map (fun d => D.int (cntSame ms sh kept (i : Nat) d : Nat)) = (kept.map fun d => (cntSame ms sh kept (i : Nat) d : Int)).map D.int by rw [List.map_map]; rfl]
    walk_at "go_law"
    refine dc_maxL S.calm .lst rfl (by rw [List.length_map]; omega) fun m h1 h2 => ?_
    rw [worst_of h1 h2]
    walk_at "go_law"
    exact lessd ⟨⟨_, _, rfl⟩, by rw [worstL_succ, List.map_append]; rfl⟩
  rintro δ' O1 ⟨⟨x12, x17, rfl⟩, rfl⟩
  rw [dInts_length]
  have hwl := worstL_length (ns := ms) (sh := sh) (kept := kept) (n := M)
  refine' dss_fz _ ?gm ?gd ?gf ?_; (case gm => (repeat (first | with_reducible exact At.head | with_reducible assumption | with_reducible apply At.tail))); (case gd => (repeat (first | with_reducible exact Del.head | with_reducible apply Del.tail))); (case gf => (repeat (first | with_reducible exact Fz.nil | with_reducible apply Fz.swap | with_reducible apply Fz.keep)))
  walk_at "go_law"
  refine dc_fn (ok_Listener_best T) (hr.mono (by decide)) ⟨l, fa, ms, sh, kept, tr, rfl, .tail .head, hm, hm2, r0, by omega, hkne, by omega, fun j hj => ?_⟩
  rw [hM, Int.toNat_natCast] at hj
  walk_at "go_law"
  refine ⟨_, .fz, ?_⟩
  walk_at "go_law"
  refine dc_minL S.calm .lst rfl (by omega) fun m h1 h2 => ?_
  obtain ⟨j2, hj1, hj2⟩ := first_ix h1
  refine ⟨_, .int m, j2, .int m, view_plain _ (okD_intsL _).1, view_plain _ rfl, okD_intsL _, (okN_int (n := 0)).ok, by rw [List.getElem?_map, hj1]; rfl, by rw [eqv_int]; simp, fun i z' hi hz' => ?_, ?_⟩
  · obtain ⟨y, hy, rfl⟩ := map_get hz'
    rw [eqv_int]
    exact decide_eq_false fun h => hj2 i hi (by rw [hy, h])
  rw [hj.uniq ⟨m, hj1, h2, hj2⟩]
  walk_at "go_law"
  refine dc_eqs T hr (by decide) (by decide) (eqd_int (n := 0) _) ?_
  walk_at "go_law"
  exact q _
end
end KK
end

section
set_option maxRecDepth 100000
set_option maxHeartbeats 4000000
open PySem PySem.W PyProof.Rows in
set_option maxRecDepth 100000 in
set_option maxHeartbeats 0 in
theorem PySem.Challenge.cw_canonvoices_k12_heard_delays_holds : PySem.Challenge.rw_canonvoices_k12_heard_delays.Holds := by
  refine KK.fin_of ?_
  intro P w K mg base a T TB
  exact KK.ok_law T TB
end
