import PyProof.Rows.All
import Wide.All
import OpenK.AllK
import Wide.FinOn
import HandS.ForMost
import HandS.ForExc
import HandS.Star
import HandS.CallSlots
import HandS.Lambda
import HandS.ExcCtx
import HandS.Hot
import HandS.HotCalls
import HandS.Finally
import HandS.SuiteRaise
import KE.KDflt
import HandS.ClsMeth
import HandS.Property
import HandS.IsInst
import KE.GoesEnum
import HandS.Defaults
import HandS.MakeKwOnly
import KE.GoesMore
import KE.GoesNew
import HandS.GenList
import HandS.Iter
import HandS.Style
import HandS.NamedTupSort
import HandS.Deep
import HandS.Conv
import HandS.TryOnly
import HandS.MethStar
import HandS.TupAny
import PyProof.TupleOfSeq
import KE.KExcIs
import HandS.ExcInit
import HandS.ExcOwn
import HandS.ExcIs
import HandS.ExcField
import HandS.EndOwn
import KE.KNestM
import HandS.ListEq
import HandS.Flow
import HandS.DictComp
import HandS.FStr
import HandS.Comp
import HandS.HeadHook3
import KE.LtSeq
import HandS.SortRule
import HandS.SetBool
import HandS.Strs
import HandS.SetFor
import PyProof.Rows.SetFrom
import KE.KRevSl
import HandS.Nested
import KE.GoesRaise
import KE.KAsSuite
import HandS.ExcInitHot
import HandS.RaiseFrom
import PySem.Challenge.RW_canonvoices_k17_batches_of_operations
set_option Elab.async false
set_option linter.all false
section
open PySem PySem.W PyProof.Rows
set_option maxRecDepth 100000
set_option maxHeartbeats 0
open_top hd for PySem.Challenge.rw_canonvoices_k17_batches_of_operations
end
section
section
set_option maxRecDepth 100000
set_option maxHeartbeats 4000000
namespace DL
open PySem PySem.Spec PyProof.Rows L2
/-- a lambda as it was made: its words, its cells -/
structure Lam where
  params : Arguments
  body : Expr
  scope : Scope
  qual : Str
  cells : List (Str × Addr)
inductive D where
  | non | bl (b : Bool) | int (i : Int) | str (x : Str) | ty (n : String) | ref (a : Addr)
  | tup (ds : List D) | lst (ds : List D) | fz (ds : List D) | ins (C : Addr) (fs : List (Str × D)) | exc (a dd : Addr) (fs : List (Str × D)) | clo (f : Addr) (L : Lam)
def Ex (H H' : Hp) : Prop := ∀ a o, H a = some o → H' a = some o
theorem Ex.refl (H : Hp) : Ex H H := fun _ _ h => h
theorem Ex.trans {H H1 H2 : Hp} (a : Ex H H1) (b : Ex H1 H2) : Ex H H2 := fun x o h => b x o (a x o h)
theorem Ex.new {H : Hp} {p : Addr} {o : HO} (h : H p = none) : Ex H (upd H p o) := fun a u e => by
  rw [upd_ne (ne_of_none e h)]
  exact e
theorem Ex.rd {H H' : Hp} {a : Addr} {u : HO} (e : Ex H H') (h : Rd H a u) : Rd H' a u := by
  rcases h with h | ⟨o, h⟩
  · exact Or.inl (e a _ h)
  · exact Or.inr ⟨o, e a _ h⟩
theorem Ex.seqL {K : PySem.W.Frag} {H H' : Hp} {a : Addr} {xs : List V} (e : Ex H H') (h : SqL K H a xs) : SqL K H' a xs := by
  rcases h with h | h
  · exact Or.inl (e.rd h)
  · exact Or.inr h
theorem Ex.seqT {K : PySem.W.Frag} {H H' : Hp} {a : Addr} {xs : List V} (e : Ex H H') (h : SqT K H a xs) : SqT K H' a xs := by
  rcases h with h | h
  · exact Or.inl (e.rd h)
  · exact Or.inr h
/-- the function object of a lambda; a cell's object -/
def LamO (f : Addr) (fd : FuncData) : HO := .ext fun h => h.get? f = some { cls := .type "function", data := .func fd }
abbrev lamFd (L : Lam) (dV doc pm cv ctv : Value) : FuncData := PySem.W.kdv_fn "<lambda>" L.qual L.params (.expr L.body) L.scope L.cells dV doc pm cv ctv
structure LamGood (L : Lam) : Prop where
  kind : L.scope.kind = .function
  co : L.scope.isCoroutine = false
  gen : L.scope.isGenerator = false
  own : ∀ y ∈ L.scope.names, y.2 ≠ .cell
  free : ∀ y ∈ L.scope.names, y.2 = .free → ∃ c, L.cells.lookup y.1 = some c
  inj : ∀ x y c, L.cells.lookup x = some c → L.cells.lookup y = some c → x = y
/-- how it binds: nothing, or one default that is 0 -/
def LamBind (G : Hp) (L : Lam) (dV doc pm cv ctv : Value) : Prop :=
  (dV = .none ∧ bindArgs (lamFd L .none doc pm cv ctv) ⟨[], []⟩ = pure []) ∨
  ∃ (t : Addr) (a : Str) (k : Option (Array Value) → Sem (List (Str × Value))), dV = .ref t ∧ G t = some (.tup [.int 0]) ∧ L.scope.names.lookup a = some .local ∧
    bindArgs (lamFd L (.ref t) doc pm cv ctv) ⟨[], []⟩ = seqItems? (.ref t) >>= k ∧ ∀ u, k (some #[u]) = pure [(a, u)]
def CloOk (G : Hp) (f : Addr) (L : Lam) : Prop := LamGood L ∧ ∃ (dV doc pm ctv : Value) (c : Addr), G f = some (LamO f (lamFd L dV doc pm (.ref c) ctv)) ∧ G c = some (LamX.CodeO c L.qual) ∧ LamBind G L dV doc pm (.ref c) ctv
theorem CloOk.mono {G G' : Hp} (e : Ex G G') {f : Addr} {L : Lam} (h : CloOk G f L) : CloOk G' f L := by
  obtain ⟨g, dV, doc, pm, ctv, c, h1, h2, h3⟩ := h
  refine ⟨g, dV, doc, pm, ctv, c, e _ _ h1, e _ _ h2, ?_⟩
  rcases h3 with h3 | ⟨t, a, k, e1, e2, r⟩
  · exact .inl h3
  · exact .inr ⟨t, a, k, e1, e _ _ e2, r⟩
mutual
inductive Rep (K : PySem.W.Frag) (G : Hp) : D → V → Prop
  | non : Rep K G .non .non
  | bl (b : Bool) : Rep K G (.bl b) (.bl b)
  | int (i : Int) : Rep K G (.int i) (.int i)
  | str (x : Str) : Rep K G (.str x) (.str x)
  | ty (n : String) : Rep K G (.ty n) (.ty n)
  | ref (a : Addr) : Rep K G (.ref a) (.ref a)
  | tup {ds : List D} {a : Addr} {vs : List V} : SqT K G a vs → RepL K G ds vs → Rep K G (.tup ds) (.ref a)
  | lst {ds : List D} {a : Addr} {vs : List V} : G a = some (.lst vs) → RepL K G ds vs → Rep K G (.lst ds) (.ref a)
  | fz {ds : List D} {a : Addr} {vs : List V} : SqL K G a vs → RepL K G ds vs → Rep K G (.fz ds) (.ref a)
  | ins {C : Addr} {fs : List (Str × D)} {a dx : Addr} {vs : List (Str × V)} : G a = some (.ins C dx vs) → RepF K G fs vs → Rep K G (.ins C fs) (.ref a)
  | exc {dd : Addr} {fs : List (Str × D)} {a : Addr} {vs : List (Str × V)} : G dd = some (.xd vs) → RepF K G fs vs → Rep K G (.exc a dd fs) (.ref a)
  | clo {f : Addr} {L : Lam} : CloOk G f L → Rep K G (.clo f L) (.ref f)
inductive RepL (K : PySem.W.Frag) (G : Hp) : List D → List V → Prop
  | nil : RepL K G [] []
  | cons {d : D} {v : V} {ds : List D} {vs : List V} : Rep K G d v → RepL K G ds vs → RepL K G (d :: ds) (v :: vs)
inductive RepF (K : PySem.W.Frag) (G : Hp) : List (Str × D) → List (Str × V) → Prop
  | nil : RepF K G [] []
  | cons {f : Str} {d : D} {v : V} {ds : List (Str × D)} {vs : List (Str × V)} : Rep K G d v → RepF K G ds vs → RepF K G ((f, d) :: ds) ((f, v) :: vs)
end
section
variable {K : PySem.W.Frag} {G G' : Hp}
theorem Rep.mono (e : Ex G G') {d : D} {v : V} (h : Rep K G d v) : Rep K G' d v :=
  Rep.rec (motive_1 := fun d v _ => Rep K G' d v) (motive_2 := fun d v _ => RepL K G' d v) (motive_3 := fun d v _ => RepF K G' d v)
    .non .bl .int .str .ty .ref (fun h _ r => .tup (e.seqT h) r) (fun h _ r => .lst (e _ _ h) r) (fun h _ r => .fz (e.seqL h) r) (fun h _ r => .ins (e _ _ h) r) (fun h _ r => .exc (e _ _ h) r) (fun h => .clo (h.mono e)) .nil (fun _ _ a b => .cons a b) .nil (fun _ _ a b => .cons a b) h
theorem RepL.mono (e : Ex G G') : ∀ {ds : List D} {vs : List V}, RepL K G ds vs → RepL K G' ds vs
  | _, _, .nil => .nil
  | _, _, .cons a b => .cons (a.mono e) (b.mono e)
theorem RepF.mono (e : Ex G G') : ∀ {ds : List (Str × D)} {vs : List (Str × V)}, RepF K G ds vs → RepF K G' ds vs
  | _, _, .nil => .nil
  | _, _, .cons a b => .cons (a.mono e) (b.mono e)
theorem RepL.length : ∀ {ds : List D} {vs : List V}, RepL K G ds vs → vs.length = ds.length
  | _, _, .nil => rfl
  | _, _, .cons _ b => by rw [List.length_cons, List.length_cons, b.length]
theorem RepL.get : ∀ {ds : List D} {vs : List V} {i : Nat} {d : D}, RepL K G ds vs → ds[i]? = some d → ∃ v, vs[i]? = some v ∧ Rep K G d v
  | _, _, _, _, .nil, e => by simp at e
  | _, _, 0, _, .cons r _, e => by simp at e; subst e; exact ⟨_, rfl, r⟩
  | _, _, i + 1, d, .cons _ t, e => by
    obtain ⟨u, h1, h2⟩ := RepL.get (i := i) (d := d) t (by simpa using e)
    exact ⟨u, by simpa using h1, h2⟩
theorem RepL.append : ∀ {as bs : List D} {us vs : List V}, RepL K G as us → RepL K G bs vs → RepL K G (as ++ bs) (us ++ vs)
  | _, _, _, _, .nil, s => s
  | _, _, _, _, .cons r t, s => .cons r (t.append s)
theorem RepL.take : ∀ {as : List D} {us : List V} (n : Nat), RepL K G as us → RepL K G (as.take n) (us.take n)
  | _, _, 0, _ => .nil
  | _, _, _ + 1, .nil => .nil
  | _, _, n + 1, .cons r t => .cons r (RepL.take n t)
theorem RepL.drop : ∀ {as : List D} {us : List V} (n : Nat), RepL K G as us → RepL K G (as.drop n) (us.drop n)
  | _, _, 0, r => r
  | _, _, _ + 1, .nil => .nil
  | _, _, n + 1, .cons _ t => RepL.drop n t
theorem RepL.set {x : D} {u : V} (r : Rep K G x u) : ∀ {xs : List D} {us : List V} (i : Nat), RepL K G xs us → RepL K G (xs.set i x) (us.set i u)
  | _, _, _, .nil => .nil
  | _, _, 0, .cons _ t => .cons r t
  | _, _, i + 1, .cons q t => .cons q (RepL.set r i t)
theorem RepL.reverse {as : List D} {us : List V} (r : RepL K G as us) : RepL K G as.reverse us.reverse := by
  induction as generalizing us with
  | nil => cases r; exact .nil
  | cons a as ih =>
    cases r with
    | cons x y =>
      rw [List.reverse_cons, List.reverse_cons]
      exact (ih y).append (.cons x .nil)
theorem RepL.split {as bs : List D} {us : List V} (r : RepL K G (as ++ bs) us) : ∃ u1 u2, us = u1 ++ u2 ∧ RepL K G as u1 ∧ RepL K G bs u2 := by
  induction as generalizing us with
  | nil => exact ⟨[], us, rfl, .nil, r⟩
  | cons a as ih =>
    cases r with
    | cons x y =>
      obtain ⟨u1, u2, e, r1, r2⟩ := ih y
      exact ⟨_ :: u1, u2, by rw [e]; rfl, .cons x r1, r2⟩
theorem RepF.look {f : Str} : ∀ {ds : List (Str × D)} {vs : List (Str × V)}, RepF K G ds vs → (∀ d, ds.lookup f = some d → ∃ v, vs.lookup f = some v ∧ Rep K G d v) ∧ (ds.lookup f = none → vs.lookup f = none)
  | _, _, .nil => ⟨fun _ e => by simp at e, fun _ => rfl⟩
  | (g, d) :: ds, (_, v) :: vs, .cons a b => by
    obtain ⟨h1, h2⟩ := RepF.look (f := f) b
    simp only [List.lookup_cons]
    cases hg : f == g with
    | true => exact ⟨fun x e => ⟨v, rfl, by cases e; exact a⟩, fun e => by cases e⟩
    | false => exact ⟨h1, h2⟩
theorem RepF.length : ∀ {ds : List (Str × D)} {vs : List (Str × V)}, RepF K G ds vs → vs.length = ds.length
  | _, _, .nil => rfl
  | _, _, .cons _ b => by rw [List.length_cons, List.length_cons, b.length]
/-- the store of a field -/
def putD (f : Str) (v : D) : List (Str × D) → List (Str × D)
  | [] => [(f, v)]
  | (g, x) :: r => if g = f then (g, v) :: r else (g, x) :: putD f v r
end
/-- a law's source of numbers -/
structure Src (l : List Int) : Prop where
  two : 2 ≤ l.length
  le : l.length ≤ 65
inductive Cell where
  | lst (ds : List D) | ins (C : Addr) (fs : List (Str × D)) | dK (kvs : List (Key × D)) | dT (kvs : List (List Key × D)) | src | tab (q : Str) | cel (c : Addr) (ob : Obj) (d : D)
abbrev Own := List (Addr × Cell)
/-- a table of code objects: all of one name -/
def TabOk (G : Hp) (q : Str) (ps : Array Value) : Prop := TriplesOk ps.toList ∧ ∀ (p : Pos) (cv : Value), codeAmong p ps.toList = some cv → ∃ c, cv = .ref c ∧ G c = some (LamX.CodeO c q)
theorem TabOk.mono {G G' : Hp} (e : Ex G G') {q : Str} {ps : Array Value} (h : TabOk G q ps) : TabOk G' q ps := ⟨h.1, fun p cv hc => let ⟨c, a, b⟩ := h.2 p cv hc; ⟨c, a, e _ _ b⟩⟩
def RepC (K : PySem.W.Frag) (G : Hp) : Cell → HO → Prop
  | .lst ds, .lst vs => RepL K G ds vs
  | .ins C fs, .ins C' _ vs => C = C' ∧ RepF K G fs vs
  | .dK ks, .dK vs => ks.map (·.1) = vs.map (·.1) ∧ RepL K G (ks.map (·.2)) (vs.map (·.2))
  | .dT ks, .dT vs => ks.map (·.1) = vs.map (·.1) ∧ RepL K G (ks.map (·.2)) (vs.map (·.2))
  | .src, .lst vs => ∃ l : List Int, Src l ∧ vs = l.map V.int
  | .tab q, .tbl ps => TabOk G q ps
  | .cel c ob d, .ext φ => ∃ (u : Value) (v : V), φ = (fun h => h.get? c = some ob) ∧ ob.data = .cell (some u) ∧ L2.RelV v u ∧ Rep K G d v
  | _, _ => False
theorem RepC.mono {K : PySem.W.Frag} {G G' : Hp} (e : Ex G G') : ∀ {c : Cell} {o : HO}, RepC K G c o → RepC K G' c o := fun {c o} h => by
  cases c <;> cases o <;> first | exact False.elim h | exact RepL.mono e h | exact TabOk.mono e h | exact h | exact ⟨h.1, RepF.mono e h.2⟩ | exact ⟨h.1, RepL.mono e h.2⟩ | exact (let ⟨u, v, h1, h2, h3, h4⟩ := h; ⟨u, v, h1, h2, h3, Rep.mono e h4⟩)
structure Sta (K : PySem.W.Frag) (G : Hp) (O : Own) (H : Hp) : Prop where
  sub : Ex G H
  nd : (O.map (·.1)).Nodup
  own : ∀ a c, (a, c) ∈ O → G a = none ∧ ∃ o, H a = some o ∧ RepC K G c o
/-- not there, or a tuple: what may be held for ever from now on -/
abbrev FrT (H : Hp) (a : Addr) : Prop := H a = none ∨ ∃ vs, H a = some (.tup vs)
structure Step (K : PySem.W.Frag) (G : Hp) (O : Own) (H : Hp) (G' : Hp) (O' : Own) (H' : Hp) : Prop where
  g : Ex G G'
  sta : Sta K G' O' H'
  fr : ∀ a o, H a = some o → a ∉ O.map (·.1) → H' a = some o
  gn : ∀ a, G a = none → G' a ≠ none → FrT H a ∨ a ∈ O.map (·.1)
  on : ∀ a, a ∈ O'.map (·.1) → a ∈ O.map (·.1) ∨ H a = none
theorem mem_own {O : Own} {a : Addr} (h : a ∈ O.map (·.1)) : ∃ c, (a, c) ∈ O := by
  obtain ⟨p, hp, e⟩ := List.mem_map.mp h
  exact ⟨p.2, by rw [← e]; exact hp⟩
theorem own_mem {O : Own} {a : Addr} {c : Cell} (h : (a, c) ∈ O) : a ∈ O.map (·.1) := List.mem_map.mpr ⟨_, h, rfl⟩
section
variable {K : PySem.W.Frag} {G G1 G2 H H1 H2 : Hp} {O O1 O2 : Own}
theorem Step.refl (s : Sta K G O H) : Step K G O H G O H := ⟨Ex.refl _, s, fun _ _ h _ => h, fun _ h n => absurd h n, fun _ h => .inl h⟩
theorem Step.trans (a : Step K G O H G1 O1 H1) (b : Step K G1 O1 H1 G2 O2 H2) : Step K G O H G2 O2 H2 where
  g := a.g.trans b.g
  sta := b.sta
  fr := fun x o h n => b.fr x o (a.fr x o h n) fun m => (a.on x m).elim n fun z => by rw [h] at z; cases z
  gn := fun x h n => by
    cases q : G1 x with
    | some o => exact a.gn x h (by rw [q]; exact fun z => nomatch z)
    | none =>
      rcases b.gn x q n with z | z
      · cases hx : H x with
        | none => exact .inl (.inl hx)
        | some o =>
          by_cases m : x ∈ O.map (·.1)
          · exact .inr m
          · have := a.fr x o hx m
            rcases z with z | ⟨vs, z⟩
            · rw [z] at this; cases this
            · rw [z] at this; cases this
              exact .inl (.inr ⟨vs, hx⟩)
      · exact (a.on x z).symm.imp .inl id
  on := fun x h => by
    rcases b.on x h with z | z
    · exact a.on x z
    · cases hx : H x with
      | none => exact .inr rfl
      | some o =>
        by_cases m : x ∈ O.map (·.1)
        · exact .inl m
        · have := a.fr x o hx m
          rw [z] at this; cases this
/-- a new frozen object -/
theorem Step.new (s : Sta K G O H) {p : Addr} {o : HO} (h : H p = none) : Step K G O H (upd G p o) O (upd H p o) := by
  have gp : G p = none := by
    cases q : G p with
    | none => rfl
    | some u => rw [s.sub p u q] at h; cases h
  have op : ∀ a c, (a, c) ∈ O → a ≠ p := fun a c m z => by
    obtain ⟨_, o, ho, _⟩ := s.own a c m
    rw [z, h] at ho; cases ho
  refine ⟨Ex.new gp, ⟨fun a u e => ?_, s.nd, fun a c m => ?_⟩, fun a u e _ => ?_, fun a n q => ?_, fun a m => .inl m⟩
  · by_cases ha : a = p
    · subst ha; rw [upd_same] at e ⊢; exact e
    · rw [upd_ne ha] at e ⊢; exact s.sub a u e
  · obtain ⟨h1, o', h2, h3⟩ := s.own a c m
    rw [upd_ne (op a c m), upd_ne (op a c m)]
    exact ⟨h1, o', h2, h3.mono (Ex.new gp)⟩
  · rw [upd_ne (ne_of_none e h)]; exact e
  · by_cases ha : a = p
    · exact .inl (.inl (ha ▸ h))
    · rw [upd_ne ha] at q; exact absurd n q
/-- a new owned cell -/
theorem Step.newO (s : Sta K G O H) {p : Addr} {o : HO} {c : Cell} (h : H p = none) (r : RepC K G c o) : Step K G O H G ((p, c) :: O) (upd H p o) := by
  have gp : G p = none := by
    cases q : G p with
    | none => rfl
    | some u => rw [s.sub p u q] at h; cases h
  have op : ∀ a c, (a, c) ∈ O → a ≠ p := fun a c m z => by
    obtain ⟨_, o, ho, _⟩ := s.own a c m
    rw [z, h] at ho; cases ho
  refine ⟨Ex.refl _, ⟨fun a u e => ?_, ?_, fun a c' m => ?_⟩, fun a u e _ => ?_, fun a n q => absurd n q, fun a m => ?_⟩
  · rw [upd_ne (ne_of_none e gp)]; exact s.sub a u e
  · rw [List.map_cons, List.nodup_cons]
    refine ⟨fun m => ?_, s.nd⟩
    obtain ⟨c', hc⟩ := mem_own m
    exact op p c' hc rfl
  · rcases List.mem_cons.mp m with e | m
    · cases e
      exact ⟨gp, o, upd_same, r⟩
    · rw [upd_ne (op a c' m)]
      exact s.own a c' m
  · rw [upd_ne (ne_of_none e h)]; exact e
  · rw [List.map_cons] at m
    rcases List.mem_cons.mp m with e | m
    · exact .inr (e ▸ h)
    · exact .inl m
end
/-- the cell at a, and what the cells are with another one there -/
inductive At (a : Addr) (c : Cell) : Own → Prop
  | head {O : Own} : At a c ((a, c) :: O)
  | tail {p : Addr × Cell} {O : Own} : At a c O → At a c (p :: O)
inductive Put (a : Addr) (c : Cell) : Own → Own → Prop
  | head {c' : Cell} {O : Own} : Put a c ((a, c') :: O) ((a, c) :: O)
  | tail {p : Addr × Cell} {O O' : Own} : Put a c O O' → Put a c (p :: O) (p :: O')
inductive Del (a : Addr) : Own → Own → Prop
  | head {c' : Cell} {O : Own} : Del a ((a, c') :: O) O
  | tail {p : Addr × Cell} {O O' : Own} : Del a O O' → Del a (p :: O) (p :: O')
section
variable {a : Addr} {c : Cell} {O O' : Own}
theorem At.mem (h : At a c O) : (a, c) ∈ O := by
  induction h with
  | head => exact List.mem_cons_self
  | tail _ ih => exact List.mem_cons_of_mem _ ih
theorem Put.keys (h : Put a c O O') : O'.map (·.1) = O.map (·.1) := by
  induction h with
  | head => rfl
  | tail _ ih => rw [List.map_cons, List.map_cons, ih]
theorem Put.mem (h : Put a c O O') : ∀ b c', (b, c') ∈ O' → (b = a ∧ c' = c) ∨ (b, c') ∈ O := by
  induction h with
  | head => exact fun b c' m => (List.mem_cons.mp m).elim (fun e => .inl (by cases e; exact ⟨rfl, rfl⟩)) fun m => .inr (List.mem_cons_of_mem _ m)
  | tail _ ih => exact fun b c' m => (List.mem_cons.mp m).elim (fun e => .inr (e ▸ List.mem_cons_self)) fun m => (ih b c' m).imp id (List.mem_cons_of_mem _)
theorem Put.at_ (h : Put a c O O') : (a, c) ∈ O' ∧ a ∈ O.map (·.1) := by
  induction h with
  | head => exact ⟨List.mem_cons_self, List.mem_cons_self⟩
  | tail _ ih => exact ⟨List.mem_cons_of_mem _ ih.1, List.mem_cons_of_mem _ ih.2⟩
theorem nodup_key : ∀ {O : Own}, (O.map (·.1)).Nodup → ∀ {c c' : Cell}, (a, c) ∈ O → (a, c') ∈ O → c = c'
  | [], _, _, _, h, _ => nomatch h
  | p :: O, nd, c, c', h, h' => by
    rw [List.map_cons, List.nodup_cons] at nd
    rcases List.mem_cons.mp h with e | h
    · rcases List.mem_cons.mp h' with e' | h'
      · rw [← e] at e'; cases e'; rfl
      · exact absurd (own_mem h') (by have := nd.1; rw [← e] at this; exact this)
    · rcases List.mem_cons.mp h' with e' | h'
      · exact absurd (own_mem h) (by have := nd.1; rw [← e'] at this; exact this)
      · exact nodup_key nd.2 h h'
theorem Del.sub (h : Del a O O') : ∀ p, p ∈ O' → p ∈ O := by
  induction h with
  | head => exact fun p m => List.mem_cons_of_mem _ m
  | tail _ ih => exact fun p m => (List.mem_cons.mp m).elim (fun e => e ▸ List.mem_cons_self) fun m => List.mem_cons_of_mem _ (ih p m)
theorem Del.sublist (h : Del a O O') : O'.Sublist O := by
  induction h with
  | head => exact List.sublist_cons_self _ _
  | tail _ ih => exact ih.cons_cons _
theorem Del.no (h : Del a O O') (nd : (O.map (·.1)).Nodup) : a ∉ O'.map (·.1) := by
  induction h with
  | head => rw [List.map_cons, List.nodup_cons] at nd; exact nd.1
  | @tail p O O' d ih =>
    rw [List.map_cons, List.nodup_cons] at nd
    intro m
    rw [List.map_cons] at m
    rcases List.mem_cons.mp m with e | m
    · refine nd.1 ?_
      rw [← e]
      have : ∀ {O O' : Own}, Del a O O' → a ∈ O.map (·.1) := fun {O O'} h => by
        induction h with
        | head => exact List.mem_cons_self
        | tail _ ih => exact List.mem_cons_of_mem _ ih
      exact this d
    · exact ih nd.2 m
end
section
variable {K : PySem.W.Frag} {G H : Hp} {O O' : Own} {a : Addr} {c : Cell} {o : HO}
theorem Sta.at_ (s : Sta K G O H) (h : At a c O) : G a = none ∧ ∃ o, H a = some o ∧ RepC K G c o := s.own a c h.mem
/-- a cell is written -/
theorem Step.put (s : Sta K G O H) (h : Put a c O O') (r : RepC K G c o) : Step K G O H G O' (upd H a o) := by
  have ga : G a = none := by
    obtain ⟨c', m⟩ := mem_own h.at_.2
    exact (s.own a c' m).1
  have nd' : (O'.map (·.1)).Nodup := by rw [h.keys]; exact s.nd
  refine ⟨Ex.refl _, ⟨fun b u e => ?_, nd', fun b c' m => ?_⟩, fun b u e n => ?_, fun b n q => absurd n q, fun b m => .inl (by rw [← h.keys]; exact m)⟩
  · rw [upd_ne (ne_of_none e ga)]; exact s.sub b u e
  · by_cases hb : b = a
    · subst hb
      obtain rfl : c' = c := nodup_key nd' m h.at_.1
      exact ⟨ga, o, upd_same, r⟩
    · rw [upd_ne hb]
      rcases h.mem b c' m with z | z
      · exact absurd z.1 hb
      · exact s.own b c' z
  · rw [upd_ne (fun z => n (by rw [z]; exact h.at_.2))]; exact e
/-- a cell is frozen -/
theorem Step.freeze (s : Sta K G O H) (h : At a c O) (d : Del a O O') {o : HO} (ho : H a = some o) : Step K G O H (upd G a o) O' H ∧ RepC K (upd G a o) c o := by
  obtain ⟨ga, o', ho', r⟩ := s.at_ h
  rw [ho] at ho'; cases ho'
  have e : Ex G (upd G a o) := Ex.new ga
  refine ⟨⟨e, ⟨fun b u q => ?_, s.nd.sublist (d.sublist.map _), fun b c' m => ?_⟩, fun b u q _ => q, fun b n q => ?_, fun b m => .inl ?_⟩, r.mono e⟩
  · by_cases hb : b = a
    · subst hb; rw [upd_same] at q; cases q; exact ho
    · rw [upd_ne hb] at q; exact s.sub b u q
  · have nb : b ≠ a := fun z => by
      subst z
      exact d.no s.nd (own_mem m)
    obtain ⟨h1, o', h2, h3⟩ := s.own b c' (d.sub _ m)
    rw [upd_ne nb]
    exact ⟨h1, o', h2, h3.mono e⟩
  · by_cases hb : b = a
    · exact .inr (hb ▸ own_mem h.mem)
    · rw [upd_ne hb] at q; exact absurd n q
  · exact (d.sublist.map _).subset m
end
abbrev DEnv := List (Option D)
def REnv (K : PySem.W.Frag) (G : Hp) (δ : DEnv) (σ : L2.St) : Prop := δ.length = σ.length ∧ ∀ (i : Nat) (d : D), δ[i]? = some (some d) → ∃ v, σ[i]? = some (some v) ∧ Rep K G d v
section
variable {K : PySem.W.Frag} {G G' : Hp} {δ : DEnv} {σ : L2.St}
theorem REnv.mono (e : Ex G G') (h : REnv K G δ σ) : REnv K G' δ σ := ⟨h.1, fun i d q => let ⟨v, a, b⟩ := h.2 i d q; ⟨v, a, b.mono e⟩⟩
theorem REnv.set (h : REnv K G δ σ) (i : Nat) {d : D} {v : V} (r : Rep K G d v) : REnv K G (δ.set i (some d)) (σ.set i (some v)) := by
  refine ⟨by simpa using h.1, fun j x e => ?_⟩
  by_cases hj : j = i
  · subst hj
    have hl : j < δ.length := by
      rcases Nat.lt_or_ge j δ.length with z | z
      · exact z
      · rw [List.getElem?_eq_none (by simpa using z)] at e; cases e
    rw [List.getElem?_set_self hl] at e
    cases e
    exact ⟨v, by rw [List.getElem?_set_self (by rw [← h.1]; exact hl)], r⟩
  · rw [List.getElem?_set_ne (Ne.symm hj)] at e
    obtain ⟨u, a, b⟩ := h.2 j x e
    exact ⟨u, by rw [List.getElem?_set_ne (Ne.symm hj)]; exact a, b⟩
end
structure XD where
  C : Addr
  fs : List (Str × D)
def XRep (K : PySem.W.Frag) (G : Hp) (x : XD) (cls : Value) (d : Option Addr) : Prop :=
  cls = .ref x.C ∧ ((x.fs = [] ∧ d = none) ∨ ∃ dd vs, d = some dd ∧ G dd = some (.xd vs) ∧ RepF K G x.fs vs)
theorem sky_imp {B : Heap} {l : List Env} {a L : Addr} {Z Z' : Obj → Prop} {h : Heap} (z : ∀ o, Z o → Z' o) (x : Sky B l a Z L h) : Sky B l a Z' L h := by
  rcases x with ⟨h1, h2, h3, oe, vs, h4, h5, h6, h7⟩ | x | ⟨h1, h2, h3, h4⟩
  · exact .inl ⟨h1, h2, h3, oe, vs, h4, z _ h5, h6, h7⟩
  · exact .inr (.inl (L2H.flyingZ_imp z x))
  · exact .inr (.inr ⟨h1, h2, h3, L2H.tracedZ_imp z h4⟩)
theorem xe_old {X : Cx} {W : WX} {u : Value} {s' : Shared} (x : L2N.XE X W u s') : L2.XE X W u s' := by
  obtain ⟨a, B, sI, pins, σ, H, cls, d, e, I, nb, up, sky, r⟩ := x
  exact ⟨a, B, sI, pins, σ, H, cls, d, e, I, nb, up, sky_imp (fun _ h => h.zc) sky, r⟩
/-- who takes any exception takes those whose context is None -/
theorem toN {X : Cx} {W : WX} (t : L2.Takes X W) : L2N.Takes X W := fun u s' x => t u s' (xe_old x)
theorem takes0 {X : Cx} : L2N.Takes X (fun _ _ _ _ => False) := toN LamX.takes0
section
variable {X : Cx}
def sem (X : Cx) (e : Expr) : TE := fun σ H Q => ∀ (pins : List (Addr × Obj)) (s : Shared), Inv X pins σ H s → wpAny (model X.prog X.w) X.A (eval e X.env) (EP X pins σ Q) X.xe s
def semT (X : Cx) (e : Expr) : TT := fun σ H Q => ∀ (pins : List (Addr × Obj)) (s : Shared), Inv X pins σ H s → wpAny (model X.prog X.w) X.A (isTrue e X.env (eval e X.env)) (TP X pins σ Q) X.xe s
def semW (X : Cx) (e : Expr) : TT := fun σ H Q => ∀ (whole : Sem Value) (pins : List (Addr × Obj)) (s : Shared), Inv X pins σ H s → wpAny (model X.prog X.w) X.A (isTrue e X.env whole) (TP X pins σ Q) X.xe s
def semA (X : Cx) (es : List Expr) : TA := fun σ H Q => ∀ (pos : Pos) (pins : List (Addr × Obj)) (s : Shared), Inv X pins σ H s → wpAny (model X.prog X.w) X.A (spliced (backTo pos (starEach es X.env))) (AP X pins σ Q) X.xe s
def semS (X : Cx) (st : Stmt) : TS := fun D σ H => ∀ (pins : List (Addr × Obj)) (s : Shared), Inv X pins σ H s → wpAny (model X.prog X.w) X.A (exec st X.env) (SP X pins D) X.xe s
def semSs (X : Cx) (st : List Stmt) : TS := fun D σ H => ∀ (pins : List (Addr × Obj)) (s : Shared), Inv X pins σ H s → wpAny (model X.prog X.w) X.A (execs st X.env) (SP X pins D) X.xe s
theorem pe_sem {e : Expr} : PE X e (sem X e) := ⟨fun pins s _ _ _ I h => h pins s I⟩
theorem pt_sem {e : Expr} : PT X e (semT X e) := ⟨fun pins s _ _ _ I h => h pins s I⟩
theorem pw_sem {e : Expr} : PW X e (semW X e) := ⟨fun wh pins s _ _ _ I h => h wh pins s I⟩
theorem pa_sem {es : List Expr} : PA X es (semA X es) := ⟨fun pos pins s _ _ _ I h => h pos pins s I⟩
theorem ps_sem {st : Stmt} : PS X st (semS X st) := ⟨fun pins s _ _ _ I h => h pins s I⟩
theorem pss_sem {st : List Stmt} : PSs X st (semSs X st) := ⟨fun pins s _ _ _ I h => h pins s I⟩
abbrev TR (β : Type) := L2.St → Hp → (β → Hp → Prop) → Prop
/-- from every state that bears δ and O (and P): t ends so that Q holds of what is told (and E of an exception) -/
def M {α β : Type} (X : Cx) (P : Hp → Prop) (R : Hp → α → β → Prop) (t : TR β) (δ : DEnv) (O : Own) (E : XD → Own → Prop) (Q : α → Own → Prop) : Prop :=
  ∀ (W : WX), L2N.Takes X W → ∀ (G : Hp) (σ : L2.St) (H : Hp) (Q' : β → Hp → Prop), P G → REnv X.K G δ σ → Sta X.K G O H →
    (∀ G' H' O' x c dd, Step X.K G O H G' O' H' → XRep X.K G' x c dd → E x O' → W c dd σ H') →
    (∀ G' H' O' a b, Step X.K G O H G' O' H' → R G' a b → Q a O' → Q' b H') → t σ H Q'
abbrev PT0 : Hp → Prop := fun _ => True
abbrev REq {α : Type} : Hp → α → α → Prop := fun _ a b => a = b
def DE (X : Cx) (e : Expr) (δ : DEnv) (O : Own) (E : XD → Own → Prop) (Q : D → Own → Prop) : Prop := M X PT0 (Rep X.K) (sem X e) δ O E Q
def DT (X : Cx) (e : Expr) (δ : DEnv) (O : Own) (E : XD → Own → Prop) (Q : Bool → Own → Prop) : Prop := M X PT0 REq (semT X e) δ O E Q
def DW (X : Cx) (e : Expr) (δ : DEnv) (O : Own) (E : XD → Own → Prop) (Q : Bool → Own → Prop) : Prop := M X PT0 REq (semW X e) δ O E Q
def DA (X : Cx) (es : List Expr) (δ : DEnv) (O : Own) (E : XD → Own → Prop) (Q : List D → Own → Prop) : Prop := M X PT0 (RepL X.K) (semA X es) δ O E Q
def Mono (P : Hp → Prop) : Prop := ∀ G G', Ex G G' → P G → P G'
theorem mono0 : Mono PT0 := fun _ _ _ h => h
theorem mono_rep {K : PySem.W.Frag} {d : D} {v : V} : Mono (fun G => Rep K G d v) := fun _ _ e h => h.mono e
theorem Mono.and {P P' : Hp → Prop} (a : Mono P) (b : Mono P') : Mono (fun G => P G ∧ P' G) := fun G G' e h => ⟨a G G' e h.1, b G G' e h.2⟩
section
variable {α β γ ζ : Type} {P P' : Hp → Prop} {R : Hp → α → β → Prop} {R2 : Hp → γ → ζ → Prop} {t : TR β} {δ : DEnv} {O : Own} {E : XD → Own → Prop} {Q Q2 : α → Own → Prop}
theorem M.weak (h : M X P' R t δ O E Q) (w : ∀ G, P G → P' G) : M X P R t δ O E Q := fun W tk G σ H Q' p => h W tk G σ H Q' (w G p)
theorem M.imp (h : M X P R t δ O E Q) (w : ∀ a O', Q a O' → Q2 a O') : M X P R t δ O E Q2 := fun W tk G σ H Q' p r s hE hQ =>
  h W tk G σ H Q' p r s hE fun G' H' O' a b st ra q => hQ G' H' O' a b st ra (w a O' q)
theorem M.bind {t2 : β → TR ζ} {Qz : γ → Own → Prop} (mp : Mono P) (h : M X P R t δ O E Q) (k : ∀ a O1 b, Q a O1 → M X (fun G => P G ∧ R G a b) R2 (t2 b) δ O1 E Qz) : M X P R2 (fun σ H K => t σ H fun b H1 => t2 b σ H1 K) δ O E Qz :=
  fun W tk G σ H Q' p r s hE hQ => h W tk G σ H _ p r s hE fun G1 H1 O1 a b st ra q =>
    k a O1 b q W tk G1 σ H1 Q' ⟨mp _ _ st.g p, ra⟩ (r.mono st.g) st.sta (fun G' H' O' x c dd st2 => hE G' H' O' x c dd (st.trans st2)) fun G' H' O' a' b' st2 => hQ G' H' O' a' b' (st.trans st2)
/-- nothing is done -/
theorem M.pure {a : α} {b : β} (hr : ∀ G, P G → R G a b) (q : Q a O) : M X P R (fun _ H K => K b H) δ O E Q := fun W tk G σ H Q' p r s hE hQ => hQ G H O a b (Step.refl s) (hr G p) q
theorem de_of {e : Expr} {t : TE} {Q : D → Own → Prop} (hp : PE X e t) (h : M X PT0 (Rep X.K) t δ O E Q) : DE X e δ O E Q := fun W tk G σ H Q' p r s hE hQ pins s' I => hp.run pins s' σ H Q' I (h W tk G σ H Q' p r s hE hQ)
theorem dt_of {e : Expr} {t : TT} {Q : Bool → Own → Prop} (hp : PT X e t) (h : M X PT0 REq t δ O E Q) : DT X e δ O E Q := fun W tk G σ H Q' p r s hE hQ pins s' I => hp.run pins s' σ H Q' I (h W tk G σ H Q' p r s hE hQ)
theorem dw_of {e : Expr} {t : TT} {Q : Bool → Own → Prop} (hp : PW X e t) (h : M X PT0 REq t δ O E Q) : DW X e δ O E Q := fun W tk G σ H Q' p r s hE hQ wh pins s' I => hp.run wh pins s' σ H Q' I (h W tk G σ H Q' p r s hE hQ)
theorem da_of {es : List Expr} {t : TA} {Q : List D → Own → Prop} (hp : PA X es t) (h : M X PT0 (RepL X.K) t δ O E Q) : DA X es δ O E Q := fun W tk G σ H Q' p r s hE hQ pos pins s' I => hp.run pos pins s' σ H Q' I (h W tk G σ H Q' p r s hE hQ)
end
end
end DL
end
section
set_option maxRecDepth 100000
set_option maxHeartbeats 4000000
set_option autoImplicit false
namespace DL
open PySem PySem.Spec PyProof.Rows L2
inductive Ix {α : Type} (x : α) : List α → Nat → Prop
  | head {l : List α} : Ix x (x :: l) 0
  | tail {y : α} {l : List α} {n : Nat} : Ix x l n → Ix x (y :: l) (n + 1)
theorem Ix.get {α : Type} {x : α} {l : List α} {n : Nat} (h : Ix x l n) : l[n]? = some x := by
  induction h with
  | head => rfl
  | tail _ ih => simpa using ih
/-- slot i holds d -/
inductive Sl : DEnv → Nat → D → Prop
  | head {d : D} {l : DEnv} : Sl (some d :: l) 0 d
  | tail {y : Option D} {l : DEnv} {n : Nat} {d : D} : Sl l n d → Sl (y :: l) (n + 1) d
theorem Sl.get {l : DEnv} {n : Nat} {d : D} (h : Sl l n d) : l[n]? = some (some d) := by
  induction h with
  | head => rfl
  | tail _ ih => simpa using ih
inductive SetD (d : D) : DEnv → Nat → DEnv → Prop
  | head {y : Option D} {l : DEnv} : SetD d (y :: l) 0 (some d :: l)
  | tail {y : Option D} {l l' : DEnv} {n : Nat} : SetD d l n l' → SetD d (y :: l) (n + 1) (y :: l')
theorem SetD.eq {d : D} {l l' : DEnv} {n : Nat} (h : SetD d l n l') : l' = l.set n (some d) := by
  induction h with
  | head => rfl
  | tail _ ih => rw [ih]; rfl
/-- a name stands in a scope, found by its letters alone -/
inductive Nk (x : Str) (k : NameKind) : List (Str × NameKind) → Prop
  | head {l : List (Str × NameKind)} : Nk x k ((x, k) :: l)
  | tail {p : Str × NameKind} {l : List (Str × NameKind)} : Nk x k l → Nk x k (p :: l)
theorem Nk.mem {x : Str} {k : NameKind} {l : List (Str × NameKind)} (h : Nk x k l) : (x, k) ∈ l := by
  induction h with
  | head => exact List.mem_cons_self
  | tail _ ih => exact List.mem_cons_of_mem _ ih
inductive LkV (x : Str) : List (Str × NameKind) → Prop
  | l {l : List (Str × NameKind)} : LkV x ((x, .local) :: l)
  | c {l : List (Str × NameKind)} : LkV x ((x, .cell) :: l)
  | f {l : List (Str × NameKind)} : LkV x ((x, .free) :: l)
  | tail {p : Str × NameKind} {l : List (Str × NameKind)} : LkV x l → LkV x (p :: l)
theorem LkV.mem {x : Str} {l : List (Str × NameKind)} (h : LkV x l) : (x, .local) ∈ l ∨ (x, .cell) ∈ l ∨ (x, .free) ∈ l := by
  induction h with
  | l => exact .inl List.mem_cons_self
  | c => exact .inr (.inl List.mem_cons_self)
  | f => exact .inr (.inr List.mem_cons_self)
  | tail _ ih => rcases ih with h | h | h
                 · exact .inl (List.mem_cons_of_mem _ h)
                 · exact .inr (.inl (List.mem_cons_of_mem _ h))
                 · exact .inr (.inr (List.mem_cons_of_mem _ h))
/-- a scope names each name once, and none of the model's own names -/
def nmOk (sc : Scope) : Bool := sc.names.all fun y => decide (sc.names.lookup y.1 = some y.2) && !(y.1 == ("__debug__" : Str)) && decide (y.1 ≠ "__name__") && !(y.1 == ("__classdict__" : Str))
theorem nmOk.at {sc : Scope} (h : nmOk sc = true) {x : Str} {k : NameKind} (m : (x, k) ∈ sc.names) : sc.names.lookup x = some k ∧ (x == ("__debug__" : Str)) = false ∧ x ≠ "__name__" ∧ (x == ("__classdict__" : Str)) = false := by
  have h1 := List.all_eq_true.1 h _ m
  simp only [Bool.and_eq_true, decide_eq_true_eq, Bool.not_eq_true'] at h1
  exact ⟨h1.1.1.1, h1.1.1.2, h1.1.2, h1.2⟩
structure FnS (N P : List Str) (sc : Scope) : Prop extends FnScope N P sc where
  nm : nmOk sc = true
/-- what a body (a def's, a block's) knows of its context -/
structure Sc (X : Cx) (N : List Str) (sc : Scope) : Prop where
  nm : nmOk sc = true
  hn : X.N = N
  hsc : X.env.scope = sc
  nd : N.Nodup
  calm : X.calm = true
section
variable {X : Cx} {N : List Str} {sc : Scope}
theorem Sc.ix (S : Sc X N sc) {x : Str} {i : Nat} (h : Ix x N i) : X.N[i]? = some x := by rw [S.hn]; exact h.get
theorem Sc.vi (S : Sc X N sc) {x : Str} (h : LkV x sc.names) : Vis X.env.scope x := by
  rw [S.hsc]
  rcases h.mem with m | m | m
  · exact .inl (nmOk.at S.nm m).1
  · exact .inr (.inl (nmOk.at S.nm m).1)
  · exact .inr (.inr (nmOk.at S.nm m).1)
theorem Sc.vb (S : Sc X N sc) {x : Str} (h : LkV x sc.names) : (x == ("__debug__" : Str)) = false ∧ (x == ("__classdict__" : Str)) = false := by
  rcases h.mem with m | m | m <;> exact ⟨(nmOk.at S.nm m).2.1, (nmOk.at S.nm m).2.2.2⟩
theorem Sc.lo (S : Sc X N sc) {x : Str} (h : Nk x .local sc.names) : X.env.scope.names.lookup x = some .local := by rw [S.hsc]; exact (nmOk.at S.nm h.mem).1
theorem Sc.ce (S : Sc X N sc) {x : Str} (h : Nk x .cell sc.names) : X.env.scope.names.lookup x = some .cell := by rw [S.hsc]; exact (nmOk.at S.nm h.mem).1
theorem Sc.gl (S : Sc X N sc) {x : Str} (h : Nk x .globalImplicit sc.names) : Gl X x := by
  show X.env.scope.names.lookup x = _
  rw [S.hsc]; exact (nmOk.at S.nm h.mem).1
theorem Sc.dbg (S : Sc X N sc) {x : Str} {k : NameKind} (h : Nk x k sc.names) : (x == ("__debug__" : Str)) = false := (nmOk.at S.nm h.mem).2.1
theorem Sc.nme (S : Sc X N sc) {x : Str} {k : NameKind} (h : Nk x k sc.names) : x ≠ "__name__" := (nmOk.at S.nm h.mem).2.2.1
theorem Sc.hN (S : Sc X N sc) : X.N.Nodup := by rw [S.hn]; exact S.nd
end
section
variable {X : Cx} {N : List Str} {sc : Scope} {δ : DEnv} {O : Own} {E : XD → Own → Prop} {Q : D → Own → Prop} {QT : Bool → Own → Prop} {QA : List D → Own → Prop}
theorem de_name {x : Str} {pos : Pos} {i : Nat} {d : D} (S : Sc X N sc) (hi : Ix x N i) (hd : Sl δ i d) (q : Q d O) (hv : LkV x sc.names := by (repeat (with_reducible constructor))) : DE X (.Name x pos) δ O E Q :=
  de_of (pe_var (S.ix hi) (S.vi hv) (S.vb hv).1 (S.vb hv).2) fun W tk G σ H Q' p r s hE hQ => by
    obtain ⟨v, e, rv⟩ := r.2 i d hd.get
    exact ⟨v, e, hQ G H O d v (Step.refl s) rv q⟩
theorem de_const {e : Expr} {d : D} {v : V} (hp : PE X e (tC v)) (rv : ∀ G, Rep X.K G d v) (q : Q d O) : DE X e δ O E Q := de_of hp (M.pure (fun G _ => rv G) q)
theorem de_int {i : Int} {j : Nat} {pos : Pos} (q : Q (.int i) O) : DE X (.Constant (.int i) j pos) δ O E Q := de_const pe_int (fun _ => .int i) q
theorem de_bl {b : Bool} {j : Nat} {pos : Pos} (q : Q (.bl b) O) : DE X (.Constant (.bool b) j pos) δ O E Q := de_const pe_bl (fun _ => .bl b) q
theorem de_non {j : Nat} {pos : Pos} (q : Q .non O) : DE X (.Constant .none j pos) δ O E Q := de_const pe_non (fun _ => .non) q
theorem de_str {x : Str} {j : Nat} {pos : Pos} (q : Q (.str x) O) : DE X (.Constant (.str x) j pos) δ O E Q := de_const pe_str (fun _ => .str x) q
/-- a global name of the module -/
theorem de_glob {x : Str} {pos : Pos} {u : Value} {v : V} {d : D} (S : Sc X N sc) (hm : X.mg x = some u) (r : RelV v u) (rd : ∀ G, Rep X.K G d v) (q : Q d O) (hg : Nk x .globalImplicit sc.names := by (repeat (with_reducible constructor))) :
    DE X (.Name x pos) δ O E Q := de_const (pe_glob (S.gl hg) hm r (S.dbg hg)) rd q
def semB (X : Cx) (f : Value → Value → Sem Value) (x y : V) : TE := fun σ H Q => ∀ (pins : List (Addr × Obj)) (s : Shared) (v u : Value), Inv X pins σ H s → RelV x v → RelV y u → wpAny (model X.prog X.w) X.A (f v u) (EP X pins σ Q) X.xe s
def DB (X : Cx) (f : Value → Value → Sem Value) (x y : D) (δ : DEnv) (O : Own) (E : XD → Own → Prop) (Q : D → Own → Prop) : Prop :=
  ∀ v u, M X (fun G => Rep X.K G x v ∧ Rep X.K G y u) (Rep X.K) (semB X f v u) δ O E Q
variable {f : Value → Value → Sem Value}
theorem db_of {x y : D} {r : R2} (ho : OpR X f r) (h : ∀ v u, M X (fun G => Rep X.K G x v ∧ Rep X.K G y u) (Rep X.K) (fun _ H K => r v u H K) δ O E Q) : DB X f x y δ O E Q :=
  fun v u W tk G σ H Q' p r s hE hQ pins s' xv yv I rx ry => ho pins s' σ H v u xv yv Q' I rx ry (h v u W tk G σ H Q' p r s hE hQ)
/-- two expressions, then an operation on their values -/
theorem m_two {α β : Type} {R : Hp → α → β → Prop} {a b : Expr} {t : V → V → TR β} {Qa : α → Own → Prop}
    (h : DE X a δ O E fun x O1 => DE X b δ O1 E fun y O2 => ∀ v u, M X (fun G => Rep X.K G x v ∧ Rep X.K G y u) R (t v u) δ O2 E Qa) :
    M X PT0 R (fun σ H K => sem X a σ H fun v H1 => sem X b σ H1 fun u H2 => t v u σ H2 K) δ O E Qa :=
  M.bind mono0 h fun x O1 v h1 => M.weak (P' := fun G => True ∧ Rep X.K G x v) (M.bind (Mono.and mono0 mono_rep) (M.weak h1 fun _ _ => trivial) fun y O2 u h2 => M.weak (h2 v u) fun G p => ⟨p.1.2, p.2⟩) fun _ p => p
theorem de_bin {op : Operator} {a b : Expr} {pos : Pos} (h : DE X a δ O E fun x O1 => DE X b δ O1 E fun y O2 => DB X (binaryOp op) x y δ O2 E Q) : DE X (.BinOp a op b pos) δ O E Q :=
  de_of (t := fun σ H K => sem X a σ H fun v H1 => sem X b σ H1 fun u H2 => semB X (binaryOp op) v u σ H2 K) ⟨fun pins s σ H Q I h => wpAny_BinOp (bin pe_sem pe_sem I h fun v u s2 x y H2 I2 rx ry q => q pins s2 v u I2 rx ry)⟩ (m_two h)
theorem de_cmp {op : CmpOp} {a b : Expr} {pos : Pos} (h : DE X a δ O E fun x O1 => DE X b δ O1 E fun y O2 => DB X (compareOp op) x y δ O2 E Q) (hm : behindInMarks op b = false := by with_unfolding_all rfl) : DE X (.Compare a [op] [b] pos) δ O E Q :=
  de_of (t := fun σ H K => sem X a σ H fun v H1 => sem X b σ H1 fun u H2 => semB X (compareOp op) v u σ H2 K) ⟨fun pins s σ H Q I h => wpAny_Compare1 (bin pe_sem pe_sem I h fun v u s2 x y H2 I2 rx ry q => q pins s2 v u I2 rx ry) hm⟩ (m_two h)
/-- a value that is a bool, as a test's answer -/
theorem m_bool {P : Hp → Prop} {t : TE} (h : M X P (Rep X.K) t δ O E fun d O1 => ∃ k, d = .bl k ∧ QT k O1) : M X P REq (fun σ H K => t σ H fun z H3 => ∃ k, z = .bl k ∧ K k H3) δ O E QT :=
  fun W tk G σ H Q' p r s hE hQ => h W tk G σ H _ p r s hE fun G' H' O' d v st rd ⟨k, e, q⟩ => by
    subst e
    cases rd
    exact ⟨k, rfl, hQ G' H' O' k k st rfl q⟩
/-- a comparison as a test -/
theorem dt_cmp {op : CmpOp} {a b : Expr} {pos : Pos} (h : DE X a δ O E fun x O1 => DE X b δ O1 E fun y O2 => DB X (compareOp op) x y δ O2 E fun d O3 => ∃ k, d = .bl k ∧ QT k O3) (hm : behindInMarks op b = false := by with_unfolding_all rfl) : DT X (.Compare a [op] [b] pos) δ O E QT := by
  refine dt_of (t := fun σ H K => (fun σ H K => sem X a σ H fun v H1 => sem X b σ H1 fun u H2 => semB X (compareOp op) v u σ H2 K : TE) σ H fun z H3 => ∃ k, z = .bl k ∧ K k H3) ⟨fun pins s σ H K I hw => ?_⟩ (m_bool (m_two h))
  refine wpAny_isTrue_Compare1 (thn (hw pins s I) fun v s1 ⟨x, H1, I1, r1, q1⟩ => thn (q1 pins s1 I1) fun u s2 ⟨y, H2, I2, r2, q2⟩ => thn (q2 pins s2 v u I2 r1 r2) fun c s3 ⟨z, H3, I3, r3, k, e, q3⟩ => ?_) hm
  subst e
  cases r3
  exact wpAny_truthy_bool ⟨H3, I3, q3⟩
/-- an expression whose value is a bool, as a test -/
theorem dt_val {e : Expr} (h : DE X e δ O E fun d O1 => ∃ k, d = .bl k ∧ QT k O1) (he : ∀ whole, isTrue e X.env whole = (do let v ← whole; standAt e.pos; holding [v] (truthy v)) := by intro _; with_unfolding_all rfl) : DT X e δ O E QT :=
  dt_of (pt_val pe_sem he) (m_bool h)
theorem dw_one {op : BoolOp} {a : Expr} {pos : Pos} (h : DT X a δ O E QT) : DW X (.BoolOp op [a] pos) δ O E QT := by
  cases op
  · exact dw_of (pw_and1 pt_sem) h
  · exact dw_of (pw_or1 pt_sem) h
theorem dt_w {e : Expr} (h : DW X e δ O E QT) : DT X e δ O E QT := dt_of pw_sem.pt h
theorem dw_and {a b : Expr} {rest : List Expr} {pos : Pos} (h : DT X a δ O E fun k O1 => (k = true → DW X (.BoolOp .And (b :: rest) pos) δ O1 E QT) ∧ (k = false → QT false O1)) : DW X (.BoolOp .And (a :: b :: rest) pos) δ O E QT :=
  dw_of (pw_and pt_sem pw_sem) (M.bind (t := semT X a) (t2 := fun k' σ H K => if k' = true then semW X (.BoolOp .And (b :: rest) pos) σ H K else K false H) mono0 h fun k O1 k' ⟨h1, h2⟩ => by
    cases k with
    | true => exact M.weak (P' := fun G => k' = true) (fun W tk G σ H Q' p => by subst p; exact h1 rfl W tk G σ H Q' trivial) fun _ p => p.2.symm
    | false => exact M.weak (P' := fun G => k' = false) (fun W tk G σ H Q' p r s hE hQ => by subst p; exact hQ G H O1 false false (Step.refl s) rfl (h2 rfl)) fun _ p => p.2.symm)
theorem dw_or {a b : Expr} {rest : List Expr} {pos : Pos} (h : DT X a δ O E fun k O1 => (k = false → DW X (.BoolOp .Or (b :: rest) pos) δ O1 E QT) ∧ (k = true → QT true O1)) : DW X (.BoolOp .Or (a :: b :: rest) pos) δ O E QT :=
  dw_of (pw_or pt_sem pw_sem) (M.bind (t := semT X a) (t2 := fun k' σ H K => if k' = true then K true H else semW X (.BoolOp .Or (b :: rest) pos) σ H K) mono0 h fun k O1 k' ⟨h1, h2⟩ => by
    cases k with
    | false => exact M.weak (P' := fun G => k' = false) (fun W tk G σ H Q' p => by subst p; exact h1 rfl W tk G σ H Q' trivial) fun _ p => p.2.symm
    | true => exact M.weak (P' := fun G => k' = true) (fun W tk G σ H Q' p r s hE hQ => by subst p; exact hQ G H O1 true true (Step.refl s) rfl (h2 rfl)) fun _ p => p.2.symm)
theorem dt_not {a : Expr} {pos : Pos} (h : DT X a δ O E fun k O1 => QT (!k) O1) : DT X (.UnaryOp .Not a pos) δ O E QT :=
  dt_of (pt_not pt_sem) fun W tk G σ H Q' p r s hE hQ => h W tk G σ H _ p r s hE fun G' H' O' a b st e q => by subst e; exact hQ G' H' O' _ _ st rfl q
theorem m_boolE {P : Hp → Prop} {t : TE} {t1 t2 : TR V} {R : Hp → D → V → Prop} (mp : Mono P) (h : M X P (Rep X.K) t δ O E fun d O1 => ∃ k, d = .bl k ∧ (k = true → M X P R t1 δ O1 E Q) ∧ (k = false → M X P R t2 δ O1 E Q)) :
    M X P R (fun σ H K => t σ H fun x H1 => ∃ c, x = .bl c ∧ if c = true then t1 σ H1 K else t2 σ H1 K) δ O E Q :=
  fun W tk G σ H Q' p r s hE hQ => h W tk G σ H _ p r s hE fun G' H' O' d v st rd ⟨k, e, h1, h2⟩ => by
    subst e
    cases rd
    refine ⟨k, rfl, ?_⟩
    cases k with
    | true => rw [if_pos rfl]; exact h1 rfl W tk G' σ H' Q' (mp _ _ st.g p) (r.mono st.g) st.sta (fun _ _ _ _ _ _ st2 => hE _ _ _ _ _ _ (st.trans st2)) fun _ _ _ _ _ st2 => hQ _ _ _ _ _ (st.trans st2)
    | false => rw [if_neg Bool.false_ne_true]; exact h2 rfl W tk G' σ H' Q' (mp _ _ st.g p) (r.mono st.g) st.sta (fun _ _ _ _ _ _ st2 => hE _ _ _ _ _ _ (st.trans st2)) fun _ _ _ _ _ st2 => hQ _ _ _ _ _ (st.trans st2)
/-- .. as values -/
theorem de_one {op : BoolOp} {a : Expr} {pos : Pos} (h : DE X a δ O E Q) : DE X (.BoolOp op [a] pos) δ O E Q := de_of (pe_one pe_sem) h
theorem de_and {a b : Expr} {rest : List Expr} {pos : Pos} (h : DE X a δ O E fun d O1 => ∃ k, d = .bl k ∧ (k = true → DE X (.BoolOp .And (b :: rest) pos) δ O1 E Q) ∧ (k = false → Q (.bl false) O1)) : DE X (.BoolOp .And (a :: b :: rest) pos) δ O E Q :=
  de_of (pe_and pe_sem pe_sem) (m_boolE mono0 (M.imp h fun d O1 ⟨k, e, h1, h2⟩ => ⟨k, e, h1, fun z => M.pure (fun _ _ => .bl false) (h2 z)⟩))
theorem de_or {a b : Expr} {rest : List Expr} {pos : Pos} (h : DE X a δ O E fun d O1 => ∃ k, d = .bl k ∧ (k = true → Q (.bl true) O1) ∧ (k = false → DE X (.BoolOp .Or (b :: rest) pos) δ O1 E Q)) : DE X (.BoolOp .Or (a :: b :: rest) pos) δ O E Q :=
  de_of (pe_or pe_sem pe_sem) (m_boolE mono0 (M.imp h fun d O1 ⟨k, e, h1, h2⟩ => ⟨k, e, fun z => M.pure (fun _ _ => .bl true) (h1 z), h2⟩))
theorem de_not {a : Expr} {pos : Pos} (h : DE X a δ O E fun d O1 => ∃ k, d = .bl k ∧ Q (.bl (!k)) O1) : DE X (.UnaryOp .Not a pos) δ O E Q :=
  de_of (pe_not pe_sem) fun W tk G σ H Q' p r s hE hQ => h W tk G σ H _ p r s hE fun G' H' O' d v st rd ⟨k, e, q⟩ => by
    subst e
    cases rd
    exact ⟨k, rfl, hQ G' H' O' _ _ st (.bl _) q⟩
theorem de_if {c a b : Expr} {pos : Pos} (h : DT X c δ O E fun k O1 => (k = true → DE X a δ O1 E Q) ∧ (k = false → DE X b δ O1 E Q)) : DE X (.IfExp c a b pos) δ O E Q :=
  de_of (pe_ifExp pt_sem pe_sem pe_sem) (M.bind (t := semT X c) (t2 := fun k' σ H K => if k' = true then sem X a σ H K else sem X b σ H K) mono0 h fun k O1 k' ⟨h1, h2⟩ => by
    cases k with
    | true => exact M.weak (P' := fun G => k' = true) (fun W tk G σ H Q' p => by subst p; exact h1 rfl W tk G σ H Q' trivial) fun _ p => p.2.symm
    | false => exact M.weak (P' := fun G => k' = false) (fun W tk G σ H Q' p => by subst p; exact h2 rfl W tk G σ H Q' trivial) fun _ p => p.2.symm)
theorem da_nil (q : QA [] O) : DA X [] δ O E QA := da_of pa_nil (M.pure (fun _ _ => .nil) q)
theorem da_cons {e : Expr} {es : List Expr} (h : DE X e δ O E fun d O1 => DA X es δ O1 E fun ds O2 => QA (d :: ds) O2) (hs : starEach (e :: es) X.env = (false, eval e X.env) :: starEach es X.env := by with_unfolding_all rfl) : DA X (e :: es) δ O E QA :=
  da_of (pa_cons pe_sem pa_sem hs) (M.bind (t := sem X e) (t2 := fun v σ H K => semA X es σ H fun vs H1 => K (v :: vs) H1) mono0 h fun d O1 v h1 => M.weak (P' := fun G => Rep X.K G d v) (M.bind (t2 := fun vs σ H K => K (v :: vs) H) mono_rep (M.weak h1 fun _ _ => trivial) fun ds O2 vs q => M.pure (fun G p => RepL.cons p.1 p.2) q) fun _ p => p.2)
theorem da_star {e : Expr} {es : List Expr} {p : Pos} (h : DE X e δ O E fun d O1 => ∃ xs, (d = .tup xs ∨ d = .lst xs) ∧ DA X es δ O1 E fun ds O2 => QA (xs ++ ds) O2) (hs : starEach (.Starred e p :: es) X.env = (true, eval e X.env) :: starEach es X.env := by with_unfolding_all rfl) : DA X (.Starred e p :: es) δ O E QA :=
  da_of (StX.pa_star pe_sem pa_sem hs) fun W tk G σ H Q' p r s hE hQ => h W tk G σ H _ p r s hE fun G1 H1 O1 d v st rd ⟨xs, ed, h1⟩ => by
    have go : ∀ a vs, (SqT X.K H1 a vs ∨ SqL X.K H1 a vs) → RepL X.K G1 xs vs → v = .ref a → StX.tStar X.K (fun _ _ K => K v H1) (semA X es) σ H1 Q' := fun a vs hq rl ev => ⟨a, vs, ev, hq, h1 W tk G1 σ H1 _ trivial (r.mono st.g) st.sta (fun _ _ _ _ _ _ st2 => hE _ _ _ _ _ _ (st.trans st2)) fun G2 H2 O2 ds ws st2 rw2 q => hQ _ _ _ _ _ (st.trans st2) ((rl.mono st2.g).append rw2) q⟩
    rcases ed with rfl | rfl
    · cases rd with
      | tup hq rl => exact go _ _ (.inl (st.sta.sub.seqT hq)) rl rfl
    · cases rd with
      | lst hq rl => exact go _ _ (.inr (.inl (.inl (st.sta.sub _ _ hq)))) rl rfl
/-- a new list: frozen, or one's own -/
def NewL (ds : List D) (O : Own) (Q : D → Own → Prop) : Prop := Q (.lst ds) O ∨ ∀ a, Q (.ref a) ((a, .lst ds) :: O)
/-- where a new list of what vs tells is laid -/
theorem m_newL {K : PySem.W.Frag} {G H : Hp} {ds : List D} {vs : List V} {Q' : VK} (s : Sta K G O H) (rl : RepL K G ds vs) (n : NewL ds O Q)
    (hQ : ∀ G' H' O' d v, Step K G O H G' O' H' → Rep K G' d v → Q d O' → Q' v H') (p : Addr) (hp : H p = none) : Q' (.ref p) (upd H p (.lst vs)) := by
  have gp : G p = none := by
    cases q : G p with
    | none => rfl
    | some u => rw [s.sub p u q] at hp; cases hp
  rcases n with n | n
  · exact hQ _ _ _ _ _ (Step.new s hp) (.lst upd_same (rl.mono (Ex.new gp))) n
  · exact hQ _ _ _ _ _ (Step.newO s (c := .lst ds) hp rl) (.ref p) (n p)
theorem m_newT {K : PySem.W.Frag} {G H : Hp} {ds : List D} {vs : List V} {Q' : VK} (s : Sta K G O H) (rl : RepL K G ds vs) (n : Q (.tup ds) O)
    (hQ : ∀ G' H' O' d v, Step K G O H G' O' H' → Rep K G' d v → Q d O' → Q' v H') (p : Addr) (hp : H p = none) : Q' (.ref p) (upd H p (.tup vs)) := by
  have gp : G p = none := by
    cases q : G p with
    | none => rfl
    | some u => rw [s.sub p u q] at hp; cases hp
  exact hQ _ _ _ _ _ (Step.new s hp) (.tup (SqT.of upd_same) (rl.mono (Ex.new gp))) n
theorem de_tup {es : List Expr} {x1 : Nat} {pos : Pos} (h : DA X es δ O E fun ds O1 => ds.length ≤ 100000 ∧ Q (.tup ds) O1) : DE X (.Tuple es x1 pos) δ O E Q :=
  de_of (pe_tup pa_sem) fun W tk G σ H Q' p r s hE hQ => h W tk G σ H _ p r s hE fun G1 H1 O1 ds vs st rl ⟨hl, q⟩ =>
    ⟨by rw [rl.length]; exact Nat.le_trans hl (by decide), m_newT st.sta rl q fun _ _ _ _ _ st2 => hQ _ _ _ _ _ (st.trans st2)⟩
theorem de_lst {es : List Expr} {pos : Pos} (h : DA X es δ O E fun ds O1 => ds.length ≤ 100000 ∧ NewL ds O1 Q) : DE X (.List es pos) δ O E Q :=
  de_of (pe_lst pa_sem) fun W tk G σ H Q' p r s hE hQ => h W tk G σ H _ p r s hE fun G1 H1 O1 ds vs st rl ⟨hl, q⟩ =>
    ⟨by rw [rl.length]; exact Nat.le_trans hl (by decide), m_newL st.sta rl q fun _ _ _ _ _ st2 => hQ _ _ _ _ _ (st.trans st2)⟩
end
end DL
end
section
set_option maxRecDepth 100000
set_option maxHeartbeats 4000000
set_option autoImplicit false
namespace DL
open PySem PySem.Spec PyProof.Rows L2
structure Bk where
  rt : D → Own → Prop
  bk : DEnv → Own → Prop
  ct : DEnv → Own → Prop
  ex : XD → DEnv → Own → Prop
structure Lk (X : Cx) (W : WX) (G : Hp) (O : Own) (H : Hp) (B : Bk) (nx : DEnv → Own → Prop) (D : Ends) : Prop where
  nx : ∀ G' H' O' δ' σ', Step X.K G O H G' O' H' → REnv X.K G' δ' σ' → nx δ' O' → D.nx σ' H'
  rt : ∀ G' H' O' d v, Step X.K G O H G' O' H' → Rep X.K G' d v → B.rt d O' → D.rt v H'
  bk : ∀ G' H' O' δ' σ', Step X.K G O H G' O' H' → REnv X.K G' δ' σ' → B.bk δ' O' → D.bk σ' H'
  ct : ∀ G' H' O' δ' σ', Step X.K G O H G' O' H' → REnv X.K G' δ' σ' → B.ct δ' O' → D.ct σ' H'
  ex : ∀ G' H' O' δ' σ' x c dd, Step X.K G O H G' O' H' → REnv X.K G' δ' σ' → XRep X.K G' x c dd → B.ex x δ' O' → W c dd σ' H'
section
variable {X : Cx} {W : WX} {G G1 H H1 : Hp} {O O1 : Own} {B : Bk} {nx nx2 : DEnv → Own → Prop} {D : Ends}
theorem Lk.step (l : Lk X W G O H B nx D) (a : Step X.K G O H G1 O1 H1) : Lk X W G1 O1 H1 B nx D :=
  ⟨fun _ _ _ _ _ s => l.nx _ _ _ _ _ (a.trans s), fun _ _ _ _ _ s => l.rt _ _ _ _ _ (a.trans s), fun _ _ _ _ _ s => l.bk _ _ _ _ _ (a.trans s), fun _ _ _ _ _ s => l.ct _ _ _ _ _ (a.trans s), fun _ _ _ _ _ _ _ _ s => l.ex _ _ _ _ _ _ _ _ (a.trans s)⟩
end
def DS (X : Cx) (st : Stmt) (δ : DEnv) (O : Own) (B : Bk) (nx : DEnv → Own → Prop) : Prop :=
  ∀ (W : WX), L2N.Takes X W → ∀ (G : Hp) (σ : L2.St) (H : Hp) (D : Ends), REnv X.K G δ σ → Sta X.K G O H → Lk X W G O H B nx D → semS X st D σ H
def DSs (X : Cx) (st : List Stmt) (δ : DEnv) (O : Own) (B : Bk) (nx : DEnv → Own → Prop) : Prop :=
  ∀ (W : WX), L2N.Takes X W → ∀ (G : Hp) (σ : L2.St) (H : Hp) (D : Ends), REnv X.K G δ σ → Sta X.K G O H → Lk X W G O H B nx D → semSs X st D σ H
section
variable {X : Cx} {N : List Str} {sc : Scope} {δ : DEnv} {O : Own} {B : Bk} {nx : DEnv → Own → Prop} {pos : Pos}
theorem ds_of {st : Stmt} {t : TS} (hp : PS X st t) (h : ∀ (W : WX), L2N.Takes X W → ∀ (G : Hp) (σ : L2.St) (H : Hp) (D : Ends), REnv X.K G δ σ → Sta X.K G O H → Lk X W G O H B nx D → t D σ H) : DS X st δ O B nx :=
  fun W tk G σ H D r s l pins s' I => hp.run pins s' σ H D I (h W tk G σ H D r s l)
theorem dss_of {st : List Stmt} {t : TS} (hp : PSs X st t) (h : ∀ (W : WX), L2N.Takes X W → ∀ (G : Hp) (σ : L2.St) (H : Hp) (D : Ends), REnv X.K G δ σ → Sta X.K G O H → Lk X W G O H B nx D → t D σ H) : DSs X st δ O B nx :=
  fun W tk G σ H D r s l pins s' I => hp.run pins s' σ H D I (h W tk G σ H D r s l)
theorem dss_nil (q : nx δ O) : DSs X [] δ O B nx := dss_of pss_nil fun W tk G σ H D r s l => l.nx G H O δ σ (Step.refl s) r q
theorem dss_cons {st : Stmt} {rest : List Stmt} (h : DS X st δ O B fun δ1 O1 => DSs X rest δ1 O1 B nx) : DSs X (st :: rest) δ O B nx :=
  dss_of (pss_cons ps_sem pss_sem) fun W tk G σ H D r s l => h W tk G σ H _ r s
    ⟨fun G' H' O' δ' σ' st r' q => q W tk G' σ' H' D r' st.sta (l.step st), l.rt, l.bk, l.ct, l.ex⟩
theorem dss_one {st : Stmt} (h : DS X st δ O B nx) : DSs X [st] δ O B nx := dss_of (pss_one ps_sem) h
theorem DS.imp {st : Stmt} {nx2 : DEnv → Own → Prop} (h : DS X st δ O B nx) (w : ∀ δ' O', nx δ' O' → nx2 δ' O') : DS X st δ O B nx2 := fun W tk G σ H D r s l =>
  h W tk G σ H D r s ⟨fun _ _ _ _ _ s r q => l.nx _ _ _ _ _ s r (w _ _ q), l.rt, l.bk, l.ct, l.ex⟩
/-- an expression within a statement -/
theorem m_in {α β : Type} {P : Hp → Prop} {R : Hp → α → β → Prop} {t : TR β} {Q : α → Own → Prop} {W : WX} {G H : Hp} {σ : L2.St} {D : Ends} {K : β → Hp → Prop} (h : M X P R t δ O (fun x O' => B.ex x δ O') Q) (tk : L2N.Takes X W) (p : P G) (r : REnv X.K G δ σ) (s : Sta X.K G O H) (l : Lk X W G O H B nx D)
    (k : ∀ G' H' O' a b, Step X.K G O H G' O' H' → REnv X.K G' δ σ → Lk X W G' O' H' B nx D → R G' a b → Q a O' → K b H') : t σ H K :=
  h W tk G σ H K p r s (fun G' H' O' x c dd st xr e => l.ex G' H' O' δ σ x c dd st (r.mono st.g) xr e) fun G' H' O' a b st ra q => k G' H' O' a b st (r.mono st.g) (l.step st) ra q
theorem ds_expr {e : Expr} (h : DE X e δ O (fun x O' => B.ex x δ O') fun _ O1 => nx δ O1) (hs : swapsWith e none pos.line X.env = pure false := by with_unfolding_all rfl) : DS X (.Expr e pos) δ O B nx :=
  ds_of (ps_expr pe_sem hs) fun W tk G σ H D r s l => m_in h tk trivial r s l fun G' H' O' d v st r' l' rd q => l'.nx G' H' O' δ σ (Step.refl st.sta) r' q
theorem ds_ret {e : Expr} (h : DE X e δ O (fun x O' => B.ex x δ O') fun d O1 => B.rt d O1) : DS X (.Return (some e) pos) δ O B nx :=
  ds_of (ps_ret pe_sem) fun W tk G σ H D r s l => m_in h tk trivial r s l fun G' H' O' d v st r' l' rd q => l'.rt G' H' O' d v (Step.refl st.sta) rd q
theorem ds_if {c : Expr} {a b : List Stmt} (h : DT X c δ O (fun x O' => B.ex x δ O') fun k O1 => (k = true → DSs X a δ O1 B nx) ∧ (k = false → DSs X b δ O1 B nx)) : DS X (.If c a b pos) δ O B nx :=
  ds_of (ps_if pt_sem pss_sem pss_sem) fun W tk G σ H D r s l => m_in h tk trivial r s l fun G' H' O' k k' st r' l' rd q => by
    obtain rfl : k = k' := rd
    cases k with
    | true => rw [if_pos rfl]; exact q.1 rfl W tk G' σ H' D r' st.sta l'
    | false => rw [if_neg Bool.false_ne_true]; exact q.2 rfl W tk G' σ H' D r' st.sta l'
def semG (X : Cx) (tg : Expr) : TG := fun v σ H Q => ∀ (pins : List (Addr × Obj)) (s : Shared) (u : Value), Inv X pins σ H s → RelV v u → wpAny (model X.prog X.w) X.A (assign tg X.env u) (fun _ s' => ∃ σ' H', Inv X pins σ' H' s' ∧ Q σ' H') X.xe s
theorem pg_sem {tg : Expr} : PG X tg (semG X tg) := ⟨fun pins s _ _ _ u _ I r h => h pins s u I r⟩
/-- d is assigned to the target; then k -/
def DG (X : Cx) (tg : Expr) (d : D) (δ : DEnv) (O : Own) (E : XD → DEnv → Own → Prop) (k : DEnv → Own → Prop) : Prop :=
  ∀ (W : WX), L2N.Takes X W → ∀ (v : V) (G : Hp) (σ : L2.St) (H : Hp) (Q : L2.St → Hp → Prop), Rep X.K G d v → REnv X.K G δ σ → Sta X.K G O H →
    (∀ G' H' O' δ' σ' x c dd, Step X.K G O H G' O' H' → REnv X.K G' δ' σ' → XRep X.K G' x c dd → E x δ' O' → W c dd σ' H') →
    (∀ G' H' O' δ' σ', Step X.K G O H G' O' H' → REnv X.K G' δ' σ' → k δ' O' → Q σ' H') → semG X tg v σ H Q
def semGs (X : Cx) (ts : List Expr) : TGs := fun vs σ H Q => ∀ (pins : List (Addr × Obj)) (s : Shared) (us : List Value), Inv X pins σ H s → Vals vs us → wpAny (model X.prog X.w) X.A (assignInOrder ((assignEach ts X.env).map (·.2)) us) (fun _ s' => ∃ σ' H', Inv X pins σ' H' s' ∧ Q σ' H') X.xe s
theorem pgs_sem {ts : List Expr} : PGs X ts (semGs X ts) := ⟨fun pins s _ _ _ us _ I r h => h pins s us I r⟩
def DGs (X : Cx) (ts : List Expr) (ds : List D) (δ : DEnv) (O : Own) (E : XD → DEnv → Own → Prop) (k : DEnv → Own → Prop) : Prop :=
  ∀ (W : WX), L2N.Takes X W → ∀ (vs : List V) (G : Hp) (σ : L2.St) (H : Hp) (Q : L2.St → Hp → Prop), RepL X.K G ds vs → REnv X.K G δ σ → Sta X.K G O H →
    (∀ G' H' O' δ' σ' x c dd, Step X.K G O H G' O' H' → REnv X.K G' δ' σ' → XRep X.K G' x c dd → E x δ' O' → W c dd σ' H') →
    (∀ G' H' O' δ' σ', Step X.K G O H G' O' H' → REnv X.K G' δ' σ' → k δ' O' → Q σ' H') → semGs X ts vs σ H Q
variable {E : XD → DEnv → Own → Prop} {k : DEnv → Own → Prop}
theorem dg_name {x : Str} {i : Nat} {d : D} {δ' : DEnv} (S : Sc X N sc) (hi : Ix x N i) (hs : SetD d δ i δ') (q : k δ' O) (hl : Nk x .local sc.names := by (repeat (with_reducible constructor))) : DG X (.Name x pos) d δ O E k := fun W tk v G σ H Q rd r s _ hk pins s' u I ru =>
  (pg_name S.hN (S.ix hi) (.inl (S.lo hl)) (.inr (S.lo hl))).run pins s' σ H v u Q I ru (hk G H O δ' _ (Step.refl s) (by rw [hs.eq]; exact r.set i rd) q)
/-- a name that an inner block captures -/
theorem dg_cell {x : Str} {i : Nat} {d : D} {δ' : DEnv} (S : Sc X N sc) (hf : ∀ x, X.fn x = true) (hi : Ix x N i) (hs : SetD d δ i δ') (q : k δ' O) (hl : Nk x .cell sc.names := by (repeat (with_reducible constructor))) : DG X (.Name x pos) d δ O E k := fun W tk v G σ H Q rd r s _ hk pins s' u I ru =>
  (pg_name S.hN (S.ix hi) (.inr (S.ce hl)) (.inl (hf x))).run pins s' σ H v u Q I ru (hk G H O δ' _ (Step.refl s) (by rw [hs.eq]; exact r.set i rd) q)
theorem dgs_nil (q : k δ O) : DGs X [] [] δ O E k := fun W tk vs G σ H Q rd r s _ hk pins s' us I ru => by
  cases rd
  exact pgs_nil.run pins s' σ H [] us Q I ru ⟨rfl, hk G H O δ σ (Step.refl s) r q⟩
theorem dgs_cons {t : Expr} {ts : List Expr} {d : D} {ds : List D} (h : DG X t d δ O E fun δ1 O1 => DGs X ts ds δ1 O1 E k) (hs : (assignEach (t :: ts) X.env).map (·.2) = assign t X.env :: (assignEach ts X.env).map (·.2) := by with_unfolding_all rfl) : DGs X (t :: ts) (d :: ds) δ O E k := fun W tk vs G σ H Q rd r s hE hk pins s' us I ru => by
  cases rd with
  | @cons _ v _ vs' r1 r2 =>
    exact (pgs_cons pg_sem pgs_sem hs).run pins s' σ H _ us Q I ru ⟨_, _, rfl, h W tk v G σ H _ r1 r s (fun _ _ _ _ _ _ _ _ => hE _ _ _ _ _ _ _ _) fun G1 H1 O1 δ1 σ1 st r' q => q W tk vs' G1 σ1 H1 Q (r2.mono st.g) r' st.sta (fun _ _ _ _ _ _ _ _ st2 => hE _ _ _ _ _ _ _ _ (st.trans st2)) fun _ _ _ _ _ st2 => hk _ _ _ _ _ (st.trans st2)⟩
theorem dg_tup {es : List Expr} {k' : Nat} {ds : List D} (S : Sc X N sc) (hl : ds.length = es.length) (h : DGs X es ds δ O E k) (hn : (assignEach es X.env).length = es.length := by with_unfolding_all rfl) (hst : (assignEach es X.env).findIdx? (·.1) = none := by with_unfolding_all rfl) : DG X (.Tuple es k' pos) (.tup ds) δ O E k := fun W tk v G σ H Q rd r s hE hk pins s' u I ru => by
  cases rd with
  | @tup _ a vs hq rl =>
    exact (pg_tup S.calm pgs_sem hn hst).run pins s' σ H _ u Q I ru ⟨a, vs, rfl, s.sub.seqT hq, by rw [rl.length, hl], h W tk vs G σ H Q rl r s hE hk⟩
/-- target = e -/
theorem ds_asg {tg e : Expr} (h : DE X e δ O (fun x O' => B.ex x δ O') fun d O1 => DG X tg d δ O1 B.ex nx) (hs : swapsWithSole [tg] e pos.line X.env = pure false := by with_unfolding_all rfl) (hw : swappedStores [tg] e X.env = pure none := by with_unfolding_all rfl)
    (h1 : (assignEach [tg] X.env).map (·.2) = [assign tg X.env] := by with_unfolding_all rfl) : DS X (.Assign [tg] e pos) δ O B nx :=
  ds_of (ps_asg pe_sem pg_sem hs hw h1) fun W tk G σ H D r s l => m_in h tk trivial r s l fun G' H' O' d v st r' l' rd q => q W tk v G' σ H' D.nx rd r' st.sta l'.ex l'.nx
theorem ds_set {x : Str} {i : Nat} {e : Expr} {pos' : Pos} (S : Sc X N sc) (hi : Ix x N i) (h : DE X e δ O (fun x O' => B.ex x δ O') fun d O1 => ∃ δ', SetD d δ i δ' ∧ nx δ' O1) (hl : Nk x .local sc.names := by (repeat (with_reducible constructor))) (hs : swapsWith e (some (.Name x pos')) pos.line X.env = pure false := by with_unfolding_all rfl) : DS X (.Assign [.Name x pos'] e pos) δ O B nx :=
  ds_of (ps_set S.hN (S.ix hi) (.inl (S.lo hl)) pe_sem hs (.inr (S.lo hl))) fun W tk G σ H D r s l => m_in h tk trivial r s l fun G' H' O' d v st r' l' rd ⟨δ', hd, q⟩ => l'.nx G' H' O' δ' _ (Step.refl st.sta) (by rw [hd.eq]; exact r'.set i rd) q
theorem ds_setC {x : Str} {i : Nat} {e : Expr} {pos' : Pos} (S : Sc X N sc) (hf : ∀ x, X.fn x = true) (hi : Ix x N i) (h : DE X e δ O (fun x O' => B.ex x δ O') fun d O1 => ∃ δ', SetD d δ i δ' ∧ nx δ' O1) (hl : Nk x .cell sc.names := by (repeat (with_reducible constructor))) (hs : swapsWith e (some (.Name x pos')) pos.line X.env = pure false := by with_unfolding_all rfl) : DS X (.Assign [.Name x pos'] e pos) δ O B nx :=
  ds_of (ps_set S.hN (S.ix hi) (.inr (S.ce hl)) pe_sem hs (.inl (hf x))) fun W tk G σ H D r s l => m_in h tk trivial r s l fun G' H' O' d v st r' l' rd ⟨δ', hd, q⟩ => l'.nx G' H' O' δ' _ (Step.refl st.sta) (by rw [hd.eq]; exact r'.set i rd) q
/-- x op= e -/
theorem ds_aug {x : Str} {i : Nat} {e : Expr} {op : Operator} {pos' : Pos} {d : D} (S : Sc X N sc) (hi : Ix x N i) (hd : Sl δ i d) (h : DE X e δ O (fun x O' => B.ex x δ O') fun y O1 => DB X (inplaceOp op) d y δ O1 (fun x O' => B.ex x δ O') fun z O2 => ∃ δ', SetD z δ i δ' ∧ nx δ' O2) (hl : Nk x .local sc.names := by (repeat (with_reducible constructor))) :
    DS X (.AugAssign (.Name x pos') op e pos) δ O B nx := by
  intro W tk G σ H D r s l pins s' I
  obtain ⟨v, ev, rv⟩ := r.2 i d hd.get
  have hlo := S.lo hl
  obtain ⟨m, hn, hl'⟩ := I.loc
  obtain ⟨u, ru, lk⟩ := hl' i x v (S.ix hi) ev (.inl hlo)
  refine wpAny_AugAssign_Name ?_
  have go : wpAny (model X.prog X.w) X.A (eval e X.env) (fun w s₂ => wpAny (model X.prog X.w) X.A (inplaceOp op u w) (fun r s₃ => wpAny (model X.prog X.w) X.A (storeName X.env x r) (fun _ => SP X pins D .next) X.xe s₃) X.xe s₂) X.xe s' := by
    refine thn (m_in (K := fun v2 H1 => semB X (inplaceOp op) v v2 σ H1 fun v3 H2 => D.nx (σ.set i (some v3)) H2) h tk trivial r s l (fun G1 H1 O1 y w1 st r1 l1 ry q => m_in (q v w1) tk ⟨rv.mono st.g, ry⟩ r1 st.sta l1 fun G2 H2 O2 z w2 st2 r2 l2 rz ⟨δ', hz, q2⟩ => l2.nx G2 H2 O2 δ' _ (Step.refl st2.sta) (by rw [hz.eq]; exact r2.set i rz) q2) pins s' I) fun w s1 ⟨y, H1, I1, ry, q1⟩ => ?_
    refine thn (q1 pins s1 u w I1 ru ry) fun z s2 ⟨zv, H2, I2, rz, q2⟩ => ?_
    exact store_ok I2 S.hN (S.ix hi) (.inl hlo) rz (fun s3 I3 => ⟨_, H2, I3, q2⟩) (.inr hlo)
  rcases lk with ⟨hk, hm⟩ | ⟨hk, c, hc, hcell⟩
  · exact wpAny_loadName_local I.ok.kind hk hn hm go
  · rcases hk with hk | hk <;> (have z : X.env.scope.names.lookup x = _ := hk; rw [hlo] at z; cases z)
structure JRep (K : PySem.W.Frag) (G : Hp) (ds : List D) (J : It) : Prop where
  go : ∀ i G1 H, Ex G G1 → Ex G1 H → i < ds.length → J.go i H
  stop : ∀ i G1 H, Ex G G1 → Ex G1 H → ds.length = i → J.stop i H
  yld : ∀ i G1 H x H' d, Ex G G1 → Ex G1 H → ds[i]? = some d → J.yld i H x H' → (H' = H ∧ Rep K G1 d x) ∨ (∃ p vs es, H p = none ∧ H' = upd H p (.tup vs) ∧ d = .tup es ∧ RepL K G1 es vs ∧ x = .ref p)
theorem JRep.mono {K : PySem.W.Frag} {G G' : Hp} {ds : List D} {J : It} (e : Ex G G') (h : JRep K G ds J) : JRep K G' ds J :=
  ⟨fun i G1 H a => h.go i G1 H (e.trans a), fun i G1 H a => h.stop i G1 H (e.trans a), fun i G1 H x H' d a => h.yld i G1 H x H' d (e.trans a)⟩
def semI (X : Cx) (tg iter : Expr) : TI := fun σ H R => ∀ (pins : List (Addr × Obj)) (s : Shared), Inv X pins σ H s → wpAny (model X.prog X.w) X.A (eval iter X.env) (fun v s1 => wpAny (model X.prog X.w) X.A (pyIter v) (PIE X pins σ tg R) X.xe s1) X.xe s
theorem pi_sem {tg iter : Expr} : PI X tg iter (semI X tg iter) := ⟨fun pins s _ _ _ I h => h pins s I⟩
def DI (X : Cx) (tg iter : Expr) (δ : DEnv) (O : Own) (E : XD → Own → Prop) (Q : List D → Own → Prop) : Prop := M X PT0 (fun G ds J => JRep X.K G ds J) (semI X tg iter) δ O E Q
theorem di_of {tg iter : Expr} {t : TI} {E : XD → Own → Prop} {Q : List D → Own → Prop} (hp : PI X tg iter t) (h : M X PT0 (fun G ds J => JRep X.K G ds J) t δ O E Q) : DI X tg iter δ O E Q := fun W tk G σ H Q' p r s hE hQ pins s' I => hp.run pins s' σ H Q' I (h W tk G σ H Q' p r s hE hQ)
theorem jrep_list {K : PySem.W.Frag} {G : Hp} {a : Addr} {ds : List D} {vs : List V} (hq : SqL K G a vs) (rl : RepL K G ds vs) : JRep K G ds (Itl K a) where
  go := fun i G1 H e1 e2 hi => by
    have hv : i < vs.length := by rw [rl.length]; exact hi
    exact ⟨vs, vs[i], e2.seqL (e1.seqL hq), by simp [hv]⟩
  stop := fun i G1 H e1 e2 hi => ⟨vs, e2.seqL (e1.seqL hq), by rw [rl.length]; exact Nat.le_of_eq hi⟩
  yld := fun i G1 H x H' d e1 e2 hd ⟨eH, hy⟩ => by
    obtain ⟨v, hv, rv⟩ := rl.get hd
    have := hy vs (e2.seqL (e1.seqL hq))
    rw [hv] at this
    cases this
    exact .inl ⟨eH, rv.mono e1⟩
theorem jrep_tup {K : PySem.W.Frag} {G : Hp} {a : Addr} {ds : List D} {vs : List V} (hq : SqT K G a vs) (rl : RepL K G ds vs) : JRep K G ds (Itt K a) where
  go := fun i G1 H e1 e2 hi => by
    have hv : i < vs.length := by rw [rl.length]; exact hi
    exact ⟨vs, vs[i], e2.seqT (e1.seqT hq), by simp [hv]⟩
  stop := fun i G1 H e1 e2 hi => ⟨vs, e2.seqT (e1.seqT hq), by rw [rl.length]; exact Nat.le_of_eq hi⟩
  yld := fun i G1 H x H' d e1 e2 hd ⟨eH, hy⟩ => by
    obtain ⟨v, hv, rv⟩ := rl.get hd
    have := hy vs (e2.seqT (e1.seqT hq))
    rw [hv] at this
    cases this
    exact .inl ⟨eH, rv.mono e1⟩
theorem jrep_range {K : PySem.W.Frag} {G : Hp} {lo : Int} {n : Nat} : JRep K G ((List.range n).map fun i => D.int (lo + (i : Nat))) (Itr lo n) where
  go := fun i G1 H _ _ hi => by simp at hi; exact hi
  stop := fun i G1 H _ _ hi => by simp at hi; exact Nat.le_of_eq hi
  yld := fun i G1 H x H' d _ _ hd ⟨eH, ex⟩ => by
    rw [List.getElem?_map] at hd
    cases q : (List.range n)[i]? with
    | none => rw [q] at hd; cases hd
    | some j =>
      rw [q] at hd
      cases hd
      have : j = i := by
        obtain ⟨h1, h2⟩ := List.getElem?_eq_some_iff.mp q
        rw [List.getElem_range] at h2
        exact h2.symm
      subst this
      subst ex
      exact .inl ⟨eH, .int _⟩
end
end DL
end
section
set_option maxRecDepth 100000
set_option maxHeartbeats 4000000
set_option autoImplicit false
namespace DL
open PySem PySem.Spec PyProof.Rows L2
section
variable {X : Cx} {N : List Str} {sc : Scope} {δ : DEnv} {O : Own} {E : XD → Own → Prop} {Q : D → Own → Prop} {QT : Bool → Own → Prop} {QA : List D → Own → Prop} {B : Bk} {nx : DEnv → Own → Prop} {pos : Pos}
theorem di_list {tg l : Expr} {QI : List D → Own → Prop} (h : DE X l δ O E fun d O1 => ∃ ds, (d = .lst ds ∨ d = .fz ds) ∧ QI ds O1) : DI X tg l δ O E QI :=
  di_of (pi_list pe_sem) fun W tk G σ H Q' p r s hE hQ => h W tk G σ H _ p r s hE fun G' H' O' d v st rd ⟨ds, ed, q⟩ => by
    have go : ∀ a vs, SqL X.K G' a vs → RepL X.K G' ds vs → v = .ref a → ∃ a, v = .ref a ∧ (∃ xs, SqL X.K H' a xs) ∧ Q' (Itl X.K a) H' := fun a vs hq rl ev => ⟨a, ev, ⟨vs, st.sta.sub.seqL hq⟩, hQ _ _ _ _ _ st (jrep_list hq rl) q⟩
    rcases ed with rfl | rfl
    · cases rd with
      | lst hq rl => exact go _ _ (.inl (.inl hq)) rl rfl
    · cases rd with
      | fz hq rl => exact go _ _ hq rl rfl
def dInts (lo : Int) (n : Nat) : List D := (List.range n).map fun i => D.int (lo + (i : Nat))
theorem dInts_length {lo : Int} {n : Nat} : (dInts lo n).length = n := by simp [dInts]
theorem dInts_get {lo : Int} {n i : Nat} {d : D} (h : (dInts lo n)[i]? = some d) : d = .int (lo + (i : Nat)) ∧ i < n := by
  unfold dInts at h
  rw [List.getElem?_map] at h
  cases q : (List.range n)[i]? with
  | none => rw [q] at h; cases h
  | some j =>
    rw [q] at h
    cases h
    obtain ⟨h1, h2⟩ := List.getElem?_eq_some_iff.mp q
    rw [List.getElem_range] at h2
    subst h2
    exact ⟨rfl, by simpa using h1⟩
theorem di_range1 {tg a : Expr} {QI : List D → Own → Prop} {p : Pos} (S : Sc X N sc) (hm : X.mg "range" = none) (h : DA X [a] δ O E fun ds O1 => ∃ j, ds = [.int j] ∧ -(2 ^ 62) ≤ j ∧ j < 2 ^ 62 ∧ QI (dInts 0 j.toNat) O1) (hg : Nk ("range" : Str) .globalImplicit sc.names := by (repeat (with_reducible constructor))) (h1 : starEach [a] X.env = [(false, eval a X.env)] := by with_unfolding_all rfl) :
    DI X tg (.Call (.Name "range" p) [a] [] pos) δ O E QI :=
  di_of (pi_range1 (S.gl hg) hm pa_sem h1) fun W tk G σ H Q' p r s hE hQ => h W tk G σ H _ p r s hE fun G' H' O' ds vs st rl ⟨j, e, h1, h2, q⟩ => by
    subst e
    cases rl with
    | cons r1 rr =>
      cases r1
      cases rr
      exact ⟨j, rfl, h1, h2, hQ _ _ _ _ _ st jrep_range q⟩
theorem di_range2 {tg a b : Expr} {QI : List D → Own → Prop} {p : Pos} (S : Sc X N sc) (hm : X.mg "range" = none) (h : DA X [a, b] δ O E fun ds O1 => ∃ i j, ds = [.int i, .int j] ∧ (-(2 ^ 62) ≤ i ∧ i < 2 ^ 62 ∧ -(2 ^ 62) ≤ j ∧ j < 2 ^ 62) ∧ QI (dInts i (j - i).toNat) O1) (hg : Nk ("range" : Str) .globalImplicit sc.names := by (repeat (with_reducible constructor))) (h1 : starEach [a, b] X.env = [(false, eval a X.env), (false, eval b X.env)] := by with_unfolding_all rfl) (h2 : starEach [b] X.env = [(false, eval b X.env)] := by with_unfolding_all rfl) :
    DI X tg (.Call (.Name "range" p) [a, b] [] pos) δ O E QI :=
  di_of (pi_range2 (S.gl hg) hm pa_sem h1 h2) fun W tk G σ H Q' p r s hE hQ => h W tk G σ H _ p r s hE fun G' H' O' ds vs st rl ⟨i, j, e, h1, q⟩ => by
    subst e
    cases rl with
    | cons r1 rr =>
      cases r1
      cases rr with
      | cons r2 rr =>
        cases r2
        cases rr
        exact ⟨i, j, rfl, h1, hQ _ _ _ _ _ st jrep_range q⟩
/-- what the turn's item is, where it is drawn -/
theorem drawn {K : PySem.W.Frag} {G1 H1 G H H' : Hp} {O1 O : Own} {ds : List D} {J : It} {i : Nat} {x : V} {d : D} (jr : JRep K G1 ds J) (st : Step K G1 O1 H1 G O H) (hd : ds[i]? = some d) (hy : J.yld i H x H') :
    ∃ G', Step K G1 O1 H1 G' O H' ∧ Ex G G' ∧ Rep K G' d x := by
  rcases jr.yld i G H x H' d st.g st.sta.sub hd hy with ⟨e, r⟩ | ⟨p, vs, es, hp, eH, ed, rl, ex⟩
  · subst e
    exact ⟨G, st, Ex.refl _, r⟩
  · subst eH ed ex
    have s2 := Step.new st.sta (o := .tup vs) hp
    exact ⟨_, st.trans s2, s2.g, .tup (SqT.of upd_same) (rl.mono s2.g)⟩
theorem ds_for {tg iter : Expr} {body : List Stmt} (S : Sc X N sc) (po : PassesOwn (model X.prog X.w) X.A X.env X.xe)
    (h : DI X tg iter δ O (fun x O' => B.ex x δ O') fun ds O1 => ∃ P : Nat → DEnv → Own → Prop, P 0 δ O1 ∧
      (∀ i d δ' O', ds[i]? = some d → P i δ' O' → DG X tg d δ' O' B.ex fun δ2 O2 => DSs X body δ2 O2 { B with bk := nx, ct := P (i + 1) } (P (i + 1))) ∧ ∀ δ' O', P ds.length δ' O' → nx δ' O')
    (hs : ∀ x, foldedSetIterable iter X.env x = pure x := by intro _; with_unfolding_all rfl) : DS X (.For tg iter body [] pos) δ O B nx :=
  ds_of (ps_for po S.calm pi_sem pg_sem pss_sem hs) fun W tk G σ H D r s l => m_in h tk trivial r s l fun G1 H1 O1 ds J st r1 l1 jr ⟨P, h0, hs, hd⟩ => by
    refine ⟨fun i m σ' H' => m = ds.length - i ∧ i ≤ ds.length ∧ ∃ G' O' δ', Step X.K G1 O1 H1 G' O' H' ∧ REnv X.K G' δ' σ' ∧ P i δ' O', ⟨_, rfl, Nat.zero_le _, G1, O1, δ, Step.refl st.sta, r1, h0⟩, ?_⟩
    rintro i m σ' H' ⟨rfl, hi, G', O', δ', st', r', p⟩
    by_cases hlt : i < ds.length
    · refine .inr ⟨jr.go i G' H' st'.g st'.sta.sub hlt, fun σ2 H2 => ∃ G2 O2 δ2, Step X.K G1 O1 H1 G2 O2 H2 ∧ REnv X.K G2 δ2 σ2 ∧ P (i + 1) δ2 O2, fun σ2 H2 ⟨G2, O2, δ2, s2, r2, p2⟩ => ⟨ds.length - (i + 1), by omega, rfl, hlt, G2, O2, δ2, s2, r2, p2⟩, fun x H2 hy => ?_⟩
      have hdi : ds[i]? = some ds[i] := by simp [hlt]
      obtain ⟨G2, st2, e2, rx⟩ := drawn jr st' hdi hy
      refine hs i _ δ' O' hdi p W tk x G2 σ' H2 _ rx (r'.mono e2) st2.sta (fun _ _ _ _ _ _ _ _ s3 => (l1.step st2).ex _ _ _ _ _ _ _ _ s3) fun G3 H3 O3 δ3 σ3 s3 r3 q => ?_
      have l3 := l1.step (st2.trans s3)
      refine q W tk G3 σ3 H3 _ r3 s3.sta ⟨fun G4 H4 O4 δ4 σ4 s4 r4 q4 => ⟨G4, O4, δ4, (st2.trans s3).trans s4, r4, q4⟩, l3.rt, l3.nx, fun G4 H4 O4 δ4 σ4 s4 r4 q4 => ⟨G4, O4, δ4, (st2.trans s3).trans s4, r4, q4⟩, l3.ex⟩
    · have e : i = ds.length := by omega
      subst e
      exact .inl ⟨jr.stop _ G' H' st'.g st'.sta.sub rfl, (l1.step st').nx G' H' O' δ' σ' (Step.refl st'.sta) r' (hd δ' O' p)⟩
theorem Sta.less {K : PySem.W.Frag} {G H : Hp} {p : Addr × Cell} {O : Own} (s : Sta K G (p :: O) H) : Sta K G O H := ⟨s.sub, (List.nodup_cons.mp s.nd).2, fun a c m => s.own a c (List.mem_cons_of_mem _ m)⟩
theorem Step.frame {K : PySem.W.Frag} {G G' H H' : Hp} {p : Addr × Cell} {O O' : Own} (s : Sta K G (p :: O) H) (st : Step K G O H G' O' H') : Step K G (p :: O) H G' (p :: O') H' := by
  obtain ⟨gp, o, ho, rc⟩ := s.own p.1 p.2 List.mem_cons_self
  have np : p.1 ∉ O.map (·.1) := (List.nodup_cons.mp s.nd).1
  have hp' : H' p.1 = some o := st.fr _ _ ho np
  have gp' : G' p.1 = none := by
    cases q : G' p.1 with
    | none => rfl
    | some u =>
      rcases st.gn p.1 gp (by rw [q]; exact fun z => nomatch z) with (z | ⟨vs, z⟩) | z
      · rw [ho] at z; cases z
      · rw [ho] at z; cases z
        revert rc
        cases p.2 <;> exact False.elim
      · exact absurd z np
  refine ⟨st.g, ⟨st.sta.sub, ?_, fun a c m => ?_⟩, fun a u h n => st.fr a u h fun m => n (List.mem_cons_of_mem _ m), fun a h n => (st.gn a h n).imp id fun m => List.mem_cons_of_mem _ m, fun a m => ?_⟩
  · rw [List.map_cons, List.nodup_cons]
    refine ⟨fun m => ?_, st.sta.nd⟩
    rcases st.on _ m with z | z
    · exact np z
    · rw [ho] at z; cases z
  · rcases List.mem_cons.mp m with e | m
    · cases e
      exact ⟨gp', o, hp', rc.mono st.g⟩
    · exact st.sta.own a c m
  · rw [List.map_cons] at m
    rcases List.mem_cons.mp m with e | m
    · exact .inl (by rw [e]; exact List.mem_cons_self)
    · exact (st.on a m).imp (fun z => List.mem_cons_of_mem _ z) id
inductive SetN : DEnv → Nat → DEnv → Prop
  | head {y : Option D} {l : DEnv} : SetN (y :: l) 0 (none :: l)
  | tail {y : Option D} {l l' : DEnv} {n : Nat} : SetN l n l' → SetN (y :: l) (n + 1) (y :: l')
theorem SetN.eq {l l' : DEnv} {n : Nat} (h : SetN l n l') : l' = l.set n none := by
  induction h with
  | head => rfl
  | tail _ ih => rw [ih]; rfl
inductive Wp : DEnv → List Nat → DEnv → Prop
  | nil {δ : DEnv} : Wp δ [] δ
  | cons {δ δ1 δ2 : DEnv} {v : Nat} {vs : List Nat} : Wp δ vs δ1 → SetN δ1 v δ2 → Wp δ (v :: vs) δ2
theorem wipe_rep {K : PySem.W.Frag} {G : Hp} {vs : List Nat} {δ δ' : DEnv} {σ : L2.St} (h : Wp δ vs δ') (r : REnv K G δ σ) : REnv K G δ' (wipe σ vs) := by
  induction h with
  | nil => exact r
  | @cons δ1 δ2 v vs hw hs ih =>
    have r1 := ih
    rw [hs.eq]
    refine ⟨by show _ = ((wipe σ vs).set v none).length; simpa using r1.1, fun i d e => ?_⟩
    show ∃ u, ((wipe σ vs).set v none)[i]? = _ ∧ _
    by_cases hi : v = i
    · subst hi
      by_cases hv : v < δ1.length
      · rw [List.getElem?_set_self hv] at e; cases e
      · rw [List.getElem?_eq_none (by simpa using hv)] at e; cases e
    · rw [List.getElem?_set_ne hi] at e ⊢
      exact r1.2 i d e
/-- the context of a comprehension's block -/
abbrev blkX (X : Cx) (scope : Scope) (s : Shared) (H : Hp) (C : Addr) (cl : List (Str × Addr)) (fp : List Addr) : Cx := X.blk s H scope (compEnvC scope cl C X.env) fp
theorem blk_sc (S : Sc X N sc) {scope : Scope} {s : Shared} {H : Hp} {C : Addr} {cl : List (Str × Addr)} {fp : List Addr} (hnm : nmOk (relS scope sc) = true) : Sc (blkX X scope s H C cl fp) N (relS scope sc) :=
  ⟨hnm, S.hn, by show relS scope X.env.scope = _; rw [S.hsc], S.nd, S.calm⟩
def semTs (X : Cx) (ifs : List Expr) : TT := fun σ H Q => ∀ (pins : List (Addr × Obj)) (s : Shared), Inv X pins σ H s → wpAny (model X.prog X.w) X.A (forIn ifs true fun c r => if r = true then do let ok ← isTrue c X.env (eval c X.env); pure (ForInStep.yield ok) else pure (ForInStep.yield r)) (TP X pins σ Q) X.xe s
def DTs (X : Cx) (ifs : List Expr) (δ : DEnv) (O : Own) (E : XD → Own → Prop) (Q : Bool → Own → Prop) : Prop := M X PT0 REq (semTs X ifs) δ O E Q
theorem dts_nil (q : QT true O) : DTs X [] δ O E QT := fun W tk G σ H Q' p r s hE hQ pins s' I => pts_nil.run pins s' σ H Q' I (hQ G H O true true (Step.refl s) rfl q)
theorem dts_one {c : Expr} (h : DT X c δ O E QT) : DTs X [c] δ O E QT := fun W tk G σ H Q' p r s hE hQ pins s' I => (pts_one pt_sem).run pins s' σ H Q' I (h W tk G σ H Q' p r s hE hQ)
abbrev noE : XD → Own → Prop := fun _ _ => False
/-- the store of a comprehension's item: what the slots are behind it -/
def DGc (X : Cx) (tg : Expr) (d : D) (vs : List Nat) (δ : DEnv) (O : Own) (k : DEnv → Own → Prop) : Prop :=
  ∀ (v : V) (G : Hp) (σ : L2.St) (H : Hp) (Q : L2.St → Hp → Prop), Rep X.K G d v → REnv X.K G δ σ → Sta X.K G O H →
    (∀ G' H' O' δ' σ', Step X.K G O H G' O' H' → REnv X.K G' δ' σ' → wipe σ' vs = wipe σ vs → k δ' O' → Q σ' H') → semG X tg v σ H Q
theorem wipe_set {σ : L2.St} {i : Nat} {v : V} : ∀ {vs : List Nat}, i ∈ vs → wipe (σ.set i (some v)) vs = wipe σ vs
  | w :: vs, h => by
    show (wipe (σ.set i (some v)) vs).set w none = (wipe σ vs).set w none
    by_cases hw : w = i
    · subst hw
      by_cases hm : w ∈ vs
      · rw [wipe_set hm]
      · have e : ∀ {vs : List Nat} {σ : L2.St}, w ∉ vs → wipe (σ.set w (some v)) vs = (wipe σ vs).set w (some v) := by
          intro vs
          induction vs with
          | nil => intro σ _; rfl
          | cons u us ih =>
            intro σ hn
            show (wipe (σ.set w (some v)) us).set u none = ((wipe σ us).set u none).set w (some v)
            rw [ih fun m => hn (List.mem_cons_of_mem _ m), List.set_comm _ _ fun z => hn (by rw [z]; exact List.mem_cons_self)]
        rw [e hm, List.set_set]
    · rcases List.mem_cons.mp h with z | z
      · exact absurd z.symm hw
      · rw [wipe_set z]
theorem dgc_name {x : Str} {i : Nat} {d : D} {δ' : DEnv} {vs : List Nat} {k : DEnv → Own → Prop} (S : Sc X N sc) (hi : Ix x N i) (hs : SetD d δ i δ') (hv : i ∈ vs) (q : k δ' O) (hl : Nk x .local sc.names := by (repeat (with_reducible constructor))) : DGc X (.Name x pos) d vs δ O k := fun v G σ H Q rd r s hk pins s' u I ru =>
  (pg_name S.hN (S.ix hi) (.inl (S.lo hl)) (.inr (S.lo hl))).run pins s' σ H v u Q I ru (hk G H O δ' _ (Step.refl s) (by rw [hs.eq]; exact r.set i rd) (wipe_set hv) q)
def DGcs (X : Cx) (ts : List Expr) (ds : List D) (vs : List Nat) (δ : DEnv) (O : Own) (k : DEnv → Own → Prop) : Prop :=
  ∀ (ws : List V) (G : Hp) (σ : L2.St) (H : Hp) (Q : L2.St → Hp → Prop), RepL X.K G ds ws → REnv X.K G δ σ → Sta X.K G O H →
    (∀ G' H' O' δ' σ', Step X.K G O H G' O' H' → REnv X.K G' δ' σ' → wipe σ' vs = wipe σ vs → k δ' O' → Q σ' H') → semGs X ts ws σ H Q
theorem dgcs_nil {vs : List Nat} {k : DEnv → Own → Prop} (q : k δ O) : DGcs X [] [] vs δ O k := fun ws G σ H Q rd r s hk pins s' us I ru => by
  cases rd
  exact pgs_nil.run pins s' σ H [] us Q I ru ⟨rfl, hk G H O δ σ (Step.refl s) r rfl q⟩
theorem dgcs_cons {t : Expr} {ts : List Expr} {d : D} {ds : List D} {vs : List Nat} {k : DEnv → Own → Prop} (h : DGc X t d vs δ O fun δ1 O1 => DGcs X ts ds vs δ1 O1 k) (hs : (assignEach (t :: ts) X.env).map (·.2) = assign t X.env :: (assignEach ts X.env).map (·.2) := by with_unfolding_all rfl) : DGcs X (t :: ts) (d :: ds) vs δ O k := fun ws G σ H Q rd r s hk pins s' us I ru => by
  cases rd with
  | @cons _ v _ vs' r1 r2 =>
    exact (pgs_cons pg_sem pgs_sem hs).run pins s' σ H _ us Q I ru ⟨_, _, rfl, h v G σ H _ r1 r s fun G1 H1 O1 δ1 σ1 st r' w q => q vs' G1 σ1 H1 Q (r2.mono st.g) r' st.sta fun _ _ _ _ _ st2 r3 w2 => hk _ _ _ _ _ (st.trans st2) r3 (w2.trans w)⟩
theorem dgc_tup {es : List Expr} {k' : Nat} {ds : List D} {vs : List Nat} {k : DEnv → Own → Prop} (S : Sc X N sc) (hl : ds.length = es.length) (h : DGcs X es ds vs δ O k) (hn : (assignEach es X.env).length = es.length := by with_unfolding_all rfl) (hst : (assignEach es X.env).findIdx? (·.1) = none := by with_unfolding_all rfl) : DGc X (.Tuple es k' pos) (.tup ds) vs δ O k := fun v G σ H Q rd r s hk pins s' u I ru => by
  cases rd with
  | @tup _ a ws hq rl =>
    exact (pg_tup S.calm pgs_sem hn hst).run pins s' σ H _ u Q I ru ⟨a, ws, rfl, s.sub.seqT hq, by rw [rl.length, hl], h ws G σ H Q rl r s hk⟩
/-- [elt for tg in iter if ..]; P: the items so far, the cells -/
def LcBody (X : Cx) (elt tg : Expr) (ifs : List Expr) (scope : Scope) (vs : List Nat) (δw : DEnv) (ds : List D) (P : Nat → List D → Own → Prop) : Prop :=
  ∀ i d acc O', ds[i]? = some d → P i acc O' → ∀ (s : Shared) (H : Hp) (C : Addr) (cl : List (Str × Addr)) (fp : List Addr),
    DGc (blkX X scope s H C cl fp) tg d vs δw O' fun δ2 O2 => ∀ (s : Shared) (H : Hp) (C : Addr) (cl : List (Str × Addr)) (fp : List Addr), DTs (blkX X scope s H C cl fp) ifs δ2 O2 noE fun b O3 =>
      (b = true → ∀ (s : Shared) (H : Hp) (C : Addr) (cl : List (Str × Addr)) (fp : List Addr), DE (blkX X scope s H C cl fp) elt δ2 O3 noE fun y O4 => acc.length < 100000 ∧ P (i + 1) (acc ++ [y]) O4) ∧ (b = false → P (i + 1) acc O3)
theorem lc_turns {elt tg iter : Expr} {ifs : List Expr} {scope : Scope} {vs : List Nat} {δw : DEnv} {ds : List D} {J : It} {G1 H1 : Hp} {O1 : Own} {σ : L2.St} {Q' : VK} (hw : Wp δ vs δw) (s1 : Sta X.K G1 O1 H1) (r1 : REnv X.K G1 δ σ) (jr : JRep X.K G1 ds J) (P : Nat → List D → Own → Prop) (h0 : P 0 [] O1)
    (hb : LcBody X elt tg ifs scope vs δw ds P) (hd : ∀ acc O', P ds.length acc O' → NewL acc O' Q) (hQ : ∀ G' H' O' d v, Step X.K G1 O1 H1 G' O' H' → Rep X.K G' d v → Q d O' → Q' v H') :
    ∀ Dl, H1 Dl = none → ∃ W : Nat → Nat → Hp → Prop, (∃ m, W 0 m (upd H1 Dl (.lst []))) ∧ ∀ i m H, W i m H →
      (J.stop i H ∧ Q' (.ref Dl) H) ∨ (J.go i H ∧ ∃ Nx : Hp → Prop, (∀ H', Nx H' → ∃ m', m' < m ∧ W (i + 1) m' H') ∧ ∀ x H', J.yld i H x H' → (fun v σ H K => ∀ s0 H0 C cl fp, semG (blkX X scope s0 H0 C cl fp) tg v σ H K : TG) x (wipe σ vs) H' fun σ2 H2 => wipe σ2 vs = wipe σ vs ∧ (fun σ H K => ∀ s0 H0 C cl fp, semTs (blkX X scope s0 H0 C cl fp) ifs σ H K : TT) σ2 H2 fun b H3 =>
        if b = true then (fun σ H K => ∀ s0 H0 C cl fp, sem (blkX X scope s0 H0 C cl fp) elt σ H K : TE) σ2 H3 fun y H4 => ∃ acc, H4 Dl = some (.lst acc) ∧ acc.length < sizeLine ∧ Nx (upd H4 Dl (.lst (acc ++ [y]))) else Nx H3) := by
  intro Dl hD
  have S0 := Step.newO s1 (c := .lst []) (o := .lst []) hD .nil
  refine ⟨fun i m H' => m = ds.length - i ∧ i ≤ ds.length ∧ ∃ G' O' acc, Step X.K G1 O1 H1 G' ((Dl, .lst acc) :: O') H' ∧ P i acc O', ⟨_, rfl, Nat.zero_le _, G1, O1, [], S0, h0⟩, ?_⟩
  rintro i m H' ⟨rfl, hi, G', O', acc, st', p⟩
  have hwip : wipe (wipe σ vs) vs = wipe σ vs := by
    have : ∀ {vs ws : List Nat}, (∀ i ∈ vs, i ∈ ws) → wipe (wipe σ ws) vs = wipe σ ws := by
      intro vs
      induction vs with
      | nil => intro ws _; rfl
      | cons v vs ih =>
        intro ws hm
        show (wipe (wipe σ ws) vs).set v none = _
        rw [ih fun i m => hm i (List.mem_cons_of_mem _ m)]
        have hv := hm v List.mem_cons_self
        have : ∀ {ws : List Nat}, v ∈ ws → (wipe σ ws).set v none = wipe σ ws := by
          intro ws
          induction ws with
          | nil => intro h; exact nomatch h
          | cons u us ih2 =>
            intro h
            show ((wipe σ us).set u none).set v none = (wipe σ us).set u none
            by_cases huv : u = v
            · subst huv; rw [List.set_set]
            · rcases List.mem_cons.mp h with z | z
              · exact absurd z.symm huv
              · rw [List.set_comm _ _ huv, ih2 z]
        exact this hv
    exact this fun i m => m
  by_cases hlt : i < ds.length
  · refine .inr ⟨jr.go i G' H' st'.g st'.sta.sub hlt, fun H2 => ∃ G2 O2 acc2, Step X.K G1 O1 H1 G2 ((Dl, .lst acc2) :: O2) H2 ∧ P (i + 1) acc2 O2, fun H2 ⟨G2, O2, acc2, s2, p2⟩ => ⟨ds.length - (i + 1), by omega, rfl, hlt, G2, O2, acc2, s2, p2⟩, fun x H2 hy s0 H0 C cl fp => ?_⟩
    have hdi : ds[i]? = some ds[i] := by simp [hlt]
    obtain ⟨G2, st2, e2, rx⟩ := drawn jr st' hdi hy
    have rw2 : REnv X.K G2 δw (wipe σ vs) := wipe_rep hw (r1.mono st2.g)
    refine hb i _ acc O' hdi p s0 H0 C cl fp x G2 (wipe σ vs) H2 _ rx rw2 st2.sta.less fun G3 H3 O3 δ3 σ3 s3 r3 w3 q3 => ⟨w3.trans hwip, fun s0 H0 C cl fp => ?_⟩
    have f3 := Step.frame st2.sta s3
    refine q3 s0 H0 C cl fp (fun _ _ _ _ => False) takes0 G3 σ3 H3 _ trivial r3 s3.sta (fun _ _ _ _ _ _ _ _ z => z.elim) fun G4 H4 O4 b b' s4 eb q4 => ?_
    obtain rfl : b = b' := eb
    have f4 := Step.frame f3.sta s4
    have t4 := (st2.trans f3).trans f4
    cases b with
    | false =>
      rw [if_neg Bool.false_ne_true]
      exact ⟨G4, O4, acc, t4, q4.2 rfl⟩
    | true =>
      rw [if_pos rfl]
      intro s0 H0 C cl fp
      refine q4.1 rfl s0 H0 C cl fp (fun _ _ _ _ => False) takes0 G4 σ3 H4 _ trivial (r3.mono s4.g) s4.sta (fun _ _ _ _ _ _ _ _ z => z.elim) fun G5 H5 O5 y v s5 ry ⟨hz, p5⟩ => ?_
      have f5 := Step.frame f4.sta s5
      obtain ⟨_, o, ho, rc⟩ := f5.sta.own Dl _ List.mem_cons_self
      cases o with
      | lst ws =>
        have rl : RepL X.K G5 acc ws := rc
        have f6 := Step.put f5.sta (c := .lst (acc ++ [y])) (o := .lst (ws ++ [v])) Put.head (rl.append (.cons ry .nil))
        exact ⟨ws, ho, by rw [rl.length]; exact Nat.lt_of_lt_of_le hz (by decide), G5, O5, acc ++ [y], (t4.trans f5).trans f6, p5⟩
      | _ => exact rc.elim
  · have e : i = ds.length := by omega
    subst e
    refine .inl ⟨jr.stop _ G' H' st'.g st'.sta.sub rfl, ?_⟩
    rcases hd acc O' p with n | n
    · obtain ⟨_, o, ho, rc⟩ := st'.sta.own Dl _ List.mem_cons_self
      obtain ⟨fz, rc'⟩ := Step.freeze st'.sta (c := .lst acc) At.head Del.head ho
      cases o with
      | lst ws => exact hQ _ _ _ _ _ (st'.trans fz) (.lst upd_same rc') n
      | _ => exact rc.elim
    · exact hQ _ _ _ _ _ st' (.ref Dl) (n Dl)
theorem de_lc {elt tg iter : Expr} {ifs : List Expr} {scope : Scope} (own : List (Str × Nat)) (S : Sc X N sc) (ok : BlkOk N sc scope own)
    (h : DI X tg iter δ O E fun ds O1 => ∃ δw, Wp δ (own.map (·.2)) δw ∧ ∃ P : Nat → List D → Own → Prop, P 0 [] O1 ∧ LcBody X elt tg ifs scope (own.map (·.2)) δw ds P ∧ ∀ acc O', P ds.length acc O' → NewL acc O' Q)
    (hs : ∀ x, foldedSetIterable iter X.env x = pure x := by intro _; with_unfolding_all rfl) : DE X (.ListComp elt [⟨tg, iter, ifs, 0⟩] scope pos) δ O E Q := by
  refine de_of (pe_lc (own := own) (g := fun v σ H K => ∀ s0 H0 C cl fp, semG (blkX X scope s0 H0 C cl fp) tg v σ H K) (tt := fun σ H K => ∀ s0 H0 C cl fp, semTs (blkX X scope s0 H0 C cl fp) ifs σ H K) (te := fun σ H K => ∀ s0 H0 C cl fp, sem (blkX X scope s0 H0 C cl fp) elt σ H K)
    S.calm S.hN pi_sem (by rw [S.hn, S.hsc]; exact ok) (fun s0 H0 C cl fp => ⟨fun pins s' σ H v u K I r q => q s0 H0 C cl fp pins s' u I r⟩) (fun s0 H0 C cl fp => ⟨fun pins s' σ H K I q => q s0 H0 C cl fp pins s' I⟩) (fun s0 H0 C cl fp => ⟨fun pins s' σ H K I q => q s0 H0 C cl fp pins s' I⟩) hs) ?_
  intro W tk G σ H Q' p r s hE hQ
  refine h W tk G σ H _ p r s hE fun G1 H1 O1 ds J st jr ⟨δw, hw, P, h0, hb, hd⟩ => ?_
  exact lc_turns (iter := iter) hw st.sta (r.mono st.g) jr P h0 hb hd fun G' H' O' d v s2 => hQ G' H' O' d v (st.trans s2)
/-- name = [..] on one line -/
theorem ds_setLc {x : Str} {i : Nat} {py : Pos} {elt tg iter : Expr} {ifs : List Expr} {scope : Scope} {lpos : Pos} (own : List (Str × Nat)) (S : Sc X N sc) (hi : Ix x N i) (ok : BlkOk N sc scope own)
    (h : DI X tg iter δ O (fun x O' => B.ex x δ O') fun ds O1 => ∃ δw, Wp δ (own.map (·.2)) δw ∧ ∃ P : Nat → List D → Own → Prop, P 0 [] O1 ∧ LcBody X elt tg ifs scope (own.map (·.2)) δw ds P ∧ ∀ acc O', P ds.length acc O' → NewL acc O' fun d O2 => ∃ δ', SetD d δ i δ' ∧ nx δ' O2)
    (hk : sc.kind = .function := by with_unfolding_all rfl) (hl : Nk x .local sc.names := by (repeat (with_reducible constructor))) (hln : (py.line == lpos.line) = true := by with_unfolding_all rfl) (ha : (scope.names.any fun (n, k) => n == x && (k == .local || k == .cell)) = false := by decide +kernel) (hs : ∀ x, foldedSetIterable iter X.env x = pure x := by intro _; with_unfolding_all rfl) :
    DS X (.Assign [.Name x py] (.ListComp elt [⟨tg, iter, ifs, 0⟩] scope lpos) pos) δ O B nx := by
  refine ds_of (ps_setLc (own := own) (i := i) (g := fun v σ H K => ∀ s0 H0 C cl fp, semG (blkX X scope s0 H0 C cl fp) tg v σ H K) (tt := fun σ H K => ∀ s0 H0 C cl fp, semTs (blkX X scope s0 H0 C cl fp) ifs σ H K) (te := fun σ H K => ∀ s0 H0 C cl fp, sem (blkX X scope s0 H0 C cl fp) elt σ H K)
    S.calm S.hN (S.ix hi) (S.lo hl) (sw_true (by rw [S.hsc]; exact hk) (S.lo hl) hln ha) pi_sem (by rw [S.hn, S.hsc]; exact ok) (fun s0 H0 C cl fp => ⟨fun pins s' σ H v u K I r q => q s0 H0 C cl fp pins s' u I r⟩) (fun s0 H0 C cl fp => ⟨fun pins s' σ H K I q => q s0 H0 C cl fp pins s' I⟩) (fun s0 H0 C cl fp => ⟨fun pins s' σ H K I q => q s0 H0 C cl fp pins s' I⟩) hs) ?_
  intro W tk G σ H D r s l
  refine m_in (t := semI X tg iter) h tk trivial r s l fun G1 H1 O1 ds J st r1 l1 jr ⟨δw, hw, P, h0, hb, hd⟩ => ?_
  exact lc_turns (Q' := fun v H' => D.nx (σ.set i (some v)) H') (iter := iter) hw st.sta r1 jr P h0 hb hd fun G' H' O' d v s2 rd ⟨δ', hδ, q⟩ => (l1.step s2).nx G' H' O' δ' _ (Step.refl s2.sta) (by rw [hδ.eq]; exact (r1.mono s2.g).set i rd) q
abbrev DSp := List D → Own → (XD → Own → Prop) → (D → Own → Prop) → Prop
def lift (K : PySem.W.Frag) (sp : DSp) : Sp := fun vs H Q' E' => ∃ (G : Hp) (ds : List D) (O : Own) (E : XD → Own → Prop) (Q : D → Own → Prop), RepL K G ds vs ∧ Sta K G O H ∧
  (∀ G' H' O' x c dd, Step K G O H G' O' H' → XRep K G' x c dd → E x O' → E' c dd H') ∧ (∀ G' H' O' d v, Step K G O H G' O' H' → Rep K G' d v → Q d O' → Q' v H') ∧ sp ds O E Q
abbrev DFn (P : Program) (w : World) (K : PySem.W.Frag) (mg : Str → Option Value) (base : Heap) (k : Nat) (f : Addr) (sp : DSp) : Prop := FnR P w K mg base (L2N.CX P w) k f (lift K sp)
end
end DL
end
section
set_option maxRecDepth 100000
set_option maxHeartbeats 4000000
set_option autoImplicit false
namespace DL
open PySem PySem.Spec PyProof.Rows L2
/-- what a def's body knows besides -/
structure Df (X : Cx) : Prop where
  fn : ∀ x, X.fn x = true
  stk : X.stack = X.env :: X.outer
  frm : X.env.frame = some X.env.locals
  ex : X.ex = []
  po : PassesOwn (model X.prog X.w) X.A X.env X.xe
theorem cxUpN {P : Program} {w : World} : StX.CXUp (L2N.CX P w) := fun outer s H s2 H2 E e s' un kp ho z => by
  obtain ⟨a, B, H3, cls, d, ea, fl, hok, ub, na, os, ag, he⟩ := z
  refine ⟨a, B, H3, cls, d, ea, fl, hok, ⟨fun b o q n hb => ub.keep b o (kp b o q) (un.free b o q n (List.not_mem_nil)) hb, fun b o q => ub.slot b o (kp b o q), fun b o q n => ub.free b o (kp b o q) (un.free b o q n (List.not_mem_nil)), fun b o q => ub.there b o (kp b o q), fun b xs q => ub.tups b xs (un.tups b xs q), fun b o xs q => ub.frzs b o xs (un.frzs b o xs q), fun b ps q => ?_⟩, na, os.trans ho, ag, he⟩
  obtain ⟨m1, z1⟩ := un.tbls b ps q; obtain ⟨m2, z2⟩ := ub.tbls b _ z1
  exact ⟨m1 ++ m2, by rw [z2, Array.append_assoc]⟩
theorem okXN {P : Program} {w : World} {K : PySem.W.Frag} {mg : Str → Option Value} {base : Heap} {x qual : Str} {st : Stmt} {f : Addr} {fd : FuncData} {N ps : List Str} {k : Nat} {sp : Sp} (F : Fun K x qual st f fd) (S : FnScope N ps (defScope st)) (len : ∀ vs H Q E, sp vs H Q E → vs.length = ps.length)
    (hb : ∀ (cdv : Value) (A : Around) (outer : List Env) (s : Shared) (H : Hp) (vs : List V) (Q : VK) (E : XK), Room k (A.deeper (envOfC qual (defScope st) s.heap.objs.size f cdv)) → sp vs H Q E → ∃ t, PSs (cxOf (L2N.CX P w) P w K mg base N qual (defScope st) f cdv A outer s H E) (defBody st) t ∧ t { nx := fun _ H' => Q .non H', rt := Q } (L2.start N vs) H) : FnOk P w K mg base (L2N.CX P w) (k + 1) f fd ps sp := by
  obtain ⟨oc, od, kV, doc, pm, an, cdv, ct, osl, e, lk, hcd⟩ := F.ex; subst e
  exact fn_of lk hcd S len fun A outer s H vs Q E => hb cdv A outer s H vs Q E
structure Is (X : Cx) (P : Program) (w : World) (K : PySem.W.Frag) (mg : Str → Option Value) (base : Heap) : Prop where
  p : X.prog = P
  w : X.w = w
  k : X.K = K
  mg : X.mg = mg
  base : X.base = base
  pa : ∀ hd : Option Value, PassesOwnAt (model X.prog X.w) (X.A.mark hd) X.A X.env X.xe
def startD (N : List Str) (ds : List D) : DEnv := ds.map some ++ List.replicate (N.length - ds.length) none
theorem start_rep {K : PySem.W.Frag} {G : Hp} {N : List Str} {ds : List D} {vs : List V} (r : RepL K G ds vs) : REnv K G (startD N ds) (L2.start N vs) := by
  refine ⟨by simp [startD, L2.start, r.length], fun i d e => ?_⟩
  unfold startD at e
  unfold L2.start
  by_cases hi : i < ds.length
  · rw [List.getElem?_append_left (by simpa using hi), List.getElem?_map] at e
    cases q : ds[i]? with
    | none => rw [q] at e; cases e
    | some x =>
      rw [q] at e
      cases e
      obtain ⟨v, hv, rv⟩ := r.get q
      exact ⟨v, by rw [List.getElem?_append_left (by simpa [r.length] using hi), List.getElem?_map, hv]; rfl, rv⟩
  · rw [List.getElem?_append_right (by simpa using hi), List.getElem?_replicate] at e
    split at e <;> cases e
abbrev bkOf (Q : D → Own → Prop) (E : XD → Own → Prop) : Bk := ⟨Q, fun _ _ => False, fun _ _ => False, fun x _ O' => E x O'⟩
/-- what a def's body must do -/
def BodyOk (P : Program) (w : World) (K : PySem.W.Frag) (mg : Str → Option Value) (base : Heap) (k : Nat) (N : List Str) (st : Stmt) (sp : DSp) : Prop :=
  ∀ (X : Cx), Is X P w K mg base → Sc X N (defScope st) → Df X → Room k X.A → ∀ ds O E Q, sp ds O E Q → DSs X (defBody st) (startD N ds) O (bkOf Q E) fun _ O' => Q .non O'
section
variable {P : Program} {w : World} {K : PySem.W.Frag} {mg : Str → Option Value} {base : Heap} {x qual : Str} {st : Stmt} {f : Addr} {fd : FuncData} {N ps : List Str} {k : Nat} {sp sp' : DSp}
theorem DFn.imp (F : DFn P w K mg base k f sp) (h : ∀ ds O E Q, sp' ds O E Q → sp ds O E Q) : DFn P w K mg base k f sp' := FnR.imp F fun vs H Q E ⟨G, ds, O, E', Q', a, b, c, d, e⟩ => ⟨G, ds, O, E', Q', a, b, c, d, h _ _ _ _ e⟩
/-- the body, from the model's words -/
theorem body_run (S : FnS N ps (defScope st)) (h : BodyOk P w K mg base k N st sp) (cdv : Value) (A : Around) (outer : List Env) (s : Shared) (H : Hp) (vs : List V) (Q : VK) (E : XK) (hr : Room k (A.deeper (envOfC qual (defScope st) s.heap.objs.size f cdv)))
    (hsp : lift K sp vs H Q E) : ∃ t, PSs (cxOf (L2N.CX P w) P w K mg base N qual (defScope st) f cdv A outer s H E) (defBody st) t ∧ t { nx := fun _ H' => Q .non H', rt := Q } (L2.start N vs) H := by
  obtain ⟨G, ds, O, E', Q', rl, sta, hE, hQ, hs⟩ := hsp
  refine ⟨_, pss_sem, ?_⟩
  exact h (cxOf (L2N.CX P w) P w K mg base N qual (defScope st) f cdv A outer s H E) ⟨rfl, rfl, rfl, rfl, rfl, L2H.passesAt_of rfl⟩ ⟨S.nm, rfl, rfl, S.nd, rfl⟩ ⟨fun _ => rfl, rfl, rfl, rfl, passes_of rfl⟩ hr ds O E' Q' hs _ (L2N.takes_of rfl rfl rfl rfl) G _ H _ (start_rep rl) sta
    ⟨fun G' H' O' δ' σ' s' r' q => hQ G' H' O' .non .non s' .non q, hQ, fun _ _ _ _ _ _ _ z => z.elim, fun _ _ _ _ _ _ _ z => z.elim, fun G' H' O' δ' σ' x c dd s' r' xr e => hE G' H' O' x c dd s' xr e⟩
theorem dfn_of (F : Fun K x qual st f fd) (S : FnS N ps (defScope st)) (hb : Binds K fd ps []) (len : ∀ ds O E Q, sp ds O E Q → ds.length = ps.length) (h : BodyOk P w K mg base k N st sp) : DFn P w K mg base (k + 1) f sp := by
  have F1 : FnOk P w K mg base (L2N.CX P w) (k + 1) f fd ps (lift K sp) := okXN F S.toFnScope (fun vs H Q E ⟨G, ds, O, E', Q', rl, _, _, _, hs⟩ => by rw [rl.length]; exact len _ _ _ _ hs) fun cdv A outer s H vs Q E hr hsp => body_run S h cdv A outer s H vs Q E hr hsp
  exact FnR.imp (F1.raw hb .nil) fun vs H Q E z => by rw [List.append_nil]; exact z
/-- def f(a, .., *r) -/
def starSp (n : Nat) (sp : DSp) : DSp := fun ds O E Q => ∃ ws rest, ds = ws ++ rest ∧ ws.length = n ∧ rest.length ≤ 100000 ∧ sp (ws ++ [.tup rest]) O E Q
theorem dfn_star {pv : Str} (F : Fun K x qual st f fd) (S : FnS N (ps ++ [pv]) (defScope st)) (hb : ∀ us rest : List Value, us.length = ps.length → bindArgs fd ⟨us ++ rest, []⟩ = (newTuple rest >>= fun t => pure (ps.zip us ++ [(pv, t)])))
    (h : BodyOk P w K mg base k N st sp) : DFn P w K mg base (k + 1) f (starSp ps.length sp) := by
  obtain ⟨oc, od, kV, doc, pm, an, cdv, ct, osl, rfl, lk, hcd⟩ := F.ex
  refine FnR.imp (StX.fn_star (sp := lift K sp) lk hcd S.toFnScope cxUpN hb fun A outer s H vs Q E hr hsp => body_run S h cdv A outer s H vs Q E hr hsp) fun vs H Q E hsp => ?_
  obtain ⟨G, ds, O, E', Q', rl, sta, hE, hQ, ws, rest, ed, hl, hz, hs⟩ := hsp
  subst ed
  obtain ⟨v1, v2, ev, r1, r2⟩ := rl.split
  subst ev
  refine ⟨v1, v2, rfl, by rw [r1.length]; exact hl, by rw [r2.length]; exact Nat.le_trans hz (by decide), fun p hp => ?_⟩
  have s1 := Step.new sta (o := .tup v2) hp
  exact ⟨_, ws ++ [.tup rest], O, E', Q', (r1.mono s1.g).append (.cons (.tup (SqT.of upd_same) (r2.mono s1.g)) .nil), s1.sta, fun _ _ _ _ _ _ s2 => hE _ _ _ _ _ _ (s1.trans s2), fun _ _ _ _ _ s2 => hQ _ _ _ _ _ (s1.trans s2), hs⟩
end
theorem Is.fn {X : Cx} {P : Program} {w : World} {K : PySem.W.Frag} {mg : Str → Option Value} {base : Heap} (I : Is X P w K mg base) {k j : Nat} {f : Addr} {sp : DSp} (F : DFn P w K mg base k f sp) (h : k ≤ j := by decide) : DFn X.prog X.w X.K X.mg X.base j f sp := by
  obtain ⟨h1, h2, h3, h4, h5, _⟩ := I
  subst h1 h2 h3 h4 h5
  exact FnR.mono F h
section
variable {X : Cx} {N : List Str} {sc : Scope} {δ : DEnv} {O : Own} {E : XD → Own → Prop} {Q : D → Own → Prop} {QT : Bool → Own → Prop} {QA : List D → Own → Prop} {pos p apos : Pos} {f : Value} {ds : List D}
def semC (X : Cx) (f : Value) (vs : List V) : TE := fun σ H Q => ∀ (pins : List (Addr × Obj)) (s : Shared) (us : List Value), Inv X pins σ H s → Vals vs us → wpAny (model X.prog X.w) X.A (call f us) (EP X pins σ Q) X.xe s
def DC (X : Cx) (f : Value) (ds : List D) (δ : DEnv) (O : Own) (E : XD → Own → Prop) (Q : D → Own → Prop) : Prop := ∀ vs, M X (fun G => RepL X.K G ds vs) (Rep X.K) (semC X f vs) δ O E Q
theorem run_fnD {k : Nat} {a : Addr} {sp : DSp} (F : DFn X.prog X.w X.K X.mg X.base k a sp) (hr : Room k X.A) (h : sp ds O E Q) {vs : List V} {W : WX} (tk : L2N.Takes X W) {G H : Hp} {σ : L2.St} {Q' : VK} (rl : RepL X.K G ds vs) (s : Sta X.K G O H)
    (hE : ∀ G' H' O' x c dd, Step X.K G O H G' O' H' → XRep X.K G' x c dd → E x O' → W c dd σ H') (hQ : ∀ G' H' O' d v, Step X.K G O H G' O' H' → Rep X.K G' d v → Q d O' → Q' v H') {pins : List (Addr × Obj)} {s' : Shared} {us : List Value} (I : Inv X pins σ H s') (rv : Vals vs us) :
    codeAny (model X.prog X.w) X.A (.call (.ref a) ⟨us, []⟩) (fun r s' => match r with | .ok (.ret v) => EP X pins σ Q' v s' | .ok _ => False | .error e => X.xe e s') s' := by
  refine codeAny_mono (F X.A X.stack s' H us vs Q' (fun c dd H' => W c dd σ H') hr I.env0 rv ⟨G, ds, O, E, Q, rl, s, hE, hQ, h⟩) fun r s2 hq => ?_
  cases r with
  | error e => exact tk e s2 (L2N.XE.of_call I (fun _ _ _ z => z) hq)
  | ok fl =>
    cases fl with
    | ret u => exact I.after hq
    | next => exact False.elim hq
    | brk => exact False.elim hq
    | cont => exact False.elim hq
theorem dc_fn {k : Nat} {a : Addr} {sp : DSp} (F : DFn X.prog X.w X.K X.mg X.base k a sp) (hr : Room k X.A) (h : sp ds O E Q) : DC X (.ref a) ds δ O E Q := fun vs W tk G σ H Q' rl r s hE hQ pins s' us I rv => wpAny_call (run_fnD F hr h tk rl s hE hQ I rv)
theorem dc_of {r : List V → Hp → VK → Prop} (hc : CallR X f r) (h : ∀ vs, M X (fun G => RepL X.K G ds vs) (Rep X.K) (fun _ H K => r vs H K) δ O E Q) : DC X f ds δ O E Q := fun vs W tk G σ H Q' rl r' s hE hQ pins s' us I rv => hc pins s' σ H vs us Q' I rv (h vs W tk G σ H Q' rl r' s hE hQ)
theorem m_args {α β : Type} {R : Hp → α → β → Prop} {es : List Expr} {t : List V → TR β} {Qa : α → Own → Prop} (h : DA X es δ O E fun ds O1 => ∀ vs, M X (fun G => RepL X.K G ds vs) R (t vs) δ O1 E Qa) :
    M X PT0 R (fun σ H K => semA X es σ H fun vs H1 => t vs σ H1 K) δ O E Qa := M.bind mono0 h fun ds O1 vs h1 => M.weak (h1 vs) fun _ p => p.2
/-- x(e, ..): x the module's own def (or class) -/
theorem de_call {x : Str} {e : Expr} {es : List Expr} (S : Sc X N sc) (hm : X.mg x = some f) (hk : PySem.W.keepIn X.K f = true) (h : DA X (e :: es) δ O E fun ds O1 => DC X f ds δ O1 E Q) (hg : Nk x .globalImplicit sc.names := by (repeat (with_reducible constructor)))
    (he : starEach (e :: es) X.env = (false, eval e X.env) :: starEach es X.env := by with_unfolding_all rfl) (hpl : (backTo pos (starEach es X.env)).any (·.1) = false := by with_unfolding_all rfl) : DE X (.Call (.Name x p) (e :: es) [] pos) δ O E Q :=
  de_of (t := fun σ H K => semA X (e :: es) σ H fun vs H1 => semC X f vs σ H1 K) ⟨fun pins s σ H K I q => by
    refine wpAny_Call_Name_kw (ld_glob I (S.gl hg) hm ?_ (S.dbg hg))
    exact PySem.W.callWith_K (h₀ := X.base) I.ok.mod.kin hk (thn (q pos pins s I) fun us s1 ⟨vs, H1, I1, r, q1⟩ => ⟨I1.kIn, q1 pins s1 us I1 r⟩) he hpl⟩ (m_args h)
/-- x(*e) -/
theorem m_star {α β : Type} {R : Hp → α → β → Prop} {e : Expr} {t : List V → TR β} {Qa : α → Own → Prop} (h : DE X e δ O E fun d O1 => ∃ xs, (d = .tup xs ∨ d = .lst xs) ∧ ∀ vs, M X (fun G => RepL X.K G xs vs) R (t vs) δ O1 E Qa) :
    M X PT0 R (fun σ H K => sem X e σ H fun y H1 => ∃ a xs, y = V.ref a ∧ (SqT X.K H1 a xs ∨ SqL X.K H1 a xs) ∧ t xs σ H1 K) δ O E Qa :=
  fun W tk G σ H Q' p r s hE hQ => h W tk G σ H _ p r s hE fun G1 H1 O1 d v st rd ⟨xs, ed, h1⟩ => by
    have go : ∀ a vs, (SqT X.K H1 a vs ∨ SqL X.K H1 a vs) → RepL X.K G1 xs vs → v = .ref a → ∃ a vs, v = V.ref a ∧ (SqT X.K H1 a vs ∨ SqL X.K H1 a vs) ∧ t vs σ H1 Q' := fun a vs hq rl ev => ⟨a, vs, ev, hq, h1 vs W tk G1 σ H1 _ rl (r.mono st.g) st.sta (fun _ _ _ _ _ _ st2 => hE _ _ _ _ _ _ (st.trans st2)) fun _ _ _ _ _ st2 => hQ _ _ _ _ _ (st.trans st2)⟩
    rcases ed with rfl | rfl
    · cases rd with
      | tup hq rl => exact go _ _ (.inl (st.sta.sub.seqT hq)) rl rfl
    · cases rd with
      | lst hq rl => exact go _ _ (.inr (.inl (.inl (st.sta.sub _ _ hq)))) rl rfl
theorem de_callS {x : Str} {e : Expr} {sp_ : Pos} (S : Sc X N sc) (hm : X.mg x = some f) (hk : PySem.W.keepIn X.K f = true) (h : DE X e δ O E fun d O1 => ∃ xs, (d = .tup xs ∨ d = .lst xs) ∧ DC X f xs δ O1 E Q) (hg : Nk x .globalImplicit sc.names := by (repeat (with_reducible constructor)))
    (hst : starEach [.Starred e sp_] X.env = [(true, eval e X.env)] := by with_unfolding_all rfl) : DE X (.Call (.Name x p) [.Starred e sp_] [] pos) δ O E Q :=
  de_of (t := fun σ H K => sem X e σ H fun y H1 => ∃ a xs, y = V.ref a ∧ (SqT X.K H1 a xs ∨ SqL X.K H1 a xs) ∧ semC X f xs σ H1 K) ⟨fun pins s σ H K I q => by
    refine wpAny_Call_Name_kw (ld_glob I (S.gl hg) hm ?_ (S.dbg hg))
    refine PySem.W.callWith_S (h₀ := X.base) I.ok.mod.kin hk (thn (q pins s I) fun v s1 ⟨y, H1, I1, ry, a, xs, ey, hxs, q1⟩ => ?_) hst
    subst ey
    obtain rfl : v = Value.ref a := ry
    exact StX.star_any I1 hxs fun us s2 I2 rv => ⟨I2.kIn, q1 pins s2 us I2 rv⟩⟩ (m_star h)
/-- x(*e), x a name of the def's own that holds a thing of the module -/
theorem de_callVS {x : Str} {e : Expr} {sp_ : Pos} {i : Nat} {a : Addr} (S : Sc X N sc) (hi : Ix x N i) (hd : Sl δ i (.ref a)) (hk : PySem.W.keepIn X.K (.ref a) = true) (h : DE X e δ O E fun d O1 => ∃ xs, (d = .tup xs ∨ d = .lst xs) ∧ DC X (.ref a) xs δ O1 E Q) (hv : LkV x sc.names := by (repeat (with_reducible constructor)))
    (hst : starEach [.Starred e sp_] X.env = [(true, eval e X.env)] := by with_unfolding_all rfl) : DE X (.Call (.Name x p) [.Starred e sp_] [] pos) δ O E Q :=
  de_of (t := fun σ H K => sem X (.Name x p) σ H fun z H0 => z = V.ref a ∧ sem X e σ H0 fun y H1 => ∃ a' xs, y = V.ref a' ∧ (SqT X.K H1 a' xs ∨ SqL X.K H1 a' xs) ∧ semC X (.ref a) xs σ H1 K) ⟨fun pins s σ H K I q => by
    refine wpAny_Call_Name_kw (thn (q pins s I) fun u s0 ⟨z, H0, I0, rz, ez, q0⟩ => ?_)
    subst ez
    obtain rfl : u = Value.ref a := rz
    refine PySem.W.callWith_S (h₀ := X.base) I.ok.mod.kin hk (thn (q0 pins s0 I0) fun v s1 ⟨y, H1, I1, ry, a, xs, ey, hxs, q1⟩ => ?_) hst
    subst ey
    obtain rfl : v = Value.ref a := ry
    exact StX.star_any I1 hxs fun us s2 I2 rv => ⟨I2.kIn, q1 pins s2 us I2 rv⟩⟩
    fun W tk G σ H Q' pp r s hE hQ => (de_name (Q := fun d O' => d = .ref a ∧ O' = O) S hi hd ⟨rfl, rfl⟩ hv : DE X (.Name x p) δ O E _) W tk G σ H _ trivial r s hE fun G1 H1 O1 d v st rd ⟨e1, e2⟩ => by
      subst e1 e2
      cases rd
      exact ⟨rfl, m_star h W tk G1 σ H1 Q' trivial (r.mono st.g) st.sta (fun _ _ _ _ _ _ st2 => hE _ _ _ _ _ _ (st.trans st2)) fun _ _ _ _ _ st2 => hQ _ _ _ _ _ (st.trans st2)⟩
/-- x(e, ..): a built-in function, a built-in class -/
theorem de_callB {x : Str} {e : Expr} {es : List Expr} {id : String} (S : Sc X N sc) (hm : X.mg x = none) (hv : bootBuiltins x = some (.builtin id)) (h : DA X (e :: es) δ O E fun ds O1 => DC X (.builtin id) ds δ O1 E Q) (hg : Nk x .globalImplicit sc.names := by (repeat (with_reducible constructor)))
    (he : starEach (e :: es) X.env = (false, eval e X.env) :: starEach es X.env := by with_unfolding_all rfl) (hpl : (backTo pos (starEach es X.env)).any (·.1) = false := by with_unfolding_all rfl) : DE X (.Call (.Name x p) (e :: es) [] pos) δ O E Q :=
  de_of (t := fun σ H K => semA X (e :: es) σ H fun vs H1 => semC X (.builtin id) vs σ H1 K) ⟨fun pins s σ H K I q => by
    refine wpAny_Call_Name_kw (ld_blt I (S.gl hg) hm hv ?_ (S.nme hg) (S.dbg hg))
    exact PyProof.Rows.callWith_builtin1 (thn (q pos pins s I) fun us s1 ⟨vs, H1, I1, r, q1⟩ => q1 pins s1 us I1 r) he hpl⟩ (m_args h)
theorem de_callT {x : Str} {e : Expr} {es : List Expr} {T : String} (S : Sc X N sc) (hm : X.mg x = none) (hv : bootBuiltins x = some (.type T)) (h : DA X (e :: es) δ O E fun ds O1 => DC X (.type T) ds δ O1 E Q) (hg : Nk x .globalImplicit sc.names := by (repeat (with_reducible constructor)))
    (he : starEach (e :: es) X.env = (false, eval e X.env) :: starEach es X.env := by with_unfolding_all rfl) (hpl : (backTo pos (starEach es X.env)).any (·.1) = false := by with_unfolding_all rfl) : DE X (.Call (.Name x p) (e :: es) [] pos) δ O E Q :=
  de_of (t := fun σ H K => semA X (e :: es) σ H fun vs H1 => semC X (.type T) vs σ H1 K) ⟨fun pins s σ H K I q => by
    refine wpAny_Call_Name_kw (ld_blt I (S.gl hg) hm hv ?_ (S.nme hg) (S.dbg hg))
    exact PyProof.Rows.callWith_type1 (thn (q pos pins s I) fun us s1 ⟨vs, H1, I1, r, q1⟩ => q1 pins s1 us I1 r) he hpl⟩ (m_args h)
/-- d is an instance: frozen, or a cell of ours -/
inductive IsIns : D → Own → Addr → List (Str × D) → Prop
  | fz {C : Addr} {fs : List (Str × D)} {O : Own} : IsIns (.ins C fs) O C fs
  | own {a C : Addr} {fs : List (Str × D)} {O : Own} : At a (.ins C fs) O → IsIns (.ref a) O C fs
theorem IsIns.get {K : PySem.W.Frag} {G H : Hp} {d : D} {v : V} {C : Addr} {fs : List (Str × D)} (i : IsIns d O C fs) (r : Rep K G d v) (s : Sta K G O H) : ∃ a dx vs, v = .ref a ∧ H a = some (.ins C dx vs) ∧ RepF K G fs vs := by
  cases i with
  | fz =>
    cases r with
    | ins h rf => exact ⟨_, _, _, rfl, s.sub _ _ h, rf⟩
  | own m =>
    cases r
    obtain ⟨_, o, ho, rc⟩ := s.at_ m
    cases o with
    | ins C' dx vs => obtain ⟨e, rf⟩ := rc; subst e; exact ⟨_, _, _, rfl, ho, rf⟩
    | _ => exact rc.elim
theorem de_fld {e : Expr} {g : Str} (h : DE X e δ O E fun d O1 => ∃ C fs x, IsIns d O1 C fs ∧ Cls X.K C ∧ NoAttr X.K C g ∧ fs.lookup g = some x ∧ Q x O1) (hb : attributeBase e g X.env (eval e X.env) = eval e X.env := by with_unfolding_all rfl) : DE X (.Attribute e g pos) δ O E Q :=
  de_of (pe_fld pe_sem hb) fun W tk G σ H Q' p r s hE hQ => h W tk G σ H _ p r s hE fun G1 H1 O1 d v st rd ⟨C, fs, x, i, c, n, l, q⟩ => by
    obtain ⟨a, dx, vs, ev, ha, rf⟩ := i.get rd st.sta
    obtain ⟨y, hy, ry⟩ := rf.look.1 x l
    exact ⟨a, C, dx, vs, y, ev, ha, c, n, hy, hQ G1 H1 O1 x y st ry q⟩
/-- C.NAME, C a class -/
theorem de_cval {e : Expr} {g : Str} (h : DE X e δ O E fun d O1 => ∃ C mc x v u, d = .ref C ∧ ClX.CRead X.K C mc ∧ ClX.CVal X.K C mc g v u ∧ (∀ G, Rep X.K G x v) ∧ Q x O1) (hb : attributeBase e g X.env (eval e X.env) = eval e X.env := by with_unfolding_all rfl) : DE X (.Attribute e g pos) δ O E Q :=
  de_of (ClX.pe_cval pe_sem hb) fun W tk G σ H Q' p r s hE hQ => h W tk G σ H _ p r s hE fun G1 H1 O1 d v st rd ⟨C, mc, x, w, u, ed, r1, k, rx, q⟩ => by
    subst ed
    cases rd
    exact ⟨C, mc, w, u, rfl, r1, k, hQ G1 H1 O1 x w st (rx G1) q⟩
/-- o.m(e, ..), m a method of the instance's class -/
theorem de_meth {o e : Expr} {es : List Expr} {m : Str} {pl : Sem Bool} (h : DE X o δ O E fun d O1 => ∃ C fs g, IsIns d O1 C fs ∧ Cls X.K C ∧ Meth X.K C m g ∧ fs.lookup m = none ∧ DA X (e :: es) δ O1 E fun ds O2 => DC X (.ref g) (d :: ds) δ O2 E Q)
    (hst : starEach (e :: es) X.env = (false, eval e X.env) :: starEach es X.env := by with_unfolding_all rfl) (hpl : (backTo pos (starEach es X.env)).any (·.1) = false := by with_unfolding_all rfl)
    (ht : eval (.Call (.Attribute o m apos) (e :: es) [] pos) X.env = (do
      let ov ← eval o X.env
      standAt apos.atName
      let (f, first) ← holding [ov] (getMethod ov m pl)
      callWith pos f first (backTo pos (starEach (e :: es) X.env)) (backToKw pos (keywordEach [] X.env))) := by with_unfolding_all rfl) : DE X (.Call (.Attribute o m apos) (e :: es) [] pos) δ O E Q :=
  de_of (t := fun σ H K => sem X o σ H fun x H1 => ∃ a C dx fs g, x = .ref a ∧ H1 a = some (.ins C dx fs) ∧ Cls X.K C ∧ Meth X.K C m g ∧ fs.lookup m = none ∧ semA X (e :: es) σ H1 fun vs H2 => semC X (.ref g) (x :: vs) σ H2 K)
    ⟨fun pins s σ H K I q => by
      refine PySem.W.methodCall_KW (pl := pl) (thn (q pins s I) fun u s1 ⟨x, H1, I1, rx, a, C, dx, fs, g, ex, ea, c, hm, l, q⟩ => ?_) ht
      subst ex
      obtain rfl : u = Value.ref a := rx
      refine getmeth_ok I1 ea c hm l ?_
      exact PySem.W.callWith_K (first := [.ref a]) (h₀ := X.base) I.ok.mod.kin hm.kp (thn (q pos pins s1 I1) fun us s2 ⟨vs, H2, I2, r, q2⟩ => ⟨I2.kIn, q2 pins s2 (.ref a :: us) I2 (.cons rfl r)⟩) hst hpl⟩
    fun W tk G σ H Q' p r s hE hQ => h W tk G σ H _ p r s hE fun G1 H1 O1 d v st rd ⟨C, fs, g, i, c, hm, l, q⟩ => by
      obtain ⟨a, dx, vs, ev, ha, rf⟩ := i.get rd st.sta
      refine ⟨a, C, dx, vs, g, ev, ha, c, hm, rf.look.2 l, ?_⟩
      refine q W tk G1 σ H1 _ trivial (r.mono st.g) st.sta (fun _ _ _ _ _ _ st2 => hE _ _ _ _ _ _ (st.trans st2)) fun G2 H2 O2 ds ws st2 rl q2 => ?_
      exact q2 (v :: ws) W tk G2 σ H2 Q' (.cons (rd.mono st2.g) rl) (r.mono (st.trans st2).g) st2.sta (fun _ _ _ _ _ _ st3 => hE _ _ _ _ _ _ ((st.trans st2).trans st3)) fun _ _ _ _ _ st3 => hQ _ _ _ _ _ ((st.trans st2).trans st3)
theorem de_meth0 {o : Expr} {m : Str} {pl : Sem Bool} (h : DE X o δ O E fun d O1 => ∃ C fs g, IsIns d O1 C fs ∧ Cls X.K C ∧ Meth X.K C m g ∧ fs.lookup m = none ∧ DC X (.ref g) [d] δ O1 E Q)
    (ht : eval (.Call (.Attribute o m apos) [] [] pos) X.env = (do
      let ov ← eval o X.env
      standAt apos.atName
      let (f, first) ← holding [ov] (getMethod ov m pl)
      callWith pos f first (backTo pos (starEach [] X.env)) (backToKw pos (keywordEach [] X.env))) := by with_unfolding_all rfl) : DE X (.Call (.Attribute o m apos) [] [] pos) δ O E Q :=
  de_of (t := fun σ H K => sem X o σ H fun x H1 => ∃ a C dx fs g, x = .ref a ∧ H1 a = some (.ins C dx fs) ∧ Cls X.K C ∧ Meth X.K C m g ∧ fs.lookup m = none ∧ semC X (.ref g) [x] σ H1 K)
    ⟨fun pins s σ H K I q => by
      refine PySem.W.methodCall_KW (pl := pl) (thn (q pins s I) fun u s1 ⟨x, H1, I1, rx, a, C, dx, fs, g, ex, ea, c, hm, l, q⟩ => ?_) ht
      subst ex
      obtain rfl : u = Value.ref a := rx
      refine getmeth_ok I1 ea c hm l ?_
      exact PySem.W.callWith_K0 (first := [.ref a]) I1.kIn hm.kp (q pins s1 [.ref a] I1 (.cons rfl .nil))⟩
    fun W tk G σ H Q' p r s hE hQ => h W tk G σ H _ p r s hE fun G1 H1 O1 d v st rd ⟨C, fs, g, i, c, hm, l, q⟩ => by
      obtain ⟨a, dx, vs, ev, ha, rf⟩ := i.get rd st.sta
      refine ⟨a, C, dx, vs, g, ev, ha, c, hm, rf.look.2 l, ?_⟩
      exact q [v] W tk G1 σ H1 Q' (.cons rd .nil) (r.mono st.g) st.sta (fun _ _ _ _ _ _ st3 => hE _ _ _ _ _ _ (st.trans st3)) fun _ _ _ _ _ st3 => hQ _ _ _ _ _ (st.trans st3)
/-- the code of a def of the module, as it runs -/
def semK (X : Cx) (a : Addr) (vs : List V) : TE := fun σ H Q => ∀ (pins : List (Addr × Obj)) (s : Shared) (us : List Value), Inv X pins σ H s → Vals vs us →
  codeAny (model X.prog X.w) X.A (.call (.ref a) ⟨us, []⟩) (fun r s' => match r with | .ok (.ret v) => EP X pins σ Q v s' | .ok _ => False | .error e => X.xe e s') s
def DK (X : Cx) (a : Addr) (ds : List D) (δ : DEnv) (O : Own) (E : XD → Own → Prop) (Q : D → Own → Prop) : Prop := ∀ vs, M X (fun G => RepL X.K G ds vs) (Rep X.K) (semK X a vs) δ O E Q
theorem dk_fn {k : Nat} {a : Addr} {sp : DSp} (F : DFn X.prog X.w X.K X.mg X.base k a sp) (hr : Room k X.A) (h : sp ds O E Q) : DK X a ds δ O E Q := fun vs W tk G σ H Q' rl r s hE hQ pins s' us I rv => run_fnD F hr h tk rl s hE hQ I rv
/-- C.m(e, ..), m a classmethod of the class C -/
theorem de_cmeth {o e : Expr} {es : List Expr} {m : Str} {pl : Sem Bool} {C pr g : Addr} {mc : Value} (rd : ClX.CRead X.K C mc) (c : ClX.CMet X.K C mc m pr g)
    (h : DE X o δ O E fun d O1 => d = .ref C ∧ DA X (e :: es) δ O1 E fun ds O2 => DK X g (.ref C :: ds) δ O2 E Q)
    (hst : starEach (e :: es) X.env = (false, eval e X.env) :: starEach es X.env := by with_unfolding_all rfl) (hpl : (backTo pos (starEach es X.env)).any (·.1) = false := by with_unfolding_all rfl)
    (ht : eval (.Call (.Attribute o m apos) (e :: es) [] pos) X.env = (do
      let ov ← eval o X.env
      standAt apos.atName
      let (f, first) ← holding [ov] (getMethod ov m pl)
      callWith pos f first (backTo pos (starEach (e :: es) X.env)) (backToKw pos (keywordEach [] X.env))) := by with_unfolding_all rfl) : DE X (.Call (.Attribute o m apos) (e :: es) [] pos) δ O E Q :=
  de_of (t := fun σ H K => sem X o σ H fun x H1 => x = .ref C ∧ semA X (e :: es) σ H1 fun vs H2 => semK X g (.ref C :: vs) σ H2 K)
    ⟨fun pins s σ H K I q => by
      refine PySem.W.methodCall_KW (pl := pl) (thn (q pins s I) fun u s1 ⟨x, H1, I1, rx, ex, q⟩ => ?_) ht
      subst ex
      obtain rfl : u = Value.ref C := rx
      refine ClX.getmethcm_ok I1 rd c fun s2 I2 => ?_
      refine ClX.callwith_cm I2 (ClX.base_none I1 (Nat.le_refl _)) c.fi (thn (q pos _ s2 I2) fun us s3 ⟨vs, H2, I3, rv, q2⟩ => ⟨⟨ClX.pin_at I3, I3.kIn⟩, ?_⟩) hst hpl
      exact thn (wpAny_call (PySem.W.method_call (ClX.pin_at I3) (q2 _ s3 (.ref C :: us) I3 (.cons rfl rv)))) fun _ _ y => ClX.unpinE y⟩
    fun W tk G σ H Q' p r s hE hQ => h W tk G σ H _ p r s hE fun G1 H1 O1 d v st rd ⟨ed, q⟩ => by
      subst ed
      cases rd
      refine ⟨rfl, ?_⟩
      refine q W tk G1 σ H1 _ trivial (r.mono st.g) st.sta (fun _ _ _ _ _ _ st2 => hE _ _ _ _ _ _ (st.trans st2)) fun G2 H2 O2 ds ws st2 rl q2 => ?_
      exact q2 (.ref C :: ws) W tk G2 σ H2 Q' (.cons (.ref C) rl) (r.mono (st.trans st2).g) st2.sta (fun _ _ _ _ _ _ st3 => hE _ _ _ _ _ _ ((st.trans st2).trans st3)) fun _ _ _ _ _ st3 => hQ _ _ _ _ _ ((st.trans st2).trans st3)
/-- e.f, a property -/
theorem getprop_D {k : Nat} {C pr g a dx : Addr} {fs : List (Str × V)} {nm : Str} {d : D} {sp : DSp} {pins : List (Addr × Obj)} {σ : L2.St} {H G : Hp} {s : Shared} {Q' : VK} {b : Bool} {E' : Value → Shared → Prop} (I : Inv X pins σ H s) (ea : H a = some (.ins C dx fs)) (c : Cls X.K C) (hp : PropOf X.K C nm pr g)
    (F : DFn X.prog X.w X.K X.mg X.base k g sp) (hr : Room (k + 1) X.A) (rd : Rep X.K G d (.ref a)) (sta : Sta X.K G O H) (hQ : ∀ G' H' O' d v, Step X.K G O H G' O' H' → Rep X.K G' d v → Q d O' → Q' v H') (h : sp [d] O noE Q) :
    wpAny (model X.prog X.w) X.A (getAttr (.ref a) nm b) (EP X pins σ Q') E' s := by
  obtain ⟨mA, O2, _, _, _, _⟩ := ins_get I.hok ea
  obtain ⟨od, J, _⟩ := O2.look
  obtain ⟨rest, hrec⟩ := hp.rec_
  have I1 := I.tok (s.toks + 1)
  have hc : (PySem.W.clsIn X.K C).isSome = true := by
    obtain ⟨cd, hc, _⟩ := PySem.W.any_some c.hd
    rw [hc]
    rfl
  refine PySem.W.get_bind I.kIn J (PySem.W.plainGet_of (c.get nm)).1 (PySem.W.findObj_data hc hp.at_ hp.get hp.tak) (PySem.W.plainGet_of (c.get nm)).2 (wpAny_call (PySem.W.prop_get (s := { s with toks := s.toks + 1 }) I.kIn hrec ?_))
  refine codeAny_mono (F X.A.in1 X.stack { s with toks := s.toks + 1 } H [.ref a] [.ref a] Q' (fun _ _ _ => False) hr.in1 I1.env0.in1 (.cons rfl .nil) ⟨G, [d], O, noE, Q, .cons rd .nil, sta, fun _ _ _ _ _ _ _ _ z => z, hQ, h⟩) fun r s' hq => ?_
  cases r with
  | error er =>
    obtain ⟨_, _, _, _, _, _, _, _, _, _, _, _, z⟩ := hq
    exact z.elim
  | ok fl =>
    cases fl with
    | ret u =>
      obtain ⟨v, H', I3, rv, q3⟩ := I1.after hq
      show wpAny _ _ (handedOut u) _ _ _
      rw [PySem.W.handedOut_of (handed_of rv)]
      exact wpAny_pure ⟨v, H', I3, rv, q3⟩
    | next => exact False.elim hq
    | brk => exact False.elim hq
    | cont => exact False.elim hq
theorem de_prop {e : Expr} {nm : Str} (h : DE X e δ O E fun d O1 => ∃ C fs pr g k sp, IsIns d O1 C fs ∧ Cls X.K C ∧ PropOf X.K C nm pr g ∧ DFn X.prog X.w X.K X.mg X.base k g sp ∧ Room (k + 1) X.A ∧ sp [d] O1 noE Q) (hb : attributeBase e nm X.env (eval e X.env) = eval e X.env := by with_unfolding_all rfl) : DE X (.Attribute e nm pos) δ O E Q :=
  de_of (t := fun σ H K => sem X e σ H fun x H1 => ∃ (G : Hp) (O1 : Own) (d : D) (a C dx : Addr) (fs : List (Str × V)) (pr g : Addr) (k : Nat) (sp : DSp), x = .ref a ∧ H1 a = some (.ins C dx fs) ∧ Cls X.K C ∧ PropOf X.K C nm pr g ∧ DFn X.prog X.w X.K X.mg X.base k g sp ∧ Room (k + 1) X.A ∧ Rep X.K G d x ∧ Sta X.K G O1 H1 ∧
      sp [d] O1 noE Q ∧ ∀ G' H' O' d v, Step X.K G O1 H1 G' O' H' → Rep X.K G' d v → Q d O' → K v H')
    ⟨fun pins s σ H K I q => by
      refine attr_of hb (thn (q pins s I) fun u s1 ⟨x, H1, I1, rx, G, O1, d, a, C, dx, fs, pr, g, k, sp, ex, ea, c, hp, F, hr, rd, sta, hs, hq⟩ => ?_)
      subst ex
      obtain rfl : u = Value.ref a := rx
      exact getprop_D I1 ea c hp F hr rd sta hq hs⟩
    fun W tk G σ H Q' p r s hE hQ => h W tk G σ H _ p r s hE fun G1 H1 O1 d v st rd ⟨C, fs, pr, g, k, sp, i, c, hp, F, hr, hs⟩ => by
      obtain ⟨a, dx, vs, ev, ha, rf⟩ := i.get rd st.sta
      exact ⟨G1, O1, d, a, C, dx, vs, pr, g, k, sp, ev, ha, c, hp, F, hr, rd, st.sta, hs, fun _ _ _ _ _ st2 => hQ _ _ _ _ _ (st.trans st2)⟩
/-- a new instance: __init__'s promise at the new cell -/
theorem dc_make {k : Nat} {C g : Addr} {sp : DSp} (Mc : Mk X.K C g) (F : DFn X.prog X.w X.K X.mg X.base k g sp) (hr : Room (k + 1) X.A) (h : ∀ a, sp (.ref a :: ds) ((a, .ins C []) :: O) E fun d O' => d = .non ∧ ((∃ fs O2, O' = (a, .ins C fs) :: O2 ∧ Q (.ins C fs) O2) ∨ Q (.ref a) O')) : DC X (.ref C) ds δ O E Q := by
  intro vs W tk G σ H Q' rl r s hE hQ pins s' us I rv
  have I2 := Inv.made (C := C) I
  have hx : H (s'.heap.objs.size + 1) = none := I.hok.fresh (Nat.le_succ _)
  have hdx : H s'.heap.objs.size = none := I.hok.fresh (Nat.le_refl _)
  have hx2 : upd H s'.heap.objs.size (.own (s'.heap.objs.size + 1)) (s'.heap.objs.size + 1) = none := by rw [upd_ne (Nat.ne_of_gt (Nat.lt_succ_self _))]; exact hx
  -- the dict of the instance is nobody's
  have s0 : Sta X.K G O (upd H s'.heap.objs.size (.own (s'.heap.objs.size + 1))) := ⟨fun a o e => by rw [upd_ne (ne_of_none (s.sub a o e) hdx)]; exact s.sub a o e, s.nd, fun a c m => by
    obtain ⟨h1, o, h2, h3⟩ := s.own a c m
    exact ⟨h1, o, by rw [upd_ne (ne_of_none h2 hdx)]; exact h2, h3⟩⟩
  have st0 : Step X.K G O H G O (upd H s'.heap.objs.size (.own (s'.heap.objs.size + 1))) := ⟨Ex.refl _, s0, fun a o e _ => by rw [upd_ne (ne_of_none e hdx)]; exact e, fun a h n => absurd h n, fun a m => .inl m⟩
  have st1 := Step.newO s0 (c := .ins C []) (o := .ins C s'.heap.objs.size []) hx2 ⟨rfl, .nil⟩
  have st := st0.trans st1
  refine wpAny_call (make_map (f := g) I.kIn Mc.makes Mc.init (beq_iff_eq.mp Mc.fn) (codeAny_mono (F _ X.stack _ _ (Value.ref (s'.heap.objs.size + 1) :: us) (V.ref (s'.heap.objs.size + 1) :: vs) (fun v H2 => v = .non ∧ Q' (.ref (s'.heap.objs.size + 1)) H2) (fun c dd H' => W c dd σ H') (hr.make C us []) (I2.env0.make C us []) (.cons rfl rv)
    ⟨G, .ref (s'.heap.objs.size + 1) :: ds, _, E, _, .cons (.ref _) rl, st.sta, fun _ _ _ _ _ _ st2 => hE _ _ _ _ _ _ (st.trans st2), fun G' H' O' d v st2 rd q => ?_, h _⟩) fun r s2 hq => ?_))
  · obtain ⟨e1, q⟩ := q
    subst e1
    cases rd
    refine ⟨rfl, ?_⟩
    rcases q with ⟨fs, O2, eO, q⟩ | q
    · subst eO
      obtain ⟨_, o, ho, rc⟩ := st2.sta.own _ _ List.mem_cons_self
      obtain ⟨fz, rc'⟩ := Step.freeze st2.sta (c := .ins C fs) At.head Del.head ho
      cases o with
      | ins C' dx vs => obtain ⟨e, rf⟩ := rc'; subst e; exact hQ _ _ _ _ _ ((st.trans st2).trans fz) (.ins upd_same rf) q
      | _ => exact rc.elim
    · exact hQ _ _ _ _ _ (st.trans st2) (.ref _) q
  · cases r with
    | error e => exact tk e s2 (L2N.XE.of_call I2 (fun _ _ _ z => z) hq)
    | ok fl =>
      cases fl with
      | ret u =>
        obtain ⟨v, H', I3, rv, ev, q3⟩ := I2.after hq
        subst ev
        exact ⟨rv, ⟨V.ref (s'.heap.objs.size + 1), H', I3, rfl, q3⟩⟩
      | next => exact False.elim hq
      | brk => exact False.elim hq
      | cont => exact False.elim hq
end
section
variable {X : Cx} {N : List Str} {sc : Scope} {δ : DEnv} {O : Own} {B : Bk} {nx : DEnv → Own → Prop} {pos : Pos}
theorem putF_rep {K : PySem.W.Frag} {G : Hp} {f : Str} {d : D} {v : V} (r : Rep K G d v) : ∀ {fs : List (Str × D)} {vs : List (Str × V)}, RepF K G fs vs → RepF K G (putD f d fs) (putF f v vs)
  | _, _, .nil => .cons r .nil
  | (g, x) :: fs, (_, y) :: vs, .cons a b => by
    unfold putD putF
    by_cases h : g = f
    · rw [if_pos h, if_pos h]; exact .cons r b
    · rw [if_neg h, if_neg h]; exact .cons a (putF_rep r b)
/-- o.f = e -/
theorem ds_fld {o e : Expr} {g : Str} {pos' : Pos} (h : DE X e δ O (fun x O' => B.ex x δ O') fun y O1 => DE X o δ O1 (fun x O' => B.ex x δ O') fun d O2 => ∃ a C fs O3, d = .ref a ∧ At a (.ins C fs) O2 ∧ Cls X.K C ∧ NoAttr X.K C g ∧ fs.length < 900 ∧ Put a (.ins C (putD g y fs)) O2 O3 ∧ nx δ O3)
    (hs : swapsWith e (some (.Attribute o g pos')) pos.line X.env = pure false := by with_unfolding_all rfl) : DS X (.Assign [.Attribute o g pos'] e pos) δ O B nx :=
  ds_of (ps_fld pe_sem pe_sem hs) fun W tk G σ H D r s l => m_in h tk trivial r s l fun G1 H1 O1 y v st1 r1 l1 ry q => m_in q tk trivial r1 st1.sta l1 fun G2 H2 O2 d u st2 r2 l2 rd ⟨a, C, fs, O3, ed, at_, c, n, hl, pt, q2⟩ => by
    subst ed
    cases rd
    obtain ⟨_, o, ho, rc⟩ := st2.sta.at_ at_
    cases o with
    | ins C' dx vs =>
      obtain ⟨e, rf⟩ := rc
      subst e
      have st3 := Step.put st2.sta pt (o := .ins C dx (putF g v vs)) ⟨rfl, putF_rep (ry.mono st2.g) rf⟩
      exact ⟨a, C, dx, vs, rfl, ho, c, n, by rw [rf.length]; omega, l2.nx _ _ _ _ _ st3 (r2.mono st3.g) q2⟩
    | _ => exact rc.elim
end
end DL
end
section
set_option maxRecDepth 100000
set_option maxHeartbeats 4000000
set_option autoImplicit false
namespace DL
open PySem PySem.Spec PyProof.Rows L2
section
variable {X : Cx} {N : List Str} {sc : Scope} {δ : DEnv} {O : Own} {E : XD → Own → Prop} {Q : D → Own → Prop} {QT : Bool → Own → Prop} {QA : List D → Own → Prop} {pos p apos : Pos} {f : Value → Value → Sem Value} {i j : Int}
theorem db_I0 {g : Int → Int → V} {d : D} (ho : OpR X f (rI0 g)) (hr : ∀ G, Rep X.K G d (g i j)) (q : Q d O) : DB X f (.int i) (.int j) δ O E Q := db_of ho fun v u W tk G σ H Q' p r s hE hQ => by
  obtain ⟨p1, p2⟩ := p
  cases p1
  cases p2
  exact ⟨i, j, rfl, rfl, hQ G H O d _ (Step.refl s) (hr G) q⟩
theorem db_I {C : Int → Int → Prop} {g : Int → Int → V} {d : D} (ho : OpR X f (rI C g)) (hc : C i j) (hr : ∀ G, Rep X.K G d (g i j)) (q : Q d O) : DB X f (.int i) (.int j) δ O E Q := db_of ho fun v u W tk G σ H Q' p r s hE hQ => by
  obtain ⟨p1, p2⟩ := p
  cases p1
  cases p2
  exact ⟨i, j, rfl, rfl, hc, hQ G H O d _ (Step.refl s) (hr G) q⟩
theorem db_add (q : Q (.int (i + j)) O) : DB X (binaryOp .Add) (.int i) (.int j) δ O E Q := db_I0 op_add (fun _ => .int _) q
theorem db_sub (q : Q (.int (i - j)) O) : DB X (binaryOp .Sub) (.int i) (.int j) δ O E Q := db_I0 op_sub (fun _ => .int _) q
theorem db_mul (hc : CMul i j) (q : Q (.int (i * j)) O) : DB X (binaryOp .Mult) (.int i) (.int j) δ O E Q := db_I op_mul hc (fun _ => .int _) q
theorem db_mod (hc : 0 < j) (q : Q (.int (i % j)) O) : DB X (binaryOp .Mod) (.int i) (.int j) δ O E Q := db_I op_mod hc (fun _ => .int _) q
theorem db_fdiv (hc : CDiv i j) (q : Q (.int (i / j)) O) : DB X (binaryOp .FloorDiv) (.int i) (.int j) δ O E Q := db_I op_fdiv hc (fun _ => .int _) q
theorem db_pow (hc : CPow i j) (q : Q (.int (i ^ j.toNat)) O) : DB X (binaryOp .Pow) (.int i) (.int j) δ O E Q := db_I op_pow hc (fun _ => .int _) q
theorem db_iadd (q : Q (.int (i + j)) O) : DB X (inplaceOp .Add) (.int i) (.int j) δ O E Q := db_I0 iop_add (fun _ => .int _) q
theorem db_lt (q : Q (.bl (decide (i < j))) O) : DB X (compareOp .Lt) (.int i) (.int j) δ O E Q := db_I0 op_lt (fun _ => .bl _) q
theorem db_le (q : Q (.bl (decide (i ≤ j))) O) : DB X (compareOp .LtE) (.int i) (.int j) δ O E Q := db_I0 op_le (fun _ => .bl _) q
theorem db_gt (q : Q (.bl (decide (j < i))) O) : DB X (compareOp .Gt) (.int i) (.int j) δ O E Q := db_I0 op_gt (fun _ => .bl _) q
theorem db_ge (q : Q (.bl (decide (j ≤ i))) O) : DB X (compareOp .GtE) (.int i) (.int j) δ O E Q := db_I0 op_ge (fun _ => .bl _) q
/-- two scalars compared by == -/
theorem db_eqS {x y : D} {b : Bool} (h : ∀ G v u, Rep X.K G x v → Rep X.K G y u → scal v u = true ∧ decide (v = u) = b) (q : Q (.bl b) O) : DB X (compareOp .Eq) x y δ O E Q := db_of op_eq fun v u W tk G σ H Q' p r s hE hQ =>
  ⟨(h G v u p.1 p.2).1, by rw [(h G v u p.1 p.2).2]; exact hQ G H O _ _ (Step.refl s) (.bl b) q⟩
theorem db_neS {x y : D} {b : Bool} (h : ∀ G v u, Rep X.K G x v → Rep X.K G y u → scal v u = true ∧ decide (v = u) = b) (q : Q (.bl (!b)) O) : DB X (compareOp .NotEq) x y δ O E Q := db_of op_ne fun v u W tk G σ H Q' p r s hE hQ =>
  ⟨(h G v u p.1 p.2).1, by rw [(h G v u p.1 p.2).2]; exact hQ G H O _ _ (Step.refl s) (.bl _) q⟩
theorem sc_int : ∀ (G : Hp) v u, Rep X.K G (.int i) v → Rep X.K G (.int j) u → scal v u = true ∧ decide (v = u) = decide (i = j) := fun G v u a b => by
  cases a; cases b
  exact ⟨rfl, by by_cases h : i = j <;> simp [h]⟩
theorem sc_str {x y : Str} : ∀ (G : Hp) v u, Rep X.K G (.str x) v → Rep X.K G (.str y) u → scal v u = true ∧ decide (v = u) = decide (x = y) := fun G v u a b => by
  cases a; cases b
  exact ⟨rfl, by by_cases h : x = y <;> simp [h]⟩
theorem sc_bl {x y : Bool} : ∀ (G : Hp) v u, Rep X.K G (.bl x) v → Rep X.K G (.bl y) u → scal v u = true ∧ decide (v = u) = decide (x = y) := fun G v u a b => by
  cases a; cases b
  exact ⟨rfl, by by_cases h : x = y <;> simp [h]⟩
theorem db_eq_int (q : Q (.bl (decide (i = j))) O) : DB X (compareOp .Eq) (.int i) (.int j) δ O E Q := db_eqS sc_int q
theorem db_ne_int (q : Q (.bl (!decide (i = j))) O) : DB X (compareOp .NotEq) (.int i) (.int j) δ O E Q := db_neS sc_int q
theorem db_eq_str {x y : Str} (q : Q (.bl (decide (x = y))) O) : DB X (compareOp .Eq) (.str x) (.str y) δ O E Q := db_eqS sc_str q
theorem db_ne_str {x y : Str} (q : Q (.bl (!decide (x = y))) O) : DB X (compareOp .NotEq) (.str x) (.str y) δ O E Q := db_neS sc_str q
theorem db_eq_bl {x y : Bool} (q : Q (.bl (decide (x = y))) O) : DB X (compareOp .Eq) (.bl x) (.bl y) δ O E Q := db_eqS sc_bl q
theorem db_ne_bl {x y : Bool} (q : Q (.bl (!decide (x = y))) O) : DB X (compareOp .NotEq) (.bl x) (.bl y) δ O E Q := db_neS sc_bl q
def isNon : D → Bool
  | .non => true
  | _ => false
theorem isNon_v {G : Hp} {d : D} {v : V} (r : Rep X.K G d v) : decide (v = .non) = isNon d := by cases r <;> rfl
theorem db_isN {x : D} (q : Q (.bl (isNon x)) O) : DB X (compareOp .Is) x .non δ O E Q := db_of op_isN fun v u W tk G σ H Q' p r s hE hQ => by
  obtain ⟨p1, p2⟩ := p
  cases p2
  exact ⟨rfl, by rw [isNon_v p1]; exact hQ G H O _ _ (Step.refl s) (.bl _) q⟩
theorem db_notN {x : D} (q : Q (.bl (!isNon x)) O) : DB X (compareOp .IsNot) x .non δ O E Q := db_of op_notN fun v u W tk G σ H Q' p r s hE hQ => by
  obtain ⟨p1, p2⟩ := p
  cases p2
  exact ⟨rfl, by rw [isNon_v p1]; exact hQ G H O _ _ (Step.refl s) (.bl _) q⟩
theorem m_chain {op op' : CmpOp} {r r' : R2} {a b c : Expr} (ho : OpR X (compareOp op) r) (ho' : OpR X (compareOp op') r')
    (h : DE X a δ O E fun x O1 => DE X b δ O1 E fun y O2 => ∀ v u, M X (fun G => Rep X.K G x v ∧ Rep X.K G y u) (Rep X.K) (fun σ H K => r v u H fun z H3 => ∃ k, z = .bl k ∧ (if k = true then sem X c σ H3 fun w' H4 => r' u w' H4 K else K (.bl false) H3)) δ O2 E Q)
    (hm : lastMarks [op, op'] [b, c] = false := by with_unfolding_all rfl) : DE X (.Compare a [op, op'] [b, c] pos) δ O E Q := de_of (pe_chain ho ho' pe_sem pe_sem pe_sem hm) (m_two h)
/-- lo <= x <= hi over ints -/
theorem de_lele {a b c : Expr} (h : DE X a δ O E fun x O1 => DE X b δ O1 E fun y O2 => ∃ i j, x = .int i ∧ y = .int j ∧ (i ≤ j → DE X c δ O2 E fun z O3 => ∃ k, z = .int k ∧ Q (.bl (decide (j ≤ k))) O3) ∧ (¬ i ≤ j → Q (.bl false) O2))
    (hm : lastMarks [.LtE, .LtE] [b, c] = false := by with_unfolding_all rfl) : DE X (.Compare a [.LtE, .LtE] [b, c] pos) δ O E Q :=
  m_chain op_le op_le (M.imp h fun x O1 h1 => M.imp h1 fun y O2 ⟨i, j, ex, ey, h2, h3⟩ => by
    subst ex ey
    intro v u W tk G σ H Q' p r s hE hQ
    obtain ⟨p1, p2⟩ := p
    cases p1
    cases p2
    refine ⟨i, j, rfl, rfl, _, rfl, ?_⟩
    by_cases hij : i ≤ j
    · rw [decide_eq_true hij, if_pos rfl]
      exact h2 hij W tk G σ H _ trivial r s hE fun G1 H1 O1 d v st rd ⟨k, ed, q⟩ => by
        subst ed
        cases rd
        exact ⟨j, k, rfl, rfl, hQ _ _ _ _ _ st (.bl _) q⟩
    · rw [decide_eq_false hij, if_neg Bool.false_ne_true]
      exact hQ _ _ _ _ _ (Step.refl s) (.bl _) (h3 hij)) hm
theorem repL_map {K : PySem.W.Frag} {G : Hp} {α : Type} {g : α → D} {g' : α → V} (h : ∀ a, Rep K G (g a) (g' a)) : ∀ l : List α, RepL K G (l.map g) (l.map g')
  | [] => .nil
  | a :: l => .cons (h a) (repL_map h l)
theorem repL_int {K : PySem.W.Frag} {G : Hp} : ∀ {l : List Int} {vs : List V}, RepL K G (l.map D.int) vs → vs = l.map V.int
  | [], _, .nil => rfl
  | a :: l, _, .cons x y => by cases x; rw [repL_int y]; rfl
theorem repL_str {K : PySem.W.Frag} {G : Hp} : ∀ {l : List Str} {vs : List V}, RepL K G (l.map D.str) vs → vs = l.map V.str
  | [], _, .nil => rfl
  | a :: l, _, .cons x y => by cases x; rw [repL_str y]; rfl
theorem repL_bl {K : PySem.W.Frag} {G : Hp} : ∀ {l : List Bool} {vs : List V}, RepL K G (l.map D.bl) vs → vs = l.map V.bl
  | [], _, .nil => rfl
  | a :: l, _, .cons x y => by cases x; rw [repL_bl y]; rfl
theorem repL_rep {K : PySem.W.Frag} {G : Hp} {ds : List D} {vs : List V} (r : RepL K G ds vs) : ∀ n : Nat, RepL K G (List.replicate n ds).flatten (List.replicate n vs).flatten
  | 0 => .nil
  | n + 1 => by
    rw [List.replicate_succ, List.replicate_succ, List.flatten_cons, List.flatten_cons]
    exact r.append (repL_rep r n)
theorem db_cat {xs ys : List D} (hz : xs.length + ys.length ≤ 100000) (q : NewL (xs ++ ys) O Q) : DB X (binaryOp .Add) (.lst xs) (.lst ys) δ O E Q := db_of op_cat fun v u W tk G σ H Q' p r s hE hQ => by
  obtain ⟨p1, p2⟩ := p
  cases p1 with
  | lst h1 r1 =>
    cases p2 with
    | lst h2 r2 => exact ⟨_, _, _, _, rfl, rfl, s.sub _ _ h1, s.sub _ _ h2, by rw [r1.length, r2.length]; exact Nat.le_trans hz (by decide), m_newL s (r1.append r2) q hQ⟩
theorem db_rep {xs : List D} {k : Int} (h1 : -(2 ^ 63) ≤ k) (h2 : k < 2 ^ 63) (hz : xs.length * k.toNat ≤ 100000) (q : NewL (List.replicate k.toNat xs).flatten O Q) : DB X (binaryOp .Mult) (.lst xs) (.int k) δ O E Q := db_of op_rep fun v u W tk G σ H Q' p r s hE hQ => by
  obtain ⟨p1, p2⟩ := p
  cases p2
  cases p1 with
  | lst h0 r1 => exact ⟨_, _, _, rfl, rfl, s.sub _ _ h0, h1, h2, by rw [r1.length]; exact Nat.le_trans hz (by decide), m_newL s (repL_rep r1 _) q hQ⟩
theorem db_catS {x y : Str} (hz : x.length + y.length ≤ 1000000) (q : Q (.str (x ++ y)) O) : DB X (binaryOp .Add) (.str x) (.str y) δ O E Q := db_of op_add_str fun v u W tk G σ H Q' p r s hE hQ => by
  obtain ⟨p1, p2⟩ := p
  cases p1
  cases p2
  exact ⟨x, y, rfl, rfl, Nat.le_trans hz (by decide), hQ _ _ _ _ _ (Step.refl s) (.str _) q⟩
/-- a subscript's node by values -/
def semX (X : Cx) (a b : Expr) (x y : V) : TE := fun σ H Q => ∀ (pins : List (Addr × Obj)) (s : Shared) (v u : Value), Inv X pins σ H s → RelV x v → RelV y u → wpAny (model X.prog X.w) X.A (subscriptTail a b v u) (EP X pins σ Q) X.xe s
/-- what an own __getitem__ asks of the node -/
def PlainIxO (b : Expr) : Prop := ∀ o i, subscripted b true o i = runValue (.builtin "lifetime.subscript" ⟨[o, i], []⟩)
structure DX (X : Cx) (x y : D) (δ : DEnv) (O : Own) (E : XD → Own → Prop) (Q : D → Own → Prop) : Prop where
  run : ∀ (a b : Expr), PlainIx b → PlainIxO b → ∀ v u, M X (fun G => Rep X.K G x v ∧ Rep X.K G y u) (Rep X.K) (semX X a b v u) δ O E Q
theorem dx_of {x y : D} {r : R2} (hr : IxR X r) (h : ∀ v u, M X (fun G => Rep X.K G x v ∧ Rep X.K G y u) (Rep X.K) (fun σ H K => r v u H K) δ O E Q) : DX X x y δ O E Q :=
  ⟨fun a b hs _ v u W tk G σ H Q' p r' s hE hQ pins s' v' u' I rv ru => hr a b pins s' σ H v u v' u' Q' I rv ru (h v u W tk G σ H Q' p r' s hE hQ) (hs _ _)⟩
theorem de_ix {a b : Expr} (h : DE X a δ O E fun x O1 => DE X b δ O1 E fun y O2 => DX X x y δ O2 E Q) (hs : PlainIx b := by intro _ _; with_unfolding_all rfl) (hs2 : PlainIxO b := by intro _ _; with_unfolding_all rfl) : DE X (.Subscript a b pos) δ O E Q := by
  refine de_of (t := fun σ H K => sem X a σ H fun v H1 => sem X b σ H1 fun u H2 => semX X a b v u σ H2 K) ⟨fun pins s σ H K I q => ?_⟩ (m_two (M.imp h fun x O1 h1 => M.imp h1 fun y O2 h2 v u => h2.run a b hs hs2 v u))
  exact Subscript_ (bin pe_sem pe_sem I q fun v u s2 x y H2 I2 rx ry q2 => q2 pins s2 v u I2 rx ry)
theorem atI_rep {K : PySem.W.Frag} {G : Hp} {ds : List D} {vs : List V} {d : D} (r : RepL K G ds vs) (h : atI ds i = some d) : ∃ v, atI vs i = some v ∧ Rep K G d v := by
  unfold atI at h ⊢
  rw [r.length]
  cases q : ixN ds.length i with
  | none => rw [q] at h; cases h
  | some j => rw [q] at h; exact r.get h
theorem dx_lst {xs : List D} {d : D} (h : atI xs i = some d) (q : Q d O) : DX X (.lst xs) (.int i) δ O E Q := dx_of ix_list fun v u W tk G σ H Q' p r s hE hQ => by
  obtain ⟨p1, p2⟩ := p
  cases p2
  cases p1 with
  | lst h0 r1 =>
    obtain ⟨w, hw, rw'⟩ := atI_rep r1 h
    exact ⟨_, _, i, w, rfl, rfl, .inl (.inl (s.sub _ _ h0)), hw, hQ _ _ _ _ _ (Step.refl s) rw' q⟩
theorem dx_tup {xs : List D} {d : D} (h : atI xs i = some d) (q : Q d O) : DX X (.tup xs) (.int i) δ O E Q := dx_of ix_tup fun v u W tk G σ H Q' p r s hE hQ => by
  obtain ⟨p1, p2⟩ := p
  cases p2
  cases p1 with
  | tup h0 r1 =>
    obtain ⟨w, hw, rw'⟩ := atI_rep r1 h
    exact ⟨_, _, i, w, rfl, rfl, s.sub.seqT h0, hw, hQ _ _ _ _ _ (Step.refl s) rw' q⟩
theorem dx_str {z : Str} {c : Nat} (hz : z.length ≤ 1000000) (h : atI z.cps.toList i = some c) (q : Q (.str ⟨#[c]⟩) O) : DX X (.str z) (.int i) δ O E Q := dx_of ix_str fun v u W tk G σ H Q' p r s hE hQ => by
  obtain ⟨p1, p2⟩ := p
  cases p1
  cases p2
  exact ⟨z, i, c, rfl, rfl, Nat.le_trans hz (by decide), h, hQ _ _ _ _ _ (Step.refl s) (.str _) q⟩
/-- a list of one's own -/
theorem dx_own {a : Addr} {xs : List D} {d : D} (m : At a (.lst xs) O) (h : atI xs i = some d) (q : Q d O) : DX X (.ref a) (.int i) δ O E Q := dx_of ix_list fun v u W tk G σ H Q' p r s hE hQ => by
  obtain ⟨p1, p2⟩ := p
  cases p1
  cases p2
  obtain ⟨_, o, ho, rc⟩ := s.at_ m
  cases o with
  | lst vs =>
    obtain ⟨w, hw, rw'⟩ := atI_rep rc h
    exact ⟨_, _, i, w, rfl, rfl, .inl (.inl ho), hw, hQ _ _ _ _ _ (Step.refl s) rw' q⟩
  | _ => exact rc.elim
variable {ds : List D}
theorem dc_len {xs : List D} (q : Q (.int xs.length) O) (d : D) (hd : d = .lst xs ∨ d = .tup xs) : DC X (.builtin "len") [d] δ O E Q := dc_of call_len_seq fun vs W tk G σ H Q' p r s hE hQ => by
  cases p with
  | cons p1 pr =>
    cases pr
    have fin : ∀ {ws : List V}, RepL X.K G xs ws → Q' (.int ws.length) H := fun rl => by rw [rl.length]; exact hQ _ _ _ _ _ (Step.refl s) (.int _) q
    rcases hd with rfl | rfl
    · cases p1 with
      | lst h0 r1 => exact ⟨_, _, rfl, .inl (.inl (.inl (s.sub _ _ h0))), fin r1⟩
    · cases p1 with
      | tup h0 r1 => exact ⟨_, _, rfl, .inr (s.sub.seqT h0), fin r1⟩
theorem dc_len_lst {xs : List D} (q : Q (.int xs.length) O) : DC X (.builtin "len") [.lst xs] δ O E Q := dc_len q _ (.inl rfl)
theorem dc_len_tup {xs : List D} (q : Q (.int xs.length) O) : DC X (.builtin "len") [.tup xs] δ O E Q := dc_len q _ (.inr rfl)
theorem dc_len_own {a : Addr} {xs : List D} (m : At a (.lst xs) O) (q : Q (.int xs.length) O) : DC X (.builtin "len") [.ref a] δ O E Q := dc_of call_len_seq fun vs W tk G σ H Q' p r s hE hQ => by
  cases p with
  | cons p1 pr =>
    cases pr
    cases p1
    obtain ⟨_, o, ho, rc⟩ := s.at_ m
    cases o with
    | lst vs => exact ⟨_, _, rfl, .inl (.inl (.inl ho)), by rw [rc.length]; exact hQ _ _ _ _ _ (Step.refl s) (.int _) q⟩
    | _ => exact rc.elim
theorem dc_len_str {x : Str} (hz : x.length ≤ 1000000) (q : Q (.int x.length) O) : DC X (.builtin "len") [.str x] δ O E Q := dc_of call_len_str fun vs W tk G σ H Q' p r s hE hQ => by
  cases p with
  | cons p1 pr =>
    cases pr
    cases p1
    exact ⟨x, rfl, Nat.le_trans hz (by decide), hQ _ _ _ _ _ (Step.refl s) (.int _) q⟩
theorem dc_abs (q : Q (.int (if i < 0 then -i else i)) O) : DC X (.builtin "abs") [.int i] δ O E Q := dc_of call_abs fun vs W tk G σ H Q' p r s hE hQ => by
  cases p with
  | cons p1 pr =>
    cases pr
    cases p1
    exact ⟨i, rfl, hQ _ _ _ _ _ (Step.refl s) (.int _) q⟩
theorem dc_int (q : Q (.int i) O) : DC X (.type "int") [.int i] δ O E Q := dc_of call_int1 fun vs W tk G σ H Q' p r s hE hQ => by
  cases p with
  | cons p1 pr =>
    cases pr
    cases p1
    exact .inl ⟨i, rfl, hQ _ _ _ _ _ (Step.refl s) (.int _) q⟩
theorem dc_int_str {x : Str} {n : Int} (hn : PySem.intText? x = some n) (hz : x.length ≤ 640) (q : Q (.int n) O) : DC X (.type "int") [.str x] δ O E Q := dc_of call_int_str fun vs W tk G σ H Q' p r s hE hQ => by
  cases p with
  | cons p1 pr =>
    cases pr
    cases p1
    exact ⟨x, n, rfl, hn, hz, hQ _ _ _ _ _ (Step.refl s) (.int _) q⟩
theorem dc_str_int (hz : i.natAbs.log2 < 1920) (q : Q (.str (toString i : String)) O) : DC X (.type "str") [.int i] δ O E Q := dc_of call_str_int fun vs W tk G σ H Q' p r s hE hQ => by
  cases p with
  | cons p1 pr =>
    cases pr
    cases p1
    exact ⟨i, rfl, hz, hQ _ _ _ _ _ (Step.refl s) (.str _) q⟩
theorem dc_any {bs : List Bool} (hc : X.calm = true) (q : Q (.bl (bs.any id)) O) : DC X (.builtin "any") [.lst (bs.map D.bl)] δ O E Q := dc_of (cr_any hc) fun vs W tk G σ H Q' p r s hE hQ => by
  cases p with
  | cons p1 pr =>
    cases pr
    cases p1 with
    | lst h0 r1 =>
      have e := repL_bl r1
      subst e
      exact ⟨_, bs, rfl, .inl (.inl (s.sub _ _ h0)), hQ _ _ _ _ _ (Step.refl s) (.bl _) q⟩
theorem dc_all {bs : List Bool} (hc : X.calm = true) (q : Q (.bl (bs.all id)) O) : DC X (.builtin "all") [.lst (bs.map D.bl)] δ O E Q := dc_of (cr_all hc) fun vs W tk G σ H Q' p r s hE hQ => by
  cases p with
  | cons p1 pr =>
    cases pr
    cases p1 with
    | lst h0 r1 =>
      have e := repL_bl r1
      subst e
      exact ⟨_, bs, rfl, .inl (.inl (s.sub _ _ h0)), hQ _ _ _ _ _ (Step.refl s) (.bl _) q⟩
theorem dc_tuple {xs : List D} (q : Q (.tup xs) O) : DC X (.type "tuple") [.lst xs] δ O E Q := dc_of call_tuple_of fun vs W tk G σ H Q' p r s hE hQ => by
  cases p with
  | cons p1 pr =>
    cases pr
    cases p1 with
    | lst h0 r1 => exact ⟨_, _, rfl, .inl ⟨.inl (.inl (s.sub _ _ h0)), m_newT s r1 q hQ⟩⟩
theorem dc_list {xs : List D} (q : NewL xs O Q) : DC X (.type "list") [.lst xs] δ O E Q := dc_of call_list_of fun vs W tk G σ H Q' p r s hE hQ => by
  cases p with
  | cons p1 pr =>
    cases pr
    cases p1 with
    | lst h0 r1 => exact ⟨_, _, rfl, .inl (.inl (.inl (s.sub _ _ h0))), m_newL s r1 q hQ⟩
theorem dc_list_own {a : Addr} {xs : List D} (m : At a (.lst xs) O) (q : NewL xs O Q) : DC X (.type "list") [.ref a] δ O E Q := dc_of call_list_of fun vs W tk G σ H Q' p r s hE hQ => by
  cases p with
  | cons p1 pr =>
    cases pr
    cases p1
    obtain ⟨_, o, ho, rc⟩ := s.at_ m
    cases o with
    | lst ws => exact ⟨_, _, rfl, .inl (.inl (.inl ho)), m_newL s rc q hQ⟩
    | _ => exact rc.elim
/-- of what built-in class a value is -/
def tyD : D → String
  | .non => "NoneType" | .bl _ => "bool" | .int _ => "int" | .str _ => "str" | .tup _ => "tuple" | .lst _ => "list" | .fz _ => "list" | _ => ""
theorem tyD_x {K : PySem.W.Frag} {G H : Hp} {d : D} {v : V} (r : Rep K G d v) (e : Ex G H) (h : tyD d ≠ "") : TyX K H v (.type (tyD d)) := by
  cases r with
  | non => exact .base .non
  | bl b => exact .base (.bl b)
  | int i => exact .base (.int i)
  | str x => exact .base (.str x)
  | ty n => exact absurd rfl h
  | ref a => exact absurd rfl h
  | tup hq _ =>
    rcases e.seqT hq with (z | ⟨o, z⟩) | ⟨o, its, n, z, c, _⟩
    · exact .base (.tup z)
    · exact .fTuple z
    · exact .kTuple z c
  | lst hq _ => exact .base (.lst (e _ _ hq))
  | fz hq _ =>
    rcases e.seqL hq with (z | ⟨o, z⟩) | ⟨o, its, n, z, c, _⟩
    · exact .base (.lst z)
    · exact .base (.frz z)
    · exact .kList z c
  | ins _ _ => exact absurd rfl h
  | exc _ _ => exact absurd rfl h
  | clo _ => exact absurd rfl h
/-- isinstance(x, T), both built-in -/
theorem dc_isi {d : D} {T : String} {b : Bool} (h : tyD d ≠ "") (hk : kitB (tyD d) T = some b) (q : Q (.bl b) O) : DC X (.builtin "isinstance") [d, .ty T] δ O E Q := dc_of call_isi fun vs W tk G σ H Q' p r s hE hQ => by
  cases p with
  | cons p1 pr =>
    cases pr with
    | cons p2 pr =>
      cases pr
      cases p2
      exact ⟨_, _, _, _, b, rfl, .ty T, tyD_x p1 s.sub h, kit_ty hk, hQ _ _ _ _ _ (Step.refl s) (.bl _) q⟩
theorem dc_isi_own {a : Addr} {xs : List D} {T : String} {b : Bool} (m : At a (.lst xs) O) (hk : kitB "list" T = some b) (q : Q (.bl b) O) : DC X (.builtin "isinstance") [.ref a, .ty T] δ O E Q := dc_of call_isi fun vs W tk G σ H Q' p r s hE hQ => by
  cases p with
  | cons p1 pr =>
    cases pr with
    | cons p2 pr =>
      cases pr
      cases p1
      cases p2
      obtain ⟨_, o, ho, rc⟩ := s.at_ m
      cases o with
      | lst ws => exact ⟨_, _, _, _, b, rfl, .ty T, .base (.lst ho), kit_ty hk, hQ _ _ _ _ _ (Step.refl s) (.bl _) q⟩
      | _ => exact rc.elim
/-- a built-in class by its name, as a value -/
theorem de_bltn {x : Str} {T : String} (S : Sc X N sc) (hm : X.mg x = none) (hv : bootBuiltins x = some (.type T)) (q : Q (.ty T) O) (hg : Nk x .globalImplicit sc.names := by (repeat (with_reducible constructor))) : DE X (.Name x pos) δ O E Q :=
  de_const (pe_bltn (v := .ty T) (S.gl hg) hm hv rfl (S.nme hg) (S.dbg hg)) (fun _ => .ty T) q
theorem rep_ref {K : PySem.W.Frag} {G : Hp} {a : Addr} {v : V} (r : Rep K G (.ref a) v) : v = .ref a := by cases r; rfl
/-- o.m(e), o a list of one's own; what the method does: rule -/
theorem m_own1 {o e : Expr} {r : V → List V → Hp → VK → Prop} {k : Addr → List D → D → Own → Prop}
    (rule : ∀ (a : Addr) (xs : List D) (y : D) (O2 : Own) (v : V) (G H : Hp) (Q' : VK), k a xs y O2 → At a (.lst xs) O2 → Sta X.K G O2 H → Rep X.K G y v → (∀ G' H' O' d v, Step X.K G O2 H G' O' H' → Rep X.K G' d v → Q d O' → Q' v H') → r (.ref a) [v] H Q')
    (h : DE X o δ O E fun d O1 => ∃ a zs, d = .ref a ∧ At a (.lst zs) O1 ∧ DE X e δ O1 E fun y O2 => ∃ xs, At a (.lst xs) O2 ∧ k a xs y O2) : M X PT0 (Rep X.K) (tBM X.K "list" r (sem X o) (tCons (sem X e) tNil)) δ O E Q :=
  fun W tk G σ H Q' p r s hE hQ => h W tk G σ H _ p r s hE fun G1 H1 O1 d v st rd ⟨a, zs, ed, m, h1⟩ => by
    subst ed
    have ev := rep_ref rd
    subst ev
    obtain ⟨_, oz, hoz, rcz⟩ := st.sta.at_ m
    cases oz with
    | lst wz =>
      refine ⟨.inl ⟨rfl, wz, .inl (.inl hoz)⟩, ?_⟩
      exact h1 W tk G1 σ H1 _ trivial (r.mono st.g) st.sta (fun _ _ _ _ _ _ st2 => hE _ _ _ _ _ _ (st.trans st2)) fun G2 H2 O2 y v2 st2 ry ⟨xs, m2, hk⟩ => rule a xs y O2 v2 G2 H2 Q' hk m2 st2.sta ry fun _ _ _ _ _ st3 => hQ _ _ _ _ _ ((st.trans st2).trans st3)
    | _ => exact rcz.elim
theorem de_append {o e : Expr} (h : DE X o δ O E fun d O1 => ∃ a zs, d = .ref a ∧ At a (.lst zs) O1 ∧ DE X e δ O1 E fun y O2 => ∃ xs, At a (.lst xs) O2 ∧ ∃ O3, xs.length < 100000 ∧ Put a (.lst (xs ++ [y])) O2 O3 ∧ Q .non O3)
    (hbase : attributeBase o "append" X.env (eval o X.env) = eval o X.env := by with_unfolding_all rfl)
    (hfew : ((backTo pos (starEach [e] X.env)).all (fun x => !x.1) && (backToKw pos (keywordEach [] X.env)).all (fun x => x.1.isSome)
      && decide ([e].length + ([] : List Keyword).length + (if ([] : List Keyword).isEmpty then 0 else 1) < 30)) = true := by with_unfolding_all rfl)
    (hline : (apos.endLine == pos.line) = true := by with_unfolding_all rfl) (hs : starEach [e] X.env = (false, eval e X.env) :: starEach [] X.env := by with_unfolding_all rfl) (hplain : (backTo pos (starEach [] X.env)).any (·.1) = false := by with_unfolding_all rfl) :
    DE X (.Call (.Attribute o "append" apos) [e] [] pos) δ O E Q :=
  de_of (pe_bm PySem.F.plainAttrs_list PySem.F.slot_list_append PySem.F.type_list_append mt_append pe_sem (pa_cons pe_sem pa_nil hs) hbase hfew hline hs hplain) (m_own1 (k := fun a xs y O2 => ∃ O3, xs.length < 100000 ∧ Put a (.lst (xs ++ [y])) O2 O3 ∧ Q .non O3) (fun a xs y O2 v G H Q' ⟨O3, hz, pt, q⟩ m s ry hQ => by
    obtain ⟨_, o, ho, rc⟩ := s.at_ m
    cases o with
    | lst ws =>
      have rl : RepL X.K G xs ws := rc
      exact ⟨a, ws, v, rfl, rfl, ho, by rw [rl.length]; exact Nat.lt_of_lt_of_le hz (by decide), hQ _ _ _ _ _ (Step.put s pt (o := .lst (ws ++ [v])) (rl.append (.cons ry .nil))) .non q⟩
    | _ => exact rc.elim) h)
theorem de_extend {o e : Expr} (h : DE X o δ O E fun d O1 => ∃ a zs, d = .ref a ∧ At a (.lst zs) O1 ∧ DE X e δ O1 E fun y O2 => ∃ xs, At a (.lst xs) O2 ∧ ∃ ys O3, y = .lst ys ∧ xs.length + ys.length ≤ 100000 ∧ Put a (.lst (xs ++ ys)) O2 O3 ∧ Q .non O3)
    (hbase : attributeBase o "extend" X.env (eval o X.env) = eval o X.env := by with_unfolding_all rfl)
    (hfew : ((backTo pos (starEach [e] X.env)).all (fun x => !x.1) && (backToKw pos (keywordEach [] X.env)).all (fun x => x.1.isSome)
      && decide ([e].length + ([] : List Keyword).length + (if ([] : List Keyword).isEmpty then 0 else 1) < 30)) = true := by with_unfolding_all rfl)
    (hline : (apos.endLine == pos.line) = true := by with_unfolding_all rfl) (hs : starEach [e] X.env = (false, eval e X.env) :: starEach [] X.env := by with_unfolding_all rfl) (hplain : (backTo pos (starEach [] X.env)).any (·.1) = false := by with_unfolding_all rfl) :
    DE X (.Call (.Attribute o "extend" apos) [e] [] pos) δ O E Q :=
  de_of (pe_bm PySem.F.plainAttrs_list PySem.F.slot_list_extend PySem.F.type_list_extend mt_extend pe_sem (pa_cons pe_sem pa_nil hs) hbase hfew hline hs hplain) (m_own1 (k := fun a xs y O2 => ∃ ys O3, y = .lst ys ∧ xs.length + ys.length ≤ 100000 ∧ Put a (.lst (xs ++ ys)) O2 O3 ∧ Q .non O3) (fun a xs y O2 v G H Q' ⟨ys, O3, ey, hz, pt, q⟩ m s ry hQ => by
    subst ey
    obtain ⟨_, o, ho, rc⟩ := s.at_ m
    cases o with
    | lst ws =>
      have rl : RepL X.K G xs ws := rc
      cases ry with
      | lst hy ry' => exact ⟨a, _, ws, _, rfl, rfl, ho, s.sub _ _ hy, by rw [rl.length, ry'.length]; exact Nat.le_trans hz (by decide), hQ _ _ _ _ _ (Step.put s pt (o := .lst (ws ++ _)) (rl.append ry')) .non q⟩
    | _ => exact rc.elim) h)
theorem RepL.eraseIdx {K : PySem.W.Frag} {G : Hp} : ∀ {xs : List D} {us : List V} (i : Nat), RepL K G xs us → RepL K G (xs.eraseIdx i) (us.eraseIdx i)
  | _, _, _, .nil => .nil
  | _, _, 0, .cons _ t => t
  | _, _, i + 1, .cons q t => .cons q (RepL.eraseIdx i t)
/-- l.pop(i) -/
theorem de_popAt {o e : Expr} (h : DE X o δ O E fun d O1 => ∃ a zs, d = .ref a ∧ At a (.lst zs) O1 ∧ DE X e δ O1 E fun y O2 => ∃ xs, At a (.lst xs) O2 ∧ ∃ (n : Nat) (z : D) (O3 : Own), y = .int (n : Int) ∧ xs[n]? = some z ∧ xs.length ≤ 100000 ∧ Put a (.lst (xs.eraseIdx n)) O2 O3 ∧ Q z O3)
    (hbase : attributeBase o "pop" X.env (eval o X.env) = eval o X.env := by with_unfolding_all rfl)
    (hfew : ((backTo pos (starEach [e] X.env)).all (fun x => !x.1) && (backToKw pos (keywordEach [] X.env)).all (fun x => x.1.isSome)
      && decide ([e].length + ([] : List Keyword).length + (if ([] : List Keyword).isEmpty then 0 else 1) < 30)) = true := by with_unfolding_all rfl)
    (hline : (apos.endLine == pos.line) = true := by with_unfolding_all rfl) (hs : starEach [e] X.env = (false, eval e X.env) :: starEach [] X.env := by with_unfolding_all rfl) (hplain : (backTo pos (starEach [] X.env)).any (·.1) = false := by with_unfolding_all rfl) :
    DE X (.Call (.Attribute o "pop" apos) [e] [] pos) δ O E Q :=
  de_of (pe_bm PySem.F.plainAttrs_list PySem.F.slot_list_pop PySem.F.type_list_pop mt_popAt pe_sem (pa_cons pe_sem pa_nil hs) hbase hfew hline hs hplain) (m_own1 (k := fun a xs y O2 => ∃ (n : Nat) (z : D) (O3 : Own), y = .int (n : Int) ∧ xs[n]? = some z ∧ xs.length ≤ 100000 ∧ Put a (.lst (xs.eraseIdx n)) O2 O3 ∧ Q z O3) (fun a xs y O2 v G H Q' ⟨n, z, O3, ey, hn, hz, pt, q⟩ m s ry hQ => by
    subst ey
    obtain ⟨_, o, ho, rc⟩ := s.at_ m
    cases o with
    | lst ws =>
      have rl : RepL X.K G xs ws := rc
      cases ry
      obtain ⟨w, hw, rw'⟩ := rl.get hn
      have hn' : n < xs.length := (List.getElem?_eq_some_iff.mp hn).1
      have hl := rl.length
      exact ⟨a, ws, _, n, w, rfl, rfl, ho, by omega, by omega, by rw [seqIndex_of (by omega) (by omega)]; simp, hw, hQ _ _ _ _ _ (Step.put s pt (o := .lst (ws.eraseIdx n)) (RepL.eraseIdx n rl)) rw' q⟩
    | _ => exact rc.elim) h)
/-- l[i] = .. -/
theorem dg_sub {o ie : Expr} {d : D} {Ex' : XD → DEnv → Own → Prop} {k : DEnv → Own → Prop} (h : DE X o δ O (fun x O' => Ex' x δ O') fun y O1 => ∃ a, y = .ref a ∧ DE X ie δ O1 (fun x O' => Ex' x δ O') fun z O2 => ∃ (n : Nat) (xs : List D) (O3 : Own), z = .int (n : Int) ∧ At a (.lst xs) O2 ∧ n < xs.length ∧ Put a (.lst (xs.set n d)) O2 O3 ∧ k δ O3)
    (ha : ∀ v, assign (.Subscript o ie pos) X.env v = (do
      let ov ← holding [v] (eval o X.env)
      let iv ← holding [v, ov] (eval ie X.env)
      standAt pos
      holding [v, ov, iv] (setItem ov iv v)
      release [v, ov, iv] []) := by intro _; with_unfolding_all rfl) : DG X (.Subscript o ie pos) d δ O Ex' k := fun W tk v G σ H Q' rd r s hE hk pins s' u I ru => by
  refine (pg_sub pe_sem pe_sem set_list ha).run pins s' σ H v u Q' I ru ?_
  refine h W tk G σ H _ trivial r s (fun G' H' O' x c dd st xr e => hE G' H' O' δ σ x c dd st (r.mono st.g) xr e) fun G1 H1 O1 y w st ry ⟨a, ey, h1⟩ => ?_
  subst ey
  have ew := rep_ref ry
  subst ew
  refine h1 W tk G1 σ H1 _ trivial (r.mono st.g) st.sta (fun G' H' O' x c dd st2 xr e => hE G' H' O' δ σ x c dd (st.trans st2) (r.mono (st.trans st2).g) xr e) fun G2 H2 O2 z w st2 rz ⟨n, xs, O3, ez, m, hn, pt, q⟩ => ?_
  subst ez
  cases rz
  obtain ⟨_, o, ho, rc⟩ := st2.sta.at_ m
  cases o with
  | lst ws =>
    have rl : RepL X.K G2 xs ws := rc
    have hl := rl.length
    exact ⟨a, ws, _, n, rfl, rfl, ho, by unfold ixN; rw [if_pos (by omega), if_pos (by omega)]; simp, hk _ _ _ _ _ ((st.trans st2).trans (Step.put st2.sta pt (o := .lst (ws.set n v)) (RepL.set (rd.mono (st.trans st2).g) n rl))) (r.mono (st.trans st2).g) q⟩
  | _ => exact rc.elim
/-- what was one's own stands still from here on -/
theorem DSs.freeze {sts : List Stmt} {B : Bk} {nx : DEnv → Own → Prop} {a : Addr} {ds : List D} {O' : Own} {δ' : DEnv} (m : At a (.lst ds) O) (dl : Del a O O') (hδ : ∀ (i : Nat) (d : D), δ'[i]? = some (some d) → δ[i]? = some (some d) ∨ (d = .lst ds ∧ δ[i]? = some (some (.ref a)))) (hl : δ'.length = δ.length)
    (h : DSs X sts δ' O' B nx) : DSs X sts δ O B nx := fun W tk G σ H D r s l => by
  obtain ⟨_, o, ho, rc⟩ := s.at_ m
  obtain ⟨fz, rc'⟩ := Step.freeze s m dl ho
  cases o with
  | lst ws =>
    refine h W tk _ σ H D ⟨hl.trans r.1, fun i d e => ?_⟩ fz.sta (l.step fz)
    rcases hδ i d e with z | ⟨z1, z2⟩
    · obtain ⟨v, hv, rv⟩ := r.2 i d z
      exact ⟨v, hv, rv.mono fz.g⟩
    · obtain ⟨v, hv, rv⟩ := r.2 i _ z2
      subst z1
      have ev := rep_ref rv
      subst ev
      exact ⟨_, hv, .lst upd_same rc'⟩
  | _ => exact rc.elim
end
end DL
end
section
set_option maxRecDepth 100000
set_option maxHeartbeats 4000000
set_option autoImplicit false
namespace DL
open PySem PySem.Spec PyProof.Rows L2
open AutoSeq1 (wpAny_loadPart')
theorem meets_enumerate_newB1 {v : Value} {o : Obj} {H : Heap → Prop} (B : Begins v o H) (hv : ∃ a, v = .ref a) :
    Meets (Builtin.«enumerate.__new__» ⟨[.type "enumerate", v], []⟩) (fun _ R s => H s.heap ∧
      R (.ok (.ret (.ref (s.heap.push o).objs.size))) { s with heap := (s.heap.push o).push { cls := .type "enumerate", data := .fields #[.none, .bool false, .ref s.heap.objs.size, rawInt 0, .none, .none] } }) :=
  .of_wp fun prog w A R s h => by
    obtain ⟨a, rfl⟩ := hv
    obtain ⟨hp, g, d, tk, os⟩ := s; obtain ⟨h1, h⟩ := h
    have hsub := sub_enumerate
    have q1 : ∀ {A' : Around} {E : Value → Shared → Prop} {Q : Value → Shared → Prop}, Q (.ref hp.objs.size) ⟨hp.push o, g, d, tk, os⟩ → wpAny (model prog w) A' (pyIter (.ref a)) Q E ⟨hp, g, d, tk, os⟩ :=
      fun q => B.iter prog w _ _ ⟨hp, g, d, tk, os⟩ _ h1 q
    wp_walk using q1
    refine wpAny_stack_any fun st => wpAny_pure ?_
    split
    · rename_i c _ _ _ _ _
      cases (c == Value.type "enumerate")
      · wp_walk using q1
        exact ⟨_, rfl, h⟩
      · wp_walk using q1
        exact ⟨_, rfl, h⟩
    · wp_walk using q1
      exact ⟨_, rfl, h⟩
theorem call_enumerate_tuple {prog : Program} {w : World} {A : Around} {E : Value → Shared → Prop} {s : Shared} {l : Addr} {items : Array Value} {Q : Value → Shared → Prop} (hL : s.heap.IsTuple l items)
    (h : ∀ h', IsEnum h' (s.heap.objs.size + 1) s.heap.objs.size 0 .none → h'.IsTupleIter s.heap.objs.size l 0 → h'.objs.size = s.heap.objs.size + 2 →
      (∀ b o, s.heap.get? b = some o → h'.get? b = some o) → Q (.ref (s.heap.objs.size + 1)) { s with heap := h' }) :
    wpAny (model prog w) A (call (.type "enumerate") [.ref l]) Q E s := by
  refine callType_new F.called_enumerate (by decide) (F.typeCall_enumerate_1 _) (F.newCall_enumerate_1 _) (fun obj => F.args_object_init_2 obj _) F.entry_enumerate_new
    (meets_enumerate_newB1 (begins_tuple l items) ⟨l, rfl⟩) ⟨hL, ?_⟩
  have hz : (s.heap.push { cls := .type "tuple_iterator", data := .fields #[.ref l, .int 0 0] }).objs.size = s.heap.objs.size + 1 := Heap.size_push ..
  show _ ∧ _
  rw [hz]
  have he : IsEnum ((s.heap.push { cls := .type "tuple_iterator", data := .fields #[.ref l, .int 0 0] }).push
      { cls := .type "enumerate", data := .fields #[.none, .bool false, .ref s.heap.objs.size, rawInt 0, .none, .none] }) (s.heap.objs.size + 1) s.heap.objs.size 0 .none := by
    have := Heap.get?_push_size (s.heap.push { cls := .type "tuple_iterator", data := .fields #[.ref l, .int 0 0] })
      (o := { cls := .type "enumerate", data := .fields #[.none, .bool false, .ref s.heap.objs.size, rawInt 0, .none, .none] }) rfl
    rw [hz] at this; exact this
  refine ⟨⟨_, he, rfl⟩, h _ he ⟨_, Heap.get?_push_of_some _ (Heap.get?_push_size _ rfl), rfl, rfl⟩ (by rw [Heap.size_push, hz]) fun b o x => Heap.get?_push_of_some _ (Heap.get?_push_of_some _ x)⟩
theorem enumT_end {prog : Program} {w : World} {A : Around} {E : Value → Shared → Prop} {s : Shared} {e it l : Addr} {i : Nat} {items : Array Value} {old : Value} {Q : Option Value → Shared → Prop} (hh : A.handled = none)
    (he : IsEnum s.heap e it i old) (hit : s.heap.IsTupleIter it l i) (hl : s.heap.IsTuple l items) (hx : items[i]? = none)
    (hQ : ∀ h', Heap.ExtBut it s.heap h' → Q none { s with heap := h' }) : wpAny (model prog w) A (pyNext (.ref e)) Q E s := by
  have hT : s.TypeIs (.ref e) "enumerate" := ⟨_, he, rfl⟩
  unfold pyNext
  refine wpAny_bind (wpAny_attempt (wpAny_callSpecial?_slot (name := Str.ofString "__next__") hT F.slot_enumerate_next
    (wpAny_call_entry F.slot_enumerate_next hT F.entry_enumerate_next ?_ (F.args_enumerate_next_1 _))))
  show wpAny _ _ (field (.ref e) 2 >>= _) _ _ _
  refine wpAny_bind (wpAny_field he rfl (x := .ref it) rfl ?_)
  refine wpAny_bind (wpAny_nextOf_tuple_end hh hit hl hx fun h' x he' hx' => ?_)
  obtain ⟨o, ho, hc⟩ := hx'
  refine wpAny_bind (wpAny_isInstance (T := "StopIteration") (b := true) ⟨o, ho, hc⟩ isSubtype_stop ?_)
  exact wpAny_pure (hQ _ he')
/-- the tuple at a, each item in a new pair -/
def IteT (K : PySem.W.Frag) (a : Addr) : It :=
  ⟨fun i H => ∃ (xs : List V) (x : V), SqT K H a xs ∧ xs[i]? = some x, fun i H v H' => ∃ T x, v = .ref T ∧ H T = none ∧ H' = upd H T (.tup [.int (i : Nat), x]) ∧ ∀ xs, SqT K H a xs → xs[i]? = some x, fun i H => ∃ xs : List V, SqT K H a xs ∧ xs.length ≤ i⟩
theorem turn_enumT {P : Program} {w : World} {K : PySem.W.Frag} {elts : List Expr} {kk : Nat} {tpos : Pos} (a e it : Addr) :
    Turn P w K (.Tuple elts kk tpos) (IteT K a) [e, it] e (fun i h => (∃ old, IsEnum h e it ((i : Nat) : Int) old) ∧ h.IsTupleIter it a i ∧ e ≠ it) where
  mem := by simp
  obj := fun i h st b hb => by
    obtain ⟨⟨old, he⟩, ⟨o, ho, hc, hd⟩, _⟩ := st
    have e' : b = e ∨ b = it := by simpa using hb
    rcases e' with z | z
    · rw [z]; exact ⟨_, he, fun v q => nomatch q⟩
    · rw [z]; exact ⟨o, ho, fun v q => by rw [hd] at q; cases q⟩
  keep := fun i h h' st k => let ⟨⟨old, he⟩, hi, hne⟩ := st; ⟨⟨old, k e (by simp) _ he⟩, hi.at fun o q => k it (by simp) o q, hne⟩
  item := by
    intro X hP hw hK hc i pins s σ H E I hf st hg
    subst hP hw hK
    obtain ⟨⟨old, he⟩, hit, hne⟩ := st
    obtain ⟨xs, x, hq, hx⟩ := hg
    obtain ⟨its, rv, p, hz⟩ := I.tuple hq
    obtain ⟨u, hu, ru⟩ := rv.get hx
    have hel : e < s.heap.objs.size := Heap.lt_size he
    have hil : it < s.heap.objs.size := by obtain ⟨_, q, _⟩ := hit; exact Heap.lt_size q
    have hae : e ≠ a := fun z => by
      obtain ⟨o, ho, hcl, _⟩ := p
      rw [← z, he] at ho; cases ho; exact absurd (show Value.type "enumerate" = .type "tuple" from hcl) (by decide)
    have hai : a ≠ it := fun z => by
      obtain ⟨o, ho, hcl, _⟩ := p
      obtain ⟨o2, ho2, hc2, _⟩ := hit
      rw [z, ho2] at ho; cases ho; rw [hc2] at hcl; exact absurd hcl (by decide)
    have D := Draws.tuple (prog := X.prog) (w := X.w) (A := X.A.in1) (I.ok.hd hc) it a hai its.toArray
    refine wpAny_pyNext_enum_itemD D he ⟨hit, show s.heap.IsTuple a its.toArray from p⟩ (by
      have := (List.getElem?_eq_some_iff.mp hu).1
      simpa using this) hne (by simp [hne, hae]) fun x' h' tk hx' ho hit' hT hsz hk => ?_
    have eu : x' = u := by
      have z : its[i]? = some x' := by simpa using hx'
      rw [hu] at z; exact (Option.some.inj z).symm
    subst eu
    refine ⟨_, rfl, wpAny_letOwnedTupleGo_enum (s := { s with heap := h', toks := tk + 1 }) ho fun h'' he' sb => ?_⟩
    have hT2 : h''.get? s.heap.objs.size = some { cls := .type "tuple", data := .seq #[.int i tk, x'] } := (sb.2 _ (Nat.ne_of_gt hel)).trans hT
    have new : ObjOk X.prog X.w (upd H s.heap.objs.size (.tup [.int (i : Nat), x])) h'' s.heap.objs.size (.tup [.int (i : Nat), x]) :=
      ⟨by show 2 ≤ sizeLine; decide, [.int i tk, x'], .cons ⟨_, rfl⟩ (.cons ru .nil), ⟨_, hT2, rfl, _, rfl⟩⟩
    have I1 : Inv X pins σ (upd H s.heap.objs.size (.tup [.int (i : Nat), x])) { s with heap := h'', toks := tk + 1 } :=
      I.turnedNew (ch := [e, it]) (fun b ob hb q => (sb.2 b (fun z => hb (by simp [z]))).trans (hk b ob (fun z => hb (by simp [z])) (fun z => hb (by simp [z])) q)) hf (Nat.le_refl _) new
    refine ⟨.ref s.heap.objs.size, _, I1, rfl, ⟨_, x, rfl, I.hok.fresh (Nat.le_refl _), rfl, fun ys hy => by rw [I.tuple_inj hy hq]; exact hx⟩, ⟨⟨x', ?_⟩, hit'.1.at fun o q => (sb.2 it (Ne.symm hne)).trans q, hne⟩, fun b hb => ?_⟩
    · have e1 : ((i + 1 : Nat) : Int) = (i : Int) + 1 := by omega
      rw [e1]; exact he'
    · have hb' : b < s.heap.objs.size := by
        have e' : b = e ∨ b = it := by simpa using hb
        rcases e' with z | z
        · rw [z]; exact hel
        · rw [z]; exact hil
      rw [upd_ne (Nat.ne_of_lt hb')]
      exact (hf b hb).1
  done := by
    intro X hP hw hK hc i pins s σ H E I hf st hg
    subst hP hw hK
    obtain ⟨⟨old, he⟩, hit, hne⟩ := st
    obtain ⟨xs, hq, hx⟩ := hg
    obtain ⟨its, rv, p, hz⟩ := I.tuple hq
    obtain ⟨f0, f1, f2, f3, f4, f5⟩ := hf it (by simp)
    have hl := rv.length
    have hai : a ≠ it := fun z => by
      obtain ⟨o, ho, hcl, _⟩ := p
      obtain ⟨o2, ho2, hc2, _⟩ := hit
      rw [z, ho2] at ho; cases ho; rw [hc2] at hcl; exact absurd hcl (by decide)
    exact enumT_end (I.ok.hd hc) he hit (show s.heap.IsTuple a its.toArray from p) (by simp; omega) fun h' eb => ⟨rfl, I.turned (t' := s.toks) (fun b o hb q => eb b o hb q) f0 f1 f3 f4 f5⟩
  self := fun A i s Q E st h => let ⟨⟨_, he⟩, _⟩ := st; wpAny_pyIter_enum he h
def iEnumT (K : PySem.W.Frag) (ta : TA) : TI := fun σ H R => ta σ H fun vs H1 => ∃ a xs, vs = [.ref a] ∧ SqT K H1 a xs ∧ R (IteT K a) H1
theorem pi_enumT {X : Cx} {e : Expr} {ta : TA} {p pos tpos : Pos} {elts : List Expr} {kk : Nat} (hg : Gl X "enumerate") (hm : X.mg "enumerate" = none) (ha : PA X [e] ta) (hs : starEach [e] X.env = [(false, eval e X.env)] := by with_unfolding_all rfl) :
    PI X (.Tuple elts kk tpos) (.Call (.Name "enumerate" p) [e] [] pos) (iEnumT X.K ta) := by
  refine ⟨fun pins s σ H R I h => ?_⟩
  refine Call_ (ld_blt I hg hm boot_enumerate (PyProof.Rows.callWith_type1 (thn (ha.run pos pins s σ H _ I h) fun us s1 ⟨vs, H1, I1, r1, q1⟩ => ?_) hs rfl))
  obtain ⟨a, xs, ex, hq, q⟩ := q1
  subst ex
  cases r1 with
  | cons r rr =>
    cases rr
    cases r
    obtain ⟨its, rv, p', hz⟩ := I1.tuple hq
    refine call_enumerate_tuple (show s1.heap.IsTuple a its.toArray from p') fun h' he hit hsz hk => wpAny_pyIter_enum he ?_
    have I2 : Inv X pins σ H1 { s1 with heap := h' } := I1.kept (t' := s1.toks) hk
    refine ⟨s1.heap.objs.size + 1, [s1.heap.objs.size + 1, s1.heap.objs.size], _, _, H1, rfl, I2, turn_enumT a (s1.heap.objs.size + 1) s1.heap.objs.size, ⟨⟨.none, he⟩, hit, Nat.succ_ne_self _⟩, fun b hb => ?_, q⟩
    have e' : b = s1.heap.objs.size + 1 ∨ b = s1.heap.objs.size := by simpa using hb
    have hle : s1.heap.objs.size ≤ b := by
      rcases e' with z | z
      · rw [z]; exact Nat.le_add_right _ _
      · rw [z]; exact Nat.le_refl _
    exact I1.fpOk hle (I1.hok.fresh hle)
/-- the pairs (0, x0), (1, x1) .. -/
def enumD (xs : List D) : List D := xs.zipIdx.map fun p => D.tup [.int (p.2 : Nat), p.1]
theorem enumD_length {xs : List D} : (enumD xs).length = xs.length := by simp [enumD]
theorem enumD_get {xs : List D} {i : Nat} {d : D} (h : (enumD xs)[i]? = some d) : ∃ x, xs[i]? = some x ∧ d = .tup [.int (i : Nat), x] := by
  unfold enumD at h
  rw [List.getElem?_map, List.getElem?_zipIdx] at h
  cases q : xs[i]? with
  | none => rw [q] at h; cases h
  | some x =>
    rw [q] at h
    cases h
    exact ⟨x, rfl, by simp⟩
theorem jrep_enum {K : PySem.W.Frag} {G : Hp} {a : Addr} {ds : List D} {vs : List V} (hq : SqL K G a vs) (rl : RepL K G ds vs) : JRep K G (enumD ds) (Ite K a) where
  go := fun i G1 H e1 e2 hi => by
    rw [enumD_length] at hi
    have hv : i < vs.length := by rw [rl.length]; exact hi
    exact ⟨vs, vs[i], e2.seqL (e1.seqL hq), by simp [hv]⟩
  stop := fun i G1 H e1 e2 hi => ⟨vs, e2.seqL (e1.seqL hq), by rw [rl.length]; rw [enumD_length] at hi; exact Nat.le_of_eq hi⟩
  yld := fun i G1 H x H' d e1 e2 hd ⟨T, y, ex, hT, eH, hy⟩ => by
    obtain ⟨d0, h0, ed⟩ := enumD_get hd
    obtain ⟨v, hv, rv⟩ := rl.get h0
    have := hy vs (e2.seqL (e1.seqL hq))
    rw [hv] at this
    cases this
    exact .inr ⟨T, _, _, hT, eH, ed, .cons (.int _) (.cons (rv.mono e1) .nil), ex⟩
theorem jrep_enumT {K : PySem.W.Frag} {G : Hp} {a : Addr} {ds : List D} {vs : List V} (hq : SqT K G a vs) (rl : RepL K G ds vs) : JRep K G (enumD ds) (IteT K a) where
  go := fun i G1 H e1 e2 hi => by
    rw [enumD_length] at hi
    have hv : i < vs.length := by rw [rl.length]; exact hi
    exact ⟨vs, vs[i], e2.seqT (e1.seqT hq), by simp [hv]⟩
  stop := fun i G1 H e1 e2 hi => ⟨vs, e2.seqT (e1.seqT hq), by rw [rl.length]; rw [enumD_length] at hi; exact Nat.le_of_eq hi⟩
  yld := fun i G1 H x H' d e1 e2 hd ⟨T, y, ex, hT, eH, hy⟩ => by
    obtain ⟨d0, h0, ed⟩ := enumD_get hd
    obtain ⟨v, hv, rv⟩ := rl.get h0
    have := hy vs (e2.seqT (e1.seqT hq))
    rw [hv] at this
    cases this
    exact .inr ⟨T, _, _, hT, eH, ed, .cons (.int _) (.cons (rv.mono e1) .nil), ex⟩
section
variable {X : Cx} {N : List Str} {sc : Scope} {δ : DEnv} {O : Own} {E : XD → Own → Prop} {Q : D → Own → Prop} {QT : Bool → Own → Prop} {QA : List D → Own → Prop} {pos p apos : Pos} {i j : Int}
theorem di_enum {e : Expr} {elts : List Expr} {kk : Nat} {tpos : Pos} {QI : List D → Own → Prop} (S : Sc X N sc) (hm : X.mg "enumerate" = none) (h : DA X [e] δ O E fun ds O1 => ∃ xs, ds = [.lst xs] ∧ QI (enumD xs) O1) (hg : Nk ("enumerate" : Str) .globalImplicit sc.names := by (repeat (with_reducible constructor))) (hs : starEach [e] X.env = [(false, eval e X.env)] := by with_unfolding_all rfl) :
    DI X (.Tuple elts kk tpos) (.Call (.Name "enumerate" p) [e] [] pos) δ O E QI :=
  di_of (pi_enum (S.gl hg) hm pa_sem hs) fun W tk G σ H Q' p r s hE hQ => h W tk G σ H _ p r s hE fun G' H' O' ds vs st rl ⟨xs, e, q⟩ => by
    subst e
    cases rl with
    | cons r1 rr =>
      cases rr
      cases r1 with
      | lst hq rl => exact ⟨_, _, rfl, .inl (.inl (st.sta.sub _ _ hq)), hQ _ _ _ _ _ st (jrep_enum (.inl (.inl hq)) rl) q⟩
theorem di_enumT {e : Expr} {elts : List Expr} {kk : Nat} {tpos : Pos} {QI : List D → Own → Prop} (S : Sc X N sc) (hm : X.mg "enumerate" = none) (h : DA X [e] δ O E fun ds O1 => ∃ xs, ds = [.tup xs] ∧ QI (enumD xs) O1) (hg : Nk ("enumerate" : Str) .globalImplicit sc.names := by (repeat (with_reducible constructor))) (hs : starEach [e] X.env = [(false, eval e X.env)] := by with_unfolding_all rfl) :
    DI X (.Tuple elts kk tpos) (.Call (.Name "enumerate" p) [e] [] pos) δ O E QI :=
  di_of (pi_enumT (S.gl hg) hm pa_sem hs) fun W tk G σ H Q' p r s hE hQ => h W tk G σ H _ p r s hE fun G' H' O' ds vs st rl ⟨xs, e, q⟩ => by
    subst e
    cases rl with
    | cons r1 rr =>
      cases rr
      cases r1 with
      | tup hq rl => exact ⟨_, _, rfl, st.sta.sub.seqT hq, hQ _ _ _ _ _ st (jrep_enumT hq rl) q⟩
def signs (x : Str) : List D := x.cps.toList.map fun c => D.str ⟨#[c]⟩
theorem jrep_str {K : PySem.W.Frag} {G : Hp} {x : Str} : JRep K G (signs x) (Its x) where
  go := fun i G1 H e1 e2 hi => by simp [signs] at hi; exact hi
  stop := fun i G1 H e1 e2 hi => by simp [signs] at hi; exact Nat.le_of_eq hi
  yld := fun i G1 H y H' d e1 e2 hd ⟨eH, c, hc, ey⟩ => by
    unfold signs at hd
    rw [List.getElem?_map] at hd
    have hc' : x.cps.toList[i]? = some c := by simpa using hc
    rw [hc'] at hd
    cases hd
    subst ey
    exact .inl ⟨eH, .str _⟩
theorem di_str {tg e : Expr} {QI : List D → Own → Prop} (h : DE X e δ O E fun d O1 => ∃ x, d = .str x ∧ QI (signs x) O1) : DI X tg e δ O E QI :=
  di_of (pi_str pe_sem) fun W tk G σ H Q' p r s hE hQ => h W tk G σ H _ p r s hE fun G' H' O' d v st rd ⟨x, e, q⟩ => by
    subst e
    cases rd
    exact ⟨x, rfl, hQ _ _ _ _ _ st jrep_str q⟩
theorem de_split {o e : Expr} (h : DE X o δ O E fun d O1 => ∃ x, d = .str x ∧ DE X e δ O1 E fun y O2 => ∃ z, y = .str z ∧ (z.length == 0) = false ∧ x.length + 2 ≤ 1000000 ∧ NewL ((Txt.split x z).map D.str) O2 Q)
    (hs : starEach [e] X.env = [(false, eval e X.env)] := by with_unfolding_all rfl) (hbase : attributeBase o "split" X.env (eval o X.env) = eval o X.env := by with_unfolding_all rfl) (hline : (apos.endLine == pos.line) = true := by with_unfolding_all rfl) : DE X (.Call (.Attribute o "split" apos) [e] [] pos) δ O E Q :=
  de_of (pe_split pe_sem pe_sem hs hbase hline) fun W tk G σ H Q' p r s hE hQ => h W tk G σ H _ p r s hE fun G1 H1 O1 d v st rd ⟨x, ed, h1⟩ => by
    subst ed
    cases rd
    refine ⟨⟨x, rfl⟩, h1 W tk G1 σ H1 _ trivial (r.mono st.g) st.sta (fun _ _ _ _ _ _ st2 => hE _ _ _ _ _ _ (st.trans st2)) fun G2 H2 O2 y u st2 ry ⟨z, ey, hz, hl, q⟩ => ?_⟩
    subst ey
    cases ry
    exact ⟨x, z, rfl, rfl, hz, Nat.le_trans hl (by decide), m_newL st2.sta (repL_map (fun _ => .str _) _) q fun _ _ _ _ _ st3 => hQ _ _ _ _ _ ((st.trans st2).trans st3)⟩
theorem de_join {o e : Expr} (h : DE X o δ O E fun d O1 => ∃ x, d = .str x ∧ DE X e δ O1 E fun y O2 => ∃ zs : List Str, y = .lst (zs.map D.str) ∧ (zs.map (·.length)).sum + zs.length * x.length ≤ 1000000 ∧ Q (.str (Txt.join x zs)) O2)
    (hs : starEach [e] X.env = [(false, eval e X.env)] := by with_unfolding_all rfl) (hbase : attributeBase o "join" X.env (eval o X.env) = eval o X.env := by with_unfolding_all rfl) (hline : (apos.endLine == pos.line) = true := by with_unfolding_all rfl) : DE X (.Call (.Attribute o "join" apos) [e] [] pos) δ O E Q :=
  de_of (pe_join pe_sem pe_sem hs hbase hline) fun W tk G σ H Q' p r s hE hQ => h W tk G σ H _ p r s hE fun G1 H1 O1 d v st rd ⟨x, ed, h1⟩ => by
    subst ed
    cases rd
    refine ⟨⟨x, rfl⟩, h1 W tk G1 σ H1 _ trivial (r.mono st.g) st.sta (fun _ _ _ _ _ _ st2 => hE _ _ _ _ _ _ (st.trans st2)) fun G2 H2 O2 y u st2 ry ⟨zs, ey, hl, q⟩ => ?_⟩
    subst ey
    cases ry with
    | lst hq rl =>
      have e2 := repL_str rl
      subst e2
      exact ⟨x, _, zs, rfl, rfl, .inl (.inl (.inl (st2.sta.sub _ _ hq))), Nat.le_trans hl (by decide), hQ _ _ _ _ _ (st.trans st2) (.str _) q⟩
/-- one sign in a text -/
theorem db_in_sign {c : Nat} {z : Str} (q : Q (.bl (decide (c ∈ z.cps.toList))) O) : DB X (compareOp .In) (.str ⟨#[c]⟩) (.str z) δ O E Q := db_of op_in_sign fun v u W tk G σ H Q' p r s hE hQ => by
  obtain ⟨p1, p2⟩ := p
  cases p1
  cases p2
  exact ⟨c, z, rfl, rfl, hQ _ _ _ _ _ (Step.refl s) (.bl _) q⟩
theorem db_notin_sign {c : Nat} {z : Str} (q : Q (.bl (!decide (c ∈ z.cps.toList))) O) : DB X (compareOp .NotIn) (.str ⟨#[c]⟩) (.str z) δ O E Q := db_of op_notIn_sign fun v u W tk G σ H Q' p r s hE hQ => by
  obtain ⟨p1, p2⟩ := p
  cases p1
  cases p2
  exact ⟨c, z, rfl, rfl, hQ _ _ _ _ _ (Step.refl s) (.bl _) q⟩
mutual
def toP : D → PyData
  | .non => .none | .bl b => .bool b | .int i => .int i | .str x => .str x | .tup ds => .tuple (toPs ds) | .lst ds => .list (toPs ds) | .fz _ => .none | .ty _ => .none | .ref _ => .none | .ins _ _ => .none | .exc _ _ _ => .none | .clo _ _ => .none
def toPs : List D → List PyData
  | [] => []
  | d :: ds => toP d :: toPs ds
end
mutual
def plainD : D → Bool
  | .non => true | .bl _ => true | .int _ => true | .str x => PySem.PyData.strOk x | .tup ds => plainDs ds | .lst ds => plainDs ds | .fz _ => false | .ty _ => false | .ref _ => false | .ins _ _ => false | .exc _ _ _ => false | .clo _ _ => false
def plainDs : List D → Bool
  | [] => true
  | d :: ds => plainD d && plainDs ds
end
mutual
theorem rep_dp {K : PySem.W.Frag} {G H : Hp} (e : Ex G H) : ∀ (d : D) (v : V), plainD d = true → Rep K G d v → Dp K H v (toP d)
  | .non, _, _, r => by cases r; exact .non
  | .bl b, _, _, r => by cases r; exact .bl b
  | .int i, _, _, r => by cases r; exact .int i
  | .str x, _, _, r => by cases r; exact .str x
  | .tup ds, _, h, r => by
    cases r with
    | tup hq rl => exact .tup (e.seqT hq) (rep_dps e ds _ h rl)
  | .lst ds, _, h, r => by
    cases r with
    | lst hq rl => exact .lst (.inl (.inl (e _ _ hq))) (rep_dps e ds _ h rl)
theorem rep_dps {K : PySem.W.Frag} {G H : Hp} (e : Ex G H) : ∀ (ds : List D) (vs : List V), plainDs ds = true → RepL K G ds vs → DpAll K H vs (toPs ds)
  | [], _, _, r => by cases r; exact .nil
  | d :: ds, _, h, r => by
    have h' : plainD d = true ∧ plainDs ds = true := by simpa [plainDs] using h
    cases r with
    | cons r1 r2 => exact .cons (rep_dp e d _ h'.1 r1) (rep_dps e ds _ h'.2 r2)
end
/-- what == asks of data: plain, not deep -/
def okD (d : D) : Prop := plainD d = true ∧ SeqAt.shaped (toP d) = true
theorem db_eqD {k : Nat} {x y : D} (hr : Room k X.A) (hx : okD x) (hy : okD y) (q : Q (.bl (PyData.eqv (toP x) (toP y))) O) : DB X (compareOp .Eq) x y δ O E Q := db_of (op_eqD hr.units) fun v u W tk G σ H Q' p r s hE hQ =>
  ⟨toP x, toP y, rep_dp s.sub x v hx.1 p.1, rep_dp s.sub y u hy.1 p.2, hx.2, hy.2, hQ _ _ _ _ _ (Step.refl s) (.bl _) q⟩
theorem db_neD {k : Nat} {x y : D} (hr : Room k X.A) (hx : okD x) (hy : okD y) (q : Q (.bl (!PyData.eqv (toP x) (toP y))) O) : DB X (compareOp .NotEq) x y δ O E Q := db_of (op_neD hr.units) fun v u W tk G σ H Q' p r s hE hQ =>
  ⟨toP x, toP y, rep_dp s.sub x v hx.1 p.1, rep_dp s.sub y u hy.1 p.2, hx.2, hy.2, hQ _ _ _ _ _ (Step.refl s) (.bl _) q⟩
def semPO (X : Cx) (e : Option Expr) : TO := fun σ H Q => ∀ (pins : List (Addr × Obj)) (s : Shared), Inv X pins σ H s → wpAny (model X.prog X.w) X.A (evalPart e X.env) (fun u s' => ∃ o H', Inv X pins σ H' s' ∧ IsPart u o ∧ Q o H') X.xe s
def DPo (X : Cx) (e : Option Expr) (δ : DEnv) (O : Own) (E : XD → Own → Prop) (Q : Option Int → Own → Prop) : Prop := M X PT0 REq (semPO X e) δ O E Q
theorem po_sem {e : Option Expr} : PO X e (semPO X e) := ⟨fun pins s _ _ _ I h => h pins s I⟩
theorem dpo_none {QP : Option Int → Own → Prop} (q : QP none O) : DPo X none δ O E QP := fun W tk G σ H Q' p r s hE hQ pins s' I => po_none.run pins s' σ H Q' I (hQ G H O none none (Step.refl s) rfl q)
theorem dpo_some {e : Expr} {QP : Option Int → Own → Prop} (h : DE X e δ O E fun d O1 => ∃ i, d = .int i ∧ QP (some i) O1) : DPo X (some e) δ O E QP := fun W tk G σ H Q' p r s hE hQ pins s' I => (po_some pe_sem).run pins s' σ H Q' I (h W tk G σ H _ p r s hE fun G1 H1 O1 d v st rd ⟨i, ed, q⟩ => by
  subst ed
  cases rd
  exact ⟨i, rfl, hQ _ _ _ _ _ st rfl q⟩)
def cutD (xs : List D) (lo hi : Option Int) : List D := (xs.drop (HT.sIx xs.length 0 lo)).take (HT.sIx xs.length xs.length hi - HT.sIx xs.length 0 lo)
theorem cut_rep {K : PySem.W.Frag} {G : Hp} {ds : List D} {vs : List V} (r : RepL K G ds vs) (lo hi : Option Int) : RepL K G (cutD ds lo hi) (cutV vs lo hi) := by
  unfold cutD cutV
  rw [r.length]
  exact RepL.take _ (RepL.drop _ r)
theorem m_slice {a : Expr} {lo hi : Option Expr} {r : V → Option Int → Option Int → Hp → VK → Prop} {kd : D → Own → Option Int → Option Int → Own → Prop}
    (rule : ∀ (x : D) (v : V) (l u : Option Int) (G H : Hp) (O1 O2 : Own) (Q' : VK), kd x O1 l u O2 → Rep X.K G x v → Sta X.K G O2 H → (∀ G' H' O' d v, Step X.K G O2 H G' O' H' → Rep X.K G' d v → Q d O' → Q' v H') → r v l u H Q')
    (h : DE X a δ O E fun x O1 => DPo X lo δ O1 E fun l O2 => DPo X hi δ O2 E fun u O3 => kd x O1 l u O3) : M X PT0 (Rep X.K) (tSl r (sem X a) (semPO X lo) (semPO X hi)) δ O E Q :=
  fun W tk G σ H Q' p r s hE hQ => h W tk G σ H _ p r s hE fun G1 H1 O1 x v st rx h1 => h1 W tk G1 σ H1 _ trivial (r.mono st.g) st.sta (fun _ _ _ _ _ _ st2 => hE _ _ _ _ _ _ (st.trans st2)) fun G2 H2 O2 l l' st2 el h2 => by
    obtain rfl : l = l' := el
    exact h2 W tk G2 σ H2 _ trivial (r.mono (st.trans st2).g) st2.sta (fun _ _ _ _ _ _ st3 => hE _ _ _ _ _ _ ((st.trans st2).trans st3)) fun G3 H3 O3 u u' st3 eu h3 => by
      obtain rfl : u = u' := eu
      exact rule x v l u G3 H3 O1 O3 Q' h3 (rx.mono (st2.trans st3).g) st3.sta fun _ _ _ _ _ st4 => hQ _ _ _ _ _ (((st.trans st2).trans st3).trans st4)
/-- xs[lo:hi] -/
theorem de_sliceL {a : Expr} {lo hi : Option Expr} {p2 : Pos} (h : DE X a δ O E fun x O1 => DPo X lo δ O1 E fun l O2 => DPo X hi δ O2 E fun u O3 => ∃ xs, x = .lst xs ∧ NewL (cutD xs l u) O3 Q) : DE X (.Subscript a (.Slice lo hi none p2) pos) δ O E Q :=
  de_of (pe_slice sl_list pe_sem po_sem po_sem) (m_slice (kd := fun x _ l u O3 => ∃ xs, x = .lst xs ∧ NewL (cutD xs l u) O3 Q) (fun x v l u G H O1 O2 Q' ⟨xs, ex, n⟩ rx s hQ => by
    subst ex
    cases rx with
    | lst hq rl => exact ⟨_, _, rfl, .inl (.inl (s.sub _ _ hq)), m_newL s (cut_rep rl l u) n hQ⟩) h)
def isIntD : D → Bool | .int _ => true | .bl _ => true | _ => false
def isBlD : D → Bool | .bl _ => true | _ => false
def isStrD : D → Bool | .str _ => true | _ => false
def isTupD : D → Bool | .tup _ => true | _ => false
def isLstD : D → Bool | .lst _ => true | .fz _ => true | _ => false
theorem dc_isi_int {d : D} (h : tyD d ≠ "") (q : Q (.bl (isIntD d)) O) : DC X (.builtin "isinstance") [d, .ty "int"] δ O E Q := dc_isi h (by
  cases d <;> first | exact absurd rfl h | (show kitB _ "int" = some _; first | exact (by decide +kernel : kitB "NoneType" "int" = some false) | exact (by decide +kernel : kitB "bool" "int" = some true) | exact (by decide +kernel : kitB "int" "int" = some true) | exact (by decide +kernel : kitB "str" "int" = some false) | exact (by decide +kernel : kitB "tuple" "int" = some false) | exact (by decide +kernel : kitB "list" "int" = some false))) q
theorem dc_isi_bl {d : D} (h : tyD d ≠ "") (q : Q (.bl (isBlD d)) O) : DC X (.builtin "isinstance") [d, .ty "bool"] δ O E Q := dc_isi h (by
  cases d <;> first | exact absurd rfl h | (show kitB _ "bool" = some _; first | exact (by decide +kernel : kitB "NoneType" "bool" = some false) | exact (by decide +kernel : kitB "bool" "bool" = some true) | exact (by decide +kernel : kitB "int" "bool" = some false) | exact (by decide +kernel : kitB "str" "bool" = some false) | exact (by decide +kernel : kitB "tuple" "bool" = some false) | exact (by decide +kernel : kitB "list" "bool" = some false))) q
theorem dc_isi_str {d : D} (h : tyD d ≠ "") (q : Q (.bl (isStrD d)) O) : DC X (.builtin "isinstance") [d, .ty "str"] δ O E Q := dc_isi h (by
  cases d <;> first | exact absurd rfl h | (show kitB _ "str" = some _; first | exact (by decide +kernel : kitB "NoneType" "str" = some false) | exact (by decide +kernel : kitB "bool" "str" = some false) | exact (by decide +kernel : kitB "int" "str" = some false) | exact (by decide +kernel : kitB "str" "str" = some true) | exact (by decide +kernel : kitB "tuple" "str" = some false) | exact (by decide +kernel : kitB "list" "str" = some false))) q
theorem dc_isi_tup {d : D} (h : tyD d ≠ "") (q : Q (.bl (isTupD d)) O) : DC X (.builtin "isinstance") [d, .ty "tuple"] δ O E Q := dc_isi h (by
  cases d <;> first | exact absurd rfl h | (show kitB _ "tuple" = some _; first | exact (by decide +kernel : kitB "NoneType" "tuple" = some false) | exact (by decide +kernel : kitB "bool" "tuple" = some false) | exact (by decide +kernel : kitB "int" "tuple" = some false) | exact (by decide +kernel : kitB "str" "tuple" = some false) | exact (by decide +kernel : kitB "tuple" "tuple" = some true) | exact (by decide +kernel : kitB "list" "tuple" = some false))) q
theorem dc_isi_lst {d : D} (h : tyD d ≠ "") (q : Q (.bl (isLstD d)) O) : DC X (.builtin "isinstance") [d, .ty "list"] δ O E Q := dc_isi h (by
  cases d <;> first | exact absurd rfl h | (show kitB _ "list" = some _; first | exact (by decide +kernel : kitB "NoneType" "list" = some false) | exact (by decide +kernel : kitB "bool" "list" = some false) | exact (by decide +kernel : kitB "int" "list" = some false) | exact (by decide +kernel : kitB "str" "list" = some false) | exact (by decide +kernel : kitB "tuple" "list" = some false) | exact (by decide +kernel : kitB "list" "list" = some true))) q
theorem ex_bl {b : Bool} {Qb : Bool → Prop} (h : Qb b) : ∃ k, D.bl b = D.bl k ∧ Qb k := ⟨b, rfl, h⟩
theorem br_t {A C : Prop} (h : A) : (true = true → A) ∧ (true = false → C) := ⟨fun _ => h, fun z => nomatch z⟩
theorem br_f {A C : Prop} (h : C) : (false = true → A) ∧ (false = false → C) := ⟨fun z => (nomatch z), fun _ => h⟩
theorem rb_t {A C : Prop} (h : A) : (true = false → C) ∧ (true = true → A) := ⟨fun z => (nomatch z), fun _ => h⟩
theorem rb_f {A C : Prop} (h : C) : (false = false → C) ∧ (false = true → A) := ⟨fun _ => h, fun z => nomatch z⟩
end
end DL
end
section
set_option maxRecDepth 100000
set_option maxHeartbeats 4000000
set_option autoImplicit false
namespace DL
open PySem PySem.Spec PyProof.Rows L2
/-- a def of the module -/
structure Def (K : PySem.W.Frag) (mg : Str → Option Value) (nm : Str) (st : Stmt) (ps : List Str) (f : Addr) : Prop where
  g : mg nm = some (.ref f)
  k : PySem.W.keepIn K (.ref f) = true
  fn : ∃ fd, Fun K nm nm st f fd ∧ Binds K fd ps []
/-- a method -/
structure MDef (K : PySem.W.Frag) (C : Addr) (m qual : Str) (st : Stmt) (ps : List Str) (f : Addr) : Prop where
  mt : Meth K C m f
  fn : ∃ fd, Fun K m qual st f fd ∧ Binds K fd ps []
/-- a method that takes what is left over -/
structure SDef (K : PySem.W.Frag) (C : Addr) (m qual : Str) (st : Stmt) (ps : List Str) (pv : Str) (f : Addr) : Prop where
  mt : Meth K C m f
  fn : ∃ fd, Fun K m qual st f fd ∧ ∀ us rest : List Value, us.length = ps.length → bindArgs fd ⟨us ++ rest, []⟩ = (newTuple rest >>= fun t => pure (ps.zip us ++ [(pv, t)]))
/-- a property -/
structure PDef (K : PySem.W.Frag) (C : Addr) (m qual : Str) (st : Stmt) (pr g : Addr) : Prop where
  p : PropOf K C m pr g
  fn : ∃ fd, Fun K m qual st g fd ∧ Binds K fd ["self"] []
/-- a classmethod -/
structure CDef (K : PySem.W.Frag) (C : Addr) (m qual : Str) (st : Stmt) (ps : List Str) (pr g : Addr) : Prop where
  c : ClX.CMet K C (.type "type") m pr g
  fn : ∃ fd, Fun K m qual st g fd ∧ Binds K fd ps []
/-- a class whose instances are made and read -/
structure ClD (K : PySem.W.Frag) (mg : Str → Option Value) (nm : Str) (C : Addr) : Prop where
  g : mg nm = some (.ref C)
  k : PySem.W.keepIn K (.ref C) = true
  cl : Cls K C
  mks : PySem.W.makesIn K C = true
  rd : ClX.CRead K C (.type "type")
  i1 : PySem.W.findIn K (.ref C) "__class__" = some (some (.builtin "object.__class__"))
  i2 : PySem.W.specialIn K (.builtin "object.__class__") "__get__" = some (some (.builtin "getset_descriptor.__get__"))
  i3 : PySem.W.takesIn K (.builtin "object.__class__") = some true
  i4 : PySem.W.mroIn K C (.type "object") = some true
theorem ClD.make {K : PySem.W.Frag} {mg : Str → Option Value} {nm : Str} {C f : Addr} (c : ClD K mg nm C) (h : Meth K C "__init__" f) : Mk K C f := ⟨c.mks, h.at_, h.fn, c.k⟩
section
variable {P : Program} {w : World} {K : PySem.W.Frag} {mg : Str → Option Value} {base : Heap} {nm qual m pv : Str} {st : Stmt} {f C pr g : Addr} {N ps : List Str} {k : Nat} {sp : DSp}
theorem Def.ok (D : Def K mg nm st ps f) (S : FnS N ps (defScope st)) (len : ∀ ds O E Q, sp ds O E Q → ds.length = ps.length) (h : BodyOk P w K mg base k N st sp) : DFn P w K mg base (k + 1) f sp :=
  let ⟨_, F, b⟩ := D.fn
  dfn_of F S b len h
theorem MDef.ok (D : MDef K C m qual st ps f) (S : FnS N ps (defScope st)) (len : ∀ ds O E Q, sp ds O E Q → ds.length = ps.length) (h : BodyOk P w K mg base k N st sp) : DFn P w K mg base (k + 1) f sp :=
  let ⟨_, F, b⟩ := D.fn
  dfn_of F S b len h
theorem PDef.ok (D : PDef K C m qual st pr g) (S : FnS N ["self"] (defScope st)) (len : ∀ ds O E Q, sp ds O E Q → ds.length = 1) (h : BodyOk P w K mg base k N st sp) : DFn P w K mg base (k + 1) g sp :=
  let ⟨_, F, b⟩ := D.fn
  dfn_of F S b len h
theorem CDef.ok (D : CDef K C m qual st ps pr g) (S : FnS N ps (defScope st)) (len : ∀ ds O E Q, sp ds O E Q → ds.length = ps.length) (h : BodyOk P w K mg base k N st sp) : DFn P w K mg base (k + 1) g sp :=
  let ⟨_, F, b⟩ := D.fn
  dfn_of F S b len h
theorem SDef.ok (D : SDef K C m qual st ps pv f) (S : FnS N (ps ++ [pv]) (defScope st)) (h : BodyOk P w K mg base k N st sp) : DFn P w K mg base (k + 1) f (starSp ps.length sp) :=
  let ⟨_, F, b⟩ := D.fn
  dfn_star F S b h
end
section
variable {X : Cx} {N : List Str} {sc : Scope} {δ : DEnv} {O : Own} {E : XD → Own → Prop} {Q : D → Own → Prop} {pos p apos : Pos}
/-- C.NAME, an int of the class -/
theorem de_cconst {cls nm : Str} {C : Addr} {n : Int} (S : Sc X N sc) (c : ClD X.K X.mg cls C) (h : ∃ u, ClX.CVal X.K C (.type "type") nm (.int n) u) (q : Q (.int n) O) (hg : Nk cls .globalImplicit sc.names := by (repeat (with_reducible constructor)))
    (hb : attributeBase (.Name cls p) nm X.env (eval (.Name cls p) X.env) = eval (.Name cls p) X.env := by with_unfolding_all rfl) : DE X (.Attribute (.Name cls p) nm pos) δ O E Q :=
  let ⟨u, hu⟩ := h
  de_cval (de_glob (v := .ref C) S c.g rfl (fun _ => .ref C) ⟨C, _, .int n, .int n, u, rfl, c.rd, hu, fun _ => .int n, q⟩ hg) hb
/-- a constant of the module -/
theorem de_cint {x : Str} {n : Int} (S : Sc X N sc) (h : ∃ t, X.mg x = some (.int n t)) (q : Q (.int n) O) (hg : Nk x .globalImplicit sc.names := by (repeat (with_reducible constructor))) : DE X (.Name x pos) δ O E Q :=
  let ⟨t, ht⟩ := h
  de_glob (v := .int n) S ht ⟨t, rfl⟩ (fun _ => .int n) q hg
theorem de_cstr {x z : Str} (S : Sc X N sc) (h : ∃ t, X.mg x = some (.str z t)) (q : Q (.str z) O) (hg : Nk x .globalImplicit sc.names := by (repeat (with_reducible constructor))) : DE X (.Name x pos) δ O E Q :=
  let ⟨t, ht⟩ := h
  de_glob (v := .str z) S ht ⟨t, rfl⟩ (fun _ => .str z) q hg
end
section
variable {a : Addr} {c c1 c2 : Cell} {O O' : Own}
theorem Put.mid (h : Put a c2 O O') : ∀ c1, ∃ O1, Put a c1 O O1 ∧ Put a c2 O1 O' := fun c1 => by
  induction h with
  | head => exact ⟨_, .head, .head⟩
  | tail _ ih => obtain ⟨O1, h1, h2⟩ := ih; exact ⟨_, .tail h1, .tail h2⟩
theorem Put.at' (h : Put a c O O') : At a c O' := by
  induction h with
  | head => exact .head
  | tail _ ih => exact .tail ih
end
section
variable {X : Cx} {δ : DEnv} {O O1 : Own} {E : XD → Own → Prop}
theorem DT.via {e : Expr} {k : Bool} {Q : Bool → Own → Prop} (q : Q k O1) (h : DT X e δ O E fun x O' => x = k ∧ O' = O1) : DT X e δ O E Q := M.imp h fun x O' ⟨e1, e2⟩ => by rw [e1, e2]; exact q
end
section
variable {X : Cx} {δ : DEnv} {O : Own} {E : XD → Own → Prop} {E' : XD → DEnv → Own → Prop} {Q : D → Own → Prop} {QT : Bool → Own → Prop} {QA : List D → Own → Prop} {B : Bk} {nx : DEnv → Own → Prop}
theorem as_DE {e : Expr} (h : DE X e δ O E Q) : DE X e δ O E Q := h
theorem as_call {f : Expr} {es : List Expr} {ks : List Keyword} {pos : Pos} (h : DE X (.Call f es ks pos) δ O E Q) : DE X (.Call f es ks pos) δ O E Q := h
theorem as_name {x : Str} {pos : Pos} (h : DE X (.Name x pos) δ O E Q) : DE X (.Name x pos) δ O E Q := h
theorem as_con {c : Const} {k : Nat} {pos : Pos} (h : DE X (.Constant c k pos) δ O E Q) : DE X (.Constant c k pos) δ O E Q := h
theorem as_attr {o : Expr} {m : Str} {pos : Pos} (h : DE X (.Attribute o m pos) δ O E Q) : DE X (.Attribute o m pos) δ O E Q := h
theorem as_DA {es : List Expr} (h : DA X es δ O E QA) : DA X es δ O E QA := h
theorem as_DT {e : Expr} (h : DT X e δ O E QT) : DT X e δ O E QT := h
theorem as_DW {e : Expr} (h : DW X e δ O E QT) : DW X e δ O E QT := h
theorem as_DSs {st : List Stmt} (h : DSs X st δ O B nx) : DSs X st δ O B nx := h
theorem as_DS {st : Stmt} (h : DS X st δ O B nx) : DS X st δ O B nx := h
theorem as_DG {e : Expr} {d : D} (h : DG X e d δ O E' nx) : DG X e d δ O E' nx := h
theorem as_DC {f : Value} {ds : List D} (h : DC X f ds δ O E Q) : DC X f ds δ O E Q := h
theorem as_DB {f : Value → Value → Sem Value} {x y : D} (h : DB X f x y δ O E Q) : DB X f x y δ O E Q := h
end
theorem br_nt {A C : Prop} (h : C) : ((!true) = true → A) ∧ ((!true) = false → C) := ⟨fun z => (nomatch z), fun _ => h⟩
theorem br_nf {A C : Prop} (h : A) : ((!false) = true → A) ∧ ((!false) = false → C) := ⟨fun _ => h, fun z => nomatch z⟩
theorem rb_nt {A C : Prop} (h : C) : ((!true) = false → C) ∧ ((!true) = true → A) := ⟨fun _ => h, fun z => nomatch z⟩
theorem rb_nf {A C : Prop} (h : A) : ((!false) = false → C) ∧ ((!false) = true → A) := ⟨fun z => (nomatch z), fun _ => h⟩
theorem len_and {n : Nat} {A : Prop} (h : Nat.ble n 100000 = true) (a : A) : n ≤ 100000 ∧ A := ⟨Nat.le_of_ble_eq_true h, a⟩
inductive Fz (a : Addr) (ds : List D) : DEnv → DEnv → Prop
  | nil : Fz a ds [] []
  | swap {l l' : DEnv} : Fz a ds l l' → Fz a ds (some (.ref a) :: l) (some (.lst ds) :: l')
  | keep {l l' : DEnv} {x : Option D} : Fz a ds l l' → Fz a ds (x :: l) (x :: l')
theorem Fz.len {a : Addr} {ds : List D} {l l' : DEnv} (h : Fz a ds l l') : l'.length = l.length := by
  induction h <;> simp_all
theorem Fz.get {a : Addr} {ds : List D} {l l' : DEnv} (h : Fz a ds l l') : ∀ (i : Nat) (d : D), l'[i]? = some (some d) → l[i]? = some (some d) ∨ (d = .lst ds ∧ l[i]? = some (some (.ref a))) := by
  induction h with
  | nil => intro i d h; simp at h
  | swap h ih =>
    intro i d e
    cases i with
    | zero => simp at e; right; exact ⟨e.symm, rfl⟩
    | succ i => exact ih i d e
  | keep h ih =>
    intro i d e
    cases i with
    | zero => left; exact e
    | succ i => exact ih i d e
theorem dss_fz {X : Cx} {δ δ' : DEnv} {O O' : Own} {sts : List Stmt} {B : Bk} {nx : DEnv → Own → Prop} (a : Addr) {ds : List D} (m : At a (.lst ds) O) (dl : Del a O O') (f : Fz a ds δ δ') (h : DSs X sts δ' O' B nx) : DSs X sts δ O B nx := DSs.freeze m dl f.get f.len h
theorem nl_own {ds : List D} {O : Own} {Q : D → Own → Prop} (h : ∀ a, Q (.ref a) ((a, .lst ds) :: O)) : NewL ds O Q := .inr h
theorem nl_fz {ds : List D} {O : Own} {Q : D → Own → Prop} (h : Q (.lst ds) O) : NewL ds O Q := .inl h
theorem sd_in {d : D} {δ δ' : DEnv} {i : Nat} {C : DEnv → Prop} (hs : SetD d δ i δ') (q : C δ') : ∃ δ', SetD d δ i δ' ∧ C δ' := ⟨δ', hs, q⟩
theorem wp_in {δ δ' : DEnv} {vs : List Nat} {C : DEnv → Prop} (hs : Wp δ vs δ') (q : C δ') : ∃ δ', Wp δ vs δ' ∧ C δ' := ⟨δ', hs, q⟩
end DL
end
section
set_option maxRecDepth 100000
set_option maxHeartbeats 4000000
set_option autoImplicit false
namespace DL
open PySem PySem.Spec PyProof.Rows L2
/-- lo <= i <= hi, an int and no bool -/
def isIn (d : D) (lo hi : Int) : Bool := match d with
  | .int i => decide (lo ≤ i) && decide (i ≤ hi)
  | _ => false
theorem isIn_int {i lo hi : Int} : isIn (.int i) lo hi = decide (lo ≤ i ∧ i ≤ hi) := by simp [isIn]
abbrev Note := Option Int × Int
def dOpt : Option Int → D
  | none => .non
  | some i => .int i
abbrev dNote (n : Note) : D := .tup [dOpt n.1, .int n.2]
def okNote (n : Note) : Bool := (match n.1 with | none => true | some p => decide (0 ≤ p ∧ p ≤ 127)) && decide (1 ≤ n.2 ∧ n.2 ≤ 16)
/-- what sounds in each beat, with the number of the note -/
def rowFrom (k : Nat) : List Note → List (Option Int × Nat)
  | [] => []
  | n :: r => List.replicate n.2.toNat (n.1, k) ++ rowFrom (k + 1) r
def rowOf (ns : List Note) : List (Option Int × Nat) := rowFrom 0 ns
def dRow (r : List (Option Int × Nat)) : List D := r.map fun p => .tup [dOpt p.1, .int (p.2 : Int)]
/-- a melody: its notes are good, one at least, 32 at most -/
structure Mel (ns : List Note) : Prop where
  ok : ∀ n ∈ ns, okNote n = true
  pos : 1 ≤ ns.length
  le : ns.length ≤ 32
def melFs (ns : List Note) : List (Str × D) := [("given", .tup (ns.map dNote)), ("row", .lst (dRow (rowOf ns)))]
abbrev dMel (C : Addr) (ns : List Note) : D := .ins C (melFs ns)
theorem rowFrom_length : ∀ (ns : List Note) (k : Nat), (rowFrom k ns).length = (ns.map fun n => n.2.toNat).sum
  | [], _ => rfl
  | n :: r, k => by simp [rowFrom, rowFrom_length r]
theorem rowFrom_append : ∀ (ns ms : List Note) (k : Nat), rowFrom k (ns ++ ms) = rowFrom k ns ++ rowFrom (k + ns.length) ms
  | [], ms, k => by simp [rowFrom]
  | n :: r, ms, k => by simp [rowFrom, rowFrom_append r ms, Nat.add_assoc, Nat.add_comm 1]
theorem okNote_le {n : Note} (h : okNote n = true) : 1 ≤ n.2 ∧ n.2 ≤ 16 := by
  unfold okNote at h
  simp only [Bool.and_eq_true, decide_eq_true_eq] at h
  exact h.2
theorem sum_le : ∀ (ns : List Note), (∀ n ∈ ns, okNote n = true) → (ns.map fun n => n.2.toNat).sum ≤ 16 * ns.length ∧ ns.length ≤ (ns.map fun n => n.2.toNat).sum
  | [], _ => by simp
  | n :: r, h => by
    have h1 := okNote_le (h n List.mem_cons_self)
    have h2 := sum_le r fun m hm => h m (List.mem_cons_of_mem _ hm)
    simp only [List.map_cons, List.sum_cons, List.length_cons]
    omega
theorem Mel.row_len {ns : List Note} (m : Mel ns) : 1 ≤ (rowOf ns).length ∧ (rowOf ns).length ≤ 512 := by
  have h := sum_le ns m.ok
  have h1 := m.pos
  have h2 := m.le
  unfold rowOf
  rw [rowFrom_length]
  omega
theorem tyD_opt (o : Option Int) : tyD (dOpt o) ≠ "" := by
  cases o with
  | none => exact (by decide : "NoneType" ≠ "")
  | some i => exact (by decide : "int" ≠ "")
end DL
end
section
set_option maxRecDepth 100000
set_option maxHeartbeats 4000000
set_option autoImplicit false
namespace DL
open PySem PySem.Spec PyProof.Rows L2
mutual
def depthD : D → Nat
  | .tup ds => depthDs ds + 1
  | .lst ds => depthDs ds + 1
  | _ => 0
def depthDs : List D → Nat
  | [] => 0
  | d :: ds => max (depthD d) (depthDs ds)
end
mutual
theorem lay_of : ∀ d : D, plainD d = true → PyData.canLay0 (toP d) = true
  | .non, _ => rfl
  | .bl _, _ => rfl
  | .int _, _ => rfl
  | .str x, h => h
  | .tup ds, h => lays_of ds h
  | .lst ds, h => lays_of ds h
  | .fz _, h => nomatch h
  | .ty _, h => nomatch h
  | .ref _, h => nomatch h
  | .ins _ _, h => nomatch h
theorem lays_of : ∀ ds : List D, plainDs ds = true → PyData.canLayAll0 (toPs ds) = true
  | [], _ => rfl
  | d :: ds, h => by
    simp only [plainDs, Bool.and_eq_true] at h
    simp only [toPs, PyData.canLayAll0, lay_of d h.1, lays_of ds h.2, Bool.and_self]
end
mutual
theorem dep_of : ∀ d : D, PyData.depth (toP d) = depthD d
  | .non | .bl _ | .int _ | .str _ | .fz _ | .ty _ | .ref _ | .ins _ _ | .exc _ _ _ | .clo _ _ => by simp [toP, PyData.depth, depthD]
  | .tup ds => by simp only [toP, PyData.depth, depthD, deps_of ds]
  | .lst ds => by simp only [toP, PyData.depth, depthD, deps_of ds]
theorem deps_of : ∀ ds : List D, PyData.depthAll (toPs ds) = depthDs ds
  | [] => rfl
  | d :: ds => by simp only [toPs, PyData.depthAll, depthDs, dep_of d, deps_of ds]
end
theorem okD_of {d : D} (h : plainD d = true) (hd : depthD d ≤ 64) : okD d := ⟨h, by
  unfold SeqAt.shaped
  rw [lay_of d h, dep_of d, decide_eq_true hd]
  rfl⟩
/-- plain, and at most so deep -/
def okN (n : Nat) (d : D) : Prop := plainD d = true ∧ depthD d ≤ n
theorem okN.ok {n : Nat} {d : D} (h : okN n d) (hn : n ≤ 64 := by decide) : okD d := okD_of h.1 (Nat.le_trans h.2 hn)
theorem okNs {n : Nat} : ∀ {ds : List D}, (∀ d ∈ ds, okN n d) → plainDs ds = true ∧ depthDs ds ≤ n
  | [], _ => ⟨rfl, Nat.zero_le _⟩
  | d :: ds, h => by
    have h1 := h d List.mem_cons_self
    have h2 := okNs fun e he => h e (List.mem_cons_of_mem _ he)
    refine ⟨by simp only [plainDs, h1.1, h2.1, Bool.and_self], ?_⟩
    simp only [depthDs]
    exact Nat.max_le.2 ⟨h1.2, h2.2⟩
theorem okN_tup {n : Nat} {ds : List D} (h : ∀ d ∈ ds, okN n d) : okN (n + 1) (.tup ds) := ⟨(okNs h).1, Nat.succ_le_succ (okNs h).2⟩
theorem okN_lst {n : Nat} {ds : List D} (h : ∀ d ∈ ds, okN n d) : okN (n + 1) (.lst ds) := ⟨(okNs h).1, Nat.succ_le_succ (okNs h).2⟩
theorem okN_int {n : Nat} {i : Int} : okN n (.int i) := ⟨rfl, Nat.zero_le _⟩
theorem okN_opt {n : Nat} (o : Option Int) : okN n (dOpt o) := by cases o <;> exact ⟨rfl, Nat.zero_le _⟩
theorem okN.mono {n m : Nat} {d : D} (h : okN n d) (hn : n ≤ m) : okN m d := ⟨h.1, Nat.le_trans h.2 hn⟩
theorem okN_note (n : Note) : okN 1 (dNote n) := okN_tup (n := 0) fun d hd => by
  simp at hd
  rcases hd with rfl | rfl
  · exact okN_opt _
  · exact okN_int
theorem okN_notes (ns : List Note) : okN 2 (.tup (ns.map dNote)) := okN_tup fun d hd => by
  obtain ⟨n, _, rfl⟩ := List.mem_map.1 hd
  exact okN_note n
mutual
/-- no truth value within -/
def noBl : D → Bool
  | .bl _ => false
  | .tup ds => noBls ds
  | .lst ds => noBls ds
  | _ => true
def noBls : List D → Bool
  | [] => true
  | d :: ds => noBl d && noBls ds
end
mutual
theorem eqv_iff : ∀ x y : D, plainD x = true → plainD y = true → noBl x = true → noBl y = true → (PyData.eqv (toP x) (toP y) = true ↔ x = y)
  | .non, y, hx, hy, bx, by' => by cases y <;> simp_all [toP, PyData.eqv, plainD, noBl]
  | .bl _, _, _, _, h, _ => nomatch h
  | .int i, y, hx, hy, bx, by' => by cases y <;> simp_all [toP, PyData.eqv, plainD, noBl]
  | .str i, y, hx, hy, bx, by' => by cases y <;> simp_all [toP, PyData.eqv, plainD, noBl]
  | .tup xs, .tup ys, hx, hy, bx, by' => by
    simp only [toP, PyData.eqv, D.tup.injEq]
    exact eqvs_iff xs ys hx hy bx by'
  | .lst xs, .lst ys, hx, hy, bx, by' => by
    simp only [toP, PyData.eqv, D.lst.injEq]
    exact eqvs_iff xs ys hx hy bx by'
  | .tup xs, .non, hx, hy, bx, by' | .tup xs, .bl _, hx, hy, bx, by' | .tup xs, .int _, hx, hy, bx, by' | .tup xs, .str _, hx, hy, bx, by' | .tup xs, .lst _, hx, hy, bx, by' | .tup xs, .fz _, hx, hy, bx, by' | .tup xs, .ty _, hx, hy, bx, by' | .tup xs, .ref _, hx, hy, bx, by' | .tup xs, .ins _ _, hx, hy, bx, by' | .tup xs, .exc _ _ _, hx, hy, bx, by' | .tup xs, .clo _ _, hx, hy, bx, by' => by
    simp_all [toP, PyData.eqv, plainD, noBl]
  | .lst xs, .non, hx, hy, bx, by' | .lst xs, .bl _, hx, hy, bx, by' | .lst xs, .int _, hx, hy, bx, by' | .lst xs, .str _, hx, hy, bx, by' | .lst xs, .tup _, hx, hy, bx, by' | .lst xs, .fz _, hx, hy, bx, by' | .lst xs, .ty _, hx, hy, bx, by' | .lst xs, .ref _, hx, hy, bx, by' | .lst xs, .ins _ _, hx, hy, bx, by' | .lst xs, .exc _ _ _, hx, hy, bx, by' | .lst xs, .clo _ _, hx, hy, bx, by' => by
    simp_all [toP, PyData.eqv, plainD, noBl]
  | .fz _, _, h, _, _, _ => nomatch h
  | .ty _, _, h, _, _, _ => nomatch h
  | .ref _, _, h, _, _, _ => nomatch h
  | .ins _ _, _, h, _, _, _ => nomatch h
  | .exc _ _ _, _, h, _, _, _ => nomatch h
  | .clo _ _, _, h, _, _, _ => nomatch h
theorem eqvs_iff : ∀ x y : List D, plainDs x = true → plainDs y = true → noBls x = true → noBls y = true → (PyData.eqvAll (toPs x) (toPs y) = true ↔ x = y)
  | [], [], _, _, _, _ => by simp [toPs, PyData.eqvAll]
  | [], _ :: _, _, _, _, _ => by simp [toPs, PyData.eqvAll]
  | _ :: _, [], _, _, _, _ => by simp [toPs, PyData.eqvAll]
  | x :: xs, y :: ys, hx, hy, bx, by' => by
    simp only [plainDs, noBls, Bool.and_eq_true] at hx hy bx by'
    simp only [toPs, PyData.eqvAll, Bool.and_eq_true, List.cons.injEq]
    rw [eqv_iff x y hx.1 hy.1 bx.1 by'.1, eqvs_iff xs ys hx.2 hy.2 bx.2 by'.2]
end
theorem noBls_of : ∀ {ds : List D}, (∀ d ∈ ds, noBl d = true) → noBls ds = true
  | [], _ => rfl
  | d :: ds, h => by simp only [noBls, h d List.mem_cons_self, noBls_of fun e he => h e (List.mem_cons_of_mem _ he), Bool.and_self]
theorem noBl_opt (o : Option Int) : noBl (dOpt o) = true := by cases o <;> rfl
theorem noBl_note (n : Note) : noBl (dNote n) = true := noBls_of fun d hd => by
  simp at hd
  rcases hd with rfl | rfl
  · exact noBl_opt _
  · rfl
theorem noBl_notes (ns : List Note) : noBl (.tup (ns.map dNote)) = true := noBls_of fun d hd => by
  obtain ⟨n, _, rfl⟩ := List.mem_map.1 hd
  exact noBl_note n
section
variable {X : Cx} {δ : DEnv} {O : Own} {E : XD → Own → Prop} {Q : D → Own → Prop}
theorem db_eqP {k n m : Nat} {x y : D} (hr : Room k X.A) (hx : okN n x) (hy : okN m y) (bx : noBl x = true) (hb : noBl y = true) (q : ∀ b, (b = true ↔ x = y) → Q (.bl b) O) (hn : n ≤ 64 := by decide) (hm : m ≤ 64 := by decide) : DB X (compareOp .Eq) x y δ O E Q :=
  db_eqD hr (hx.ok hn) (hy.ok hm) (q _ (eqv_iff x y hx.1 hy.1 bx hb))
theorem db_neP {k n m : Nat} {x y : D} (hr : Room k X.A) (hx : okN n x) (hy : okN m y) (bx : noBl x = true) (hb : noBl y = true) (q : ∀ b, (b = true ↔ x ≠ y) → Q (.bl b) O) (hn : n ≤ 64 := by decide) (hm : m ≤ 64 := by decide) : DB X (compareOp .NotEq) x y δ O E Q :=
  db_neD hr (hx.ok hn) (hy.ok hm) (q _ (by rw [Bool.not_eq_true', ← Bool.not_eq_true, eqv_iff x y hx.1 hy.1 bx hb]))
end
theorem row_next {ns : List Note} {i : Nat} {n : Note} (h : ns[i]? = some n) : dRow (rowOf (ns.take (i + 1))) = dRow (rowOf (ns.take i)) ++ (List.replicate n.2.toNat [D.tup [dOpt n.1, .int (i : Int)]]).flatten := by
  have hi : i < ns.length := (List.getElem?_eq_some_iff.1 h).1
  rw [List.take_add_one, h]
  simp only [Option.toList, rowOf, rowFrom_append, rowFrom, dRow, List.map_append, List.append_nil, List.map_replicate, List.length_take, Nat.min_eq_left (Nat.le_of_lt hi), Nat.zero_add]
  congr 1
  generalize n.2.toNat = k
  induction k with
  | zero => rfl
  | succ k ih => rw [List.replicate_succ, List.replicate_succ, List.flatten_cons, ih]; rfl
theorem row_take_le {ns : List Note} (m : Mel ns) (i : Nat) : (dRow (rowOf (ns.take i))).length ≤ 512 := by
  have h := sum_le (ns.take i) fun n hn => m.ok n (List.mem_of_mem_take hn)
  have h2 := m.le
  have h3 : (ns.take i).length ≤ ns.length := by rw [List.length_take]; exact Nat.min_le_right _ _
  have e : (dRow (rowOf (ns.take i))).length = ((ns.take i).map fun n => n.2.toNat).sum := by
    unfold dRow rowOf
    rw [List.length_map, rowFrom_length]
  omega
end DL
end
section
set_option maxRecDepth 100000
set_option maxHeartbeats 4000000
set_option autoImplicit false
namespace DL
open PySem PySem.Spec PyProof.Rows L2
/-- the context of a comprehension's block, forgotten but for what its rules need -/
structure Blk (X X' : Cx) (N : List Str) (sc' : Scope) : Prop where
  sc : Sc X' N sc'
  K : X'.K = X.K
  mg : X'.mg = X.mg
  A : X'.A = X.A
  pr : X'.prog = X.prog
  w : X'.w = X.w
  base : X'.base = X.base
theorem Blk.fn {X X' : Cx} {N : List Str} {sc' : Scope} (b : Blk X X' N sc') {k : Nat} {f : Addr} {sp : DSp} (F : DFn X.prog X.w X.K X.mg X.base k f sp) : DFn X'.prog X'.w X'.K X'.mg X'.base k f sp := by rw [b.pr, b.w, b.K, b.mg, b.base]; exact F
theorem Blk.room {X X' : Cx} {N : List Str} {sc' : Scope} (b : Blk X X' N sc') {k : Nat} (h : Room k X.A) : Room k X'.A := by rw [b.A]; exact h
theorem blk_of {X : Cx} {N : List Str} {sc scope : Scope} {sc' : Scope} (S : Sc X N sc) (hr : relS scope sc = sc') (hnm : nmOk sc' = true) {s : Shared} {H : Hp} {C : Addr} {cl : List (Str × Addr)} {fp : List Addr} : Blk X (blkX X scope s H C cl fp) N sc' := ⟨(by have h := blk_sc S (scope := scope) (s := s) (H := H) (C := C) (cl := cl) (fp := fp) (by rw [hr]; exact hnm); rw [hr] at h; exact h), rfl, rfl, rfl, rfl, rfl, rfl⟩
/-- what a comprehension's item does: nothing with the cells, and one value or none -/
def LcX (X : Cx) (N : List Str) (sc : Scope) (elt tg : Expr) (ifs : List Expr) (vs : List Nat) (δw : DEnv) (O : Own) {α : Type} (xs : List α) (enc : α → D) (g : α → List D) : Prop :=
  ∀ x ∈ xs, ∀ X', Blk X X' N sc → DGc X' tg (enc x) vs δw O fun δ2 O2 => ∀ X', Blk X X' N sc → DTs X' ifs δ2 O2 noE fun b O3 =>
    (b = true → ∀ X', Blk X X' N sc → DE X' elt δ2 O3 noE fun y O4 => O4 = O ∧ g x = [y]) ∧ (b = false → O3 = O ∧ g x = [])
section
variable {X : Cx} {N : List Str} {sc scope : Scope} {δ : DEnv} {O : Own} {E : XD → Own → Prop} {Q : D → Own → Prop} {QT : Bool → Own → Prop} {pos : Pos} {B : Bk} {nx : DEnv → Own → Prop}
theorem lcX_body {sc' : Scope} {elt tg : Expr} {ifs : List Expr} {vs : List Nat} {δw : DEnv} {α : Type} {xs : List α} {enc : α → D} {g : α → List D} (S : Sc X N sc) (hrel : relS scope sc = sc') (hnm : nmOk sc' = true) (hl : xs.length ≤ 100000) (h : LcX X N sc' elt tg ifs vs δw O xs enc g) :
    LcBody X elt tg ifs scope vs δw (xs.map enc) fun i acc O' => acc = (xs.take i).flatMap g ∧ acc.length ≤ i ∧ O' = O := by
  rintro i d acc O' hd ⟨ea, la, rfl⟩ s H C cl fp
  rw [List.getElem?_map] at hd
  cases hx : xs[i]? with
  | none => rw [hx] at hd; simp at hd
  | some x =>
    rw [hx] at hd
    simp only [Option.map_some, Option.some.injEq] at hd
    subst hd
    have hi : i < xs.length := (List.getElem?_eq_some_iff.1 hx).1
    have nxt : ∀ ys, g x = ys → (xs.take (i + 1)).flatMap g = acc ++ ys := fun ys e => by
      rw [List.take_add_one, hx, ea, ← e]
      simp
    have h1 := h x (List.mem_of_getElem? hx) _ (blk_of S hrel hnm (s := s) (H := H) (C := C) (cl := cl) (fp := fp))
    intro v G σ H2 Q2 rd r s2 hk
    refine h1 v G σ H2 Q2 rd r s2 fun G' H' O1 δ' σ' st r' w q => hk G' H' O1 δ' σ' st r' w ?_
    intro s3 H3 C3 cl3 fp3
    refine M.imp (q _ (blk_of S hrel hnm (s := s3) (H := H3) (C := C3) (cl := cl3) (fp := fp3))) fun b O3 ⟨qt, qf⟩ => ⟨fun hb s4 H4 C4 cl4 fp4 => ?_, fun hb => ?_⟩
    · refine M.imp (qt hb _ (blk_of S hrel hnm (s := s4) (H := H4) (C := C4) (cl := cl4) (fp := fp4))) fun y O4 ⟨e1, e2⟩ => ?_
      subst e1
      exact ⟨by omega, (nxt _ e2).symm, by simp; omega, rfl⟩
    · obtain ⟨e1, e2⟩ := qf hb
      subst e1
      exact ⟨by rw [nxt _ e2, List.append_nil], by omega, rfl⟩
/-- [elt for tg in iter if ..], its items without effect: own, the block's names with their slots -/
theorem de_lcXc {elt tg iter : Expr} {ifs : List Expr} (own : List (Str × Nat)) (sc' : Scope) (S : Sc X N sc)
    (h : DI X tg iter δ O E fun ds O1 => ∃ δw, Wp δ (own.map (·.2)) δw ∧ ∃ (α : Type) (xs : List α) (enc : α → D) (g : α → List D), ds = xs.map enc ∧ xs.length ≤ 100000 ∧ LcX X N sc' elt tg ifs (own.map (·.2)) δw O1 xs enc g ∧ NewL (xs.flatMap g) O1 Q)
    (ok : blkC N sc scope own = true := by decide +kernel) (hrel : relS scope sc = sc' := by with_unfolding_all rfl) (hnm : nmOk sc' = true := by decide +kernel) (hs : ∀ x, foldedSetIterable iter X.env x = pure x := by intro _; with_unfolding_all rfl) : DE X (.ListComp elt [⟨tg, iter, ifs, 0⟩] scope pos) δ O E Q := by
  refine de_lc own S (blkOk_by ok) ?_ hs
  refine M.imp h fun ds O1 ⟨δw, hw, α, xs, enc, g, e, hl, hb, n⟩ => ?_
  subst e
  refine ⟨δw, hw, _, ⟨rfl, Nat.le_refl _, rfl⟩, lcX_body S hrel hnm hl hb, ?_⟩
  rintro acc O' ⟨rfl, _, rfl⟩
  rw [List.length_map, List.take_length]
  exact n
theorem de_lcX {elt tg iter : Expr} {ifs : List Expr} (own : List (Str × Nat)) (S : Sc X N sc)
    (h : DI X tg iter δ O E fun ds O1 => ∃ δw, Wp δ (own.map (·.2)) δw ∧ ∃ (α : Type) (xs : List α) (enc : α → D) (g : α → List D), ds = xs.map enc ∧ xs.length ≤ 100000 ∧ LcX X N scope elt tg ifs (own.map (·.2)) δw O1 xs enc g ∧ NewL (xs.flatMap g) O1 Q)
    (ok : blkC N sc scope own = true := by decide +kernel) (hrel : relS scope sc = scope := by with_unfolding_all rfl) (hnm : nmOk scope = true := by decide +kernel) (hs : ∀ x, foldedSetIterable iter X.env x = pure x := by intro _; with_unfolding_all rfl) : DE X (.ListComp elt [⟨tg, iter, ifs, 0⟩] scope pos) δ O E Q :=
  de_lcXc own scope S h ok hrel hnm hs
theorem fm_map {α β : Type} {f : α → β} : ∀ {xs : List α}, (xs.flatMap fun x => [f x]) = xs.map f
  | [] => rfl
  | x :: xs => by rw [List.flatMap_cons, fm_map (xs := xs)]; rfl
theorem fm_fil {α β : Type} {f : α → β} {p : α → Bool} : ∀ {xs : List α}, (xs.flatMap fun x => if p x then [f x] else []) = (xs.filter p).map f
  | [] => rfl
  | x :: xs => by
    rw [List.flatMap_cons, fm_fil (xs := xs)]
    cases h : p x <;> simp [h]
/-- o.g, a field of an instance -/
theorem de_fldG {e : Expr} {g : Str} {C : Addr} (c : Cls X.K C) (n : NoAttr X.K C g) (h : DE X e δ O E fun d O1 => ∃ fs x, IsIns d O1 C fs ∧ fs.lookup g = some x ∧ Q x O1) (hb : attributeBase e g X.env (eval e X.env) = eval e X.env := by with_unfolding_all rfl) : DE X (.Attribute e g pos) δ O E Q :=
  de_fld (M.imp h fun d O1 ⟨fs, x, i, l, q⟩ => ⟨C, fs, x, i, c, n, l, q⟩) hb
theorem fld_ins {C : Addr} {fs : List (Str × D)} {g : Str} {x : D} {P' : D → Prop} (l : fs.lookup g = some x) (q : P' x) : ∃ fs' x, IsIns (.ins C fs) O C fs' ∧ fs'.lookup g = some x ∧ P' x := ⟨fs, x, .fz, l, q⟩
theorem fld_own {a C : Addr} {fs : List (Str × D)} {g : Str} {x : D} {P' : D → Prop} (m : At a (.ins C fs) O) (l : fs.lookup g = some x) (q : P' x) : ∃ fs' x, IsIns (.ref a) O C fs' ∧ fs'.lookup g = some x ∧ P' x := ⟨fs, x, .own m, l, q⟩
end
section
variable {X : Cx} {δ : DEnv} {O : Own} {E : XD → Own → Prop} {QT : Bool → Own → Prop} {pos : Pos}
theorem dt_chain {op op' : CmpOp} {r r' : R2} {a b c : Expr} (ho : OpR X (compareOp op) r) (ho' : OpR X (compareOp op') r')
    (h : DE X a δ O E fun x O1 => DE X b δ O1 E fun y O2 => ∀ v u, M X (fun G => Rep X.K G x v ∧ Rep X.K G y u) (Rep X.K) (fun σ H K => r v u H fun z H3 => ∃ k, z = .bl k ∧ (if k = true then sem X c σ H3 fun w' H4 => r' u w' H4 K else K (.bl false) H3)) δ O2 E fun d O3 => ∃ k, d = .bl k ∧ QT k O3)
    (hm : lastMarks [op, op'] [b, c] = false := by with_unfolding_all rfl) : DT X (.Compare a [op, op'] [b, c] pos) δ O E QT := dt_of (pt_chain ho ho' pe_sem pe_sem pe_sem hm) (m_bool (m_two h))
theorem dt_lele {a b c : Expr} (h : DE X a δ O E fun x O1 => DE X b δ O1 E fun y O2 => ∃ i j, x = .int i ∧ y = .int j ∧ (i ≤ j → DE X c δ O2 E fun z O3 => ∃ k, z = .int k ∧ QT (decide (j ≤ k)) O3) ∧ (¬ i ≤ j → QT false O2))
    (hm : lastMarks [.LtE, .LtE] [b, c] = false := by with_unfolding_all rfl) : DT X (.Compare a [.LtE, .LtE] [b, c] pos) δ O E QT :=
  dt_chain op_le op_le (M.imp h fun x O1 h1 => M.imp h1 fun y O2 ⟨i, j, ex, ey, h2, h3⟩ => by
    subst ex ey
    intro v u W tk G σ H Q' p r s hE hQ
    obtain ⟨p1, p2⟩ := p
    cases p1
    cases p2
    refine ⟨i, j, rfl, rfl, _, rfl, ?_⟩
    by_cases hij : i ≤ j
    · rw [decide_eq_true hij, if_pos rfl]
      exact h2 hij W tk G σ H _ trivial r s hE fun G1 H1 O1 d v st rd ⟨k, ed, q⟩ => by
        subst ed
        cases rd
        exact ⟨j, k, rfl, rfl, hQ _ _ _ _ _ st (.bl _) ⟨_, rfl, q⟩⟩
    · rw [decide_eq_false hij, if_neg Bool.false_ne_true]
      exact hQ _ _ _ _ _ (Step.refl s) (.bl _) ⟨_, rfl, h3 hij⟩) hm
theorem int_in {i : Int} {P' : Int → Prop} (h : P' i) : ∃ k, D.int i = .int k ∧ P' k := ⟨i, rfl, h⟩
theorem int_in2 {i j : Int} {P' : Int → Int → Prop} (h : P' i j) : ∃ i' j', D.int i = .int i' ∧ D.int j = .int j' ∧ P' i' j' := ⟨i, j, rfl, rfl, h⟩
theorem str_in {i : Str} {P' : Str → Prop} (h : P' i) : ∃ k, D.str i = .str k ∧ P' k := ⟨i, rfl, h⟩
end
theorem atI_0 {α : Type} {x : α} {l : List α} : atI (x :: l) 0 = some x := atI_nat (j := 0) rfl
theorem atI_1 {α : Type} {x y : α} {l : List α} : atI (x :: y :: l) 1 = some y := atI_nat (j := 1) rfl
theorem atI_2 {α : Type} {x y z : α} {l : List α} : atI (x :: y :: z :: l) 2 = some z := atI_nat (j := 2) rfl
theorem atI_3 {α : Type} {x y z t : α} {l : List α} : atI (x :: y :: z :: t :: l) 3 = some t := atI_nat (j := 3) rfl
theorem map_get {α β : Type} {f : α → β} {xs : List α} {i : Nat} {y : β} (h : (xs.map f)[i]? = some y) : ∃ x, xs[i]? = some x ∧ y = f x := by
  rw [List.getElem?_map] at h
  cases e : xs[i]? with
  | none => rw [e] at h; simp at h
  | some x => rw [e] at h; simp at h; exact ⟨x, rfl, h.symm⟩
theorem cm_r {i j : Int} (h1 : -18446744073709551616 < j) (h2 : j < 18446744073709551616) : CMul i j := .inr ⟨h1, h2⟩
theorem cdiv_ {i j : Int} (h1 : 0 < j) (h2 : j < 1073741824) : CDiv i j := ⟨h1, h2⟩
theorem cpow_ {i j : Int} (h1 : 0 ≤ j) (h2 : j ≤ 1000000) (h3 : i.natAbs < 18446744073709551616) : CPow i j := ⟨h1, h2, h3⟩
section
variable {X : Cx} {δ : DEnv} {O : Own} {B : Bk} {nx : DEnv → Own → Prop} {a : Addr} {d : D}
theorem dss_via {st : Stmt} {rest : List Stmt} (P' : DEnv → Own → Prop) (h : DS X st δ O B P') (q : ∀ δ1 O1, P' δ1 O1 → DSs X rest δ1 O1 B nx) : DSs X (st :: rest) δ O B nx := dss_cons (DS.imp h q)
theorem ref_in {C : Addr → Prop} (h : C a) : ∃ a', D.ref a = .ref a' ∧ C a' := ⟨a, rfl, h⟩
end
theorem as_DX {X : Cx} {δ : DEnv} {O : Own} {E : XD → Own → Prop} {Q : D → Own → Prop} {x y : D} (h : DX X x y δ O E Q) : DX X x y δ O E Q := h
/-- a cell of ours, and the others around it -/
structure Hole (r : Addr) (K : Cell → Own) : Prop where
  at_ : ∀ c, At r c (K c)
  put : ∀ c c', Put r c' (K c) (K c')
theorem Hole.cons {r : Addr} {K : Cell → Own} (h : Hole r K) {p : Addr × Cell} : Hole r (fun c => p :: K c) := ⟨fun c => .tail (h.at_ c), fun c c' => .tail (h.put c c')⟩
theorem Hole.here {r : Addr} {O : Own} : Hole r (fun c => (r, c) :: O) := ⟨fun c => .head, fun c c' => .head⟩
def starry : Expr → Bool
  | .Starred .. => true
  | _ => false
theorem swap2 {env : Env} {x y : Str} {px py pt pt2 : Pos} {kt k2 : Nat} {a b : Expr} (hk : env.scope.kind = .function) (hx : env.scope.names.lookup x = some .local) (hy : env.scope.names.lookup y = some .local) (hne : x ≠ y) (hl : (py.line == px.line) = true)
    (ha : starry a = false) (hb : starry b = false) (hf : (foldedForSure 8 a && foldedForSure 8 b) = false) (hc : (constantsAlone 8 a && constantsAlone 8 b) = false) : swappedStores [.Tuple [.Name x px, .Name y py] kt pt] (.Tuple [a, b] k2 pt2) env = pure (some [x, y]) := by
  have hbk : env.blockKind = .function := by
    unfold Env.blockKind
    rw [hk]
    rfl
  have kx : (env.kindOf x == some .local) = true := by unfold Env.kindOf; rw [hx]; rfl
  have ky : (env.kindOf y == some .local) = true := by unfold Env.kindOf; rw [hy]; rfl
  have hbk2 : (env.blockKind != .function) = false := by rw [hbk]; rfl
  have dd : [x, y].eraseDups = [x, y] := by
    rw [List.eraseDups_cons]
    have : (List.filter (fun b => !b == x) [y]) = [y] := by simp [beq_eq_false_iff_ne.2 (Ne.symm hne)]
    rw [this, List.eraseDups_cons]
    simp
  unfold swappedStores
  simp only [List.length_cons, List.length_nil, hbk2, List.any_cons, List.any_nil, List.head?_cons, Option.map_some, Option.getD_some, List.filterMap_cons, List.filterMap_nil, kx, ky, Expr.pos, beq_self_eq_true, Bool.and_self, hl, dd, List.all_cons, List.all_nil, Bool.and_true, if_true]
  refine (if_neg (by decide)).trans ?_
  refine (if_neg ?h).trans ?_
  case h =>
    show ¬ ((starry a || (starry b || false)) = true)
    rw [ha, hb]
    decide
  refine (if_neg (by decide)).trans ?_
  refine (if_neg (by rw [hf]; exact Bool.false_ne_true)).trans ?_
  exact if_neg (by rw [hc]; exact Bool.false_ne_true)
section
variable {X : Cx} {N : List Str} {sc : Scope} {δ : DEnv} {O : Own} {B : Bk} {nx : DEnv → Own → Prop} {pos : Pos}
theorem ds_par2 {x y : Str} {a b : Expr} {i j : Nat} {px py pt : Pos} {kt k2 : Nat} {pt2 : Pos} (S : Sc X N sc) (hi : Ix x N i) (hj : Ix y N j) (hij : Nat.beq i j = false) (h : DA X [a, b] δ O (fun x O' => B.ex x δ O') fun ds O1 => ∃ d e δ' δ'', ds = [d, e] ∧ SetD d δ i δ' ∧ SetD e δ' j δ'' ∧ nx δ'' O1)
    (hx : Nk x .local sc.names := by (repeat (with_reducible constructor))) (hy : Nk y .local sc.names := by (repeat (with_reducible constructor))) (hk : sc.kind = .function := by with_unfolding_all rfl) (hl : (py.line == px.line) = true := by with_unfolding_all rfl)
    (ha : starry a = false := by with_unfolding_all rfl) (hb : starry b = false := by with_unfolding_all rfl) (hf : (foldedForSure 8 a && foldedForSure 8 b) = false := by with_unfolding_all rfl) (hc : (constantsAlone 8 a && constantsAlone 8 b) = false := by with_unfolding_all rfl)
    (hs : swapsWithSole [.Tuple [.Name x px, .Name y py] kt pt] (.Tuple [a, b] k2 pt2) pos.line X.env = pure false := by with_unfolding_all rfl) : DS X (.Assign [.Tuple [.Name x px, .Name y py] kt pt] (.Tuple [a, b] k2 pt2) pos) δ O B nx := by
  have hij' : i ≠ j := fun e => by rw [e, Nat.beq_refl] at hij; cases hij
  have hne : x ≠ y := fun e => hij' (by
    have h1 := List.getElem?_eq_some_iff.1 hi.get
    have h2 := List.getElem?_eq_some_iff.1 hj.get
    obtain ⟨p1, q1⟩ := h1
    obtain ⟨p2, q2⟩ := h2
    exact (List.getElem_inj S.nd).1 (by rw [q1, q2, e]))
  refine ds_of (ps_par S.calm S.hN (S.ix hi) (S.ix hj) hij' (S.lo hx) (S.lo hy) pa_sem (swap2 (by rw [S.hsc]; exact hk) (S.lo hx) (S.lo hy) hne hl ha hb hf hc) hs) fun W tk G σ H D r s l => m_in h tk trivial r s l fun G' H' O' ds vs st r' l' rd ⟨d, e, δ', δ'', ed, h1, h2, q⟩ => by
    subst ed
    cases rd with
    | cons r1 rr =>
      cases rr with
      | cons r2 rr =>
        cases rr
        exact ⟨_, _, rfl, l'.nx G' H' O' δ'' _ (Step.refl st.sta) (by rw [h2.eq, h1.eq]; exact (r'.set i r1).set j r2) q⟩
theorem par_in {d e : D} {i j : Nat} {δ' δ'' : DEnv} {C : DEnv → Prop} (h1 : SetD d δ i δ') (h2 : SetD e δ' j δ'') (q : C δ'') : ∃ d' e' δ' δ'', [d, e] = [d', e'] ∧ SetD d' δ i δ' ∧ SetD e' δ' j δ'' ∧ C δ'' := ⟨d, e, δ', δ'', rfl, h1, h2, q⟩
end
theorem br_et {b : Bool} {A C : Prop} (e : b = true) (h : A) : (b = true → A) ∧ (b = false → C) := ⟨fun _ => h, fun z => absurd (e.symm.trans z) Bool.noConfusion⟩
theorem br_ef {b : Bool} {A C : Prop} (e : b = false) (h : C) : (b = true → A) ∧ (b = false → C) := ⟨fun z => absurd (e.symm.trans z) Bool.noConfusion, fun _ => h⟩
theorem rb_et {b : Bool} {A C : Prop} (e : b = true) (h : A) : (b = false → C) ∧ (b = true → A) := ⟨fun z => absurd (e.symm.trans z) Bool.noConfusion, fun _ => h⟩
theorem rb_ef {b : Bool} {A C : Prop} (e : b = false) (h : C) : (b = false → C) ∧ (b = true → A) := ⟨fun _ => h, fun z => absurd (e.symm.trans z) Bool.noConfusion⟩
theorem as_br {b : Bool} {A C : Prop} (h : (b = true → A) ∧ (b = false → C)) : (b = true → A) ∧ (b = false → C) := h
theorem as_rb {b : Bool} {A C : Prop} (h : (b = false → C) ∧ (b = true → A)) : (b = false → C) ∧ (b = true → A) := h
theorem own2_in {a : Addr} {O : Own} {zs : List D} {C : Addr → Prop} (m : At a (.lst zs) O) (h : C a) : ∃ a' zs, D.ref a = .ref a' ∧ At a' (.lst zs) O ∧ C a' := ⟨a, zs, rfl, m, h⟩
end DL
end
section
set_option maxRecDepth 100000
set_option maxHeartbeats 4000000
set_option autoImplicit false
namespace DL
open PySem PySem.Spec PyProof.Rows L2
def numT (i : Int) : Str := Str.ofString (toString i)
def isDigN (c : Nat) : Bool := decide (48 ≤ c ∧ c ≤ 57)
def isNumL (z : List Nat) (m : Int) : Bool := decide (1 ≤ (z.length : Int) ∧ (z.length : Int) ≤ m) && z.all isDigN && (decide (z.length = 1) || decide (z[0]? ≠ some 48))
theorem numT_tl (n : Nat) : (numT (n : Int)).cps.toList = TL.numL n := TL.tl_num n
theorem num3 : ∀ n, n < 128 → isNumL (TL.numL n) 3 = true ∧ (TL.numL n).length ≤ 3 ∧ TL.numL n ≠ [45] := by decide +kernel
theorem num2 : ∀ n, n < 17 → isNumL (TL.numL n) 2 = true ∧ (TL.numL n).length ≤ 2 := by decide +kernel
def headT : Option Int → Str
  | none => "-"
  | some p => numT p
def wordOf (n : Note) : Str := headT n.1 ++ "/" ++ numT n.2
def textOf (ns : List Note) : Str := Txt.join " " (ns.map wordOf)
theorem numT_free {i : Int} (h0 : 0 ≤ i) (h1 : i < 128) {c : Nat} (hc : c ∈ (numT i).cps.toList) : 48 ≤ c ∧ c ≤ 57 := by
  obtain ⟨n, rfl⟩ := Int.eq_ofNat_of_zero_le h0
  rw [numT_tl] at hc
  have h := (num3 n (by omega)).1
  unfold isNumL at h
  simp only [Bool.and_eq_true, List.all_eq_true] at h
  have h2 := h.1.2 c hc
  unfold isDigN at h2
  exact of_decide_eq_true h2
theorem headT_free {o : Option Int} (h : ∀ p, o = some p → 0 ≤ p ∧ p ≤ 127) {c : Nat} (hc : c ∈ (headT o).cps.toList) : c = 45 ∨ (48 ≤ c ∧ c ≤ 57) := by
  cases o with
  | none =>
    left
    have e : (headT none).cps.toList = [45] := by decide
    rw [e] at hc
    exact List.mem_singleton.1 hc
  | some p => right; exact numT_free (h p rfl).1 (by have := (h p rfl).2; omega) hc
theorem ok_p {n : Note} (h : okNote n = true) : ∀ p, n.1 = some p → 0 ≤ p ∧ p ≤ 127 := fun p e => by
  unfold okNote at h
  rw [e] at h
  simp only [Bool.and_eq_true, decide_eq_true_eq] at h
  exact h.1
theorem word_join (n : Note) : wordOf n = Txt.join "/" [headT n.1, numT n.2] := by
  rw [TL.join_eq]
  unfold wordOf
  refine TL.ext_tl ?_
  rw [TL.tl_join, TL.tl_append, TL.tl_append]
  simp [TL.joinL]
theorem word_split {n : Note} (h : okNote n = true) : Txt.split (wordOf n) "/" = [headT n.1, numT n.2] := by
  rw [word_join]
  refine TL.split_join (s := 47) (S := []) rfl (by decide +kernel) (by simp) fun p hp hc => ?_
  have hb := okNote_le h
  simp only [List.mem_cons, List.not_mem_nil, or_false] at hp
  rcases hp with rfl | rfl
  · rcases headT_free (ok_p h) hc with h1 | h1 <;> omega
  · have := numT_free (by omega) (by omega) hc
    omega
theorem word_free {n : Note} (h : okNote n = true) : 32 ∉ (wordOf n).cps.toList := fun hc => by
  have hb := okNote_le h
  have e : (wordOf n).cps.toList = (headT n.1).cps.toList ++ [47] ++ (numT n.2).cps.toList := by
    show TL.tl (wordOf n) = _
    unfold wordOf
    rw [TL.tl_append, TL.tl_append]
    rfl
  rw [e] at hc
  simp only [List.mem_append, List.mem_singleton] at hc
  rcases hc with (hc | hc) | hc
  · rcases headT_free (ok_p h) hc with h1 | h1 <;> omega
  · omega
  · have := numT_free (by omega) (by omega) hc
    omega
theorem text_split {ns : List Note} (h : ∀ n ∈ ns, okNote n = true) (hne : ns ≠ []) : Txt.split (textOf ns) " " = ns.map wordOf :=
  TL.split_join (s := 32) (S := []) rfl (by decide +kernel) (by simpa using hne) fun p hp => by
    obtain ⟨n, hn, rfl⟩ := List.mem_map.1 hp
    exact word_free (h n hn)
theorem numT_len {i : Int} (h0 : 0 ≤ i) (h1 : i < 128) : (numT i).length ≤ 3 := by
  obtain ⟨n, rfl⟩ := Int.eq_ofNat_of_zero_le h0
  show (numT (n : Int)).cps.toList.length ≤ 3
  rw [numT_tl]
  exact (num3 n (by omega)).2.1
theorem numT_int {i : Int} (h0 : 0 ≤ i) (h1 : i < 128) : PySem.intText? (numT i) = some i := PySem.W.KIN.num_reads h0 (by omega)
theorem headT_len {o : Option Int} (h : ∀ p, o = some p → 0 ≤ p ∧ p ≤ 127) : (headT o).length ≤ 3 := by
  cases o with
  | none => decide
  | some p => exact numT_len (h p rfl).1 (by have := (h p rfl).2; omega)
theorem len_app (x y : Str) : (x ++ y).length = x.length + y.length := by
  show (TL.tl (x ++ y)).length = _
  rw [TL.tl_append, List.length_append]
  rfl
theorem word_len {n : Note} (h : okNote n = true) : (wordOf n).length ≤ 7 := by
  have hb := okNote_le h
  have h1 := headT_len (ok_p h)
  have h2 := numT_len (i := n.2) (by omega) (by omega)
  unfold wordOf
  rw [len_app, len_app]
  have : ("/" : Str).length = 1 := by decide
  omega
theorem words_sum {ns : List Note} (h : ∀ n ∈ ns, okNote n = true) : ((ns.map wordOf).map (·.length)).sum ≤ 7 * ns.length := by
  induction ns with
  | nil => simp
  | cons n r ih =>
    have h2 := word_len (h n List.mem_cons_self)
    have h3 := ih fun m hm => h m (List.mem_cons_of_mem _ hm)
    simp only [List.map_cons, List.sum_cons, List.length_cons]
    omega
theorem text_len {ns : List Note} (h : ∀ n ∈ ns, okNote n = true) : (textOf ns).length ≤ 8 * ns.length := by
  have h1 : ((ns.map wordOf).map (·.length)).sum ≤ 7 * ns.length := by
    induction ns with
    | nil => simp
    | cons n r ih =>
      have h2 := word_len (h n List.mem_cons_self)
      have h3 := ih fun m hm => h m (List.mem_cons_of_mem _ hm)
      simp only [List.map_cons, List.sum_cons, List.length_cons]
      omega
  have h2 := StrLaws.join_length_le " " (ns.map wordOf)
  rw [← TL.join_eq] at h2
  have h3 : (" " : Str).length = 1 := by decide
  rw [h3, List.length_map] at h2
  show (Txt.join " " (ns.map wordOf)).length ≤ _
  omega
theorem log_small {i : Int} (h0 : 0 ≤ i) (h1 : i < 1900) : i.natAbs.log2 < 1920 := by
  have := Nat.log2_le_self i.natAbs
  omega
/-- d is a list with these items: frozen, or a cell of ours -/
inductive Lst : D → Own → List D → Prop
  | fz {xs : List D} {O : Own} : Lst (.lst xs) O xs
  | own {a : Addr} {xs : List D} {O : Own} : At a (.lst xs) O → Lst (.ref a) O xs
theorem Lst.cons {d : D} {O : Own} {xs : List D} (h : Lst d O xs) {p : Addr × Cell} : Lst d (p :: O) xs := by
  cases h with
  | fz => exact .fz
  | own m => exact .own (.tail m)
end DL
end
section
set_option maxRecDepth 100000
set_option maxHeartbeats 4000000
set_option autoImplicit false
namespace DL
open PySem PySem.Spec PyProof.Rows L2
mutual
/-- d, read with the cells O, is the plain data p -/
inductive View (O : Own) : D → D → Prop
  | non : View O .non .non
  | bl (b : Bool) : View O (.bl b) (.bl b)
  | int (i : Int) : View O (.int i) (.int i)
  | str (x : Str) : View O (.str x) (.str x)
  | tup {ds ps : List D} : ViewL O ds ps → View O (.tup ds) (.tup ps)
  | lst {ds ps : List D} : ViewL O ds ps → View O (.lst ds) (.lst ps)
  | own {a : Addr} {ds ps : List D} : At a (.lst ds) O → ViewL O ds ps → View O (.ref a) (.lst ps)
inductive ViewL (O : Own) : List D → List D → Prop
  | nil : ViewL O [] []
  | cons {d p : D} {ds ps : List D} : View O d p → ViewL O ds ps → ViewL O (d :: ds) (p :: ps)
end
mutual
theorem rep_vw {K : PySem.W.Frag} {G H : Hp} {O : Own} (s : Sta K G O H) : ∀ {d p : D} {v : V}, View O d p → Rep K G d v → Dp K H v (toP p)
  | _, _, _, .non, r => by cases r; exact .non
  | _, _, _, .bl b, r => by cases r; exact .bl b
  | _, _, _, .int i, r => by cases r; exact .int i
  | _, _, _, .str x, r => by cases r; exact .str x
  | _, _, _, .tup h, r => by
    cases r with
    | tup hq rl => exact .tup (s.sub.seqT hq) (rep_vws s h rl)
  | _, _, _, .lst h, r => by
    cases r with
    | lst hq rl => exact .lst (.inl (.inl (s.sub _ _ hq))) (rep_vws s h rl)
  | _, _, _, .own m h, r => by
    cases r
    obtain ⟨_, o, ho, rc⟩ := s.at_ m
    cases o with
    | lst ws => exact .lst (.inl (.inl ho)) (rep_vws s h rc)
    | _ => exact rc.elim
theorem rep_vws {K : PySem.W.Frag} {G H : Hp} {O : Own} (s : Sta K G O H) : ∀ {ds ps : List D} {vs : List V}, ViewL O ds ps → RepL K G ds vs → DpAll K H vs (toPs ps)
  | _, _, _, .nil, r => by cases r; exact .nil
  | _, _, _, .cons h1 h2, r => by
    cases r with
    | cons r1 r2 => exact .cons (rep_vw s h1 r1) (rep_vws s h2 r2)
end
mutual
theorem view_plain {O : Own} : ∀ (d : D), plainD d = true → View O d d
  | .non, _ => .non
  | .bl b, _ => .bl b
  | .int i, _ => .int i
  | .str x, _ => .str x
  | .tup ds, h => .tup (view_plains ds h)
  | .lst ds, h => .lst (view_plains ds h)
  | .fz _, h => nomatch h
  | .ty _, h => nomatch h
  | .ref _, h => nomatch h
  | .ins _ _, h => nomatch h
theorem view_plains {O : Own} : ∀ (ds : List D), plainDs ds = true → ViewL O ds ds
  | [], _ => .nil
  | d :: ds, h => by
    have h' : plainD d = true ∧ plainDs ds = true := by simpa [plainDs] using h
    exact .cons (view_plain d h'.1) (view_plains ds h'.2)
end
section
variable {X : Cx} {δ : DEnv} {O : Own} {E : XD → Own → Prop} {Q : D → Own → Prop}
theorem db_eqV {k : Nat} {d e x y : D} (hr : Room k X.A) (vx : View O d x) (vy : View O e y) (hx : okD x) (hy : okD y) (q : Q (.bl (PyData.eqv (toP x) (toP y))) O) : DB X (compareOp .Eq) d e δ O E Q := db_of (op_eqD hr.units) fun v u W tk G σ H Q' p r s hE hQ =>
  ⟨toP x, toP y, rep_vw s vx p.1, rep_vw s vy p.2, hx.2, hy.2, hQ _ _ _ _ _ (Step.refl s) (.bl _) q⟩
end
section
variable {X : Cx} {δ : DEnv} {O : Own} {E : XD → Own → Prop} {Q : D → Own → Prop} {d p : D}
theorem ViewL.length {O : Own} : ∀ {ds ps : List D}, ViewL O ds ps → ds.length = ps.length
  | _, _, .nil => rfl
  | _, _, .cons _ h => by rw [List.length_cons, List.length_cons, h.length]
theorem ViewL.get {O : Own} : ∀ {ds ps : List D} {i : Nat} {p : D}, ViewL O ds ps → ps[i]? = some p → ∃ d, ds[i]? = some d ∧ View O d p
  | _, _, _, _, .nil, h => by simp at h
  | _, _, 0, _, .cons h1 _, h => by simp at h; subst h; exact ⟨_, rfl, h1⟩
  | _, _, i + 1, _, .cons _ h2, h => by simp at h; obtain ⟨d, e, v⟩ := h2.get h; exact ⟨d, by simpa using e, v⟩
theorem dc_isiV {T : String} {b : Bool} (v : View O d p) (hk : kitB (tyD p) T = some b) (q : Q (.bl b) O) : DC X (.builtin "isinstance") [d, .ty T] δ O E Q := by
  cases v with
  | own m h => exact dc_isi_own m hk q
  | _ => exact dc_isi (by simp [tyD]) hk q
/-- the items of a sequence -/
def itemsD : D → List D
  | .tup ds => ds
  | .lst ds => ds
  | _ => []
theorem dc_lenV (v : View O d p) (hp : isTupD p = true ∨ isLstD p = true) (q : Q (.int (itemsD p).length) O) : DC X (.builtin "len") [d] δ O E Q := by
  cases v with
  | tup h => exact dc_len_tup (by rw [h.length]; exact q)
  | lst h => exact dc_len_lst (by rw [h.length]; exact q)
  | own m h => exact dc_len_own m (by rw [h.length]; exact q)
  | _ => rcases hp with h | h <;> cases h
theorem dx_V {i : Nat} {x : D} (v : View O d p) (hx : (itemsD p)[i]? = some x) (q : ∀ e, View O e x → Q e O) : DX X d (.int (i : Int)) δ O E Q := by
  cases v with
  | tup h => obtain ⟨e, he, ve⟩ := h.get hx; exact dx_tup (atI_nat he) (q e ve)
  | lst h => obtain ⟨e, he, ve⟩ := h.get hx; exact dx_lst (atI_nat he) (q e ve)
  | own m h => obtain ⟨e, he, ve⟩ := h.get hx; exact dx_own m (atI_nat he) (q e ve)
  | _ => simp [itemsD] at hx
end
end DL
end
section
set_option maxRecDepth 100000
set_option maxHeartbeats 4000000
set_option autoImplicit false
namespace DL
open PySem PySem.Spec PyProof.Rows L2
end DL
end
section
set_option maxRecDepth 100000
set_option maxHeartbeats 4000000
set_option autoImplicit false
namespace DL
open PySem PySem.Spec PyProof.Rows L2
section
variable {K : PySem.W.Frag} {G G' H H' : Hp} {O O' O2 : Own}
theorem keys_sub (h : O2.Sublist O) {a : Addr} (m : a ∈ O2.map (·.1)) : a ∈ O.map (·.1) := (h.map _).subset m
theorem Sta.sub' (s : Sta K G O H) (h : O2.Sublist O) : Sta K G O2 H := ⟨s.sub, s.nd.sublist (h.map _), fun a c m => s.own a c (h.subset m)⟩
theorem Step.more (s : Step K G O2 H G' O' H') (h : O2.Sublist O) : Step K G O H G' O' H' :=
  ⟨s.g, s.sta, fun a o e n => s.fr a o e fun m => n (keys_sub h m), fun a e n => (s.gn a e n).imp id fun m => keys_sub h m, fun a m => (s.on a m).imp (fun m => keys_sub h m) id⟩
theorem Step.less (s : Step K G O H G' O' H') (h : O2.Sublist O') : Step K G O H G' O2 H' :=
  ⟨s.g, s.sta.sub' h, s.fr, s.gn, fun a m => s.on a (keys_sub h m)⟩
end
def LessD (P : DEnv → Own → Prop) (δ : DEnv) (O : Own) : Prop := ∃ O2, O2.Sublist O ∧ P δ O2
section
variable {X : Cx} {N : List Str} {sc : Scope} {δ : DEnv} {O O2 : Own} {B : Bk} {nx : DEnv → Own → Prop} {pos : Pos}
theorem Lk.drop {W : WX} {G H : Hp} {D : Ends} (l : Lk X W G O H B nx D) (h : O2.Sublist O) : Lk X W G O2 H B nx D :=
  ⟨fun _ _ _ _ _ s => l.nx _ _ _ _ _ (s.more h), fun _ _ _ _ _ s => l.rt _ _ _ _ _ (s.more h), fun _ _ _ _ _ s => l.bk _ _ _ _ _ (s.more h), fun _ _ _ _ _ s => l.ct _ _ _ _ _ (s.more h), fun _ _ _ _ _ _ _ _ s => l.ex _ _ _ _ _ _ _ _ (s.more h)⟩
theorem DSs.drop {sts : List Stmt} (h : O2.Sublist O) (q : DSs X sts δ O2 B nx) : DSs X sts δ O B nx := fun W tk G σ H D r s l => q W tk G σ H D r (s.sub' h) (l.drop h)
theorem DS.drop {st : Stmt} (h : O2.Sublist O) (q : DS X st δ O2 B nx) : DS X st δ O B nx := fun W tk G σ H D r s l => q W tk G σ H D r (s.sub' h) (l.drop h)
theorem DS.less {st : Stmt} (q : DS X st δ O B (LessD nx)) : DS X st δ O B nx := fun W tk G σ H D r s l => q W tk G σ H D r s ⟨fun G' H' O' δ' σ' st r' ⟨O2, h, n⟩ => l.nx _ _ _ _ _ (st.less h) r' n, l.rt, l.bk, l.ct, l.ex⟩
theorem DSs.less {sts : List Stmt} (q : DSs X sts δ O B (LessD nx)) : DSs X sts δ O B nx := fun W tk G σ H D r s l => q W tk G σ H D r s ⟨fun G' H' O' δ' σ' st r' ⟨O2, h, n⟩ => l.nx _ _ _ _ _ (st.less h) r' n, l.rt, l.bk, l.ct, l.ex⟩
theorem M.drop {α β : Type} {P : Hp → Prop} {R : Hp → α → β → Prop} {t : TR β} {E : XD → Own → Prop} {Q : α → Own → Prop} (h : O2.Sublist O) (q : M X P R t δ O2 E Q) : M X P R t δ O E Q :=
  fun W tk G σ H Q' p r s hE hQ => q W tk G σ H Q' p r (s.sub' h) (fun _ _ _ _ _ _ st => hE _ _ _ _ _ _ (st.more h)) fun _ _ _ _ _ st => hQ _ _ _ _ _ (st.more h)
theorem M.less {α β : Type} {P : Hp → Prop} {R : Hp → α → β → Prop} {t : TR β} {E : XD → Own → Prop} {Q : α → Own → Prop} (q : M X P R t δ O E fun d O' => ∃ O2, O2.Sublist O' ∧ Q d O2) : M X P R t δ O E Q :=
  fun W tk G σ H Q' p r s hE hQ => q W tk G σ H Q' p r s hE fun _ _ _ _ _ st rr ⟨O2, h, z⟩ => hQ _ _ _ _ _ (st.less h) rr z
theorem DG.drop {tg : Expr} {d : D} {E : XD → DEnv → Own → Prop} {k : DEnv → Own → Prop} (h : O2.Sublist O) (q : DG X tg d δ O2 E k) : DG X tg d δ O E k := fun W tk v G σ H Q rd r s hE hk =>
  q W tk v G σ H Q rd r (s.sub' h) (fun _ _ _ _ _ _ _ _ st => hE _ _ _ _ _ _ _ _ (st.more h)) fun _ _ _ _ _ st => hk _ _ _ _ _ (st.more h)
/-- for, whose turns may leave cells that nobody wants -/
theorem ds_forL {tg iter : Expr} {body : List Stmt} (S : Sc X N sc) (po : PassesOwn (model X.prog X.w) X.A X.env X.xe)
    (h : DI X tg iter δ O (fun x O' => B.ex x δ O') fun ds O1 => ∃ P : Nat → DEnv → Own → Prop, P 0 δ O1 ∧
      (∀ i d δ' O', ds[i]? = some d → P i δ' O' → DG X tg d δ' O' B.ex fun δ2 O2 => DSs X body δ2 O2 { B with bk := LessD nx, ct := LessD (P (i + 1)) } (LessD (P (i + 1)))) ∧ ∀ δ' O', P ds.length δ' O' → nx δ' O')
    (hs : ∀ x, foldedSetIterable iter X.env x = pure x := by intro _; with_unfolding_all rfl) : DS X (.For tg iter body [] pos) δ O B nx := by
  refine DS.less (ds_for S po (M.imp h fun ds O1 ⟨P, h0, hs, hd⟩ => ⟨fun i => LessD (P i), ⟨_, .refl _, h0⟩, fun i d δ' O' hd ⟨O2, hO, p⟩ => DG.drop hO (hs i d δ' O2 hd p), fun δ' O' ⟨O2, hO, p⟩ => ⟨O2, hO, hd _ _ p⟩⟩) hs)
theorem lessd {P : DEnv → Own → Prop} (h : P δ O) : LessD P δ O := ⟨O, .refl _, h⟩
end
section
variable {P : Program} {w : World} {K : PySem.W.Frag} {mg : Str → Option Value} {base : Heap} {G G' H H' : Hp} {O O' O2 : Own} {r f : Addr} {c c' : Cell} {k : Nat}
theorem At.put (h : At r c O) : ∀ c', ∃ O', Put r c' O O' := fun c' => by
  induction h with
  | head => exact ⟨_, .head⟩
  | tail _ ih => obtain ⟨O', p⟩ := ih; exact ⟨_, .tail p⟩
def setC (r : Addr) (c : Cell) (O : Own) : Own := O.map fun p => if p.1 = r then (r, c) else p
theorem setC_keys : (setC r c O).map (·.1) = O.map (·.1) := by
  unfold setC
  rw [List.map_map]
  refine List.map_congr_left fun p _ => ?_
  show (if p.1 = r then (r, c) else p).1 = p.1
  by_cases h : p.1 = r
  · rw [if_pos h, h]
  · rw [if_neg h]
theorem setC_at (h : At r c' O) : At r c (setC r c O) := by
  induction h with
  | head => unfold setC; rw [List.map_cons, if_pos rfl]; exact .head
  | @tail p O _ ih =>
    unfold setC
    rw [List.map_cons]
    exact .tail ih
theorem setC_put (p : Put r c' O O') : setC r c O' = setC r c O := by
  induction p with
  | head => unfold setC; rw [List.map_cons, List.map_cons, if_pos rfl, if_pos rfl]
  | @tail q O O' _ ih =>
    unfold setC at ih ⊢
    rw [List.map_cons, List.map_cons, ih]
theorem setC_set : setC r c (setC r c' O) = setC r c O := by
  unfold setC
  rw [List.map_map]
  refine List.map_congr_left fun p _ => ?_
  show (if (if p.1 = r then (r, c') else p).1 = r then (r, c) else (if p.1 = r then (r, c') else p)) = if p.1 = r then (r, c) else p
  by_cases h : p.1 = r
  · rw [if_pos h, if_pos rfl, if_pos h]
  · simp only [if_neg h]
theorem setC_id (h : At r c O) (nd : (O.map (·.1)).Nodup) : setC r c O = O := by
  unfold setC
  conv => rhs; rw [← List.map_id O]
  refine List.map_congr_left fun p hp => ?_
  by_cases e : p.1 = r
  · rw [if_pos e]
    have m : (r, p.2) ∈ O := by rw [← e]; exact hp
    have := nodup_key nd h.mem m
    rw [this, ← e]
    rfl
  · rw [if_neg e]; rfl
theorem Sta.recell (s : Sta K G O H) (h : ∀ o, H r = some o → RepC K G c o) : Sta K G (setC r c O) H := by
  refine ⟨s.sub, by rw [setC_keys]; exact s.nd, fun a d m => ?_⟩
  obtain ⟨p, hp, e⟩ := List.mem_map.1 m
  by_cases q : p.1 = r
  · rw [if_pos q] at e
    cases e
    obtain ⟨h1, o, h2, _⟩ := s.own p.1 p.2 hp
    rw [q] at h1 h2
    exact ⟨h1, o, h2, h o h2⟩
  · rw [if_neg q] at e
    rw [e] at hp
    exact s.own a d hp
theorem Step.recell (s : Step K G O2 H G' O' H') (e : O2.map (·.1) = O.map (·.1)) {O'' : Own} (sta : Sta K G' O'' H') (e2 : O''.map (·.1) = O'.map (·.1)) : Step K G O H G' O'' H' :=
  ⟨s.g, sta, fun a o h n => s.fr a o h (by rw [e]; exact n), fun a h n => by rw [← e]; exact s.gn a h n, fun a m => by rw [← e]; exact s.on a (by rw [← e2]; exact m)⟩
/-- a def's promise, seen over other cells -/
theorem DFn.view {sp sp' : DSp} (F : DFn P w K mg base k f sp) (h : ∀ ds O E Q, sp' ds O E Q → ∀ G H, Sta K G O H → ∃ O2 E2 Q2, Sta K G O2 H ∧ O2.map (·.1) = O.map (·.1) ∧ sp ds O2 E2 Q2 ∧
    (∀ x G' H' O', Sta K G' O' H' → E2 x O' → ∃ O'', Sta K G' O'' H' ∧ O''.map (·.1) = O'.map (·.1) ∧ E x O'') ∧ ∀ d G' H' O', Sta K G' O' H' → Q2 d O' → ∃ O'', Sta K G' O'' H' ∧ O''.map (·.1) = O'.map (·.1) ∧ Q d O'') : DFn P w K mg base k f sp' :=
  FnR.imp F fun vs H Q E ⟨G, ds, O, E', Q', rl, sta, hE, hQ, hs⟩ => by
    obtain ⟨O2, E2, Q2, s2, ek, hs2, tE, tQ⟩ := h ds O E' Q' hs G H sta
    refine ⟨G, ds, O2, E2, Q2, rl, s2, fun G' H' O' x c dd st xr e => ?_, fun G' H' O' d v st rd q => ?_, hs2⟩
    · obtain ⟨O'', s3, e3, q3⟩ := tE x G' H' O' st.sta e
      exact hE G' H' O'' x c dd (st.recell ek s3 e3) xr q3
    · obtain ⟨O'', s3, e3, q3⟩ := tQ d G' H' O' st.sta q
      exact hQ G' H' O'' d v (st.recell ek s3 e3) rd q3
end
inductive Seq : D → List D → Prop
  | lst {ds : List D} : Seq (.lst ds) ds
  | fz {ds : List D} : Seq (.fz ds) ds
  | tup {ds : List D} : Seq (.tup ds) ds
theorem seq_lst {ds : List D} {C : List D → Prop} (h : C ds) : ∃ xs, Seq (.lst ds) xs ∧ C xs := ⟨_, .lst, h⟩
theorem seq_tup {ds : List D} {C : List D → Prop} (h : C ds) : ∃ xs, Seq (.tup ds) xs ∧ C xs := ⟨_, .tup, h⟩
theorem seq_rep {K : PySem.W.Frag} {G : Hp} {d : D} {ds : List D} {v : V} (q : Seq d ds) (r : Rep K G d v) : ∃ a vs, v = .ref a ∧ (SqL K G a vs ∨ SqT K G a vs) ∧ RepL K G ds vs := by
  cases q with
  | lst => cases r with | lst h rl => exact ⟨_, _, rfl, .inl (.inl (.inl h)), rl⟩
  | fz => cases r with | fz h rl => exact ⟨_, _, rfl, .inl h, rl⟩
  | tup => cases r with | tup h rl => exact ⟨_, _, rfl, .inr h, rl⟩
section
variable {X : Cx} {N : List Str} {sc : Scope} {δ : DEnv} {O : Own} {E : XD → Own → Prop} {Q : D → Own → Prop} {pos p : Pos}
def iAny (K : PySem.W.Frag) (tl : TE) : TI := fun σ H R => tl σ H fun x H1 => ∃ a, x = .ref a ∧ (((∃ xs, SqL K H1 a xs) ∧ R (Itl K a) H1) ∨ ((∃ xs, SqT K H1 a xs) ∧ R (Itt K a) H1))
theorem pi_any {tg l : Expr} {tl : TE} (hl : PE X l tl) : PI X tg l (iAny X.K tl) := by
  refine ⟨fun pins s σ H R I h => ?_⟩
  refine thn (hl.run pins s σ H _ I h) fun v s1 ⟨x, H1, I1, r1, q1⟩ => ?_
  obtain ⟨a, e, q⟩ := q1
  subst e
  cases r1
  rcases q with ⟨⟨xs, hq⟩, q⟩ | ⟨⟨xs, hq⟩, q⟩
  · obtain ⟨its, rv, p, hz⟩ := I1.list hq
    refine wpAny_pyIter_list p.isList ?_
    refine ⟨s1.heap.objs.size, [s1.heap.objs.size], _, _, H1, rfl, I1.kept (t' := s1.toks) fun b o e => Heap.get?_push_of_some _ e, turn_list a _, ⟨_, Heap.get?_push_size _ rfl, rfl, rfl⟩, fun b hb => ?_, q⟩
    have e : b = s1.heap.objs.size := by simpa using hb
    subst e
    exact I1.fpOk (Nat.le_refl _) (I1.hok.fresh (Nat.le_refl _))
  · obtain ⟨its, rv, p, hz⟩ := I1.tuple hq
    refine wpAny_pyIter_tuple (show s1.heap.IsTuple a its.toArray from p) ?_
    refine ⟨s1.heap.objs.size, [s1.heap.objs.size], _, _, H1, rfl, I1.kept (t' := s1.toks) fun b o e => Heap.get?_push_of_some _ e, turn_tuple a _, ⟨_, Heap.get?_push_size _ rfl, rfl, rfl⟩, fun b hb => ?_, q⟩
    have e : b = s1.heap.objs.size := by simpa using hb
    subst e
    exact I1.fpOk (Nat.le_refl _) (I1.hok.fresh (Nat.le_refl _))
theorem di_seq {tg l : Expr} {QI : List D → Own → Prop} (h : DE X l δ O E fun d O1 => ∃ ds, Seq d ds ∧ QI ds O1) : DI X tg l δ O E QI :=
  di_of (pi_any pe_sem) fun W tk G σ H Q' p r s hE hQ => h W tk G σ H _ p r s hE fun G' H' O' d v st rd ⟨ds, sq, q⟩ => by
    obtain ⟨a, vs, e, hq, rl⟩ := seq_rep sq rd
    refine ⟨a, e, ?_⟩
    rcases hq with hq | hq
    · exact .inl ⟨⟨vs, st.sta.sub.seqL hq⟩, hQ _ _ _ _ _ st (jrep_list hq rl) q⟩
    · exact .inr ⟨⟨vs, st.sta.sub.seqT hq⟩, hQ _ _ _ _ _ st (jrep_tup hq rl) q⟩
def iEnumA (K : PySem.W.Frag) (ta : TA) : TI := fun σ H R => ta σ H fun vs H1 => ∃ a, vs = [.ref a] ∧ ((∃ xs, SqL K H1 a xs ∧ R (Ite K a) H1) ∨ ∃ xs, SqT K H1 a xs ∧ R (IteT K a) H1)
theorem pi_enumA {e : Expr} {ta : TA} {tpos : Pos} {elts : List Expr} {kk : Nat} (hg : Gl X "enumerate") (hm : X.mg "enumerate" = none) (ha : PA X [e] ta) (hs : starEach [e] X.env = [(false, eval e X.env)] := by with_unfolding_all rfl) :
    PI X (.Tuple elts kk tpos) (.Call (.Name "enumerate" p) [e] [] pos) (iEnumA X.K ta) := by
  refine ⟨fun pins s σ H R I h => ?_⟩
  refine Call_ (ld_blt I hg hm boot_enumerate (PyProof.Rows.callWith_type1 (thn (ha.run pos pins s σ H _ I h) fun us s1 ⟨vs, H1, I1, r1, q1⟩ => ?_) hs rfl))
  obtain ⟨a, ex, q⟩ := q1
  subst ex
  cases r1 with
  | cons r rr =>
    cases rr
    cases r
    have fin : ∀ b, b ∈ [s1.heap.objs.size + 1, s1.heap.objs.size] → FpOk X pins H1 b := fun b hb => by
      have e' : b = s1.heap.objs.size + 1 ∨ b = s1.heap.objs.size := by simpa using hb
      have hle : s1.heap.objs.size ≤ b := by
        rcases e' with z | z
        · rw [z]; exact Nat.le_add_right _ _
        · rw [z]; exact Nat.le_refl _
      exact I1.fpOk hle (I1.hok.fresh hle)
    rcases q with ⟨xs, hq, q⟩ | ⟨xs, hq, q⟩
    · obtain ⟨its, rv, p', hz⟩ := I1.list hq
      refine call_enumerate_list p'.isList fun h' he hit hsz hk => wpAny_pyIter_enum he ?_
      have I2 : Inv X pins σ H1 { s1 with heap := h' } := I1.kept (t' := s1.toks) hk
      exact ⟨s1.heap.objs.size + 1, [s1.heap.objs.size + 1, s1.heap.objs.size], _, _, H1, rfl, I2, turn_enum a (s1.heap.objs.size + 1) s1.heap.objs.size, ⟨⟨.none, he⟩, hit, Nat.succ_ne_self _⟩, fin, q⟩
    · obtain ⟨its, rv, p', hz⟩ := I1.tuple hq
      refine call_enumerate_tuple (show s1.heap.IsTuple a its.toArray from p') fun h' he hit hsz hk => wpAny_pyIter_enum he ?_
      have I2 : Inv X pins σ H1 { s1 with heap := h' } := I1.kept (t' := s1.toks) hk
      exact ⟨s1.heap.objs.size + 1, [s1.heap.objs.size + 1, s1.heap.objs.size], _, _, H1, rfl, I2, turn_enumT a (s1.heap.objs.size + 1) s1.heap.objs.size, ⟨⟨.none, he⟩, hit, Nat.succ_ne_self _⟩, fin, q⟩
theorem di_enumS {e : Expr} {elts : List Expr} {kk : Nat} {tpos : Pos} {QI : List D → Own → Prop} (S : Sc X N sc) (hm : X.mg "enumerate" = none) (h : DA X [e] δ O E fun ds O1 => ∃ d xs, ds = [d] ∧ Seq d xs ∧ QI (enumD xs) O1) (hg : Nk ("enumerate" : Str) .globalImplicit sc.names := by (repeat (with_reducible constructor))) (hs : starEach [e] X.env = [(false, eval e X.env)] := by with_unfolding_all rfl) :
    DI X (.Tuple elts kk tpos) (.Call (.Name "enumerate" p) [e] [] pos) δ O E QI :=
  di_of (pi_enumA (S.gl hg) hm pa_sem hs) fun W tk G σ H Q' p r s hE hQ => h W tk G σ H _ p r s hE fun G' H' O' ds vs st rl ⟨d, xs, e, sq, q⟩ => by
    subst e
    cases rl with
    | cons r1 rr =>
      cases rr
      obtain ⟨a, ws, e, hq, rl⟩ := seq_rep sq r1
      subst e
      refine ⟨a, rfl, ?_⟩
      rcases hq with hq | hq
      · exact .inl ⟨ws, st.sta.sub.seqL hq, hQ _ _ _ _ _ st (jrep_enum hq rl) q⟩
      · exact .inr ⟨ws, st.sta.sub.seqT hq, hQ _ _ _ _ _ st (jrep_enumT hq rl) q⟩
theorem seq1_lst {ds : List D} {C : List D → Prop} (h : C ds) : ∃ d xs, [D.lst ds] = [d] ∧ Seq d xs ∧ C xs := ⟨_, _, rfl, .lst, h⟩
theorem seq1_tup {ds : List D} {C : List D → Prop} (h : C ds) : ∃ d xs, [D.tup ds] = [d] ∧ Seq d xs ∧ C xs := ⟨_, _, rfl, .tup, h⟩
theorem as_DI {tg l : Expr} {QI : List D → Own → Prop} (h : DI X tg l δ O E QI) : DI X tg l δ O E QI := h
end
end DL
end
section
set_option maxRecDepth 100000
set_option maxHeartbeats 4000000
set_option autoImplicit false
namespace DL
open PySem PySem.Spec PyProof.Rows L2
section
variable {X : Cx} {N : List Str} {sc scope : Scope} {δ : DEnv} {O : Own} {E : XD → Own → Prop} {Q : D → Own → Prop} {QT : Bool → Own → Prop} {pos p : Pos} {B : Bk} {nx : DEnv → Own → Prop} {ds : List D}
theorem as_NL (h : NewL ds O Q) : NewL ds O Q := h
theorem nl_fzc {d : D} (h : Q (.lst (d :: ds)) O) : NewL (d :: ds) O Q := .inl h
theorem ds_setCD {x : Str} {i : Nat} {e : Expr} {pos' : Pos} (S : Sc X N sc) (Df : Df X) (hi : Ix x N i) (h : DE X e δ O (fun x O' => B.ex x δ O') fun d O1 => ∃ δ', SetD d δ i δ' ∧ nx δ' O1) (hl : Nk x .cell sc.names) (hs : swapsWith e (some (.Name x pos')) pos.line X.env = pure false := by with_unfolding_all rfl) : DS X (.Assign [.Name x pos'] e pos) δ O B nx := ds_setC S Df.fn hi h hl hs
theorem ds_setLcXc {x : Str} {i : Nat} {py : Pos} {elt tg iter : Expr} {ifs : List Expr} {lpos : Pos} (own : List (Str × Nat)) (sc' : Scope) (S : Sc X N sc) (hi : Ix x N i)
    (h : DI X tg iter δ O (fun x O' => B.ex x δ O') fun ds O1 => ∃ δw, Wp δ (own.map (·.2)) δw ∧ ∃ (α : Type) (xs : List α) (enc : α → D) (g : α → List D), ds = xs.map enc ∧ xs.length ≤ 100000 ∧ LcX X N sc' elt tg ifs (own.map (·.2)) δw O1 xs enc g ∧ NewL (xs.flatMap g) O1 fun d O2 => ∃ δ', SetD d δ i δ' ∧ nx δ' O2)
    (ok : blkC N sc scope own = true := by decide +kernel) (hrel : relS scope sc = sc' := by with_unfolding_all rfl) (hnm : nmOk sc' = true := by decide +kernel)
    (hk : sc.kind = .function := by with_unfolding_all rfl) (hl : Nk x .local sc.names := by (repeat (with_reducible constructor))) (hln : (py.line == lpos.line) = true := by with_unfolding_all rfl) (ha : (scope.names.any fun (n, k) => n == x && (k == .local || k == .cell)) = false := by decide +kernel) (hs : ∀ x, foldedSetIterable iter X.env x = pure x := by intro _; with_unfolding_all rfl) :
    DS X (.Assign [.Name x py] (.ListComp elt [⟨tg, iter, ifs, 0⟩] scope lpos) pos) δ O B nx := by
  refine ds_setLc own S hi (blkOk_by ok) ?_ hk hl hln ha hs
  refine M.imp h fun ds O1 ⟨δw, hw, α, xs, enc, g, e, hl, hb, n⟩ => ?_
  subst e
  refine ⟨δw, hw, _, ⟨rfl, Nat.le_refl _, rfl⟩, lcX_body S hrel hnm hl hb, ?_⟩
  rintro acc O' ⟨rfl, _, rfl⟩
  rw [List.length_map, List.take_length]
  exact n
/-- the ways of a test -/
theorem br_d {p : Prop} {i : Decidable p} {A C : Prop} (h1 : p → A) (h2 : ¬ p → C) : (@decide p i = true → A) ∧ (@decide p i = false → C) := ⟨fun e => h1 (of_decide_eq_true e), fun e => h2 (of_decide_eq_false e)⟩
theorem br_nd {p : Prop} {i : Decidable p} {A C : Prop} (h1 : ¬ p → A) (h2 : p → C) : ((!@decide p i) = true → A) ∧ ((!@decide p i) = false → C) :=
  ⟨fun e => h1 (of_decide_eq_false (by rw [Bool.not_eq_true'] at e; exact e)), fun e => h2 (of_decide_eq_true (by rw [Bool.not_eq_false'] at e; exact e))⟩
theorem rb_d {p : Prop} {i : Decidable p} {A C : Prop} (h1 : ¬ p → C) (h2 : p → A) : (@decide p i = false → C) ∧ (@decide p i = true → A) := ⟨fun e => h1 (of_decide_eq_false e), fun e => h2 (of_decide_eq_true e)⟩
theorem rb_nd {p : Prop} {i : Decidable p} {A C : Prop} (h1 : p → C) (h2 : ¬ p → A) : ((!@decide p i) = false → C) ∧ ((!@decide p i) = true → A) :=
  ⟨fun e => h1 (of_decide_eq_true (by rw [Bool.not_eq_false'] at e; exact e)), fun e => h2 (of_decide_eq_false (by rw [Bool.not_eq_true'] at e; exact e))⟩
/-- a method of an instance -/
theorem mt_in {K : PySem.W.Frag} {C g : Addr} {fs : List (Str × D)} {m : Str} {R : Addr → Prop} (c : Cls K C) (h : Meth K C m g) (l : fs.lookup m = none) (q : R g) : ∃ C' fs' g', IsIns (.ins C fs) O C' fs' ∧ Cls K C' ∧ Meth K C' m g' ∧ fs'.lookup m = none ∧ R g' := ⟨C, fs, g, .fz, c, h, l, q⟩
theorem mt_own {K : PySem.W.Frag} {a C g : Addr} {fs : List (Str × D)} {m : Str} {R : Addr → Prop} (at_ : At a (.ins C fs) O) (c : Cls K C) (h : Meth K C m g) (l : fs.lookup m = none) (q : R g) : ∃ C' fs' g', IsIns (.ref a) O C' fs' ∧ Cls K C' ∧ Meth K C' m g' ∧ fs'.lookup m = none ∧ R g' := ⟨C, fs, g, .own at_, c, h, l, q⟩
theorem de_propS {e : Expr} {nm : Str} (h : DE X e δ O E fun d O1 => ∃ C fs pr g k sp, IsIns d O1 C fs ∧ Cls X.K C ∧ PropOf X.K C nm pr g ∧ DFn X.prog X.w X.K X.mg X.base k g sp ∧ Room (k + 1) X.A ∧ sp [d] O1 noE Q) (hb : attributeBase e nm X.env (eval e X.env) = eval e X.env := by with_unfolding_all rfl) : DE X (.Attribute e nm pos) δ O E Q := de_prop h hb
theorem as_blk {X : Cx} {N : List Str} {sc' : Scope} {C : Cx → Prop} (h : ∀ X', Blk X X' N sc' → C X') : ∀ X', Blk X X' N sc' → C X' := h
theorem rng1_in {j : Int} {C : Int → Prop} (h1 : -(2 ^ 62) ≤ j) (h2 : j < 2 ^ 62) (q : C j) : ∃ j', [D.int j] = [.int j'] ∧ -(2 ^ 62) ≤ j' ∧ j' < 2 ^ 62 ∧ C j' := ⟨j, rfl, h1, h2, q⟩
theorem rng2_in {i j : Int} {C : Int → Int → Prop} (h1 : -(2 ^ 62) ≤ i) (h2 : i < 2 ^ 62) (h3 : -(2 ^ 62) ≤ j) (h4 : j < 2 ^ 62) (q : C i j) : ∃ i' j', [D.int i, D.int j] = [.int i', .int j'] ∧ (-(2 ^ 62) ≤ i' ∧ i' < 2 ^ 62 ∧ -(2 ^ 62) ≤ j' ∧ j' < 2 ^ 62) ∧ C i' j' := ⟨i, j, rfl, ⟨h1, h2, h3, h4⟩, q⟩
theorem app_in {a : Addr} {xs : List D} {y : D} {O' : Own} {C : Own → Prop} (h1 : At a (.lst xs) O) (h2 : xs.length < 100000) (h3 : Put a (.lst (xs ++ [y])) O O') (q : C O') : ∃ xs, At a (.lst xs) O ∧ ∃ O3, xs.length < 100000 ∧ Put a (.lst (xs ++ [y])) O O3 ∧ C O3 := ⟨xs, h1, O', h2, h3, q⟩
end
end DL
end
section
set_option maxRecDepth 100000
set_option maxHeartbeats 4000000
set_option autoImplicit false
namespace PySem.W
open PySem PySem.Calls PyProof.Rows Builtin
section
variable {prog : Program} {w : World} {A : Around} {E : Value → Shared → Prop} {s : Shared} {K : Frag} {x C L f : Addr} {h₀ : Heap} {m : Str → Option Value} {ox : Obj} {od : Option Obj}
/-- an operator of one's own, another type on the right -/
theorem bop1_KI {nm : String} {b : Value} {tb : String} {rb : Bool} {o : Option Value} {Q : Option Value → Shared → Prop} (F : Fr h₀ L s.heap m) (X₀ : K.In h₀) (I : InstAt s.heap x ox C od) (hb : Looks (model prog w) s.heap (typeOf b) (.type tb)) (hc : selfFirst K C = true)
    (hs : findIn K (.ref C) (PySem.dunder nm) = some (some (.ref f))) (hf : isFn K (.ref f) = true) (hrr : findIn K (.ref C) (dunderR nm) = some none)
    (hfill : fillsNumberSlot (.type tb) nm = pure rb) (hsub : subIn K (.type tb) (.ref C) = some false) (hnum : numberSlotInPython (.type tb) nm = pure false) (htl : typeLookup (.type tb) (dunderR nm) = pure o)
    (h : wpAny (model prog w) A (call (.ref f) [.ref x, b]) (CmpBack fun v => Q (some v)) E s) : wpAny (model prog w) A (binaryOp1 nm (.ref x) b) Q E s := by
  have X := X₀.keeps F.keep
  obtain ⟨cd, hcd, hm⟩ := any_some hc
  obtain ⟨rest, hm⟩ : ∃ rest, cd.mro = .ref C :: rest := by
    cases q : cd.mro with
    | nil => rw [q] at hm; cases hm
    | cons a r => rw [q] at hm; exact ⟨r, by rw [List.head?_cons] at hm; cases (beq_iff_eq.mp hm); rfl⟩
  have hne : (Value.ref C == Value.type tb) = false := rfl
  have hnp : Looks (model prog w) s.heap (numberSlotInPython (.ref C) nm) true := by
    intro A Q E s k q
    unfold numberSlotInPython
    refine wpAny_bind (looks_findIn X hs A _ E s k ?_)
    refine wpAny_bind (wpAny_pure ?_)
    refine wpAny_bind (looks_findIn X hrr A _ E s k ?_)
    refine wpAny_bind (wpAny_pure ?_)
    exact wpAny_pure q
  have step : ∀ {k : Option Value → Sem (Option Value)}, (∀ v s', Q (some v) s' → wpAny (model prog w) A (k (some v)) Q E s') →
      wpAny (model prog w) A (tryMethod (.ref x) (PySem.dunder nm) b >>= k) Q E s := fun {k} hk => by
    refine wpAny_bind ?_
    unfold tryMethod
    refine wpAny_bind (special_fn X I hs (beq_iff_eq.mp hf) (wpAny_mono h (fun v s' hv => ?_) fun _ _ e => e))
    cases v <;> first | exact hv.elim | exact wpAny_pure (hk _ _ hv)
  unfold binaryOp1
  refine wpAny_bind (I.type.here (wpAny_bind (hb.here (wpAny_bind ((fills_K X hcd hm hs).here ?_)))))
  rw [hne]
  simp only [Bool.false_eq_true, if_false]
  refine wpAny_bind (wpAny_of_eq hfill ?_)
  cases rb with
  | false =>
    simp only [Bool.and_false, Bool.false_eq_true, if_false, Bool.false_and]
    refine wpAny_bind (wpAny_pure ?_)
    simp only [Bool.false_eq_true, if_false]
    exact step fun v s' q => wpAny_pure q
  | true =>
    simp only [Bool.and_true, if_true]
    refine wpAny_bind ((looks_subIn X hsub).here ?_)
    simp only [Bool.false_eq_true, if_false, Bool.not_false, Bool.and_self, if_true]
    refine wpAny_bind (hnp.here ?_)
    simp only [if_true]
    refine wpAny_bind (wpAny_of_eq hnum ?_)
    simp only [Bool.not_false, if_true]
    refine wpAny_bind (wpAny_of_eq htl ?_)
    exact step fun v s' q => wpAny_pure q
theorem binop_KI {op : Operator} {b : Value} {tb : String} {rb : Bool} {o : Option Value} {Q : Value → Shared → Prop} (F : Fr h₀ L s.heap m) (X₀ : K.In h₀) (I : InstAt s.heap x ox C od) (hb : Looks (model prog w) s.heap (typeOf b) (.type tb)) (hc : selfFirst K C = true)
    (hs : findIn K (.ref C) (PySem.dunder op.info.2) = some (some (.ref f))) (hf : isFn K (.ref f) = true) (hrr : findIn K (.ref C) (dunderR op.info.2) = some none)
    (hfill : fillsNumberSlot (.type tb) op.info.2 = pure rb) (hsub : subIn K (.type tb) (.ref C) = some false) (hnum : numberSlotInPython (.type tb) op.info.2 = pure false) (htl : typeLookup (.type tb) (dunderR op.info.2) = pure o)
    (h : wpAny (model prog w) A (call (.ref f) [.ref x, b]) (CmpBack Q) E s) : wpAny (model prog w) A (binaryOp op (.ref x) b) Q E s := by
  unfold binaryOp
  refine wpAny_holding (wpAny_bind (wpAny_mono (Q := fun r s' => ∃ v, r = some v ∧ Q v s') (E := E) ?_ ?_ fun _ _ e => e))
  · refine bop1_KI F X₀ I hb hc hs hf hrr hfill hsub hnum htl (wpAny_mono h (fun v s' hv => ?_) fun _ _ e => e)
    cases v <;> first | exact hv.elim | exact ⟨_, rfl, hv⟩
  · rintro r s' ⟨v, rfl, q⟩
    exact wpAny_pure q
end
end PySem.W
namespace DL
open PySem
theorem fs_int_rshift : fillsNumberSlot (.type "int") "rshift" = pure true := by unfold fillsNumberSlot; simp only [typeLookup_type, builtinLookup_eq_fast]; kernel_rfl
theorem ns_type (T nm : String) : numberSlotInPython (.type T) nm = pure false := rfl
theorem tl_int_rshift : ∃ o, typeLookup (.type "int") (dunderR "rshift") = pure o := ⟨some (.builtin "int.__rrshift__"), by rw [typeLookup_type, builtinLookup_eq_fast]; kernel_rfl⟩
open PySem PySem.Spec PyProof.Rows L2
section
variable {X : Cx} {N : List Str} {sc : Scope} {δ : DEnv} {O : Own} {E : XD → Own → Prop} {Q : D → Own → Prop} {QT : Bool → Own → Prop} {pos p apos : Pos} {d y : D} {C f : Addr} {fs : List (Str × D)} {k : Nat} {sp : DSp}
theorem looks_ty {G H : Hp} {pins : List (Addr × Obj)} {σ : L2.St} {s : Shared} {v : V} {u : Value} (I : Inv X pins σ H s) (rd : Rep X.K G y v) (e : Ex G H) (ru : RelV v u) (h : tyD y ≠ "") : PySem.W.Looks (model X.prog X.w) s.heap (typeOf u) (.type (tyD y)) := by
  obtain ⟨P, kx, hp, _⟩ := kit_of I ru (tyD_x rd e h)
  exact kx.ty _ _ I.kIn hp
/-- an operator of the class, another type on the right -/
structure OpI (K : PySem.W.Frag) (C : Addr) (nm : String) (f : Addr) : Prop where
  sf : PySem.W.selfFirst K C = true
  at_ : PySem.W.findIn K (.ref C) (PySem.dunder nm) = some (some (.ref f))
  fn : PySem.W.isFn K (.ref f) = true
  rr : PySem.W.findIn K (.ref C) (dunderR nm) = some none
theorem cmpb_of {Q' : VK} {pins : List (Addr × Obj)} {σ : L2.St} {v : Value} {s' : Shared} (h : EP X pins σ Q' v s') : PySem.W.CmpBack (EP X pins σ Q') v s' := by
  obtain ⟨x, H', I', r, q⟩ := h
  cases v <;> first | exact ⟨x, H', I', r, q⟩ | (cases x <;> first | (cases r; done) | (obtain ⟨t, z⟩ := r; cases z))
theorem db_ownI {op : Operator} {rb : Bool} (i : IsIns d O C fs) (hy : tyD y ≠ "") (T : OpI X.K C op.info.2 f) (F : DFn X.prog X.w X.K X.mg X.base k f sp) (hr : Room k X.A)
    (hfill : fillsNumberSlot (.type (tyD y)) op.info.2 = pure rb) (hsub : PySem.W.subIn X.K (.type (tyD y)) (.ref C) = some false) (hnum : numberSlotInPython (.type (tyD y)) op.info.2 = pure false) (htl : ∃ o, typeLookup (.type (tyD y)) (dunderR op.info.2) = pure o)
    (h : sp [d, y] O E Q) : DB X (binaryOp op) d y δ O E Q := by
  obtain ⟨o, htl⟩ := htl
  intro v u W tk G σ H Q' p r s hE hQ pins s' v' u' I rv ru
  obtain ⟨a, dx, vs, ev, ha, rf⟩ := i.get p.1 s
  subst ev
  obtain rfl : v' = Value.ref a := rv
  obtain ⟨mA, O2, _, _, _, _⟩ := ins_get I.hok ha
  obtain ⟨od, J, _⟩ := O2.look
  obtain ⟨m, fr⟩ := I.fr
  refine PySem.W.binop_KI fr I.ok.mod.kin J (looks_ty I p.2 s.sub ru hy) T.sf T.at_ T.fn T.rr hfill hsub hnum htl ?_
  exact wpAny_mono (wpAny_call (run_fnD F hr h tk (.cons p.1 (.cons p.2 .nil)) s hE hQ I (.cons rfl (.cons ru .nil)))) (fun _ _ z => cmpb_of z) fun _ _ z => z
end
end DL
end
section
set_option maxRecDepth 100000
set_option maxHeartbeats 4000000
set_option autoImplicit false
namespace DL
open PySem PySem.Spec PyProof.Rows L2
/-- a def called with the keywords ks behind the positional values -/
def DFk (P : Program) (w : World) (K : PySem.W.Frag) (mg : Str → Option Value) (base : Heap) (k : Nat) (f : Addr) (ks : List Str) (sp : DSp) : Prop :=
  ∀ (A : Around) (outer : List Env) (s : Shared) (H : Hp) (us ws : List Value) (vs zs : List V) (Q : VK) (E : XK), Room k A → Env0 P w K mg base A outer s H → Vals vs us → Vals zs ws → zs.length = ks.length → lift K sp (vs ++ zs) H Q E →
    codeAny (model P w) A (.call (.ref f) ⟨us, ks.zip ws⟩) (CR (L2N.CX P w) outer P w H s Q E) s
section
variable {P : Program} {w : World} {K : PySem.W.Frag} {mg : Str → Option Value} {base : Heap} {x qual : Str} {st : Stmt} {f : Addr} {N ps : List Str} {k n : Nat} {sp sp' : DSp} {pv kn : Str} {dV kV doc pm cdv ct oc : Value} {an od : Option Addr} {osl : Array (Option Value)}
theorem DFk.imp {ks : List Str} (F : DFk P w K mg base k f ks sp) (h : ∀ ds O E Q, sp' ds O E Q → sp ds O E Q) : DFk P w K mg base k f ks sp' := fun A outer s H us ws vs zs Q E hr e0 r1 r2 hl ⟨G, ds, O, E', Q', a, b, c, d, e⟩ => F A outer s H us ws vs zs Q E hr e0 r1 r2 hl ⟨G, ds, O, E', Q', a, b, c, d, h _ _ _ _ e⟩
theorem DFk.mono {ks : List Str} {j : Nat} (F : DFk P w K mg base k f ks sp) (h : k ≤ j) : DFk P w K mg base j f ks sp := fun A outer s H us ws vs zs Q E hr => F A outer s H us ws vs zs Q E (hr.mono h)
/-- a star parameter and one keyword-only parameter: the run, from how it binds -/
theorem starK_core {A : Around} {outer : List Env} {s : Shared} {H : Hp} {args : Args} {Q : VK} {E : XK} {ws rest : List V} {u2 us1 : List Value} (lk : K.lookup f = some ⟨oc, od, .func (PySem.W.fnOf x qual (defArgs st) (defBody st) (defScope st) dV kV doc pm an cdv ct), osl⟩) (hcd : PySem.W.codeIn K cdv qual = true)
    (S : FnS N (ps ++ [pv]) (defScope st)) (h : BodyOk P w K mg base k N st sp) (hr : Room (k + 1) A) (e0 : Env0 P w K mg base A outer s H) (r1 : Vals ws us1) (r2 : Vals rest u2) (hl : ws.length = ps.length) (hz : rest.length ≤ 100000)
    (hb : ∀ (M : Model) (A' : Around) (Ex : Value → Shared → Prop) (Q' : List (Str × Value) → Shared → Prop) (s' : Shared), K.In s'.heap → wpAny M A' (newTuple u2 >>= fun t => pure (ps.zip us1 ++ [(pv, t)])) Q' Ex s' → wpAny M A' (bindArgs (PySem.W.fnOf x qual (defArgs st) (defBody st) (defScope st) dV kV doc pm an cdv ct) args) Q' Ex s')
    (hq : ∀ p, H p = none → lift K sp (ws ++ [V.ref p]) (upd H p (.tup rest)) Q E) : codeAny (model P w) A (.call (.ref f) args) (CR (L2N.CX P w) outer P w H s Q E) s := by
  have KX : K.In s.heap := e0.mod.kin.keeps fun b o e => (e0.bs b o e).1
  have hn : H s.heap.objs.size = none := e0.hok.fresh (Nat.le_refl _)
  have hl1 : us1.length = ps.length := by rw [← r1.length]; exact hl
  have hzs : rest.length ≤ sizeLine := Nat.le_trans hz (by decide)
  have hl2 : u2.length ≤ sizeLine := by rw [← r2.length]; exact hzs
  refine StX.run_bnd lk hcd S.toFnScope hr e0 (G := fun xs H2 => ∃ p, H p = none ∧ xs = ws ++ [V.ref p] ∧ H2 = upd H p (.tup rest)) (fun A' Ex Q' hk => ?_) fun s2 H2 xs ⟨p, hp, ex, eH⟩ hr' => ?_
  · refine hb _ _ _ _ _ KX ?_
    refine wpAny_bind (wpAny_newTuple (wpAny_pure ?_) hl2)
    have new : ObjOk P w (upd H s.heap.objs.size (.tup rest)) (s.heap.push ({ cls := .type "tuple", data := .seq u2.toArray } : Obj)) s.heap.objs.size (.tup rest) := ⟨hzs, u2, r2, ⟨_, Heap.get?_push_size _ rfl, rfl, _, rfl⟩⟩
    have un := StX.un_laid (fs := frs outer) (s := s) (o := ({ cls := .type "tuple", data := .seq u2.toArray } : Obj)) (u := .tup rest) hn
    have z := hk _ _ (ws ++ [V.ref s.heap.objs.size]) (us1 ++ [Value.ref s.heap.objs.size]) (StX.env0_laid e0 new) un rfl (fun e s' => cxUpN outer s H _ _ E e s' un (fun b o q => Heap.get?_push_of_some _ q) rfl) (r1.append (.cons rfl .nil))
      (by rw [List.length_append, List.length_append, hl] <;> rfl) ⟨_, hn, rfl, rfl⟩
    rw [List.zip_append hl1.symm] at z
    exact z
  · subst ex eH
    exact body_run S h cdv A outer s2 _ _ Q E hr' (hq p hp)
theorem lift_star {ws rest : List D} {c : D} {vs1 vs2 : List V} {cv : V} {G : Hp} {H : Hp} {O : Own} {E' : XD → Own → Prop} {Q' : D → Own → Prop} {Q : VK} {E : XK} (r1 : RepL K G ws vs1) (r2 : RepL K G rest vs2) (rc : Rep K G c cv) (sta : Sta K G O H)
    (hE : ∀ G' H' O' x c dd, Step K G O H G' O' H' → XRep K G' x c dd → E' x O' → E c dd H') (hQ : ∀ G' H' O' d v, Step K G O H G' O' H' → Rep K G' d v → Q' d O' → Q v H') (hs : sp (ws ++ [c] ++ [.tup rest]) O E' Q') (p : Addr) (hp : H p = none) :
    lift K sp (vs1 ++ [cv] ++ [V.ref p]) (upd H p (.tup vs2)) Q E := by
  have s1 := Step.new sta (o := .tup vs2) hp
  exact ⟨_, ws ++ [c] ++ [.tup rest], O, E', Q', ((r1.mono s1.g).append (.cons (rc.mono s1.g) .nil)).append (.cons (.tup (SqT.of upd_same) (r2.mono s1.g)) .nil), s1.sta, fun _ _ _ _ _ _ s2 => hE _ _ _ _ _ _ (s1.trans s2), fun _ _ _ _ _ s2 => hQ _ _ _ _ _ (s1.trans s2), hs⟩
/-- .. called without k -/
theorem dfn_starK {ps0 : List Str} {D0 : Addr} {cw : Value} {cv : V} {cd : D} (lk : K.lookup f = some ⟨oc, od, .func (PySem.W.fnOf x qual (defArgs st) (defBody st) (defScope st) dV (.ref D0) doc pm an cdv ct), osl⟩) (hcd : PySem.W.codeIn K cdv qual = true)
    (S : FnS N (ps0 ++ [kn] ++ [pv]) (defScope st)) (h : BodyOk P w K mg base k N st sp) (hD : PySem.W.nsIn K D0 kn = some (some cw)) (rv : RelV cv cw) (rd : ∀ G, Rep K G cd cv)
    (hb : ∀ (us rest : List Value), us.length = ps0.length → ∃ (β γ : Type) (k1 : Option Value → Sem β) (k2 : β → Sem γ) (k3 : γ → Sem (List (Str × Value))) (c : β), bindArgs (PySem.W.fnOf x qual (defArgs st) (defBody st) (defScope st) dV (.ref D0) doc pm an cdv ct) ⟨us ++ rest, []⟩ = ((nsGet D0 kn >>= k1) >>= k2) >>= k3 ∧ k1 (some cw) = pure c ∧ (k2 c >>= k3) = (newTuple rest >>= fun t => pure ((ps0 ++ [kn]).zip (us ++ [cw]) ++ [(pv, t)]))) :
    DFn P w K mg base (k + 1) f (fun ds O E Q => ∃ ws rest, ds = ws ++ rest ∧ ws.length = ps0.length ∧ rest.length ≤ 100000 ∧ sp (ws ++ [cd] ++ [.tup rest]) O E Q) := by
  intro A outer s H us vs Q E hr e0 r1 hsp
  obtain ⟨G, ds, O, E', Q', rl, sta, hE, hQ, xs, rest, ed, hx, hz, hs⟩ := hsp
  subst ed
  obtain ⟨v1, v2, ev, q1, q2⟩ := rl.split
  subst ev
  obtain ⟨u1, u2, eu, a1, a2⟩ := StX.vals_split r1
  subst eu
  refine starK_core (ps := ps0 ++ [kn]) lk hcd S h hr e0 (a1.append (.cons rv .nil)) a2 (by rw [List.length_append, List.length_append, q1.length, hx]; rfl) (by rw [q2.length]; exact hz) (fun M A' Ex Q2 s' KX hw => ?_) fun p hp => lift_star q1 q2 (rd G) sta hE hQ hs p hp
  obtain ⟨β, γ, k1, k2, k3, c, e1, e2, e3⟩ := hb u1 u2 (by rw [← a1.length, q1.length]; exact hx)
  rw [e1, bind_assoc]
  refine wpAny_bind (PySem.W.Looks.here ((PySem.W.looks_nsIn KX hD).andThen (PySem.W.Looks.of_pure e2)) ?_)
  rw [e3]
  exact hw
/-- positional defaults: of the def's dflt the ones behind the first j fill up -/
theorem dfn_dflt {T : Addr} {o : Obj} {its : List Value} {m : Nat} {dvs : List V} {dds : List D} (lk : K.lookup f = some ⟨oc, od, .func (PySem.W.fnOf x qual (defArgs st) (defBody st) (defScope st) (.ref T) kV doc pm an cdv ct), osl⟩) (hcd : PySem.W.codeIn K cdv qual = true)
    (S : FnS N ps (defScope st)) (h : BodyOk P w K mg base k N st sp) (lT : K.lookup T = some o) (oT : o.data = .seq its.toArray m) (rT : Vals dvs its) (rd : ∀ G, RepL K G dds dvs) (hn : n + dds.length = ps.length)
    (hb : ∀ us : List Value, us.length = n → ∃ k, bindArgs (PySem.W.fnOf x qual (defArgs st) (defBody st) (defScope st) (.ref T) kV doc pm an cdv ct) ⟨us, []⟩ = seqItems? (.ref T) >>= k ∧ k (some its.toArray) = pure (ps.zip (us ++ its))) :
    DFn P w K mg base (k + 1) f (fun ds O E Q => ds.length = n ∧ sp (ds ++ dds) O E Q) := by
  have F1 : FnOk P w K mg base (L2N.CX P w) (k + 1) f _ ps (fun vs H Q E => vs.length = ps.length ∧ lift K sp vs H Q E) := fn_of lk hcd S.toFnScope (fun vs H Q E h => h.1) fun A outer s H vs Q E hr hsp => body_run S h cdv A outer s H vs Q E hr hsp.2
  have hB : Binds K (PySem.W.fnOf x qual (defArgs st) (defBody st) (defScope st) (.ref T) kV doc pm an cdv ct) ps its := fun s us X hlen => by
    have lits : its.length = dds.length := by rw [← rT.length, (rd fun _ => none).length]
    have l2 : us.length = n := by
      rw [List.length_append] at hlen
      omega
    obtain ⟨k, e1, e2⟩ := hb us l2
    refine BindsTo.of_looks fun M => ?_
    rw [e1]
    exact looks_items X lT oT (.of_pure e2)
  refine FnR.imp (F1.raw hB rT) fun vs H Q E ⟨G, ds, O, E', Q', rl, sta, hE, hQ, hl, hs⟩ => ⟨?_, G, ds ++ dds, O, E', Q', rl.append (rd G), sta, hE, hQ, hs⟩
  rw [List.length_append, rl.length, hl, (rd G).length]
  exact hn
theorem dfn_kw {ps0 : List Str} {D0 : Addr} {cw : Value} {cv : V} {cd : D} (lk : K.lookup f = some ⟨oc, od, .func (PySem.W.fnOf x qual (defArgs st) (defBody st) (defScope st) dV (.ref D0) doc pm an cdv ct), osl⟩) (hcd : PySem.W.codeIn K cdv qual = true)
    (S : FnS N (ps0 ++ [kn]) (defScope st)) (h : BodyOk P w K mg base k N st sp) (hD : PySem.W.nsIn K D0 kn = some (some cw)) (rv : RelV cv cw) (rd : ∀ G, Rep K G cd cv)
    (hb : ∀ (us : List Value), us.length = ps0.length → KwChain D0 [(kn, cw)] (bindArgs (PySem.W.fnOf x qual (defArgs st) (defBody st) (defScope st) dV (.ref D0) doc pm an cdv ct) ⟨us, []⟩) ((ps0 ++ [kn]).zip (us ++ [cw]))) :
    DFn P w K mg base (k + 1) f (fun ds O E Q => ds.length = ps0.length ∧ sp (ds ++ [cd]) O E Q) := by
  have F1 : FnOk P w K mg base (L2N.CX P w) (k + 1) f _ (ps0 ++ [kn]) (fun vs H Q E => vs.length = (ps0 ++ [kn]).length ∧ lift K sp vs H Q E) := fn_of lk hcd S.toFnScope (fun vs H Q E h => h.1) fun A outer s H vs Q E hr hsp => body_run S h cdv A outer s H vs Q E hr hsp.2
  have hB : Binds K (PySem.W.fnOf x qual (defArgs st) (defBody st) (defScope st) dV (.ref D0) doc pm an cdv ct) (ps0 ++ [kn]) [cw] := fun s us X hlen => by
    have l2 : us.length = ps0.length := by
      rw [List.length_append, List.length_append] at hlen
      simpa using hlen
    exact BindsTo.of_looks fun M => KwChain.looks X (fun q hq => by rw [List.mem_singleton.1 hq]; exact hD) (hb us l2)
  refine FnR.imp (F1.raw hB (.cons rv .nil)) fun vs H Q E ⟨G, ds, O, E', Q', rl, sta, hE, hQ, hl, hs⟩ => ⟨?_, G, ds ++ [cd], O, E', Q', rl.append (.cons (rd G) .nil), sta, hE, hQ, hs⟩
  rw [List.length_append, List.length_append, rl.length, hl]
  rfl
end
end DL
namespace DL
open PySem PySem.Spec PyProof.Rows L2
/-- a constant tuple of ints that the top has written -/
def CTup (K : PySem.W.Frag) (a : Addr) (is : List Int) : Prop := ∃ (dd : Option Addr) (its : List Value) (n : Nat) (sl : Array (Option Value)), K.lookup a = some ⟨.type "tuple", dd, .seq its.toArray n, sl⟩ ∧ Vals (is.map V.int) its ∧ is.length ≤ 1000
theorem CTup.rep {K : PySem.W.Frag} {a : Addr} {is : List Int} (h : CTup K a is) (G : Hp) : Rep K G (.tup (is.map D.int)) (.ref a) := by
  obtain ⟨dd, its, n, sl, l, v, hz⟩ := h
  have e := v.length
  rw [List.length_map] at e
  exact .tup (.inr ⟨_, _, _, l, rfl, rfl, by rw [List.size_toArray, ← e]; exact Nat.le_trans hz (by decide), v⟩) (repL_map (fun _ => .int _) _)
/-- def f(self, .., *r, k=..) -/
structure SKDef (K : PySem.W.Frag) (C : Addr) (m qual : Str) (st : Stmt) (ps0 : List Str) (kn pv : Str) (cd : D) (f : Addr) : Prop where
  mt : Meth K C m f
  fn : ∃ (oc doc pm cdv ct cw : Value) (cv : V) (od an : Option Addr) (osl : Array (Option Value)) (D0 : Addr), K.lookup f = some ⟨oc, od, .func (PySem.W.fnOf m qual (defArgs st) (defBody st) (defScope st) .none (.ref D0) doc pm an cdv ct), osl⟩ ∧ PySem.W.codeIn K cdv qual = true ∧
    PySem.W.nsIn K D0 kn = some (some cw) ∧ RelV cv cw ∧ (∀ G, Rep K G cd cv) ∧
    (∀ (us rest : List Value) (z : Value), us.length = ps0.length → bindArgs (PySem.W.fnOf m qual (defArgs st) (defBody st) (defScope st) .none (.ref D0) doc pm an cdv ct) ⟨us ++ rest, [(kn, z)]⟩ = (newTuple rest >>= fun t => pure ((ps0 ++ [kn]).zip (us ++ [z]) ++ [(pv, t)]))) ∧
    (∀ (us : List Value), us.length = ps0.length → ∃ (β γ : Type) (k1 : Option Value → Sem β) (k2 : β → Sem γ) (k3 : γ → Sem (List (Str × Value))) (c : β), bindArgs (PySem.W.fnOf m qual (defArgs st) (defBody st) (defScope st) .none (.ref D0) doc pm an cdv ct) ⟨us, []⟩ = ((nsGet D0 kn >>= k1) >>= k2) >>= k3 ∧ k1 (some cw) = pure c ∧ (k2 c >>= k3) = (newTuple [] >>= fun t => pure ((ps0 ++ [kn]).zip (us ++ [cw]) ++ [(pv, t)]))) ∧
    (∀ (us : List Value) (r0 : Value) (rs : List Value), us.length = ps0.length → ∃ (β γ : Type) (k1 : Option Value → Sem β) (k2 : β → Sem γ) (k3 : γ → Sem (List (Str × Value))) (c : β), bindArgs (PySem.W.fnOf m qual (defArgs st) (defBody st) (defScope st) .none (.ref D0) doc pm an cdv ct) ⟨us ++ r0 :: rs, []⟩ = ((nsGet D0 kn >>= k1) >>= k2) >>= k3 ∧ k1 (some cw) = pure c ∧ (k2 c >>= k3) = (newTuple (r0 :: rs) >>= fun t => pure ((ps0 ++ [kn]).zip (us ++ [cw]) ++ [(pv, t)])))
/-- def f(self, .., *, k=..) -/
structure KWDef (K : PySem.W.Frag) (C : Addr) (m qual : Str) (st : Stmt) (ps0 : List Str) (kn : Str) (cd : D) (f : Addr) : Prop where
  mt : Meth K C m f
  fn : ∃ (oc doc pm cdv ct cw : Value) (cv : V) (od an : Option Addr) (osl : Array (Option Value)) (D0 : Addr), K.lookup f = some ⟨oc, od, .func (PySem.W.fnOf m qual (defArgs st) (defBody st) (defScope st) .none (.ref D0) doc pm an cdv ct), osl⟩ ∧ PySem.W.codeIn K cdv qual = true ∧
    PySem.W.nsIn K D0 kn = some (some cw) ∧ RelV cv cw ∧ (∀ G, Rep K G cd cv) ∧
    (∀ (us : List Value) (z : Value), us.length = ps0.length → bindArgs (PySem.W.fnOf m qual (defArgs st) (defBody st) (defScope st) .none (.ref D0) doc pm an cdv ct) ⟨us, [(kn, z)]⟩ = pure ((ps0 ++ [kn]).zip (us ++ [z]))) ∧
    (∀ (us : List Value), us.length = ps0.length → KwChain D0 [(kn, cw)] (bindArgs (PySem.W.fnOf m qual (defArgs st) (defBody st) (defScope st) .none (.ref D0) doc pm an cdv ct) ⟨us, []⟩) ((ps0 ++ [kn]).zip (us ++ [cw])))
/-- def f(a, .., k=..) -/
structure PDDef (K : PySem.W.Frag) (mg : Str → Option Value) (nm : Str) (st : Stmt) (ps : List Str) (n : Nat) (dds : List D) (f : Addr) : Prop where
  g : mg nm = some (.ref f)
  k : PySem.W.keepIn K (.ref f) = true
  fn : ∃ (oc kV doc pm cdv ct : Value) (od an : Option Addr) (osl : Array (Option Value)) (T : Addr) (o : Obj) (its : List Value) (m : Nat) (dvs : List V), K.lookup f = some ⟨oc, od, .func (PySem.W.fnOf nm nm (defArgs st) (defBody st) (defScope st) (.ref T) kV doc pm an cdv ct), osl⟩ ∧ PySem.W.codeIn K cdv nm = true ∧
    K.lookup T = some o ∧ o.data = .seq its.toArray m ∧ Vals dvs its ∧ (∀ G, RepL K G dds dvs) ∧
    (∀ us : List Value, us.length = n → ∃ k, bindArgs (PySem.W.fnOf nm nm (defArgs st) (defBody st) (defScope st) (.ref T) kV doc pm an cdv ct) ⟨us, []⟩ = seqItems? (.ref T) >>= k ∧ k (some its.toArray) = pure (ps.zip (us ++ its))) ∧
    (∀ us : List Value, us.length = ps.length → ∃ k, bindArgs (PySem.W.fnOf nm nm (defArgs st) (defBody st) (defScope st) (.ref T) kV doc pm an cdv ct) ⟨us, []⟩ = seqItems? (.ref T) >>= k ∧ k (some its.toArray) = pure (ps.zip us))
section
variable {P : Program} {w : World} {K : PySem.W.Frag} {mg : Str → Option Value} {base : Heap} {nm qual m pv kn : Str} {st : Stmt} {f C : Addr} {N ps ps0 : List Str} {k n : Nat} {sp : DSp} {cd : D} {dds : List D}
/-- .. without k -/
def starSp0 (n : Nat) (cd : D) (sp : DSp) : DSp := fun ds O E Q => ∃ ws rest, ds = ws ++ rest ∧ ws.length = n ∧ rest.length ≤ 100000 ∧ sp (ws ++ [cd] ++ [.tup rest]) O E Q
theorem SKDef.ok0 (D : SKDef K C m qual st ps0 kn pv cd f) (S : FnS N (ps0 ++ [kn] ++ [pv]) (defScope st)) (h : BodyOk P w K mg base k N st sp) : DFn P w K mg base (k + 1) f (starSp0 ps0.length cd sp) := by
  obtain ⟨oc, doc, pm, cdv, ct, cw, cv, od, an, osl, D0, lk, hcd, hD, rv, rd, hb, hb0, hb1⟩ := D.fn
  refine dfn_starK lk hcd S h hD rv rd fun us rest hl => ?_
  cases rest with
  | nil => rw [List.append_nil]; exact hb0 us hl
  | cons r0 rs => exact hb1 us r0 rs hl
theorem KWDef.ok0 (D : KWDef K C m qual st ps0 kn cd f) (S : FnS N (ps0 ++ [kn]) (defScope st)) (h : BodyOk P w K mg base k N st sp) : DFn P w K mg base (k + 1) f (fun ds O E Q => ds.length = ps0.length ∧ sp (ds ++ [cd]) O E Q) := by
  obtain ⟨oc, doc, pm, cdv, ct, cw, cv, od, an, osl, D0, lk, hcd, hD, rv, rd, hb, hb0⟩ := D.fn
  exact dfn_kw lk hcd S h hD rv rd hb0
theorem PDDef.ok0 (D : PDDef K mg nm st ps n dds f) (S : FnS N ps (defScope st)) (hn : n + dds.length = ps.length) (h : BodyOk P w K mg base k N st sp) : DFn P w K mg base (k + 1) f (fun ds O E Q => ds.length = n ∧ sp (ds ++ dds) O E Q) := by
  obtain ⟨oc, kV, doc, pm, cdv, ct, od, an, osl, T, o, its, m, dvs, lk, hcd, lT, oT, rT, rd, hb0, hb⟩ := D.fn
  exact dfn_dflt lk hcd S h lT oT rT rd hn hb0
end
end DL
end
section
set_option maxRecDepth 100000
set_option maxHeartbeats 4000000
set_option autoImplicit false
namespace DL
open PySem PySem.Spec PyProof.Rows L2
/-- a list or a tuple, seen from the abstract heap -/
def SqX (K : PySem.W.Frag) (t : Bool) (H : Hp) (a : Addr) (xs : List V) : Prop := if t = true then SqT K H a xs else SqL K H a xs
def SeqX (t : Bool) (h : Heap) (a : Addr) (its : Array Value) : Prop := if t = true then h.IsTuple a its else h.IsList a its
theorem SqX.at_ {X : Cx} {pins : List (Addr × Obj)} {σ : L2.St} {H : Hp} {s : Shared} {t : Bool} {a : Addr} {xs : List V} (I : Inv X pins σ H s) (h : SqX X.K t H a xs) : ∃ its : List Value, Vals xs its ∧ SeqX t s.heap a its.toArray ∧ a < s.heap.objs.size := by
  cases t with
  | true =>
    obtain ⟨its, rv, p, _⟩ := I.tuple h
    obtain ⟨o, ho, _⟩ := id p
    exact ⟨its, rv, p, Heap.lt_size ho⟩
  | false =>
    obtain ⟨its, rv, p, _⟩ := I.list h
    exact ⟨its, rv, p.isList, p.lt⟩
theorem SqX.inj {X : Cx} {pins : List (Addr × Obj)} {σ : L2.St} {H : Hp} {s : Shared} {t : Bool} {a : Addr} {xs ys : List V} (I : Inv X pins σ H s) (h : SqX X.K t H a xs) (h' : SqX X.K t H a ys) : xs = ys := by
  cases t with
  | true => exact I.tuple_inj h h'
  | false => exact I.list_inj h h'
theorem SqX.mono {K : PySem.W.Frag} {t : Bool} {H H' : Hp} {a : Addr} {xs : List V} (e : Ex H H') (h : SqX K t H a xs) : SqX K t H' a xs := by
  cases t with
  | true => exact e.seqT h
  | false => exact e.seqL h
end DL
end
section
set_option maxRecDepth 100000
set_option maxHeartbeats 4000000
set_option autoImplicit false
namespace DL
open PySem PySem.Spec PyProof.Rows L2
section
variable {X : Cx} {N : List Str} {sc scope : Scope} {δ : DEnv} {O : Own} {E : XD → Own → Prop} {Q : D → Own → Prop} {pos p : Pos} {B : Bk} {nx : DEnv → Own → Prop}
theorem flat_ints (l : List Int) : (l.map V.int).all flatV = true := by
  induction l with
  | nil => rfl
  | cons x l ih => rw [List.map_cons, List.all_cons, ih]; rfl
theorem inV_int (x : Int) : ∀ l : List Int, inV (.int x) (l.map V.int) = decide (x ∈ l)
  | [] => rfl
  | y :: l => by
    have ih := inV_int x l
    unfold inV at ih ⊢
    rw [List.map_cons, List.any_cons, ih]
    by_cases h : x = y
    · subst h
      simp [eqV]
    · have h' : ¬ y = x := fun z => h z.symm
      simp [eqV, h, h']
theorem db_inI {x : Int} {is : List Int} {d : D} (sq : Seq d (is.map D.int)) (q : Q (.bl (decide (x ∈ is))) O) : DB X (compareOp .In) (.int x) d δ O E Q := db_of op_in_seq fun v u W tk G σ H Q' p r s hE hQ => by
  obtain ⟨p1, p2⟩ := p
  obtain ⟨a, vs, e, hq, rl⟩ := seq_rep sq p2
  have e2 := repL_int rl
  cases p1
  subst e e2
  exact ⟨a, _, rfl, hq.imp (fun h => s.sub.seqL h) (fun h => s.sub.seqT h), rfl, flat_ints is, by
    show Q' (.bl (inV (.int x) (is.map V.int))) H
    rw [inV_int]
    exact hQ _ _ _ _ _ (Step.refl s) (.bl _) q⟩
theorem de_neg {e : Expr} (h : DE X e δ O E fun d O1 => ∃ i, d = .int i ∧ Q (.int (-i)) O1) : DE X (.UnaryOp .USub e pos) δ O E Q :=
  de_of (pe_un un_neg pe_sem) fun W tk G σ H Q' p r s hE hQ => h W tk G σ H _ p r s hE fun G1 H1 O1 d v st rd ⟨i, ed, q⟩ => by
    subst ed
    cases rd
    exact ⟨i, rfl, hQ _ _ _ _ _ st (.int _) q⟩
theorem eqv_nil : ∀ ds : List D, PyData.eqv (toP (.lst ds)) (toP (.lst [])) = ds.isEmpty
  | [] => by simp [toP, toPs, PyData.eqv]; rfl
  | d :: ds => by simp [toP, toPs, PyData.eqv]; rfl
theorem db_eqNil {k : Nat} {d : D} {ds : List D} (hr : Room k X.A) (v : View O d (.lst ds)) (ok : okD (.lst ds)) (q : Q (.bl ds.isEmpty) O) : DB X (compareOp .Eq) d (.lst []) δ O E Q :=
  db_eqV hr v (.lst .nil) ok (okD_of rfl (by simp [depthD, depthDs])) (by rw [eqv_nil]; exact q)
theorem star_tup {xs : List D} {C : List D → Prop} (q : C xs) : ∃ ys, (D.tup xs = .tup ys ∨ D.tup xs = .lst ys) ∧ C ys := ⟨xs, .inl rfl, q⟩
theorem star_lst {xs : List D} {C : List D → Prop} (q : C xs) : ∃ ys, (D.lst xs = .tup ys ∨ D.lst xs = .lst ys) ∧ C ys := ⟨xs, .inr rfl, q⟩
end
end DL
end
section
set_option maxRecDepth 100000
set_option maxHeartbeats 4000000
set_option autoImplicit false
namespace DL
open PySem PySem.Spec PyProof.Rows L2
theorem dOpt_none : dOpt none = .non := rfl
theorem dOpt_some (i : Int) : dOpt (some i) = .int i := rfl
/-- what sounds in each beat -/
def rowP (ns : List Note) : List (Option Int) := ns.flatMap fun n => List.replicate n.2.toNat n.1
theorem rowFrom_fst : ∀ (ns : List Note) (k : Nat), (rowFrom k ns).map (·.1) = rowP ns
  | [], _ => rfl
  | n :: r, k => by
    unfold rowP
    rw [rowFrom, List.map_append, rowFrom_fst r, List.flatMap_cons, List.map_replicate]
    rfl
theorem rowOf_fst (ns : List Note) : (rowOf ns).map (·.1) = rowP ns := rowFrom_fst ns 0
theorem rowP_length (ns : List Note) : (rowP ns).length = (rowOf ns).length := by rw [← rowOf_fst, List.length_map]
theorem Mel.rowP_len {ns : List Note} (m : Mel ns) : 1 ≤ (rowP ns).length ∧ (rowP ns).length ≤ 512 := by rw [rowP_length]; exact m.row_len
theorem rowP_append (a b : List Note) : rowP (a ++ b) = rowP a ++ rowP b := by simp [rowP]
/-- the pitch in a beat, the melody repeated for ever -/
def soundAt (ns : List Note) (b : Int) : Option Int := ((rowP ns)[(b % (rowP ns).length).toNat]?).getD none
/-- all pitches higher by k -/
def shiftN (k : Int) (ns : List Note) : List Note := ns.map fun n => (n.1.map (· + k), n.2)
theorem shiftN_length (k : Int) (ns : List Note) : (shiftN k ns).length = ns.length := by simp [shiftN]
theorem rowP_shift (k : Int) (ns : List Note) : rowP (shiftN k ns) = (rowP ns).map (·.map (· + k)) := by
  unfold rowP shiftN
  rw [List.flatMap_map, List.map_flatMap]
  congr 1
  funext n
  rw [List.map_replicate]
theorem soundAt_shift (k : Int) (ns : List Note) (b : Int) : soundAt (shiftN k ns) b = (soundAt ns b).map (· + k) := by
  unfold soundAt
  rw [rowP_shift, List.length_map, List.getElem?_map]
  cases (rowP ns)[(b % ((rowP ns).length : Int)).toNat]? <;> rfl
def inRange (ns : List Note) : Bool := ns.all fun n => match n.1 with | none => true | some p => decide (0 ≤ p ∧ p ≤ 127)
theorem okNote_iff {n : Note} : okNote n = true ↔ (∀ p, n.1 = some p → 0 ≤ p ∧ p ≤ 127) ∧ 1 ≤ n.2 ∧ n.2 ≤ 16 := by
  unfold okNote
  obtain ⟨p, b⟩ := n
  cases p with
  | none => simp
  | some p => simp
theorem mel_shift {k : Int} {ns : List Note} (m : Mel ns) (h : inRange (shiftN k ns) = true) : Mel (shiftN k ns) := by
  refine ⟨fun n hn => ?_, by rw [shiftN_length]; exact m.pos, by rw [shiftN_length]; exact m.le⟩
  have h1 := List.all_eq_true.1 h n hn
  obtain ⟨n0, h0, rfl⟩ := List.mem_map.1 hn
  have h2 := okNote_iff.1 (m.ok n0 h0)
  refine okNote_iff.2 ⟨fun p hp => ?_, h2.2⟩
  rw [hp] at h1
  exact of_decide_eq_true h1
/-- two pitches, or none, clash -/
def clashP (sharp : List Int) (a b : Option Int) : Bool := match a, b with
  | some x, some y => decide ((if x - y < 0 then -(x - y) else x - y) % 12 ∈ sharp)
  | _, _ => false
def clashI (sharp : List Int) (row : List (Option Int)) (i j : Nat) : Bool := clashP sharp (row[i]?.getD none) (row[j]?.getD none)
/-- the pairs of voices that clash -/
def pairsOf (sharp : List Int) (row : List (Option Int)) : List (Nat × Nat) :=
  (List.range row.length).flatMap fun i => ((List.range' (i + 1) (row.length - (i + 1))).filter fun j => clashI sharp row i j).map fun j => (i, j)
structure Sharp (is : List Int) : Prop where
  rng : ∀ x ∈ is, 0 ≤ x ∧ x ≤ 11
  asc : is.Pairwise (· < ·)
theorem asc_len : ∀ {is : List Int} {lo hi : Int}, is.Pairwise (· < ·) → (∀ x ∈ is, lo ≤ x ∧ x ≤ hi) → (is.length : Int) ≤ max 0 (hi - lo + 1)
  | [], lo, hi, _, _ => by simp; omega
  | x :: is, lo, hi, ha, hr => by
    have ha' := List.pairwise_cons.1 ha
    have hx := hr x List.mem_cons_self
    have ih := asc_len (lo := x + 1) (hi := hi) ha'.2 fun y hy => ⟨by have := ha'.1 y hy; omega, (hr y (List.mem_cons_of_mem _ hy)).2⟩
    simp only [List.length_cons]
    omega
theorem Sharp.le {is : List Int} (h : Sharp is) : is.length ≤ 12 := by
  have := asc_len h.asc h.rng
  omega
theorem sharp_default : Sharp [1, 2, 6, 10, 11] := ⟨by decide, by decide⟩
abbrev Voice := Int × Int
abbrev dVoice (v : Voice) : D := .tup [.int v.1, .int v.2]
/-- what all voices sing in a beat -/
def soundsR (ns : List Note) (vs : List Voice) (b : Int) : List (Option Int) := vs.map fun v => if v.1 ≤ b then (soundAt ns (b - v.1)).map (· + v.2) else none
theorem soundsR_length {ns : List Note} {vs : List Voice} {b : Int} : (soundsR ns vs b).length = vs.length := by simp [soundsR]
abbrev dPair (p : Nat × Nat) : D := .tup [.int (p.1 : Nat), .int (p.2 : Nat)]
abbrev dSnd (l : List (Option Int)) : List D := l.map dOpt
/-- the pairs that clash in a beat -/
def pairsAt (ns : List Note) (vs : List Voice) (sharp : List Int) (b : Int) : List (Nat × Nat) := pairsOf sharp (soundsR ns vs b)
/-- the pairs, as far as two loops have come -/
def pairsFrom (sharp : List Int) (row : List (Option Int)) (i j : Nat) : List (Nat × Nat) := ((List.range' (i + 1) j).filter fun j => clashI sharp row i j).map fun j => (i, j)
def pairsTo (sharp : List Int) (row : List (Option Int)) (i : Nat) : List (Nat × Nat) := (List.range i).flatMap fun i => pairsFrom sharp row i (row.length - (i + 1))
theorem pairsTo_all (sharp : List Int) (row : List (Option Int)) : pairsTo sharp row row.length = pairsOf sharp row := rfl
theorem pairsTo_succ (sharp : List Int) (row : List (Option Int)) (i : Nat) : pairsTo sharp row (i + 1) = pairsTo sharp row i ++ pairsFrom sharp row i (row.length - (i + 1)) := by
  unfold pairsTo
  rw [List.range_succ, List.flatMap_append]
  simp
theorem pairsFrom_len (sharp : List Int) (row : List (Option Int)) (i j : Nat) : (pairsFrom sharp row i j).length ≤ j := by
  unfold pairsFrom
  rw [List.length_map]
  have := List.length_filter_le (fun j => clashI sharp row i j) (List.range' (i + 1) j)
  simpa using this
theorem pairsTo_len (sharp : List Int) (row : List (Option Int)) : ∀ i : Nat, (pairsTo sharp row i).length ≤ i * row.length
  | 0 => by simp [pairsTo]
  | i + 1 => by
    have h1 := pairsTo_len sharp row i
    have h2 := pairsFrom_len sharp row i (row.length - (i + 1))
    rw [pairsTo_succ, List.length_append, Nat.succ_mul]
    omega
end DL
end
section
set_option maxRecDepth 100000
set_option maxHeartbeats 4000000
set_option autoImplicit false
namespace DL
open PySem PySem.Spec PyProof.Rows L2
section
variable {X : Cx} {δ : DEnv} {O O3 : Own} {E : XD → Own → Prop} {Q : D → Own → Prop}
theorem fput_in {K : PySem.W.Frag} {a C : Addr} {fs : List (Str × D)} {g : Str} {y : D} {nx : Own → Prop} (ha : At a (.ins C fs) O) (c : Cls K C) (n : NoAttr K C g) (l : Nat.blt fs.length 900 = true) (p : Put a (.ins C (putD g y fs)) O O3) (q : nx O3) :
    ∃ a' C' fs' O3, D.ref a = .ref a' ∧ At a' (.ins C' fs') O ∧ Cls K C' ∧ NoAttr K C' g ∧ fs'.length < 900 ∧ Put a' (.ins C' (putD g y fs')) O O3 ∧ nx O3 := ⟨a, C, fs, O3, rfl, ha, c, n, Nat.lt_succ_of_le (by simpa [Nat.blt] using l), p, q⟩
theorem eqv_nilT : ∀ ds : List D, PyData.eqv (toP (.tup ds)) (toP (.tup [])) = ds.isEmpty
  | [] => by simp [toP, toPs, PyData.eqv]; rfl
  | d :: ds => by simp [toP, toPs, PyData.eqv]; rfl
theorem db_eqNilT {k : Nat} {ds : List D} (hr : Room k X.A) (ok : okD (.tup ds)) (q : Q (.bl ds.isEmpty) O) : DB X (compareOp .Eq) (.tup ds) (.tup []) δ O E Q :=
  db_eqV hr (view_plain _ ok.1) (.tup .nil) ok (okD_of rfl (by simp [depthD, depthDs])) (by rw [eqv_nilT]; exact q)
end
theorem plainDs_all : ∀ {ds : List D}, (∀ d ∈ ds, plainD d = true) → plainDs ds = true
  | [], _ => rfl
  | d :: ds, h => by rw [plainDs, h d List.mem_cons_self, plainDs_all fun e he => h e (List.mem_cons_of_mem _ he)]; rfl
theorem depthDs_all {n : Nat} : ∀ {ds : List D}, (∀ d ∈ ds, depthD d ≤ n) → depthDs ds ≤ n
  | [], _ => Nat.zero_le _
  | d :: ds, h => by
    rw [depthDs]
    exact Nat.max_le.2 ⟨h d List.mem_cons_self, depthDs_all fun e he => h e (List.mem_cons_of_mem _ he)⟩
theorem okD_ltup {ds : List D} {n : Nat} (hp : ∀ d ∈ ds, plainD d = true) (hd : ∀ d ∈ ds, depthD d ≤ n) (hn : n ≤ 60) : okD (.tup ds) ∧ okD (.lst ds) := by
  have h1 := plainDs_all hp
  have h2 := depthDs_all hd
  exact ⟨okD_of h1 (by simp only [depthD]; omega), okD_of h1 (by simp only [depthD]; omega)⟩
theorem plain_dOpt (o : Option Int) : plainD (dOpt o) = true ∧ depthD (dOpt o) = 0 := by cases o <;> exact ⟨rfl, by simp [dOpt, depthD]⟩
end DL
end
section
set_option maxRecDepth 100000
set_option maxHeartbeats 4000000
set_option autoImplicit false
namespace DL
open PySem PySem.Spec PyProof.Rows L2
theorem cut_from {xs : List D} {n : Int} (h : 0 ≤ n) : cutD xs (some n) none = xs.drop n.toNat := by
  simp only [cutD, HT.sIx, if_neg (show ¬ n < 0 by omega)]
  rcases Nat.le_total n.toNat xs.length with q | q
  · rw [Nat.min_eq_left q, List.take_of_length_le (by rw [List.length_drop]; omega)]
  · rw [Nat.min_eq_right q, List.drop_eq_nil_of_le (Nat.le_refl _), List.drop_eq_nil_of_le q]; simp
/-- the sum of the first so many -/
def upTo (f : Nat → Int) : Nat → Int
  | 0 => 0
  | n + 1 => upTo f n + f n
theorem upTo_add (f : Nat → Int) (a : Nat) : ∀ b, upTo f (a + b) = upTo f a + upTo (fun i => f (a + i)) b
  | 0 => by simp [upTo]
  | b + 1 => by rw [← Nat.add_assoc, upTo, upTo_add f a b, upTo]; omega
theorem upTo_congr {f g : Nat → Int} : ∀ {n : Nat}, (∀ i, i < n → f i = g i) → upTo f n = upTo g n
  | 0, _ => rfl
  | n + 1, h => by rw [upTo, upTo, upTo_congr fun i q => h i (by omega), h n (by omega)]
theorem upTo_mono {f : Nat → Int} (h0 : ∀ i, 0 ≤ f i) {a : Nat} : ∀ {b : Nat}, a ≤ b → upTo f a ≤ upTo f b
  | 0, h => by rw [Nat.le_zero.1 h]; exact Int.le_refl _
  | b + 1, h => by
    rcases Nat.lt_or_ge b a with q | q
    · rw [show a = b + 1 by omega]; exact Int.le_refl _
    · have := upTo_mono h0 q; have := h0 b; rw [upTo]; omega
/-- from s on all repeats after z -/
def Per (f : Nat → Int) (s z : Nat) : Prop := ∀ i, s ≤ i → f (i + z) = f i
theorem Per.step {f : Nat → Int} {s z : Nat} (h : Per f s z) {b : Nat} (hb : s ≤ b) : upTo f (b + z) = upTo f b + (upTo f (s + z) - upTo f s) := by
  obtain ⟨r, rfl⟩ := Nat.le.dest hb
  rw [show s + r + z = (s + z) + r by omega, upTo_add f (s + z) r, upTo_add f s r]
  have e : upTo (fun i => f (s + z + i)) r = upTo (fun i => f (s + i)) r := upTo_congr fun i _ => by
    show f (s + z + i) = f (s + i)
    rw [show s + z + i = s + i + z by omega]
    exact h _ (by omega)
  rw [e]
  omega
/-- the beat with a number -/
def IsNth (f : Nat → Int) (n : Int) : Option Nat → Prop
  | none => ∀ b, upTo f b < n
  | some b => upTo f b < n ∧ n ≤ upTo f (b + 1)
theorem IsNth.uniq {f : Nat → Int} (h0 : ∀ i, 0 ≤ f i) {n : Int} {r t : Option Nat} (h1 : IsNth f n r) (h2 : IsNth f n t) : r = t := by
  cases r with
  | none =>
    cases t with
    | none => rfl
    | some b => have := h1 (b + 1); have := h2.2; omega
  | some c =>
    cases t with
    | none => have := h2 (c + 1); have := h1.2; omega
    | some b =>
      obtain ⟨a1, a2⟩ := h1
      obtain ⟨b1, b2⟩ := h2
      rcases Nat.lt_trichotomy b c with q | q | q
      · have := upTo_mono h0 (show b + 1 ≤ c from q); omega
      · rw [q]
      · have := upTo_mono h0 (show c + 1 ≤ b from q); omega
def cntR (ns : List Note) (vs : List Voice) (sharp : List Int) (b : Nat) : Int := ((pairsAt ns vs sharp (b : Nat)).length : Int)
theorem lst_in {P : List D → Prop} {l : List D} (h : P l) : ∃ xs, D.lst l = .lst xs ∧ P xs := ⟨l, rfl, h⟩
section
variable {X : Cx} {δ : DEnv} {O : Own} {B : Bk} {nx : DEnv → Own → Prop}
theorem DSs.imp {ss : List Stmt} {P : DEnv → Own → Prop} (h : DSs X ss δ O B P) (q : ∀ δ1 O1, P δ1 O1 → nx δ1 O1) : DSs X ss δ O B nx := fun W tk G σ H D r s l =>
  h W tk G σ H D r s ⟨fun _ _ _ _ _ s r p => l.nx _ _ _ _ _ s r (q _ _ p), l.rt, l.bk, l.ct, l.ex⟩
end
end DL
end
section
set_option maxRecDepth 100000
set_option maxHeartbeats 4000000
set_option autoImplicit false
namespace DL
open PySem PySem.Spec PyProof.Rows L2
/-- the first of the beats -/
def IsFst (P : Nat → Prop) : Option Nat → Prop
  | none => ∀ b, ¬ P b
  | some b => P b ∧ ∀ c, c < b → ¬ P c
end DL
end
section
set_option maxRecDepth 100000
set_option maxHeartbeats 4000000
set_option autoImplicit false
namespace L2
open PySem PySem.Spec PyProof.Rows GenW
open Sem (wp)
end L2
end
section
set_option maxRecDepth 100000
set_option maxHeartbeats 4000000
set_option autoImplicit false
namespace DL
open PySem PySem.Spec PyProof.Rows L2
structure YBk where
  rt : List D → D → Own → Prop
  bk : List D → DEnv → Own → Prop
  ct : List D → DEnv → Own → Prop
  ex : XD → DEnv → Own → Prop
def YBk.at (B : YBk) (out : List D) : Bk := ⟨B.rt out, B.bk out, B.ct out, B.ex⟩
structure LkY (X : Cx) (W : WX) (G : Hp) (O : Own) (H : Hp) (B : YBk) (nx : List D → DEnv → Own → Prop) (D : GEnds) : Prop where
  nx : ∀ G' H' O' δ' σ' ds ys, Step X.K G O H G' O' H' → REnv X.K G' δ' σ' → RepL X.K G' ds ys → nx ds δ' O' → D.nx ys σ' H'
  rt : ∀ G' H' O' d v ds ys, Step X.K G O H G' O' H' → Rep X.K G' d v → RepL X.K G' ds ys → B.rt ds d O' → D.rt ys v H'
  bk : ∀ G' H' O' δ' σ' ds ys, Step X.K G O H G' O' H' → REnv X.K G' δ' σ' → RepL X.K G' ds ys → B.bk ds δ' O' → D.bk ys σ' H'
  ct : ∀ G' H' O' δ' σ' ds ys, Step X.K G O H G' O' H' → REnv X.K G' δ' σ' → RepL X.K G' ds ys → B.ct ds δ' O' → D.ct ys σ' H'
  ex : ∀ G' H' O' δ' σ' x c dd, Step X.K G O H G' O' H' → REnv X.K G' δ' σ' → XRep X.K G' x c dd → B.ex x δ' O' → W c dd σ' H'
section
variable {X : Cx} {W : WX} {G G1 H H1 : Hp} {O O1 : Own} {B : YBk} {nx nx2 : List D → DEnv → Own → Prop} {D : GEnds}
theorem LkY.step (l : LkY X W G O H B nx D) (a : Step X.K G O H G1 O1 H1) : LkY X W G1 O1 H1 B nx D :=
  ⟨fun _ _ _ _ _ _ _ s => l.nx _ _ _ _ _ _ _ (a.trans s), fun _ _ _ _ _ _ _ s => l.rt _ _ _ _ _ _ _ (a.trans s), fun _ _ _ _ _ _ _ s => l.bk _ _ _ _ _ _ _ (a.trans s), fun _ _ _ _ _ _ _ s => l.ct _ _ _ _ _ _ _ (a.trans s), fun _ _ _ _ _ _ _ _ s => l.ex _ _ _ _ _ _ _ _ (a.trans s)⟩
theorem LkY.at {out : List DL.D} {ys : List V} (l : LkY X W G O H B nx D) (rl : RepL X.K G out ys) : Lk X W G O H (B.at out) (nx out) (D.at ys) :=
  ⟨fun G' H' O' δ' σ' s r q => l.nx G' H' O' δ' σ' out ys s r (rl.mono s.g) q, fun G' H' O' d v s r q => l.rt G' H' O' d v out ys s r (rl.mono s.g) q, fun G' H' O' δ' σ' s r q => l.bk G' H' O' δ' σ' out ys s r (rl.mono s.g) q, fun G' H' O' δ' σ' s r q => l.ct G' H' O' δ' σ' out ys s r (rl.mono s.g) q, l.ex⟩
end
def semYs (X : Cx) (st : List Stmt) : TGn := fun D ys σ H => ∀ (A : Around) (S : Addr) (ip : List (Addr × Obj)) (R : GenEnd) (n : Nat) (s₀ : Shared) (c : Code) (fs : List Frame) (K : Flow → Sem PySem.Fin) (J : Value → Sem PySem.Fin) (gd : Bool → Bool) (lv : List Value → List Value) (s : Shared),
  GC X S ip A c fs gd → n + ys.length = sizeLine → GK X S ip A R c fs K J D → GI X S ip ys σ H s → Seg (model X.prog X.w) A R (GY X S) n s₀ c ((execs st X.env).wrap K J gd lv) fs s
theorem gss_sem {X : Cx} {st : List Stmt} : GSs X st (semYs X st) := ⟨fun A S ip R n ys s₀ c fs K J gd lv s σ H D g hn k hI ht => ht A S ip R n s₀ c fs K J gd lv s g hn k hI⟩
def DYs (X : Cx) (st : List Stmt) (δ : DEnv) (O : Own) (out : List D) (B : YBk) (nx : List D → DEnv → Own → Prop) : Prop :=
  ∀ (W : WX), L2N.Takes X W → ∀ (G : Hp) (σ : L2.St) (H : Hp) (D : GEnds) (ys : List V), REnv X.K G δ σ → Sta X.K G O H → RepL X.K G out ys → LkY X W G O H B nx D → semYs X st D ys σ H
end DL
end
section
set_option maxRecDepth 100000
set_option maxHeartbeats 4000000
set_option autoImplicit false
namespace DL
open PySem PySem.Spec PyProof.Rows L2
abbrev YSp := List D → Own → (XD → Own → Prop) → (List D → Own → Prop) → Prop
def liftY (K : PySem.W.Frag) (sp : YSp) : SpG := fun vs H cont E => ∃ (G : Hp) (ds : List D) (O : Own) (E' : XD → Own → Prop) (Q : List D → Own → Prop), RepL K G ds vs ∧ Sta K G O H ∧
  (∀ G' H' O' x c dd, Step K G O H G' O' H' → XRep K G' x c dd → E' x O' → E c dd H') ∧ (∀ G' H' O' out ys, Step K G O H G' O' H' → RepL K G' out ys → Q out O' → cont ys H') ∧ sp ds O E' Q
structure GnS (N P : List Str) (sc : Scope) : Prop extends GScope N P sc where
  nm : nmOk sc = true
structure GMDef (K : PySem.W.Frag) (C : Addr) (m qual : Str) (st : Stmt) (ps : List Str) (f : Addr) : Prop where
  mt : Meth K C m f
  fn : ∃ fd, Fun K m qual st f fd ∧ Binds K fd ps []
def DGFn (P : Program) (w : World) (K : PySem.W.Frag) (mg : Str → Option Value) (base : Heap) (k : Nat) (f : Addr) (ps : List Str) (sp : YSp) : Prop :=
  ∃ fd, Binds K fd ps [] ∧ GFn P w K mg base k f fd ps (liftY K sp)
abbrev ybOf (Q : List D → Own → Prop) (E : XD → Own → Prop) : YBk := ⟨fun out d O' => d = .non ∧ Q out O', fun _ _ _ => False, fun _ _ _ => False, fun x _ O' => E x O'⟩
def BodyOkY (P : Program) (w : World) (K : PySem.W.Frag) (mg : Str → Option Value) (base : Heap) (k : Nat) (N : List Str) (st : Stmt) (sp : YSp) : Prop :=
  ∀ (X : Cx), Is X P w K mg base → Sc X N (defScope st) → Df X → Room k X.A → ∀ ds O E Q, sp ds O E Q → DYs X (defBody st) (startD N ds) O [] (ybOf Q E) fun out _ O' => Q out O'
section
variable {P : Program} {w : World} {K : PySem.W.Frag} {mg : Str → Option Value} {base : Heap} {m qual : Str} {st : Stmt} {C f : Addr} {N ps : List Str} {k : Nat} {sp : YSp}
theorem GMDef.ok (D : GMDef K C m qual st ps f) (S : GnS N ps (defScope st)) (len : ∀ ds O E Q, sp ds O E Q → ds.length = ps.length) (h : BodyOkY P w K mg base k N st sp) : DGFn P w K mg base (k + 1) f ps sp := by
  obtain ⟨fd, F, b⟩ := D.fn
  refine ⟨fd, b, ?_⟩
  obtain ⟨oc, od, kV, doc, pm, an, cdv, ct, osl, rfl, lk, hcd⟩ := F.ex
  refine gfn_of lk hcd S.toGScope (fun vs H Q E ⟨G, ds, O, E', Q', rl, _, _, _, hs⟩ => by rw [rl.length]; exact len _ _ _ _ hs) fun A outer s H vs Q E pn hr hsp => ?_
  obtain ⟨G, ds, O, E', Q', rl, sta, hE, hQ, hs⟩ := hsp
  refine ⟨_, gss_sem, ?_⟩
  exact h (gcxOf P w K mg base N qual (defScope st) f cdv A outer s H E pn) ⟨rfl, rfl, rfl, rfl, rfl, L2H.passesAt_of (X := gcxOf P w K mg base N qual (defScope st) f cdv A outer s H E pn) (K := fun e s2 => L2.CX P w outer H s E e s2 ∧ ∀ p ∈ pn, s2.heap.get? p.1 = some p.2) (E₁ := fun _ _ => False) rfl⟩ ⟨S.nm, rfl, rfl, S.nd, rfl⟩ ⟨fun _ => rfl, rfl, rfl, rfl, owns_gcx⟩ hr ds O E' Q' hs _ (toN takes_gcx) G _ H _ _ (start_rep rl) sta .nil
    ⟨fun G' H' O' δ' σ' out ys s' r' rl' q => hQ G' H' O' out ys s' rl' q, fun G' H' O' d v out ys s' rd rl' q => by
      obtain ⟨ed, q⟩ := q
      subst ed
      cases rd
      exact ⟨rfl, hQ G' H' O' out ys s' rl' q⟩, fun _ _ _ _ _ _ _ _ _ _ z => z.elim, fun _ _ _ _ _ _ _ _ _ _ z => z.elim, fun G' H' O' δ' σ' x c dd s' r' xr e => hE G' H' O' x c dd s' xr e⟩
end
end DL
end
section
set_option maxRecDepth 100000
set_option maxHeartbeats 4000000
set_option autoImplicit false
namespace DL
open PySem PySem.Spec PyProof.Rows L2
end DL
end
section
set_option maxRecDepth 100000
set_option maxHeartbeats 4000000
set_option autoImplicit false
namespace DL
open PySem PySem.Spec PyProof.Rows L2
end DL
end
section
set_option maxRecDepth 100000
set_option maxHeartbeats 4000000
set_option autoImplicit false
namespace DL
open PySem PySem.Spec PyProof.Rows L2
end DL
end
section
set_option maxRecDepth 100000
set_option maxHeartbeats 4000000
set_option autoImplicit false
namespace DL
open PySem PySem.Spec PyProof.Rows PySem.W L2
section
variable {X : Cx} {N : List Str} {sc : Scope} {δ : DEnv} {O : Own} {E : XD → Own → Prop} {Q : D → Own → Prop} {QT : Bool → Own → Prop} {pos p apos : Pos} {d y : D} {C f : Addr} {fs : List (Str × D)} {k : Nat} {sp : DSp} {tb : Value}
/-- a value's type: a built-in one, or the class of an instance -/
inductive TyOf : D → Own → Value → Prop
  | ty {y : D} {O : Own} (h : tyD y ≠ "") : TyOf y O (.type (tyD y))
  | ins {y : D} {O : Own} {C : Addr} {gs : List (Str × D)} (i : IsIns y O C gs) : TyOf y O (.ref C)
theorem TyOf.looks {G H : Hp} {pins : List (Addr × Obj)} {σ : L2.St} {s : Shared} {v : V} {u : Value} (t : TyOf y O tb) (I : Inv X pins σ H s) (rd : Rep X.K G y v) (sta : Sta X.K G O H) (ru : RelV v u) : PySem.W.Looks (model X.prog X.w) s.heap (typeOf u) tb := by
  cases t with
  | ty h => exact looks_ty I rd sta.sub ru h
  | ins i =>
    obtain ⟨a, dx, vs, ev, ha, rf⟩ := i.get rd sta
    subst ev
    obtain rfl : u = Value.ref a := ru
    obtain ⟨mA, O2, _, _, _, _⟩ := ins_get I.hok ha
    obtain ⟨od, J, _⟩ := O2.look
    exact J.type
end
end DL
end
section
set_option maxRecDepth 100000
set_option maxHeartbeats 4000000
set_option autoImplicit false
namespace DL
open PySem PySem.Spec PyProof.Rows L2
section
variable {X : Cx} {N : List Str} {sc : Scope} {δ : DEnv} {O : Own} {E : XD → Own → Prop} {Q : D → Own → Prop} {B : Bk} {nx : DEnv → Own → Prop} {pos : Pos}
theorem dc_intB {b : Bool} (q : Q (.int (if b then 1 else 0)) O) : DC X (.type "int") [.bl b] δ O E Q := dc_of call_int1 fun vs W tk G σ H Q' p r s hE hQ => by
  cases p with
  | cons p1 pr =>
    cases pr
    cases p1
    exact .inr ⟨b, rfl, hQ _ _ _ _ _ (Step.refl s) (.int _) q⟩
end
end DL
end
section
set_option maxRecDepth 100000
set_option maxHeartbeats 4000000
set_option autoImplicit false
namespace DL
open PySem PySem.Spec PyProof.Rows L2
/-- the same sounds at every beat -/
def SameS (n1 n2 : List Note) : Prop := ∀ b : Int, soundAt n1 b = soundAt n2 b
section
variable {n1 n2 : List Note} {v1 v2 vs : List Voice} {sharp : List Int}
theorem SameS.snd (h : SameS n1 n2) (b : Int) : soundsR n1 vs b = soundsR n2 vs b := by
  unfold soundsR
  refine List.map_congr_left fun v _ => ?_
  rw [h]
theorem SameS.pairs (h : SameS n1 n2) (b : Int) : pairsAt n1 vs sharp b = pairsAt n2 vs sharp b := by unfold pairsAt; rw [h.snd]
theorem SameS.cnt (h : SameS n1 n2) : cntR n1 vs sharp = cntR n2 vs sharp := funext fun b => by unfold cntR; rw [h.pairs]
end
/-- first beats are told apart -/
theorem IsFst.uniq {P : Nat → Prop} {r t : Option Nat} (h1 : IsFst P r) (h2 : IsFst P t) : r = t := by
  cases r with
  | none => cases t with
    | none => rfl
    | some t => exact absurd h2.1 (h1 t)
  | some r => cases t with
    | none => exact absurd h1.1 (h2 r)
    | some t =>
      rcases Nat.lt_trichotomy r t with l | l | l
      · exact absurd h1.1 (h2.2 r l)
      · rw [l]
      · exact absurd h2.1 (h1.2 t l)
end DL
end
section
set_option maxRecDepth 100000
set_option maxHeartbeats 4000000
set_option autoImplicit false
namespace DL
open PySem PySem.Spec PyProof.Rows L2
theorem cutD_last (xs : List D) (x : D) : cutD (xs ++ [x]) none (some (-1)) = xs := by
  simp only [cutD, HT.sIx, List.drop_zero, Nat.sub_zero, if_pos (show (-1 : Int) < 0 by omega)]
  rw [List.length_append, List.length_singleton, show ((-1 : Int) + ((xs.length + 1 : Nat) : Int)).toNat = xs.length by omega]
  simp
theorem atI_last {α : Type} (xs : List α) (x : α) : atI (xs ++ [x]) (-1) = some x := by
  unfold atI ixN
  rw [if_neg (by omega), if_pos (by rw [List.length_append, List.length_singleton]; omega), List.length_append, List.length_singleton, show ((-1 : Int) + ((xs.length + 1 : Nat) : Int)).toNat = xs.length by omega]
  simp
section
variable {X : Cx} {δ : DEnv} {O : Own} {E : XD → Own → Prop} {Q : D → Own → Prop}
theorem db_neSame {k n : Nat} {x : D} (hr : Room k X.A) (hx : okN n x) (bx : noBl x = true) (q : Q (.bl false) O) (hn : n ≤ 64 := by decide) : DB X (compareOp .NotEq) x x δ O E Q :=
  db_neP hr hx hx bx bx (fun b hb => by
    cases b with
    | false => exact q
    | true => exact absurd rfl (hb.1 rfl)) hn hn
end
end DL
end
section
set_option maxRecDepth 100000
set_option maxHeartbeats 4000000
set_option autoImplicit false
namespace DL
open PySem PySem.Spec PyProof.Rows L2
section
variable {X : Cx}
def rCntD (K : PySem.W.Frag) : V → List V → Hp → VK → Prop := fun x xs H Q => ∃ (a : Addr) (y : V) (d : PyData) (ds : List PyData), x = V.ref a ∧ xs = [y] ∧ Dp K H (V.ref a) (.list ds) ∧ Dp K H y d ∧
  SeqAt.shaped (.list ds) = true ∧ SeqAt.shaped d = true ∧ Q (.int (ds.countP fun z => PyData.eqv z d : Nat)) H
theorem mt_countD (hu : X.A.units + 65 < cLine) : MtR X "list.count" (rCntD X.K) := by
  intro pins s σ H x xs v us Q I rx rxs h
  obtain ⟨a, y, d, ds, rfl, rfl, hl, hy, sl, sd, q⟩ := h
  cases rx
  cases rxs with
  | cons ry rt =>
    rename_i uy ut
    cases rt
    obtain ⟨bs, r1⟩ := Dp.reads I d y uy hy ry
    have hxs : PyData.canLayAll0 ds = true := SeqAt.canLay_of_shaped sl
    have hroom : X.A.units + 1 + min (PyData.depthAll ds) d.depth < cLine := room_in_shaped sd hu
    cases hl with
    | lst hs ha =>
      obtain ⟨its, rv, ⟨⟨cls, dd, data, sls⟩, n, ho, hc, hdn, hdt⟩, hlen⟩ := I.list hs
      simp only at hc hdt
      subst hc hdt
      obtain ⟨as, h4⟩ := Dp.readsAll I ds _ its ha rv
      have hmap : its.map (SeqAt.readOf s.heap) = ds := SeqAt.readsAll_map ds its as hxs h4
      refine call_meets PySem.F.slot_list_count ⟨_, ho, rfl⟩ PySem.F.entry_list_count (PySem.F.args_list_count_2 _ _)
        (SeqAt.list_countAt a its.toArray n dd sls uy (fun u => PyData.eqv (SeqAt.readOf s.heap u) d)) ⟨ho, SeqAt.items_eqAt (vs := its.toArray) (show ReadsAll s.heap its.toArray.toList ds as from h4) r1 hxs (SeqAt.canLay_of_shaped sd) hroom, ?_⟩
      have ec : its.toArray.toList.countP (fun u => PyData.eqv (SeqAt.readOf s.heap u) d) = ds.countP fun z => PyData.eqv z d := by
        rw [← hmap, List.countP_map]
        rfl
      refine ⟨.int (ds.countP fun z => PyData.eqv z d : Nat), H, I.tok _, ⟨s.toks, ?_⟩, q⟩
      show Value.int ((its.toArray.toList.countP _ : Nat) : Int) s.toks = _
      rw [ec]
end
theorem _root_.L2.Room.u65 {k : Nat} {A : Around} (r : Room k A) : A.units + 65 < cLine := by have := r.un; omega
theorem toPs_map : ∀ ds : List D, toPs ds = ds.map toP
  | [] => rfl
  | d :: ds => by rw [toPs, toPs_map ds]; rfl
section
variable {X : Cx} {δ : DEnv} {O : Own} {E : XD → Own → Prop} {Q : D → Own → Prop} {pos apos : Pos}
theorem lst_ty {d : D} {ds : List D} {K : PySem.W.Frag} {G H : Hp} {v : V} (l : Lst d O ds) (r : Rep K G d v) (s : Sta K G O H) : ∃ a xs, v = .ref a ∧ SqL K H a xs := by
  cases l with
  | fz => cases r with
    | lst hq rl => exact ⟨_, _, rfl, .inl (.inl (s.sub _ _ hq))⟩
  | own m =>
    cases r
    obtain ⟨_, o, ho, rc⟩ := s.at_ m
    cases o with
    | lst ws => exact ⟨_, _, rfl, .inl (.inl ho)⟩
    | _ => exact rc.elim
/-- o.count(e) -/
theorem de_count {o e : Expr} (hr : X.A.units + 65 < cLine) (h : DE X o δ O E fun d O1 => ∃ zs, Lst d O1 zs ∧ DE X e δ O1 E fun y O2 => ∃ ds p, View O2 d (.lst ds) ∧ View O2 y p ∧ okD (.lst ds) ∧ okD p ∧ Q (.int (ds.countP fun z => PyData.eqv (toP z) (toP p) : Nat)) O2)
    (hbase : attributeBase o "count" X.env (eval o X.env) = eval o X.env := by with_unfolding_all rfl)
    (hfew : ((backTo pos (starEach [e] X.env)).all (fun x => !x.1) && (backToKw pos (keywordEach [] X.env)).all (fun x => x.1.isSome)
      && decide ([e].length + ([] : List Keyword).length + (if ([] : List Keyword).isEmpty then 0 else 1) < 30)) = true := by with_unfolding_all rfl)
    (hline : (apos.endLine == pos.line) = true := by with_unfolding_all rfl) (hs : starEach [e] X.env = (false, eval e X.env) :: starEach [] X.env := by with_unfolding_all rfl) (hplain : (backTo pos (starEach [] X.env)).any (·.1) = false := by with_unfolding_all rfl) :
    DE X (.Call (.Attribute o "count" apos) [e] [] pos) δ O E Q :=
  de_of (pe_bm PySem.F.plainAttrs_list PySem.F.slot_list_count PySem.F.type_list_count (mt_countD hr) pe_sem (pa_cons pe_sem pa_nil hs) hbase hfew hline hs hplain)
    fun W tk G σ H Q' p r s hE hQ => h W tk G σ H _ p r s hE fun G1 H1 O1 d v st rd ⟨zs, l, h1⟩ => by
      obtain ⟨a, xs, ev, hq⟩ := lst_ty l rd st.sta
      subst ev
      refine ⟨.inl ⟨rfl, xs, hq⟩, ?_⟩
      refine h1 W tk G1 σ H1 _ trivial (r.mono st.g) st.sta (fun _ _ _ _ _ _ st2 => hE _ _ _ _ _ _ (st.trans st2)) fun G2 H2 O2 y v2 st2 ry ⟨ds, pp, vd, vy, od, op, q⟩ => ?_
      have h5 := rep_vw st2.sta vd (rd.mono st2.g)
      refine ⟨a, v2, toP pp, toPs ds, rfl, rfl, h5, rep_vw st2.sta vy ry, od.2, op.2, ?_⟩
      have e9 : (toPs ds).countP (fun z => PyData.eqv z (toP pp)) = ds.countP fun z => PyData.eqv (toP z) (toP pp) := by
        rw [toPs_map, List.countP_map]; rfl
      rw [e9]
      exact hQ _ _ _ _ _ (st.trans st2) (.int _) q
/-- o.index(e), e stands in o -/
theorem de_index {o e : Expr} (hr : X.A.units + 65 < cLine) (h : DE X o δ O E fun d O1 => ∃ zs, Lst d O1 zs ∧ DE X e δ O1 E fun y O2 => ∃ (ds : List D) (p : D) (j : Nat) (z : D), View O2 d (.lst ds) ∧ View O2 y p ∧ okD (.lst ds) ∧ okD p ∧ ds[j]? = some z ∧ PyData.eqv (toP z) (toP p) = true ∧ (∀ m z', m < j → ds[m]? = some z' → PyData.eqv (toP z') (toP p) = false) ∧ Q (.int (j : Nat)) O2)
    (hbase : attributeBase o "index" X.env (eval o X.env) = eval o X.env := by with_unfolding_all rfl)
    (hfew : ((backTo pos (starEach [e] X.env)).all (fun x => !x.1) && (backToKw pos (keywordEach [] X.env)).all (fun x => x.1.isSome)
      && decide ([e].length + ([] : List Keyword).length + (if ([] : List Keyword).isEmpty then 0 else 1) < 30)) = true := by with_unfolding_all rfl)
    (hline : (apos.endLine == pos.line) = true := by with_unfolding_all rfl) (hs : starEach [e] X.env = (false, eval e X.env) :: starEach [] X.env := by with_unfolding_all rfl) (hplain : (backTo pos (starEach [] X.env)).any (·.1) = false := by with_unfolding_all rfl) :
    DE X (.Call (.Attribute o "index" apos) [e] [] pos) δ O E Q :=
  de_of (pe_bm PySem.F.plainAttrs_list PySem.F.slot_list_index PySem.F.type_list_index (mt_indexD hr) pe_sem (pa_cons pe_sem pa_nil hs) hbase hfew hline hs hplain)
    fun W tk G σ H Q' p r s hE hQ => h W tk G σ H _ p r s hE fun G1 H1 O1 d v st rd ⟨zs, l, h1⟩ => by
      obtain ⟨a, xs, ev, hq⟩ := lst_ty l rd st.sta
      subst ev
      refine ⟨.inl ⟨rfl, xs, hq⟩, ?_⟩
      refine h1 W tk G1 σ H1 _ trivial (r.mono st.g) st.sta (fun _ _ _ _ _ _ st2 => hE _ _ _ _ _ _ (st.trans st2)) fun G2 H2 O2 y v2 st2 ry ⟨ds, pp, j, z, vd, vy, od, op, hz, hzj, hno, q⟩ => ?_
      have h5 := rep_vw st2.sta vd (rd.mono st2.g)
      refine ⟨a, v2, toP pp, toPs ds, j, toP z, rfl, rfl, h5, rep_vw st2.sta vy ry, od.2, op.2, ?_, hzj, ?_, hQ _ _ _ _ _ (st.trans st2) (.int _) q⟩
      · rw [toPs_map, List.getElem?_map, hz]; rfl
      · intro m z' hm hz'
        rw [toPs_map, List.getElem?_map] at hz'
        cases h9 : ds[m]? with
        | none => rw [h9] at hz'; cases hz'
        | some w => rw [h9] at hz'; injection hz' with hz'; rw [← hz']; exact hno m w hm h9
end
end DL
end
section
set_option maxRecDepth 100000
set_option maxHeartbeats 4000000
set_option autoImplicit false
namespace DL
open PySem PySem.Spec PyProof.Rows L2
end DL
end
section
set_option maxRecDepth 100000
set_option maxHeartbeats 4000000
set_option autoImplicit false
namespace DL
open PySem PySem.Spec PyProof.Rows L2
end DL
end
section
set_option maxRecDepth 100000
set_option maxHeartbeats 4000000
set_option autoImplicit false
namespace DL
open PySem PySem.Spec PyProof.Rows L2
end DL
end
section
set_option maxRecDepth 100000
set_option maxHeartbeats 4000000
set_option autoImplicit false
namespace DL
open PySem PySem.Spec PyProof.Rows L2
def LcM (X : Cx) (N : List Str) (sc : Scope) (elt tg : Expr) (ifs : List Expr) (vs : List Nat) (δw : DEnv) (ds : List D) (P : Nat → List D → Own → Prop) : Prop :=
  ∀ i d acc O', ds[i]? = some d → P i acc O' → acc.length ≤ i → ∀ X', Blk X X' N sc → DGc X' tg d vs δw O' fun δ2 O2 => ∀ X', Blk X X' N sc → DTs X' ifs δ2 O2 noE fun b O3 =>
    (b = true → ∀ X', Blk X X' N sc → DE X' elt δ2 O3 noE fun y O4 => P (i + 1) (acc ++ [y]) O4) ∧ (b = false → P (i + 1) acc O3)
section
variable {X : Cx} {N : List Str} {sc scope : Scope} {δ : DEnv} {O : Own} {E : XD → Own → Prop} {Q : D → Own → Prop} {pos p : Pos} {B : Bk} {nx : DEnv → Own → Prop}
theorem lcM_body {sc' : Scope} {elt tg : Expr} {ifs : List Expr} {vs : List Nat} {δw : DEnv} {ds : List D} {P : Nat → List D → Own → Prop} (S : Sc X N sc) (hrel : relS scope sc = sc') (hnm : nmOk sc' = true) (hl : ds.length ≤ 100000) (h : LcM X N sc' elt tg ifs vs δw ds P) :
    LcBody X elt tg ifs scope vs δw ds fun i acc O' => P i acc O' ∧ acc.length ≤ i := by
  rintro i d acc O' hd ⟨ea, la⟩ s H C cl fp
  have hi : i < ds.length := (List.getElem?_eq_some_iff.1 hd).1
  have h1 := h i d acc O' hd ea la _ (blk_of S hrel hnm (s := s) (H := H) (C := C) (cl := cl) (fp := fp))
  intro v G σ H2 Q2 rd r s2 hk
  refine h1 v G σ H2 Q2 rd r s2 fun G' H' O1 δ' σ' st r' w q => hk G' H' O1 δ' σ' st r' w ?_
  intro s3 H3 C3 cl3 fp3
  refine M.imp (q _ (blk_of S hrel hnm (s := s3) (H := H3) (C := C3) (cl := cl3) (fp := fp3))) fun b O3 ⟨qt, qf⟩ => ⟨fun hb s4 H4 C4 cl4 fp4 => ?_, fun hb => ?_⟩
  · refine M.imp (qt hb _ (blk_of S hrel hnm (s := s4) (H := H4) (C := C4) (cl := cl4) (fp := fp4))) fun y O4 e1 => ?_
    exact ⟨by omega, e1, by simp; omega⟩
  · exact ⟨qf hb, by omega⟩
theorem de_lcMc {elt tg iter : Expr} {ifs : List Expr} (own : List (Str × Nat)) (sc' : Scope) (S : Sc X N sc)
    (h : DI X tg iter δ O E fun ds O1 => ∃ δw, Wp δ (own.map (·.2)) δw ∧ ∃ P : Nat → List D → Own → Prop, P 0 [] O1 ∧ ds.length ≤ 100000 ∧ LcM X N sc' elt tg ifs (own.map (·.2)) δw ds P ∧ ∀ acc O', P ds.length acc O' → NewL acc O' Q)
    (ok : blkC N sc scope own = true := by decide +kernel) (hrel : relS scope sc = sc' := by with_unfolding_all rfl) (hnm : nmOk sc' = true := by decide +kernel) (hs : ∀ x, foldedSetIterable iter X.env x = pure x := by intro _; with_unfolding_all rfl) : DE X (.ListComp elt [⟨tg, iter, ifs, 0⟩] scope pos) δ O E Q := by
  refine de_lc own S (blkOk_by ok) ?_ hs
  refine M.imp h fun ds O1 ⟨δw, hw, P, h0, hl, hb, n⟩ => ?_
  exact ⟨δw, hw, _, ⟨h0, Nat.le_refl _⟩, lcM_body S hrel hnm hl hb, fun acc O' ⟨ha, _⟩ => n acc O' ha⟩
/-- a, b, .. = a list -/
theorem dg_lst {es : List Expr} {k' : Nat} {ds : List D} {E : XD → DEnv → Own → Prop} {k : DEnv → Own → Prop} (S : Sc X N sc) (hl : ds.length = es.length) (h : DGs X es ds δ O E k) (hn : (assignEach es X.env).length = es.length := by with_unfolding_all rfl) (hst : (assignEach es X.env).findIdx? (·.1) = none := by with_unfolding_all rfl) : DG X (.Tuple es k' pos) (.lst ds) δ O E k := fun W tk v G σ H Q rd r s hE hk pins s' u I ru => by
  cases rd with
  | @lst _ a vs hq rl =>
    exact (pg_lst S.calm pgs_sem hn hst).run pins s' σ H _ u Q I ru ⟨a, vs, rfl, .inl (.inl (s.sub _ _ hq)), by rw [rl.length, hl], h W tk vs G σ H Q rl r s hE hk⟩
end
end DL
end
section
set_option maxRecDepth 100000
set_option maxHeartbeats 4000000
set_option autoImplicit false
namespace DL
open PySem PySem.Spec PyProof.Rows L2
section
variable {X : Cx} {N : List Str} {sc : Scope} {δ : DEnv} {O : Own} {pos : Pos} {B : Bk} {nx : DEnv → Own → Prop}
theorem Sc.nox (S : Sc X N sc) : Sc X.nox N sc := ⟨S.nm, S.hn, S.hsc, S.nd, S.calm⟩
theorem Df.nox (d : Df X) : Df X.nox := ⟨d.fn, d.stk, d.frm, d.ex, PassesOwn.never⟩
theorem takes_false : L2N.Takes X.nox (fun _ _ _ _ => False) := fun u s' ⟨a, B, sI, pins, σ, H, cls, d, e, I, nb, up, sky, na, os, ag, w⟩ => w.elim
theorem ds_try0 {body : List Stmt} {h0 : ExceptHandler} {hs : List ExceptHandler} (h : DSs X.nox body δ O { B with ex := fun _ _ _ => False } nx) : DS X (.Try body (h0 :: hs) [] [] pos) δ O B nx :=
  ds_of (ps_try_thru0 (t := semSs X.nox body) pss_sem) fun W tk G σ H D r s l => h (fun _ _ _ _ => False) takes_false G σ H D r s ⟨l.nx, l.rt, l.bk, l.ct, fun _ _ _ _ _ _ _ _ _ _ _ q => q.elim⟩
end
end DL
end
section
set_option maxRecDepth 100000
set_option maxHeartbeats 4000000
set_option autoImplicit false
namespace DL
open PySem PySem.Spec PyProof.Rows L2
section
variable {X : Cx} {N : List Str} {sc : Scope} {δ : DEnv} {O : Own} {E : XD → Own → Prop} {Q : D → Own → Prop} {pos p apos : Pos}
/-- t[lo:hi], t a tuple -/
theorem de_sliceT {a : Expr} {lo hi : Option Expr} {p2 : Pos} (h : DE X a δ O E fun x O1 => DPo X lo δ O1 E fun l O2 => DPo X hi δ O2 E fun u O3 => ∃ xs, x = .tup xs ∧ Q (.tup (cutD xs l u)) O3) : DE X (.Subscript a (.Slice lo hi none p2) pos) δ O E Q :=
  de_of (pe_slice sl_tupA pe_sem po_sem po_sem) (m_slice (kd := fun x _ l u O3 => ∃ xs, x = .tup xs ∧ Q (.tup (cutD xs l u)) O3) (fun x v l u G H O1 O2 Q' ⟨xs, ex, q⟩ rx s hQ => by
    subst ex
    cases rx with
    | tup hq rl =>
      refine ⟨_, _, rfl, s.sub.seqT hq, fun hw => ?_, fun hw p hp => ?_⟩
      · rw [rl.length] at hw
        have e : cutD xs l u = xs := by unfold cutD; rw [hw.1, hw.2, List.drop_zero, Nat.sub_zero, List.take_length]
        rw [e] at q
        exact hQ _ _ _ _ _ (Step.refl s) (.tup hq rl) q
      · exact hQ _ _ _ _ _ (Step.new s hp) (.tup (SqT.of upd_same) (cut_rep (rl.mono (Step.new s hp).g) l u)) q) h)
end
end DL
end
section
set_option maxRecDepth 100000
set_option maxHeartbeats 4000000
set_option autoImplicit false
namespace DL
open PySem PySem.Spec PyProof.Rows L2
end DL
end
section
set_option maxRecDepth 100000
set_option maxHeartbeats 4000000
set_option autoImplicit false
namespace DL
open PySem PySem.Spec PyProof.Rows L2
/-- an own error class without its own __init__ -/
structure ExC0 (K : PySem.W.Frag) (mg : Str → Option Value) (nm : Str) (C : Addr) : Prop where
  g : mg nm = some (.ref C)
  k : PySem.W.keepIn K (.ref C) = true
  made : PySem.W.excIn K C PySem.HandSPX.veTail "ValueError.__new__" = true
  sub : PySem.W.subIn K (.ref C) (.type "BaseException") = some true
  ty : PySem.W.typeIn K (.ref C) = some (.type "type")
section
variable {X : Cx} {N : List Str} {sc : Scope} {δ : DEnv} {O : Own} {B : Bk} {nx : DEnv → Own → Prop} {pos p p2 p3 : Pos}
theorem ds_raise0 {x m : Str} {C : Addr} {j : Nat} (S : Sc X N sc) (R : ExC0 X.K X.mg x C) (q : B.ex ⟨C, []⟩ δ O) (hg : Nk x .globalImplicit sc.names := by (repeat (with_reducible constructor))) :
    DS X (.Raise (some (.Call (.Name x p) [.Constant (.str m) j p2] [] p3)) none pos) δ O B nx := fun W tk G σ H D r s l pins s' I =>
  (L2N.ps_raise S.calm tk (L2N.pmk_own F.excBase_ValueError R.made R.g R.k (raises_own R.sub R.ty) (S.gl hg) (S.dbg hg))).run pins s' σ H D I (l.ex G H O δ σ ⟨C, []⟩ _ _ (Step.refl s) r ⟨rfl, .inl ⟨rfl, rfl⟩⟩ q)
end
/-- an own error class whose __init__ is its own -/
def oexB (K : PySem.W.Frag) (C : Addr) : Bool := match K.lookup C with | some ⟨.type "type", _, .cls c, sl⟩ => (match c.mro, sl.toList with | .ref C' :: m, [_, _, _, _, some (.builtin n), _] => C' == C && (n == "ValueError.__new__" && (!c.hasDel && (c.hasDict && PySem.HandSPX.refsVE m))) | _, _ => false) | _ => false
structure ExC1 (K : PySem.W.Frag) (mg : Str → Option Value) (nm : Str) (C fI : Addr) : Prop where
  g : mg nm = some (.ref C)
  k : PySem.W.keepIn K (.ref C) = true
  obj : oexB K C = true
  sa : PySem.W.findIn K (.ref C) "__setattr__" = some (some (.builtin "object.__setattr__"))
  sub : PySem.W.subIn K (.ref C) (.type "BaseException") = some true
  ty : PySem.W.typeIn K (.ref C) = some (.type "type")
  ini : PySem.W.findIn K (.ref C) "__init__" = some (some (.ref fI))
  tf : PySem.W.typeIn K (.ref fI) = some (.type "function")
/-- CanonError.__init__(self, ..), the base's own being ValueError's -/
structure ExB (K : PySem.W.Frag) (mg : Str → Option Value) (nm : Str) (C : Addr) : Prop where
  g : mg nm = some (.ref C)
  rd : ClX.CRead K C (.type "type")
  at_ : PySem.W.findCls K (.ref C) (.type "type") "__init__" = some (.val (.builtin "ValueError.__init__"))
end DL
end
section
set_option maxRecDepth 100000
set_option maxHeartbeats 4000000
set_option autoImplicit false
namespace DL
open PySem PySem.Spec PyProof.Rows L2
/-- what the making does: nothing, or a new code object that the table tells from now on -/
def LamH (p : Pos) (H : Hp) (P : Addr) (q : Str) (H1 : Hp) (c : Addr) : Prop :=
  (H1 = H ∧ H c = some (LamX.CodeO c q)) ∨ ∃ ps : Array Value, H P = some (.tbl ps) ∧ H c = none ∧ H1 = upd (upd H P (.tbl (ps ++ #[rawInt p.line, rawInt p.col, .ref c]))) c (LamX.CodeO c q)
theorem LamH.code {p : Pos} {H H1 : Hp} {P c : Addr} {q : Str} (h : LamH p H P q H1 c) : H1 c = some (LamX.CodeO c q) := by
  rcases h with ⟨rfl, h⟩ | ⟨ps, _, _, rfl⟩
  · exact h
  · exact upd_same
/-- .. to the known part of the heap -/
theorem LamH.step {K : PySem.W.Frag} {G H H1 : Hp} {O : Own} {p : Pos} {P c : Addr} {q : Str} (h : LamH p H P q H1 c) (s : Sta K G O H) (at_ : At P (.tab q) O) : ∃ G1, Step K G O H G1 O H1 := by
  rcases h with ⟨rfl, _⟩ | ⟨ps, hP, hc, rfl⟩
  · exact ⟨G, Step.refl s⟩
  obtain ⟨gP, o, hP', rc⟩ := s.at_ at_
  rw [hP] at hP'
  cases hP'
  have rc : TabOk G q ps := rc
  have ne : c ≠ P := fun z => by rw [z, hP] at hc; cases hc
  have s1 := Step.new s (o := LamX.CodeO c q) hc
  have put : Put P (.tab q) O O := by
    have : ∀ {O : Own}, At P (.tab q) O → Put P (.tab q) O O := by
      intro O h
      induction h with
      | head => exact .head
      | tail _ ih => exact .tail ih
    exact this at_
  have ok : TabOk (upd G c (LamX.CodeO c q)) q (ps ++ #[rawInt p.line, rawInt p.col, .ref c]) := by
    have el : (ps ++ #[rawInt p.line, rawInt p.col, .ref c]).toList = ps.toList ++ [rawInt p.line, rawInt p.col, .ref c] := by simp
    refine ⟨by rw [el]; exact PySem.TriplesOk_snoc _ _ _ _ rc.1, fun p' cv hcv => ?_⟩
    rw [el] at hcv
    rcases LamX.among_app _ rc.1 hcv with z | z
    · obtain ⟨c0, e1, e2⟩ := rc.2 p' cv z
      exact ⟨c0, e1, s1.g _ _ e2⟩
    · exact ⟨c, z, upd_same⟩
  have s2 := Step.put s1.sta put (o := .tbl (ps ++ #[rawInt p.line, rawInt p.col, .ref c])) ok
  refine ⟨upd G c (LamX.CodeO c q), ?_⟩
  have e : upd (upd H P (.tbl (ps ++ #[rawInt p.line, rawInt p.col, .ref c]))) c (LamX.CodeO c q) = upd (upd H c (LamX.CodeO c q)) P (.tbl (ps ++ #[rawInt p.line, rawInt p.col, .ref c])) := by
    funext b
    by_cases h1 : b = c
    · subst h1
      rw [upd_same, upd_ne ne, upd_same]
    · by_cases h2 : b = P
      · subst h2
        rw [upd_ne h1, upd_same, upd_same]
      · rw [upd_ne h1, upd_ne h2, upd_ne h2, upd_ne h1]
  rw [e]
  exact s1.trans s2
section
variable {X : Cx} {pins : List (Addr × Obj)} {σ : L2.St} {H : Hp} {s : Shared}
theorem lam_new {cA P : Addr} {ps : Array Value} {params : Arguments} {body : Expr} {scope : Scope} {p : Pos} {E Q : Value → Shared → Prop} (I : Inv X pins σ H s) (TB : LamX.TabB X.base X.mg cA P) (ec : X.env.code = .ref cA) (hP : H P = some (.tbl ps)) (ok : TabOk H (X.env.qual ++ "<lambda>") ps)
    (nd : defaultsOf params X.env = ([], [])) (fr : ∀ y ∈ scope.names, y.2 = .free → ∃ c, X.env.cells.lookup y.1 = some c)
    (k : ∀ (f c : Addr) (pm ctv : Value) (H1 : Hp) (s1 : Shared), Inv X pins σ H1 s1 → LamH p H P (X.env.qual ++ "<lambda>") H1 c → H1 f = none → f ∉ frs X.stack →
      s1.heap.get? f = some (PySem.W.kla_obj "<lambda>" (X.env.qual ++ "<lambda>") params body scope (cloFrom X.env.cells scope.names []) pm c ctv) → Q (.ref f) s1) : wpAny (model X.prog X.w) X.A (eval (.Lambda params body scope p) X.env) Q E s := by
  have tb : s.heap.get? P = some { cls := .none, data := .fields ps } := I.hok _ _ hP
  have far : ∀ f, s.heap.objs.size ≤ f → f ∉ frs X.stack := fun f hf z => (List.mem_cons.mp (I.stkSub _ z)).elim (fun e => Nat.lt_irrefl _ (Nat.lt_of_lt_of_le (e ▸ I.lt) hf)) fun e => I.nofs hf e
  refine PySem.W.kla_eval nd ?_
  cases hc : codeAmong p ps.toList with
  | some cv =>
    obtain ⟨c, rfl, hco⟩ := ok.2 p cv hc
    exact PySem.W.kla_makeFunctionHit (c := cA) (P := P) (closure_ok fr) I.ok.glob (I.mod.glob.keeps I.bk) ec (TB.code.keeps I.bk) tb ok.1 hc (TB.bm.keeps I.bk) fun ctv g tk hx hz => k _ c _ ctv H _ (I.kept fun b o e => Heap.get?_push_of_some _ (hx b o e)) (.inl ⟨rfl, hco⟩) (I.hok.fresh hz) (far _ hz) (Heap.get?_push_size _ rfl)
  | none =>
    refine PySem.W.kla_makeFunction (c := cA) (P := P) (closure_ok fr) I.ok.glob (I.mod.glob.keeps I.bk) ec (TB.code.keeps I.bk) tb ok.1 hc TB.gP (TB.bm.keeps I.bk) fun c ctv g tk hx hge hlt hrec htb => ?_
    obtain ⟨_, oc, vs, t, e2, hoc, hd, hv⟩ := hrec
    cases e2
    have hz : s.heap.objs.size ≤ g.objs.size := Nat.le_trans hge (Nat.le_of_lt hlt)
    have nc : H c = none := I.hok.fresh hge
    have J := LamX.inv_table (X := X) (pins := pins) (σ := σ) (t' := tk) (q := X.env.qual ++ "<lambda>") (more := #[rawInt p.line, rawInt p.col, .ref c]) (h' := g.push (PySem.W.kla_obj "<lambda>" (X.env.qual ++ "<lambda>") params body scope (cloFrom X.env.cells scope.names []) ((X.mg "__name__").getD .none) c ctv)) I hP (fun b o hb e => Heap.get?_push_of_some _ (hx b o hb e)) (Heap.get?_push_of_some _ htb) hge ⟨oc, vs, t, Heap.get?_push_of_some _ hoc, hd, hv⟩
    have nf : H g.objs.size = none := I.hok.fresh hz
    have fc : g.objs.size ≠ c := Nat.ne_of_gt hlt
    have fP : g.objs.size ≠ P := fun z => by rw [z, hP] at nf; cases nf
    exact k _ c _ ctv _ _ J (.inr ⟨ps, hP, nc, rfl⟩) (by rw [upd_ne fc, upd_ne fP]; exact nf) (far _ hz) (Heap.get?_push_size _ rfl)
end
def tLam3 (p : Pos) (P : Addr) (q : Str) (TT : (XK → Hp → VK → Prop) → Hp → VK → Prop) (t : XK → TE) : TE := fun σ H Q => ∃ ps, H P = some (.tbl ps) ∧ TabOk H q ps ∧ ∀ H1 c, LamH p H P q H1 c → TT (fun E H' Q' => t E σ H' Q') H1 Q
theorem pe_lam3 {X : Cx} {TT : (XK → Hp → VK → Prop) → Hp → VK → Prop} {x a : Str} {g cA P : Addr} {k : Nat} {st : Stmt} {Ng : List Str} {params : Arguments} {body : Expr} {scope : Scope} {t : XK → TE} {p lp pos : Pos} (hg : Gl X x) (D : Def X.K X.mg x st [a] g) (Sg : FnS Ng [a] (defScope st)) (h0 : Ng[0]? = some a) (hv : Vis (defScope st) a)
    (hG : ∀ cdg, LamX.GivesTo X Ng x (defScope st) g cdg (defBody st) a (X.env.qual ++ "<lambda>") TT) (TB : LamX.TabB X.base X.mg cA P) (ec : X.env.code = .ref cA) (hr : Room (k + 2) X.A) (L : LamX.LamS X.env.scope scope) (nd : defaultsOf params X.env = ([], []))
    (bd : ∀ (q : Str) (cl : List (Str × Addr)) (pm cv ctv : Value), bindArgs (PySem.W.kla_fn "<lambda>" q params body scope cl pm cv ctv) ⟨[], []⟩ = pure [])
    (hB : ∀ (A : Around) (outer : List Env) (s : Shared) (H : Hp) (E : XK) (f c : Addr), Room k (A.deeper (LamX.lamEnv X scope s.heap.objs.size f c)) → PE (LamX.lamCx X A outer s H E scope f c) body (t E))
    (d1 : (x == ("__debug__" : Str)) = false) (d2 : (a == ("__debug__" : Str)) = false) (d3 : (a == ("__classdict__" : Str)) = false) : PE X (.Call (.Name x p) [.Lambda params body scope lp] [] pos) (tLam3 lp P (X.env.qual ++ "<lambda>") TT t) := by
  obtain ⟨fd, F, hb⟩ := D.fn
  obtain ⟨oc, od, kV, doc, pm, an, cdv, ct, osl, rfl, lk, hcd⟩ := F.ex
  refine ⟨fun pins s σ H Q I ⟨ps, hP, ok, hT⟩ => wpAny_Call_Name_kw (ld_glob I hg D.g ?_ d1)⟩
  refine PySem.W.callWith_K (h₀ := X.base) I.ok.mod.kin D.k ?_ rfl rfl
  show wpAny _ _ (spliced ((false, eval (.Lambda params body scope lp) X.env) :: backTo pos (starEach [] X.env))) _ _ s
  refine Calls.spliced_cons (lam_new I TB ec hP ok nd (L.has I.ok) fun f c pm' ctv H1 s1 J lh nf nfr of => Calls.spliced_nil ?_)
  refine ⟨J.kIn, wpAny_call (codeAny_mono (LamX.run_ofS (CX := C8.CX0) (E := C8.E0) (N := Ng) (ps := [a]) (us := [.ref f]) (vs := [.ref f]) (Q := Q) (H := H1) (outer := X.stack) (w := X.w) lk hcd Sg.toFnScope hr J.env0 (hb s1 [.ref f] J.kIn rfl) (.cons rfl .nil) rfl fun hr2 => ?_) fun r s2 hq => ?_)⟩
  · obtain ⟨u, hu, hq⟩ := hG cdv f c s1 H1 Q _ (fun W pn xe E p1 p2 tk hW => LamX.pe_act (i := 0) J L of nf nfr (bd _ _ _ _ _) tk hW hr2 (fun A outer s H hr3 => hB A outer s H E f c hr3) h0 hv d2 d3) lh.code (hT H1 c lh)
    exact ⟨u, hu.nox, hq⟩
  · cases r with
    | error e => exact False.elim hq
    | ok fl =>
      cases fl with
      | ret u => exact J.after hq
      | next => exact False.elim hq
      | brk => exact False.elim hq
      | cont => exact False.elim hq
inductive Er | melody (i : Int) | round (p : Str) (i : Int) | range | number | long | text (w : Int) | code (p : Int) | contra | voice | many | name | unknown | op (p : Int)
def Er.d : Er → D
  | .melody i => .tup [.str "melody", .int i] | .round p i => .tup [.str "round", .tup [.str p, .int i]] | .range => .tup [.str "range", .int 0] | .number => .tup [.str "number", .int 0] | .long => .tup [.str "long", .int 0] | .text w => .tup [.str "text", .int w]
  | .code p => .tup [.str "code", .int p] | .contra => .tup [.str "contradiction", .int 0] | .voice => .tup [.str "voice", .int 0] | .many => .tup [.str "many", .int 0] | .name => .tup [.str "name", .int 0] | .unknown => .tup [.str "unknown", .int 0] | .op p => .tup [.str "operation", .int p]
def Er.fs : Er → List (Str × D)
  | .melody i => [("index", .int i)] | .round p i => [("index", .int i), ("part", .str p)] | .text w => [("word", .int w)] | .code p => [("place", .int p)] | .op p => [("place", .int p)] | _ => []
def Er.ix : Er → Nat
  | .melody _ => 0 | .round _ _ => 1 | .range => 2 | .number => 3 | .long => 4 | .text _ => 5 | .code _ => 6 | .contra => 7 | .voice => 8 | .many => 9 | .name => 10 | .unknown => 11 | .op _ => 12
/-- what a def does with the lambda it got: none, or what the error is told as -/
def TTd (K : PySem.W.Frag) (xd : Er → XD) : (XK → Hp → VK → Prop) → Hp → VK → Prop := fun tl H Q => ∃ (G : Hp) (O : Own) (E2 : Er → Own → Prop) (Q2 : Own → Prop), Sta K G O H ∧
  (∀ (Et : XK) (Qt : VK), (∀ G' H' O' e c dd, Step K G O H G' O' H' → XRep K G' (xd e) c dd → E2 e O' → Et c dd H') → (∀ G' H' O' d v, Step K G O H G' O' H' → Rep K G' d v → Q2 O' → Qt v H') → tl Et H Qt) ∧
  (∀ G' H' O', Step K G O H G' O' H' → Q2 O' → Q .non H') ∧ ∀ G' H' O' (e : Er) v, Step K G O H G' O' H' → Rep K G' e.d v → E2 e O' → Q v H'
/-- the context of a lambda's body -/
structure LBlk (X X' : Cx) (N : List Str) (sc : Scope) (k : Nat) : Prop where
  sc : Sc X' N sc
  K : X'.K = X.K
  mg : X'.mg = X.mg
  pr : X'.prog = X.prog
  w : X'.w = X.w
  base : X'.base = X.base
  room : Room k X'.A
section
variable {X : Cx} {N : List Str} {sc : Scope} {δ : DEnv} {O : Own} {Q : D → Own → Prop} {E : XD → Own → Prop} {p pos lp : Pos}
theorem de_errof {xd : Er → XD} {x a : Str} {g cA P : Addr} {k : Nat} {st : Stmt} {Ng : List Str} {params : Arguments} {body : Expr} {scope : Scope} (S : Sc X N sc) (D : Def X.K X.mg x st [a] g) (Sg : FnS Ng [a] (defScope st)) (h0 : Ng[0]? = some a) (hv : LkV a (defScope st).names)
    {lq : Str} (hG : ∀ cdg q, LamX.GivesTo X Ng x (defScope st) g cdg (defBody st) a q (TTd X.K xd)) (TB : LamX.TabB X.base X.mg cA P) (ec : X.env.code = .ref cA) (eq : X.env.qual ++ "<lambda>" = lq) (hr : Room (k + 2) X.A) (ha : At P (.tab lq) O)
    (h : ∀ X2, LBlk X X2 N scope k → DE X2 body δ O (fun x O' => ∃ e : Er, x = xd e ∧ Q e.d O') fun _ O' => Q .non O')
    (hL : LamX.lamSB sc scope = true := by decide +kernel) (hn : nmOk scope = true := by decide +kernel) (nd : defaultsOf params X.env = ([], []) := by with_unfolding_all rfl)
    (bd : ∀ (q : Str) (cl : List (Str × Addr)) (pm cv ctv : Value), bindArgs (PySem.W.kla_fn "<lambda>" q params body scope cl pm cv ctv) ⟨[], []⟩ = pure [] := by intros; with_unfolding_all rfl) (hg : Nk x .globalImplicit sc.names := by (repeat (with_reducible constructor))) :
    DE X (.Call (.Name x p) [.Lambda params body scope lp] [] pos) δ O E Q := by
  have hv' : Vis (defScope st) a := by
    rcases hv.mem with m | m | m
    · exact .inl (nmOk.at Sg.nm m).1
    · exact .inr (.inl (nmOk.at Sg.nm m).1)
    · exact .inr (.inr (nmOk.at Sg.nm m).1)
  have hdb : (a == ("__debug__" : Str)) = false ∧ (a == ("__classdict__" : Str)) = false := by
    rcases hv.mem with m | m | m <;> exact ⟨(nmOk.at Sg.nm m).2.1, (nmOk.at Sg.nm m).2.2.2⟩
  subst eq
  refine de_of (pe_lam3 (t := fun Et σ H K => ∀ A outer s0 H0 f c, Room k (A.deeper (LamX.lamEnv X scope s0.heap.objs.size f c)) → sem (LamX.lamCx X A outer s0 H0 Et scope f c) body σ H K) (S.gl hg) D Sg h0 hv' (fun cdg => hG cdg _) TB ec hr (LamX.lamS_by (by rw [S.hsc]; exact hL)) nd bd
    (fun A outer s H E f c hr => ⟨fun pins s' σ H5 K I q => q A outer s H f c hr pins s' I⟩) (S.dbg hg) hdb.1 hdb.2) fun W tk G σ H Q' p r s hE hQ => ?_
  obtain ⟨gP, o, hP, rc⟩ := s.at_ ha
  cases o with
  | tbl ps =>
    have rc : TabOk G _ ps := rc
    refine ⟨ps, hP, rc.mono s.sub, fun H1 c lh => ?_⟩
    obtain ⟨G1, st⟩ := lh.step s ha
    refine ⟨G1, O, fun e O' => Q e.d O', fun O' => Q .non O', st.sta, fun Et Qt hEt hQt A outer s0 H0 f c hr2 pins s' I => ?_, fun G' H' O' st2 q => hQ _ _ _ _ _ (st.trans st2) .non q, fun G' H' O' e v st2 rv q => hQ _ _ _ _ _ (st.trans st2) rv q⟩
    exact h (LamX.lamCx X A outer s0 H0 Et scope f c) ⟨⟨hn, S.hn, rfl, S.nd, rfl⟩, rfl, rfl, rfl, rfl, rfl, hr2⟩ (fun c dd σ H => Et c dd H) (toN (L2.takes_of rfl rfl rfl rfl)) G1 σ H1 Qt trivial (r.mono st.g) st.sta (fun G' H' O' x c dd st2 xr ⟨e, ex, q⟩ => hEt G' H' O' e c dd st2 (ex ▸ xr) q) (fun G' H' O' d v st2 rd q => hQt G' H' O' d v st2 rd q) pins s' I
  | _ => exact rc.elim
end
structure Suit (Z : Cx) (N : List Str) (sc : Scope) (K : PySem.W.Frag) (mg : Str → Option Value) (x : XD) (y : D) : Prop where
  nm : nmOk sc = true
  hn : Z.N = N
  hsc : Z.env.scope = sc
  nd : N.Nodup
  K : Z.K = K
  mg : Z.mg = mg
  un : Z.A.units + 65 < cLine
  ex : ∃ X0 ae oe pn d, Z = Cx.suite X0 ae ((ae, oe) :: pn) ∧ Zc (.ref x.C) d oe ∧ (∃ vs, oe.data = .fields vs) ∧ ((x.fs = [] ∧ d = none ∧ y = .ref ae) ∨ ∃ dd, d = some dd ∧ y = .exc ae dd x.fs)
theorem takes_len {X : Cx} {W : WX} (t : L2.Takes X W) : L2.Takes X (fun c d σ H => σ.length = X.N.length → W c d σ H) := fun u s' ⟨a, B, sI, pins, σ, H, cls, d, e, I, nb, up, sky, na, os, ag, w⟩ => t u s' ⟨a, B, sI, pins, σ, H, cls, d, e, I, nb, up, sky, na, os, ag, w I.len⟩
theorem repl_rep {K : PySem.W.Frag} {G : Hp} {σ : L2.St} {n : Nat} (h : σ.length = n) : REnv K G (List.replicate n none) σ := ⟨by rw [List.length_replicate, h], fun i d e => by
  rw [List.getElem?_replicate] at e
  split at e <;> cases e⟩
theorem gives_of {X : Cx} {Ng : List Str} {x a n : Str} {sg : Scope} {g CE : Addr} {cdg : Value} {q : Str} {i j2 : Nat} {p1 p2 p3 p4 p5 p6 p7 p8 : Pos} {b0 : Stmt} {suite : List Stmt} {xd : Er → XD} (nd : Ng.Nodup) (hm : nmOk sg = true) (hu : X.A.units + 100 < cLine) (h0 : ∀ f : Addr, (L2.start Ng [V.ref f])[0]? = some (some (V.ref f)))
    (hi : Ix n Ng i) (hl : Nk n .local sg.names) (hg : Nk ("CanonError" : Str) .globalImplicit sg.names) (hme : X.mg "CanonError" = some (.ref CE)) (hx : ∀ e, PySem.W.exmOne X.K (.ref (xd e).C) (.ref CE) = some true)
    (hs : ∀ (Z : Cx) (e : Er) (y : D), Suit Z Ng sg X.K X.mg (xd e) y → ∀ (O : Own) (Q : D → Own → Prop), Q e.d O → DSs Z (b0 :: suite) ((List.replicate Ng.length none).set i (some y)) O (bkOf Q noE) fun _ _ => False) :
    LamX.GivesTo X Ng x sg g cdg [.Try [.Expr (.Call (.Name a p1) [] [] p2) p3] [.ExceptHandler (some (.Name "CanonError" p4)) (some n) (b0 :: suite) p5] [] [] p6, .Return (some (.Constant .none j2 p7)) p8] a q (TTd X.K xd) := by
  intro f c s H Q tl act hco ⟨G, O, E2, Q2, sta, ht, hok, her⟩
  have ln : sg.names.lookup n = some .local := (nmOk.at hm hl.mem).1
  refine ⟨_, pss_cons (L2.ps_try_as (X := (cxOf C8.CX0 X.prog X.w X.K X.mg X.base Ng x sg g cdg X.A X.stack s H C8.E0).nox) (c := .ref CE) (i := i) (Wout := fun _ _ _ _ => False)
    (tb := fun W D σ H => ∃ Ech : XK, (∀ cls d σ' H', Ech cls d H' → σ'.length = Ng.length → W cls d σ' H') ∧ σ[0]? = some (some (.ref f)) ∧ H c = some (LamX.CodeO c q) ∧ tl Ech H fun _ H' => D.nx σ H')
    (ts := fun ae cls d => fun D σ H6 => ∀ oe pn, Zc cls d oe → (∃ vs, oe.data = .fields vs) → semSs (Cx.suite (cxOf C8.CX0 X.prog X.w X.K X.mg X.base Ng x sg g cdg X.A X.stack s H C8.E0).nox ae ((ae, oe) :: pn)) (b0 :: suite) D σ H6)
    rfl rfl nd hi.get ln ⟨(nmOk.at hm hg.mem).1, (nmOk.at hm hg.mem).2.1, .inl hme⟩ LamX.takes0 (fun W pn xe tk _ => ?_) (fun ae oe cls d pn hz hf => ⟨fun pins s' σ H5 D I h => h oe pn hz hf pins s' I⟩)) (pss_one (ps_ret pe_non)), ?_⟩
  · exact ⟨fun pins s' σ H' D I ⟨Ech, hW, h1, h2, h3⟩ => (pss_one (ps_expr (pos := p3) (act (fun c d σ H => σ.length = Ng.length → W c d σ H) pn xe Ech p1 p2 (takes_len tk) hW))).run pins s' σ H' D I ⟨h1, h2, h3⟩⟩
  · refine ⟨fun cls d H' => ∃ G' O' e, Step X.K G O H G' O' H' ∧ XRep X.K G' (xd e) cls d ∧ E2 e O', fun cls d σ' H' ⟨G', O', e, st, xr, q⟩ hlen => ?_, h0 f, hco, ht _ _ (fun G' H' O' e c dd st xr q => ⟨G', O', e, st, xr, q⟩) fun G' H' O' d v st rd q => hok G' H' O' st q⟩
    refine ⟨true, by rw [xr.1]; exact hx e, fun _ ae hae oe pn hz hf => ?_, fun z => by cases z⟩
    obtain ⟨ec, hd⟩ := xr
    subst ec
    obtain ⟨y, ry, hy⟩ : ∃ y, Rep X.K G' y (.ref ae) ∧ (((xd e).fs = [] ∧ d = none ∧ y = .ref ae) ∨ ∃ dd, d = some dd ∧ y = .exc ae dd (xd e).fs) := by
      rcases hd with ⟨h1, h2⟩ | ⟨dd, vs, h1, h2, h3⟩
      · exact ⟨_, .ref ae, .inl ⟨h1, h2, rfl⟩⟩
      · exact ⟨_, .exc h2 h3, .inr ⟨dd, h1, rfl⟩⟩
    refine hs (Cx.suite (cxOf C8.CX0 X.prog X.w X.K X.mg X.base Ng x sg g cdg X.A X.stack s H C8.E0).nox ae ((ae, oe) :: pn)) e y ⟨hm, rfl, rfl, nd, rfl, rfl, (by show X.A.units + 3 + 65 < cLine; omega), _, ae, oe, pn, d, rfl, hz, hf, hy⟩ O' (fun d O'' => d = e.d ∧ E2 e O'') ⟨rfl, q⟩ (fun _ _ _ _ => False) takes0 G' (σ'.set i (some (.ref ae))) H' _ ((repl_rep hlen).set i ry) st.sta
      ⟨fun _ _ _ _ _ _ _ z => z.elim, fun G2 H2 O2 d v s2 rd hh => ?_, fun _ _ _ _ _ _ _ z => z.elim, fun _ _ _ _ _ _ _ z => z.elim, fun _ _ _ _ _ _ _ _ _ _ _ z => z.elim⟩
    obtain ⟨ed, q2⟩ := hh
    subst ed
    exact her G2 H2 O2 e v (st.trans s2) rd q2
section
variable {Z : Cx} {N : List Str} {sc : Scope} {K : PySem.W.Frag} {mg : Str → Option Value} {x : XD} {y : D} {δ : DEnv} {O : Own} {E : XD → Own → Prop} {Q : D → Own → Prop} {B : Bk} {nx : DEnv → Own → Prop} {pos p : Pos}
/-- an error's class, whose instances are asked for their class and their fields -/
structure ExR (K : PySem.W.Frag) (C : Addr) : Prop where
  ga : PySem.W.findIn K (.ref C) "__getattribute__" = some (some (.builtin "BaseException.__getattribute__"))
  gt : PySem.W.findIn K (.ref C) "__getattr__" = some none
  sub : PySem.W.subIn K (.ref C) (.type "BaseException") = some true
  hd : PySem.W.hasDictIn K C = true
  c1 : PySem.W.findIn K (.ref C) "__class__" = some (some (.builtin "object.__class__"))
  c2 : PySem.W.specialIn K (.builtin "object.__class__") "__get__" = some (some (.builtin "getset_descriptor.__get__"))
  c3 : PySem.W.takesIn K (.builtin "object.__class__") = some true
  c4 : PySem.W.mroIn K C (.type "object") = some true
theorem ExR.cls {C : Addr} (R : ExR K C) : (PySem.W.clsIn K C).isSome = true := by
  obtain ⟨c, h, _⟩ := PySem.W.any_some R.hd
  rw [h]
  rfl
/-- the record of the caught error -/
theorem inst_at {X0 : Cx} {ae : Addr} {oe : Obj} {pn pins : List (Addr × Obj)} {d : Option Addr} {σ : L2.St} {H : Hp} {s : Shared} {C : Addr} (I : Inv (Cx.suite X0 ae ((ae, oe) :: pn)) pins σ H s) (hz : Zc (.ref C) d oe) (hf : ∃ vs, oe.data = .fields vs) {fs : List (Str × V)}
    (hd : d = none ∨ ∃ dd, d = some dd ∧ H dd = some (.xd fs)) : ∃ od, PySem.W.InstAt s.heap ae oe C od ∧ ((d = none ∧ od = none) ∨ ∃ ob, od = some ob ∧ ∀ f v, fs.lookup f = some v → ∃ u, PySem.W.lookIn f ob = some (some u) ∧ RelV v u) := by
  obtain ⟨ha, _⟩ := I.pin (ae, oe) (List.mem_append_left _ List.mem_cons_self)
  obtain ⟨vs, hv⟩ := hf
  obtain ⟨h1, h2⟩ := hz
  rcases hd with rfl | ⟨dd, rfl, hH⟩
  · exact ⟨none, ⟨ha, h1, by unfold PySem.W.notCls; rw [hv], by rw [h2]; trivial⟩, .inl ⟨rfl, rfl⟩⟩
  · have hx : ObjOk _ _ H s.heap dd (.xd fs) := I.hok dd _ hH
    obtain ⟨mA, hns, hr⟩ := hx
    obtain ⟨od, ho, hl⟩ := lookIn_ns hns
    refine ⟨some od, ⟨ha, h1, by unfold PySem.W.notCls; rw [hv], by rw [h2]; exact ho⟩, .inr ⟨od, rfl, fun f v hfv => ?_⟩⟩
    obtain ⟨u, hu, ru⟩ := RelO.some_of (v := v) (o := mA f) (by rw [← hfv]; exact hr f)
    exact ⟨u, by rw [hl, hu], ru⟩
theorem dc_isE {c : D} {cv : Value} {b : Bool} (Su : Suit Z N sc K mg x y) (R : ExR K x.C) (hc : (∃ C, c = .ref C ∧ cv = .ref C) ∨ ∃ T, c = .ty T ∧ cv = .type T) (hk : PySem.W.kitOne K (.ref x.C) cv = some b) (q : Q (.bl b) O) : DC Z (.builtin "isinstance") [y, c] δ O E Q := by
  intro vs W tk G σ H Q' rl r s hE hQ pins s' us I rv
  obtain ⟨X0, ae, oe, pn, d, eZ, hz, hf, hy⟩ := Su.ex
  have eK := Su.K
  subst eK
  cases rl with
  | @cons _ v1 _ vs' r1 rl =>
  cases rl with
  | @cons _ v2 _ vs' r2 rl =>
  cases rl
  cases rv with
  | @cons _ u1 _ ur w1 rv =>
  cases rv with
  | @cons _ u2 _ ur w2 rv =>
  cases rv
  have hu2 : u2 = cv := by
    rcases hc with ⟨C, rfl, rfl⟩ | ⟨T, rfl, rfl⟩
    · cases r2; exact w2
    · cases r2; exact w2
  obtain ⟨fs, hd, hv1⟩ : ∃ fs : List (Str × V), (d = none ∨ ∃ dd, d = some dd ∧ H dd = some (.xd fs)) ∧ v1 = .ref ae := by
    rcases hy with ⟨_, h2, rfl⟩ | ⟨dd, h2, rfl⟩
    · cases r1; exact ⟨[], .inl h2, rfl⟩
    · cases r1 with
      | exc h3 _ => exact ⟨_, .inr ⟨dd, h2, s.sub _ _ h3⟩, rfl⟩
  subst hv1 hu2
  obtain rfl : u1 = Value.ref ae := w1
  subst eZ
  obtain ⟨od, J, _⟩ := inst_at I hz hf hd
  exact PySem.W.kia_one (PySem.W.kitx_exc R.cls R.ga R.gt R.sub R.c1 R.c2 R.c3 R.c4) I.kIn J hk (fun z => nomatch z) fun tk => ⟨.bl b, H, I.kept (t' := tk) fun _ _ z => z, rfl, hQ _ _ _ _ _ (Step.refl s) (.bl _) q⟩
end
end DL
end
section
set_option maxRecDepth 100000
set_option maxHeartbeats 4000000
set_option autoImplicit false
namespace DL
open PySem PySem.Spec PyProof.Rows L2
section
variable {Z : Cx} {N : List Str} {sc : Scope} {K : PySem.W.Frag} {mg : Str → Option Value} {x : XD} {y : D} {δ : DEnv} {O : Own} {E : XD → Own → Prop} {Q : D → Own → Prop} {B : Bk} {nx : DEnv → Own → Prop} {pos p : Pos} {z : Str}
theorem Suit.ix (S : Suit Z N sc K mg x y) {i : Nat} (h : Ix z N i) : Z.N[i]? = some z := by rw [S.hn]; exact h.get
theorem Suit.vi (S : Suit Z N sc K mg x y) (h : LkV z sc.names) : Vis Z.env.scope z := by
  rw [S.hsc]
  exact h.mem.imp (fun m => (nmOk.at S.nm m).1) fun m => m.imp (fun m => (nmOk.at S.nm m).1) fun m => (nmOk.at S.nm m).1
theorem Suit.vb (S : Suit Z N sc K mg x y) (h : LkV z sc.names) : (z == ("__debug__" : Str)) = false ∧ (z == ("__classdict__" : Str)) = false := by
  rcases h.mem with m | m | m <;> exact ⟨(nmOk.at S.nm m).2.1, (nmOk.at S.nm m).2.2.2⟩
theorem Suit.lo (S : Suit Z N sc K mg x y) (h : Nk z .local sc.names) : Z.env.scope.names.lookup z = some .local := by rw [S.hsc]; exact (nmOk.at S.nm h.mem).1
theorem Suit.gl (S : Suit Z N sc K mg x y) (h : Nk z .globalImplicit sc.names) : Gl Z z := by
  show Z.env.scope.names.lookup z = _
  rw [S.hsc]; exact (nmOk.at S.nm h.mem).1
theorem Suit.dbg (S : Suit Z N sc K mg x y) {k : NameKind} (h : Nk z k sc.names) : (z == ("__debug__" : Str)) = false := (nmOk.at S.nm h.mem).2.1
theorem Suit.nme (S : Suit Z N sc K mg x y) {k : NameKind} (h : Nk z k sc.names) : z ≠ "__name__" := (nmOk.at S.nm h.mem).2.2.1
theorem de_nameZ {i : Nat} {d : D} (S : Suit Z N sc K mg x y) (hi : Ix z N i) (hd : Sl δ i d) (q : Q d O) (hv : LkV z sc.names := by (repeat (with_reducible constructor))) : DE Z (.Name z pos) δ O E Q :=
  de_of (pe_var (S.ix hi) (S.vi hv) (S.vb hv).1 (S.vb hv).2) fun W tk G σ H Q' p r s hE hQ => by
    obtain ⟨v, e, rv⟩ := r.2 i d hd.get
    exact ⟨v, e, hQ G H O d v (Step.refl s) rv q⟩
theorem de_globZ {C : Addr} (S : Suit Z N sc K mg x y) (hm : Z.mg z = some (.ref C)) (q : Q (.ref C) O) (hg : Nk z .globalImplicit sc.names := by (repeat (with_reducible constructor))) : DE Z (.Name z pos) δ O E Q := de_const (pe_glob (v := .ref C) (S.gl hg) hm rfl (S.dbg hg)) (fun _ => .ref C) q
theorem de_bltnZ {T : String} (S : Suit Z N sc K mg x y) (hm : Z.mg z = none) (hv : bootBuiltins z = some (.type T)) (q : Q (.ty T) O) (hg : Nk z .globalImplicit sc.names := by (repeat (with_reducible constructor))) : DE Z (.Name z pos) δ O E Q := de_const (pe_bltn (v := .ty T) (S.gl hg) hm hv rfl (S.nme hg) (S.dbg hg)) (fun _ => .ty T) q
theorem ds_setZ {i : Nat} {e : Expr} {pos' : Pos} (S : Suit Z N sc K mg x y) (hi : Ix z N i) (h : DE Z e δ O (fun x O' => B.ex x δ O') fun d O1 => ∃ δ', SetD d δ i δ' ∧ nx δ' O1) (hl : Nk z .local sc.names := by (repeat (with_reducible constructor))) (hs : swapsWith e (some (.Name z pos')) pos.line Z.env = pure false := by with_unfolding_all rfl) : DS Z (.Assign [.Name z pos'] e pos) δ O B nx :=
  ds_of (ps_set (by rw [S.hn]; exact S.nd) (S.ix hi) (.inl (S.lo hl)) pe_sem hs (.inr (S.lo hl))) fun W tk G σ H D r s l => m_in h tk trivial r s l fun G' H' O' d v st r' l' rd ⟨δ', hd, q⟩ => l'.nx G' H' O' δ' _ (Step.refl st.sta) (by rw [hd.eq]; exact r'.set i rd) q
theorem de_callBZ {e : Expr} {es : List Expr} {id : String} (S : Suit Z N sc K mg x y) (hm : Z.mg z = none) (hv : bootBuiltins z = some (.builtin id)) (h : DA Z (e :: es) δ O E fun ds O1 => DC Z (.builtin id) ds δ O1 E Q) (hg : Nk z .globalImplicit sc.names := by (repeat (with_reducible constructor)))
    (he : starEach (e :: es) Z.env = (false, eval e Z.env) :: starEach es Z.env := by with_unfolding_all rfl) (hpl : (backTo pos (starEach es Z.env)).any (·.1) = false := by with_unfolding_all rfl) : DE Z (.Call (.Name z p) (e :: es) [] pos) δ O E Q :=
  de_of (t := fun σ H K => semA Z (e :: es) σ H fun vs H1 => semC Z (.builtin id) vs σ H1 K) ⟨fun pins s σ H K I q => by
    refine wpAny_Call_Name_kw (ld_blt I (S.gl hg) hm hv ?_ (S.nme hg) (S.dbg hg))
    exact PyProof.Rows.callWith_builtin1 (thn (q pos pins s I) fun us s1 ⟨vs, H1, I1, r, q1⟩ => q1 pins s1 us I1 r) he hpl⟩ (m_args h)
/-- e.f -/
theorem de_xfld {e : Expr} {f : Str} {d0 : D} (Su : Suit Z N sc K mg x y) (R : ExR K x.C) (no : PySem.W.findIn K (.ref x.C) f = some none) (h : DE Z e δ O E fun d O1 => d = y ∧ x.fs.lookup f = some d0 ∧ Q d0 O1) (hb : attributeBase e f Z.env (eval e Z.env) = eval e Z.env := by with_unfolding_all rfl) : DE Z (.Attribute e f pos) δ O E Q := by
  obtain ⟨X0, ae, oe, pn, d, eZ, hz, hf, hy⟩ := Su.ex
  have eK := Su.K
  subst eK eZ
  refine de_of (pe_xf (X := X0) (a := ae) (oe := oe) (d := d) (pn := pn) (C := x.C) ⟨R.ga, R.gt, R.sub, R.hd⟩ no hz hf pe_sem hb) fun W tk G σ H Q' p r s hE hQ => h W tk G σ H _ p r s hE fun G1 H1 O1 d' v st rd ⟨ed, el, q⟩ => ?_
  subst ed
  rcases hy with ⟨h1, _, _⟩ | ⟨dd, h2, rfl⟩
  · rw [h1] at el; cases el
  · cases rd with
    | exc h3 rf =>
      obtain ⟨w, ew, rw'⟩ := rf.look.1 d0 el
      exact ⟨rfl, rfl, dd, _, w, h2, st.sta.sub _ _ h3, ew, hQ _ _ _ _ _ st rw' q⟩
end
section
variable {X : Cx} {δ : DEnv} {O : Own} {E : XD → Own → Prop} {Q : D → Own → Prop}
/-- x in l, plain data -/
theorem db_inD {x : D} {ds : List D} (hu : X.A.units + 65 < cLine) (hx : okD x) (hd : okD (.lst ds)) (q : Q (.bl (ds.any fun z => PyData.eqv (toP z) (toP x))) O) : DB X (compareOp .In) x (.lst ds) δ O E Q := db_of (op_inD hu) fun v u W tk G σ H Q' p r s hE hQ =>
  ⟨toP x, toPs ds, rep_dp s.sub x v hx.1 p.1, rep_dp s.sub (.lst ds) u hd.1 p.2, hx.2, hd.2, by
    have e : (toPs ds).any (fun z => PyData.eqv z (toP x)) = ds.any fun z => PyData.eqv (toP z) (toP x) := by rw [toPs_map, List.any_map]; rfl
    rw [e]
    exact hQ _ _ _ _ _ (Step.refl s) (.bl _) q⟩
end
def errTab (K : PySem.W.Frag) (cs : List Addr) : Bool := (List.range 13).all fun i => (List.range 13).all fun j => PySem.W.kitOne K (.ref (cs.getD i 0)) (.ref (cs.getD j 0)) == some (decide (i = j))
theorem errTab_at {K : PySem.W.Frag} {cs : List Addr} (h : errTab K cs = true) {i j : Nat} (hi : i < 13) (hj : j < 13) : PySem.W.kitOne K (.ref (cs.getD i 0)) (.ref (cs.getD j 0)) = some (decide (i = j)) :=
  beq_iff_eq.mp (List.all_eq_true.1 (List.all_eq_true.1 h i (List.mem_range.2 hi)) j (List.mem_range.2 hj))
def errCls (K : PySem.W.Frag) (cs : List Addr) (CE : Addr) : Bool := cs.all fun c => PySem.W.exmOne K (.ref c) (.ref CE) == some true && (PySem.W.kitOne K (.ref c) (.type "ValueError") == some true && (PySem.W.findIn K (.ref c) "__getattribute__" == some (some (.builtin "BaseException.__getattribute__")) && (PySem.W.findIn K (.ref c) "__getattr__" == some none && (PySem.W.subIn K (.ref c) (.type "BaseException") == some true &&
  (PySem.W.hasDictIn K c && (PySem.W.findIn K (.ref c) "__class__" == some (some (.builtin "object.__class__")) && PySem.W.mroIn K c (.type "object") == some true))))))
structure ErrC (K : PySem.W.Frag) (C CE : Addr) : Prop where
  ex : PySem.W.exmOne K (.ref C) (.ref CE) = some true
  ve : PySem.W.kitOne K (.ref C) (.type "ValueError") = some true
  r : ExR K C
theorem errCls_at {K : PySem.W.Frag} {cs : List Addr} {CE : Addr} (h : errCls K cs CE = true) (c2 : PySem.W.specialIn K (.builtin "object.__class__") "__get__" = some (some (.builtin "getset_descriptor.__get__"))) (c3 : PySem.W.takesIn K (.builtin "object.__class__") = some true) {C : Addr} (hC : C ∈ cs) : ErrC K C CE := by
  have h1 := List.all_eq_true.1 h C hC
  simp only [Bool.and_eq_true, beq_iff_eq] at h1
  obtain ⟨a1, a2, a3, a4, a5, a6, a7, a8⟩ := h1
  exact ⟨a1, a2, a3, a4, a5, a6, a7, c2, c3, a8⟩
/-- its code object at cA, the table of that at P -/
structure LDef (K : PySem.W.Frag) (nm qual : Str) (st : Stmt) (f cA P : Addr) : Prop where
  lk : ∃ oc od kV doc pm an ct osl, K.lookup f = some ⟨oc, od, .func (PySem.W.fnOf nm qual (defArgs st) (defBody st) (defScope st) .none kV doc pm an (.ref cA) ct), osl⟩
  cd : PySem.W.codeIn K (.ref cA) qual = true
  hd : PySem.W.codeHdIn K cA P = true
  no : K.lookup P = none
def BodyOkL (P : Program) (w : World) (K : PySem.W.Frag) (mg : Str → Option Value) (base : Heap) (k : Nat) (N : List Str) (st : Stmt) (cA : Addr) (qual : Str) (sp : DSp) : Prop :=
  ∀ (X : Cx), Is X P w K mg base → Sc X N (defScope st) → Df X → Room k X.A → X.env.code = .ref cA → X.env.qual ++ "<lambda>" = qual → ∀ ds O E Q, sp ds O E Q → DSs X (defBody st) (startD N ds) O (bkOf Q E) fun _ O' => Q .non O'
/-- what a lambda of law is called -/
def lamQ : Str := ("law" : Str) ++ ".<locals>." ++ "<lambda>"
def spLawL (P : Addr) (q : Str) : DSp := fun ds O E Q => ∃ ns : List Int, ds = [.fz (ns.map D.int)] ∧ ns.length ≤ 63 ∧ O = [(P, .tab q)] ∧ ∀ O', Q (.bl true) O'
theorem spLawL_at {K : PySem.W.Frag} {H : Hp} {a P : Addr} {q : Str} {ns : List Int} (hl : ns.length ≤ 63) (hP : H P = some (.tbl #[])) (hS : SqL K H a (ns.map V.int)) : lift K (spLawL P q) [.ref a] H (fun v _ => v = .bl true) (fun _ _ _ => False) := by
  have hG : ∀ b, b ≠ P → (fun b => if b = P then none else H b) b = H b := fun b h => if_neg h
  have ne : ∀ b o, H b = some o → o ≠ .tbl #[] → b ≠ P := fun b o e n z => by rw [z, hP] at e; exact n (Option.some.inj e).symm
  have hS2 : SqL K (fun b => if b = P then none else H b) a (ns.map V.int) := by
    rcases hS with (h | ⟨o, h⟩) | h
    · exact .inl (.inl ((hG a (ne a _ h (fun z => nomatch z))).trans h))
    · exact .inl (.inr ⟨o, (hG a (ne a _ h (fun z => nomatch z))).trans h⟩)
    · exact .inr h
  refine ⟨fun b => if b = P then none else H b, [.fz (ns.map D.int)], [(P, .tab q)], fun _ _ => False, fun d _ => d = .bl true, .cons (.fz hS2 (repL_map (fun _ => .int _) _)) .nil, ⟨fun b o e => ?_, by simp, fun b c m => ?_⟩, fun _ _ _ _ _ _ _ _ z => z, fun _ _ _ d v _ r e => by subst e; cases r; rfl, ns, rfl, hl, rfl, fun _ => rfl⟩
  · by_cases hb : b = P
    · rw [if_pos hb] at e; cases e
    · rw [if_neg hb] at e; exact e
  · rw [List.mem_singleton] at m
    cases m
    exact ⟨if_pos rfl, _, hP, trivial, fun p cv hc => by
      have z : codeAmong p [] = some cv := hc
      simp [codeAmong] at z⟩
theorem walkL {l : PySem.W.OpenLaw} {q : Program} {loose : List Str} {XP : (Str → Option Value) → Heap → Prop} {YP : World → Heap → Prop} {d : DefRec} {K : Params → PySem.W.Frag} (hn : l.most = some 63) (hdf : d.params.defaults = []) (hrec : ((recsOf q).any fun e => e.name == d.name) = true)
    (hY : ∀ (w : World) (h : Heap), YP w h → (K w.params).In h)
    (F : ∀ (w : World) (mg : Str → Option Value) (fa : Addr) (h : Heap), (K w.params).In h → h.Ns mainGlobals mg → mg d.name = some (.ref fa) →
      ∃ (st : Stmt) (cA P : Addr) (N : List Str), LDef (K w.params) "law" "law" st fa cA P ∧ FnS N ["_law_script"] (defScope st) ∧ (∀ kV doc pm an ct (s : Shared) (u : Value), BindsTo s (PySem.W.fnOf "law" "law" (defArgs st) (defBody st) (defScope st) .none kV doc pm an (.ref cA) ct) ⟨[u], []⟩ [("_law_script", u)]) ∧
        ∀ base : Heap, LamX.TabB base mg cA P → BodyOkL l.prog w (K w.params) mg base 29 N st cA lamQ (spLawL P lamQ)) :
    PySem.W.WalkO q loose XP YP l.row.toRowW d [] (fun f vs => PySem.call f vs) := by
  refine LamX.walk_ofOwn (n := 63) (k := 30) (x := "_law_script") (CX := fun w => L2N.CX l.prog w) hn (by decide) hdf ⟨rfl, by decide, by decide⟩ hrec hY (fun w mg fa h Y KX G hm own => ?_) fun _ _ _ _ _ ⟨_, _, _, _, _, _, _, _, _, _, _, _, z⟩ => z
  obtain ⟨st, cA, P, N, L, S, hb, hB⟩ := F w mg fa h KX G hm
  have CH := PySem.W.codeHd_of_K KX L.hd
  obtain ⟨oc, od, kV, doc, pm, an, ct, osl, lk⟩ := L.lk
  have hP : h.get? P = some { cls := .none, data := .fields #[] } := by
    have hd := L.hd
    unfold PySem.W.codeHdIn at hd
    split at hd
    · rename_i vs sl hk
      simp only [Bool.and_eq_true] at hd
      obtain ⟨⟨⟨⟨⟨e1, _⟩, _⟩, _⟩, _⟩, _⟩ := hd
      split at e1
      · rename_i P' h11
        have e3 : P' = P := beq_iff_eq.mp e1
        subst e3
        exact own _ _ _ _ _ _ _ _ lk rfl rfl hk h11
      · cases e1
    · cases hd
  obtain ⟨o, file, tf, flags, tg, inF, text, tt, _⟩ := CH
  refine ⟨PySem.W.fnOf "law" "law" (defArgs st) (defBody st) (defScope st) .none kV doc pm an (.ref cA) ct, [(cA, P)], lift (K w.params) (spLawL P lamQ), fun p hp => ?_, fun p hp => ?_, fun p hp => ?_, hb kV doc pm an ct, fun H a ns hl _ hH hS => ?_, fun base _ _ TB => ?_⟩
  · rw [List.mem_singleton.1 hp]; exact hP
  · rw [List.mem_singleton.1 hp]; exact L.no
  · rw [List.mem_singleton.1 hp]; exact PySem.W.codeHd_of_K KX L.hd
  · exact spLawL_at hl (hH _ List.mem_cons_self) hS
  · refine fn_of (k := 29) lk L.cd S.toFnScope (fun vs H Q E ⟨G, ds, O, E', Q', rl, _, _, _, hs⟩ => by obtain ⟨_, e, _⟩ := hs; rw [rl.length, e]; rfl) fun A outer s H vs Q E hr hsp => ?_
    obtain ⟨G, ds, O, E', Q', rl, sta, hE, hQ, hs⟩ := hsp
    refine ⟨_, pss_sem, ?_⟩
    exact hB base (TB _ List.mem_cons_self) (cxOf (L2N.CX l.prog w) l.prog w (K w.params) mg base N "law" (defScope st) fa (.ref cA) A outer s H E) ⟨rfl, rfl, rfl, rfl, rfl, L2H.passesAt_of rfl⟩ ⟨S.nm, rfl, rfl, S.nd, rfl⟩ ⟨fun _ => rfl, rfl, rfl, rfl, passes_of rfl⟩ hr rfl rfl ds O E' Q' hs _ (L2N.takes_of rfl rfl rfl rfl) G _ H _ (start_rep rl) sta
      ⟨fun G' H' O' δ' σ' s' r' q => hQ G' H' O' .non .non s' .non q, hQ, fun _ _ _ _ _ _ _ z => z.elim, fun _ _ _ _ _ _ _ z => z.elim, fun G' H' O' δ' σ' x c dd s' r' xr e => hE G' H' O' x c dd s' xr e⟩
end DL
end
section
set_option maxRecDepth 100000
set_option maxHeartbeats 4000000
set_option autoImplicit false
namespace DL
open PySem PySem.Spec PyProof.Rows L2
end DL
end
section
set_option maxRecDepth 100000
set_option maxHeartbeats 4000000
set_option autoImplicit false
namespace DL
open PySem PySem.Spec PyProof.Rows L2
section
variable {prog : Program} {w : World}
theorem list_eq_sizes (l b : Addr) (items items2 : Array Value) (n n2 : Nat) (dd dd2 : Option Addr) (sl sl2 : Array (Option Value)) (hsz : items.size ≠ items2.size) :
    MeetsIn prog w (Builtin.«list.__eq__» ⟨[.ref l, .ref b], []⟩)
      (fun A R s => s.heap.get? l = some { cls := .type "list", dict := dd, data := .seq items n, slots := sl } ∧ s.heap.get? b = some { cls := .type "list", dict := dd2, data := .seq items2 n2, slots := sl2 } ∧
        R (.ok (.ret (.bool false))) s) := by
  intro A R s h
  obtain ⟨hp, g, d, tk, os⟩ := s; obtain ⟨hl, hb, h⟩ := h
  have f3 := AutoSeq1.sub_list_list
  have hne : (items.size != items2.size) = true := by simpa using hsz
  wp_walk using wpAny_loadPart' hl, wpAny_loadPart' hb
  exact h
theorem rc_sizes {A : Around} {s : Shared} {l b : Addr} {items items2 : Array Value} (hl : s.heap.IsList l items) (hb : s.heap.IsList b items2) (hsz : items.size ≠ items2.size) (hu : A.units < cLine)
    (E Q : Value → Shared → Prop) (h : Q (.bool false) s) : wpAny (model prog w) A (richCompare .Eq (.ref l) (.ref b)) Q E s := by
  obtain ⟨⟨cls, dd, data, sl⟩, ho, hc, n, hd⟩ := id hl
  obtain ⟨⟨cls2, dd2, data2, sl2⟩, ho2, hc2, n2, hd2⟩ := id hb
  simp only at hc hd hc2 hd2
  subst hc hd hc2 hd2
  have ta : s.TypeIs (.ref l) "list" := ⟨_, ho, rfl⟩
  have tb : s.TypeIs (.ref b) "list" := ⟨_, ho2, rfl⟩
  exact wpAny_richCompare_same_room (op := .Eq) ta tb F.slot_list_eq (call_meetsIn F.slot_list_eq ta F.entry_list_eq (F.args_list_eq_2 _ _) (list_eq_sizes l b items items2 n n2 dd dd2 sl sl2 hsz)
    ⟨ho, ho2, show Value.bool false ≠ Value.notImplemented ∧ Q (.bool false) s from ⟨(fun x => nomatch x), h⟩⟩) hu
end
def rEqE : R2 := fun x y H Q => ∃ l b xs, x = .ref l ∧ y = .ref b ∧ H l = some (.lst xs) ∧ H b = some (.lst []) ∧ Q (.bl xs.isEmpty) H
theorem op_eqE {X : Cx} (hu : X.A.units < cLine) : OpR X (compareOp .Eq) rEqE := by
  intro pins s σ H x y v u Q I rx ry h
  obtain ⟨l, b, xs, rfl, rfl, hl, hb, q⟩ := h
  cases rx
  cases ry
  obtain ⟨z1, its, n, r1, l1, e1⟩ := I.lstM hl
  obtain ⟨z2, its2, n2, r2, l2, e2⟩ := I.lstM hb
  have h1 : s.heap.IsList l its.toArray := ⟨_, e1, rfl, n, rfl⟩
  have h2 : s.heap.IsList b its2.toArray := ⟨_, e2, rfl, n2, rfl⟩
  rw [List.length_nil] at l2
  cases xs with
  | nil =>
    rw [List.length_nil] at l1
    have z1 : its = [] := List.eq_nil_of_length_eq_zero l1.symm
    have z2 : its2 = [] := List.eq_nil_of_length_eq_zero l2.symm
    subst z1 z2
    exact SeqAt.rcP_lists (e := fun _ => true) h1 h2 rfl hu (fun j h _ => absurd h (Nat.not_lt_zero j)) _ _ ⟨.bl true, H, I, rfl, q⟩
  | cons x xs =>
    rw [List.length_cons] at l1
    exact rc_sizes h1 h2 (by rw [List.size_toArray, List.size_toArray]; omega) hu _ _ ⟨.bl false, H, I, rfl, q⟩
theorem Sta.perm {K : PySem.W.Frag} {G H : Hp} {O O2 : Own} (s : Sta K G O H) (h : O.Perm O2) : Sta K G O2 H := ⟨s.sub, (h.map _).nodup_iff.1 s.nd, fun a c m => s.own a c (h.mem_iff.2 m)⟩
theorem Step.perm {K : PySem.W.Frag} {G H G' H' : Hp} {O O' O2 : Own} (s : Step K G O H G' O' H') (h : O'.Perm O2) : Step K G O H G' O2 H' :=
  ⟨s.g, s.sta.perm h, s.fr, s.gn, fun a m => s.on a ((h.map _).mem_iff.2 m)⟩
theorem Step.permL {K : PySem.W.Frag} {G H G' H' : Hp} {O O' O2 : Own} (s : Step K G O2 H G' O' H') (h : O.Perm O2) : Step K G O H G' O' H' :=
  ⟨s.g, s.sta, fun a o e n => s.fr a o e fun m => n ((h.map _).mem_iff.2 m), fun a e n => (s.gn a e n).imp id (h.map _).mem_iff.2, fun a m => (s.on a m).imp (h.map _).mem_iff.2 id⟩
def LessQ (Q : D → Own → Prop) (d : D) (O : Own) : Prop := ∃ O1 O2, O.Perm O1 ∧ O2.Sublist O1 ∧ Q d O2
theorem lessQ {Q : D → Own → Prop} {d : D} {O O1 O2 : Own} (q : Q d O2) (h : O.Perm O1) (s : O2.Sublist O1) : LessQ Q d O := ⟨O1, O2, h, s, q⟩
theorem DSs.lessQ {X : Cx} {sts : List Stmt} {δ : DEnv} {O : Own} {Q : D → Own → Prop} {E : XD → Own → Prop} (q : DSs X sts δ O (bkOf (LessQ Q) E) (fun _ O' => LessQ Q .non O')) : DSs X sts δ O (bkOf Q E) (fun _ O' => Q .non O') := fun W tk G σ H D r s l =>
  q W tk G σ H D r s ⟨fun G' H' O' δ' σ' st r' ⟨O1, O2, h1, h2, n⟩ => l.nx _ _ _ _ _ ((st.perm h1).less h2) r' n, fun G' H' O' d v st rd ⟨O1, O2, h1, h2, n⟩ => l.rt _ _ _ _ _ ((st.perm h1).less h2) rd n, l.bk, l.ct, l.ex⟩
section
variable {X : Cx} {δ : DEnv} {O : Own} {E : XD → Own → Prop} {Q : D → Own → Prop} {pos apos : Pos}
/-- an own list of anything, compared with [] -/
theorem db_eqE {k : Nat} {a : Addr} {xs : List D} (hr : Room k X.A) (m : At a (.lst xs) O) (q : Q (.bl xs.isEmpty) O) : DB X (compareOp .Eq) (.ref a) (.lst []) δ O E Q :=
  db_of (op_eqE (Nat.lt_of_le_of_lt (Nat.le_add_right _ 64) hr.units)) fun v u W tk G σ H Q' p r s hE hQ => by
    obtain ⟨p1, p2⟩ := p
    cases p1
    obtain ⟨_, o, ho, rc⟩ := s.at_ m
    cases o with
    | lst ws =>
      have rl : RepL X.K G xs ws := rc
      cases p2 with
      | lst h2 r2 =>
        cases r2
        refine ⟨_, _, ws, rfl, rfl, ho, s.sub _ _ h2, hQ _ _ _ _ _ (Step.refl s) ?_ q⟩
        have e : ws.isEmpty = xs.isEmpty := by cases rl <;> rfl
        rw [e]
        exact .bl _
    | _ => exact rc.elim
theorem db_eqLE {k : Nat} {xs : List D} (hr : Room k X.A) (q : Q (.bl xs.isEmpty) O) : DB X (compareOp .Eq) (.lst xs) (.lst []) δ O E Q :=
  db_of (op_eqE (Nat.lt_of_le_of_lt (Nat.le_add_right _ 64) hr.units)) fun v u W tk G σ H Q' p r s hE hQ => by
    obtain ⟨p1, p2⟩ := p
    cases p1 with
    | lst h1 r1 =>
      cases p2 with
      | lst h2 r2 =>
        cases r2
        refine ⟨_, _, _, rfl, rfl, s.sub _ _ h1, s.sub _ _ h2, hQ _ _ _ _ _ (Step.refl s) ?_ q⟩
        have e : ∀ {ws : List V}, RepL X.K G xs ws → ws.isEmpty = xs.isEmpty := fun r => by cases r <;> rfl
        rw [e r1]
        exact .bl _
/-- l.pop() -/
theorem de_pop {o : Expr} (h : DE X o δ O E fun d O1 => ∃ a xs, d = .ref a ∧ At a (.lst xs) O1 ∧ ∃ (z : D) (O3 : Own), xs[xs.length - 1]? = some z ∧ Put a (.lst xs.dropLast) O1 O3 ∧ Q z O3)
    (hbase : attributeBase o "pop" X.env (eval o X.env) = eval o X.env := by with_unfolding_all rfl) (hline : (apos.endLine == pos.line) = true := by with_unfolding_all rfl) : DE X (.Call (.Attribute o "pop" apos) [] [] pos) δ O E Q :=
  de_of (pe_bm0 PySem.F.plainAttrs_list PySem.F.slot_list_pop PySem.F.type_list_pop mt_pop pe_sem hbase hline) fun W tk G σ H Q' p r s hE hQ => h W tk G σ H _ p r s hE fun G1 H1 O1 d v st rd ⟨a, xs, ed, m, z, O3, hz, pt, q⟩ => by
    subst ed
    have ev := rep_ref rd
    subst ev
    obtain ⟨_, oz, hoz, rcz⟩ := st.sta.at_ m
    cases oz with
    | lst ws =>
      have rl : RepL X.K G1 xs ws := rcz
      obtain ⟨w, hw, rw'⟩ := rl.get hz
      have hd : RepL X.K G1 xs.dropLast ws.dropLast := by rw [List.dropLast_eq_take, List.dropLast_eq_take, rl.length]; exact rl.take _
      exact ⟨.inl ⟨rfl, ws, .inl (.inl hoz)⟩, a, ws, w, rfl, rfl, hoz, by rw [rl.length]; exact hw, hQ _ _ _ _ _ (st.trans (Step.put st.sta pt (o := .lst ws.dropLast) hd)) rw' q⟩
    | _ => exact rcz.elim
/-- {} -/
theorem de_dnew (q : ∀ a, Q (.ref a) ((a, .dK []) :: O)) : DE X (.Dict [] [] pos) δ O E Q :=
  de_of pe_dnewK fun W tk G σ H Q' p r s hE hQ => fun p hp => hQ _ _ _ _ _ (Step.newO s (c := .dK []) hp ⟨rfl, .nil⟩) (.ref p) (q p)
end
end DL
end
section
set_option maxRecDepth 100000
set_option maxHeartbeats 4000000
set_option autoImplicit false
namespace DL
open PySem PySem.Spec PyProof.Rows L2
structure JRepO (K : PySem.W.Frag) (b : Addr) (ds : List D) (J : It) : Prop where
  go : ∀ (i : Nat) (G H : Hp) (ws : List V), H b = some (.lst ws) → RepL K G ds ws → i < ds.length → J.go i H
  stop : ∀ (i : Nat) (G H : Hp) (ws : List V), H b = some (.lst ws) → RepL K G ds ws → ds.length = i → J.stop i H
  yld : ∀ (i : Nat) (G H : Hp) (x : V) (H' : Hp) (d : D) (ws : List V), H b = some (.lst ws) → RepL K G ds ws → ds[i]? = some d → J.yld i H x H' → H' = H ∧ Rep K G d x
theorem jrepO {K : PySem.W.Frag} {b : Addr} {ds : List D} : JRepO K b ds (Itl K b) where
  go := fun i G H ws e r hi => by
    have hv : i < ws.length := by rw [r.length]; exact hi
    exact ⟨ws, ws[i], .inl (.inl e), by simp [hv]⟩
  stop := fun i G H ws e r hi => ⟨ws, .inl (.inl e), by rw [r.length]; exact Nat.le_of_eq hi⟩
  yld := fun i G H x H' d ws e r hd ⟨eH, hy⟩ => by
    obtain ⟨v, hv, rv⟩ := r.get hd
    have := hy ws (.inl (.inl e))
    rw [hv] at this
    cases this
    exact ⟨eH, rv⟩
section
variable {X : Cx} {N : List Str} {sc : Scope} {δ : DEnv} {O : Own} {E : XD → Own → Prop} {Q : D → Own → Prop} {pos : Pos}
theorem lc_turnsO {elt tg iter : Expr} {ifs : List Expr} {scope : Scope} {vs : List Nat} {δw : DEnv} {ds : List D} {J : It} {bA : Addr} {G1 H1 : Hp} {O1 : Own} {σ : L2.St} {Q' : VK} (hw : Wp δ vs δw) (s1 : Sta X.K G1 O1 H1) (r1 : REnv X.K G1 δ σ) (jr : JRepO X.K bA ds J) (P : Nat → List D → Own → Prop) (h0 : P 0 [] O1) (hP : ∀ i acc O', P i acc O' → At bA (.lst ds) O')
    (hb : LcBody X elt tg ifs scope vs δw ds P) (hd : ∀ acc O', P ds.length acc O' → NewL acc O' Q) (hQ : ∀ G' H' O' d v, Step X.K G1 O1 H1 G' O' H' → Rep X.K G' d v → Q d O' → Q' v H') :
    ∀ Dl, H1 Dl = none → ∃ W : Nat → Nat → Hp → Prop, (∃ m, W 0 m (upd H1 Dl (.lst []))) ∧ ∀ i m H, W i m H →
      (J.stop i H ∧ Q' (.ref Dl) H) ∨ (J.go i H ∧ ∃ Nx : Hp → Prop, (∀ H', Nx H' → ∃ m', m' < m ∧ W (i + 1) m' H') ∧ ∀ x H', J.yld i H x H' → (fun v σ H K => ∀ s0 H0 C cl fp, semG (blkX X scope s0 H0 C cl fp) tg v σ H K : TG) x (wipe σ vs) H' fun σ2 H2 => wipe σ2 vs = wipe σ vs ∧ (fun σ H K => ∀ s0 H0 C cl fp, semTs (blkX X scope s0 H0 C cl fp) ifs σ H K : TT) σ2 H2 fun b H3 =>
        if b = true then (fun σ H K => ∀ s0 H0 C cl fp, sem (blkX X scope s0 H0 C cl fp) elt σ H K : TE) σ2 H3 fun y H4 => ∃ acc, H4 Dl = some (.lst acc) ∧ acc.length < sizeLine ∧ Nx (upd H4 Dl (.lst (acc ++ [y]))) else Nx H3) := by
  intro Dl hD
  have S0 := Step.newO s1 (c := .lst []) (o := .lst []) hD .nil
  refine ⟨fun i m H' => m = ds.length - i ∧ i ≤ ds.length ∧ ∃ G' O' acc, Step X.K G1 O1 H1 G' ((Dl, .lst acc) :: O') H' ∧ P i acc O', ⟨_, rfl, Nat.zero_le _, G1, O1, [], S0, h0⟩, ?_⟩
  rintro i m H' ⟨rfl, hi, G', O', acc, st', p⟩
  have hwip : wipe (wipe σ vs) vs = wipe σ vs := by
    have : ∀ {vs ws : List Nat}, (∀ i ∈ vs, i ∈ ws) → wipe (wipe σ ws) vs = wipe σ ws := by
      intro vs
      induction vs with
      | nil => intro ws _; rfl
      | cons v vs ih =>
        intro ws hm
        show (wipe (wipe σ ws) vs).set v none = _
        rw [ih fun i m => hm i (List.mem_cons_of_mem _ m)]
        have hv := hm v List.mem_cons_self
        have : ∀ {ws : List Nat}, v ∈ ws → (wipe σ ws).set v none = wipe σ ws := by
          intro ws
          induction ws with
          | nil => intro h; exact nomatch h
          | cons u us ih2 =>
            intro h
            show ((wipe σ us).set u none).set v none = (wipe σ us).set u none
            by_cases huv : u = v
            · subst huv; rw [List.set_set]
            · rcases List.mem_cons.mp h with z | z
              · exact absurd z.symm huv
              · rw [List.set_comm _ _ huv, ih2 z]
        exact this hv
    exact this fun i m => m
  obtain ⟨_, ob, hob, rcb⟩ := st'.sta.less.at_ (hP i acc O' p)
  cases ob with
  | lst wb =>
  have rlb : RepL X.K G' ds wb := rcb
  by_cases hlt : i < ds.length
  · refine .inr ⟨jr.go i G' H' wb hob rlb hlt, fun H2 => ∃ G2 O2 acc2, Step X.K G1 O1 H1 G2 ((Dl, .lst acc2) :: O2) H2 ∧ P (i + 1) acc2 O2, fun H2 ⟨G2, O2, acc2, s2, p2⟩ => ⟨ds.length - (i + 1), by omega, rfl, hlt, G2, O2, acc2, s2, p2⟩, fun x H2 hy s0 H0 C cl fp => ?_⟩
    have hdi : ds[i]? = some ds[i] := by simp [hlt]
    obtain ⟨eH, rx⟩ := jr.yld i G' H' x H2 _ wb hob rlb hdi hy
    subst eH
    have st2 := st'
    have rw2 : REnv X.K G' δw (wipe σ vs) := wipe_rep hw (r1.mono st'.g)
    refine hb i _ acc O' hdi p s0 H0 C cl fp x G' (wipe σ vs) H2 _ rx rw2 st2.sta.less fun G3 H3 O3 δ3 σ3 s3 r3 w3 q3 => ⟨w3.trans hwip, fun s0 H0 C cl fp => ?_⟩
    have f3 := Step.frame st2.sta s3
    refine q3 s0 H0 C cl fp (fun _ _ _ _ => False) takes0 G3 σ3 H3 _ trivial r3 s3.sta (fun _ _ _ _ _ _ _ _ z => z.elim) fun G4 H4 O4 b b' s4 eb q4 => ?_
    obtain rfl : b = b' := eb
    have f4 := Step.frame f3.sta s4
    have t4 := (st2.trans f3).trans f4
    cases b with
    | false =>
      rw [if_neg Bool.false_ne_true]
      exact ⟨G4, O4, acc, t4, q4.2 rfl⟩
    | true =>
      rw [if_pos rfl]
      intro s0 H0 C cl fp
      refine q4.1 rfl s0 H0 C cl fp (fun _ _ _ _ => False) takes0 G4 σ3 H4 _ trivial (r3.mono s4.g) s4.sta (fun _ _ _ _ _ _ _ _ z => z.elim) fun G5 H5 O5 y v s5 ry ⟨hz, p5⟩ => ?_
      have f5 := Step.frame f4.sta s5
      obtain ⟨_, o, ho, rc⟩ := f5.sta.own Dl _ List.mem_cons_self
      cases o with
      | lst ws =>
        have rl : RepL X.K G5 acc ws := rc
        have f6 := Step.put f5.sta (c := .lst (acc ++ [y])) (o := .lst (ws ++ [v])) Put.head (rl.append (.cons ry .nil))
        exact ⟨ws, ho, by rw [rl.length]; exact Nat.lt_of_lt_of_le hz (by decide), G5, O5, acc ++ [y], (t4.trans f5).trans f6, p5⟩
      | _ => exact rc.elim
  · have e : i = ds.length := by omega
    subst e
    refine .inl ⟨jr.stop _ G' H' wb hob rlb rfl, ?_⟩
    rcases hd acc O' p with n | n
    · obtain ⟨_, o, ho, rc⟩ := st'.sta.own Dl _ List.mem_cons_self
      obtain ⟨fz, rc'⟩ := Step.freeze st'.sta (c := .lst acc) At.head Del.head ho
      cases o with
      | lst ws => exact hQ _ _ _ _ _ (st'.trans fz) (.lst upd_same rc') n
      | _ => exact rc.elim
    · exact hQ _ _ _ _ _ st' (.ref Dl) (n Dl)
  | _ => exact rcb.elim
theorem de_lcXO {elt tg iter : Expr} {ifs : List Expr} {scope : Scope} (own : List (Str × Nat)) (sc' : Scope) (S : Sc X N sc)
    (h : DE X iter δ O E fun d O1 => ∃ b ds, d = .ref b ∧ At b (.lst ds) O1 ∧ ∃ δw, Wp δ (own.map (·.2)) δw ∧ ∃ (α : Type) (xs : List α) (enc : α → D) (g : α → List D), ds = xs.map enc ∧ xs.length ≤ 100000 ∧ LcX X N sc' elt tg ifs (own.map (·.2)) δw O1 xs enc g ∧ NewL (xs.flatMap g) O1 Q)
    (ok : blkC N sc scope own = true := by decide +kernel) (hrel : relS scope sc = sc' := by with_unfolding_all rfl) (hnm : nmOk sc' = true := by decide +kernel) (hs : ∀ x, foldedSetIterable iter X.env x = pure x := by intro _; with_unfolding_all rfl) : DE X (.ListComp elt [⟨tg, iter, ifs, 0⟩] scope pos) δ O E Q := by
  refine de_of (pe_lc (own := own) (g := fun v σ H K => ∀ s0 H0 C cl fp, semG (blkX X scope s0 H0 C cl fp) tg v σ H K) (tt := fun σ H K => ∀ s0 H0 C cl fp, semTs (blkX X scope s0 H0 C cl fp) ifs σ H K) (te := fun σ H K => ∀ s0 H0 C cl fp, sem (blkX X scope s0 H0 C cl fp) elt σ H K)
    S.calm S.hN (pi_list (pe_sem (e := iter))) (by rw [S.hn, S.hsc]; exact blkOk_by ok) (fun s0 H0 C cl fp => ⟨fun pins s' σ H v u K I r q => q s0 H0 C cl fp pins s' u I r⟩) (fun s0 H0 C cl fp => ⟨fun pins s' σ H K I q => q s0 H0 C cl fp pins s' I⟩) (fun s0 H0 C cl fp => ⟨fun pins s' σ H K I q => q s0 H0 C cl fp pins s' I⟩) hs) ?_
  intro W tk G σ H Q' p r s hE hQ
  refine h W tk G σ H _ p r s hE fun G1 H1 O1 d v st rd ⟨b, ds, ed, m, δw, hw, α, xs, enc, g, e, hl, hb, n⟩ => ?_
  subst ed e
  have ev := rep_ref rd
  subst ev
  obtain ⟨_, ob, hob, rcb⟩ := st.sta.at_ m
  cases ob with
  | lst wb =>
    refine ⟨b, rfl, ⟨wb, .inl (.inl hob)⟩, ?_⟩
    refine lc_turnsO (iter := iter) hw st.sta (r.mono st.g) jrepO (fun i acc O' => acc = (xs.take i).flatMap g ∧ acc.length ≤ i ∧ O' = O1) ⟨rfl, Nat.le_refl _, rfl⟩ (fun i acc O' ⟨_, _, eO⟩ => eO ▸ m) (lcX_body S hrel hnm hl hb) ?_ fun G' H' O' d v s2 => hQ G' H' O' d v (st.trans s2)
    rintro acc O' ⟨rfl, _, rfl⟩
    rw [List.length_map, List.take_length]
    exact n
  | _ => exact rcb.elim
end
end DL
end
section
set_option maxRecDepth 100000
set_option maxHeartbeats 4000000
set_option autoImplicit false
namespace DL
open PySem PySem.Spec PyProof.Rows L2
end DL
end
section
set_option maxRecDepth 100000
set_option maxHeartbeats 4000000
set_option autoImplicit false
namespace DL
open PySem PySem.Spec PyProof.Rows L2
section
variable {X : Cx} {N : List Str} {sc scope : Scope} {δ : DEnv} {O : Own} {E : XD → Own → Prop} {Q : D → Own → Prop} {pos : Pos}
theorem wipe_wipe (σ : L2.St) (vs : List Nat) : wipe (wipe σ vs) vs = wipe σ vs := by
  have : ∀ {vs ws : List Nat}, (∀ i ∈ vs, i ∈ ws) → wipe (wipe σ ws) vs = wipe σ ws := by
    intro vs
    induction vs with
    | nil => intro ws _; rfl
    | cons v vs ih =>
      intro ws hm
      show (wipe (wipe σ ws) vs).set v none = _
      rw [ih fun i m => hm i (List.mem_cons_of_mem _ m)]
      have hv := hm v List.mem_cons_self
      have : ∀ {ws : List Nat}, v ∈ ws → (wipe σ ws).set v none = wipe σ ws := by
        intro ws
        induction ws with
        | nil => intro h; exact nomatch h
        | cons u us ih2 =>
          intro h
          show ((wipe σ us).set u none).set v none = (wipe σ us).set u none
          by_cases huv : u = v
          · subst huv; rw [List.set_set]
          · rcases List.mem_cons.mp h with z | z
            · exact absurd z.symm huv
            · rw [List.set_comm _ _ huv, ih2 z]
      exact this hv
  exact this fun i m => m
end
end DL
end
section
set_option maxRecDepth 100000
set_option maxHeartbeats 4000000
set_option autoImplicit false
namespace DL
open PySem PySem.Spec PyProof.Rows L2
end DL
end
section
set_option maxRecDepth 100000
set_option maxHeartbeats 4000000
set_option autoImplicit false
namespace DL
open PySem PySem.Spec PyProof.Rows L2
end DL
end
section
set_option maxRecDepth 100000
set_option maxHeartbeats 4000000
set_option autoImplicit false
namespace DL
open PySem PySem.Spec PyProof.Rows L2
section
variable {X : Cx} {N : List Str} {sc : Scope} {δ : DEnv} {O : Own} {E : XD → DEnv → Own → Prop} {k : DEnv → Own → Prop} {pos : Pos}
/-- a field as a target -/
theorem dg_fld {o : Expr} {g : Str} {d : D} (h : DE X o δ O (fun x O' => E x δ O') fun d2 O2 => ∃ a C fs O3, d2 = .ref a ∧ At a (.ins C fs) O2 ∧ Cls X.K C ∧ NoAttr X.K C g ∧ fs.length < 900 ∧ Put a (.ins C (putD g d fs)) O2 O3 ∧ k δ O3) : DG X (.Attribute o g pos) d δ O E k := fun W tk v G σ H Q rd r s hE hk pins s' u I ru => by
  rw [assign_Attribute]
  have P := h W tk G σ H (fun x H2 => ∃ a C dx fs, x = .ref a ∧ H2 a = some (.ins C dx fs) ∧ Cls X.K C ∧ NoAttr X.K C g ∧ fs.length < 1000 ∧ Q σ (upd H2 a (.ins C dx (putF g v fs)))) trivial r s (fun G' H' O' x c dd st xr e => hE _ _ _ _ _ _ _ _ st (r.mono st.g) xr e) fun G2 H2 O2 d2 u2 st2 r2 ⟨a, C, fs, O3, ed, at_, c, n, hl, pt, q2⟩ => by
    subst ed
    cases r2
    obtain ⟨_, o', ho, rc⟩ := st2.sta.at_ at_
    cases o' with
    | ins C' dx vs =>
      obtain ⟨e, rf⟩ := rc
      subst e
      have st3 := Step.put st2.sta pt (o := .ins C dx (putF g v vs)) ⟨rfl, putF_rep (rd.mono st2.g) rf⟩
      exact ⟨a, C, dx, vs, rfl, ho, c, n, by rw [rf.length]; omega, hk _ _ _ _ _ (st2.trans st3) ((r.mono st2.g).mono st3.g) q2⟩
    | _ => exact rc.elim
  refine wpAny_bind (wpAny_holding (thn (P pins s' I) fun ov s1 ⟨x, H1, I1, r1, a, C, dx, fs, ex, ea, c, n, l, q⟩ => ?_))
  subst ex
  obtain rfl : ov = Value.ref a := r1
  refine wpAny_bind (wpAny_standAt (wpAny_bind (wpAny_holding ?_)))
  exact setattr_ok I1 ea c n l ru fun s3 I3 => wpAny_release ⟨σ, _, I3, q⟩
end
end DL
end
section
set_option maxRecDepth 100000
set_option maxHeartbeats 4000000
set_option autoImplicit false
namespace DL
open PySem PySem.Spec PyProof.Rows L2
/-- the cases that are left, for the subject d -/
def DMc (X : Cx) (cs : List MatchCase) (d : D) (δ : DEnv) (O : Own) (B : Bk) (nx : DEnv → Own → Prop) : Prop :=
  ∀ (W : WX), L2N.Takes X W → ∀ (G : Hp) (σ : L2.St) (H : Hp) (T : Ends) (v : V), Rep X.K G d v → REnv X.K G δ σ → Sta X.K G O H → Lk X W G O H B nx T →
    ∀ (pins : List (Addr × Obj)) (s : Shared) (u : Value) (first : Bool), Inv X pins σ H s → RelV v u → wpAny (model X.prog X.w) X.A (matchCases cs X.env u first) (SP X pins T) X.xe s
section
variable {X : Cx} {N : List Str} {sc : Scope} {δ : DEnv} {O : Own} {B : Bk} {nx : DEnv → Own → Prop} {pos p1 p2 p3 p4 : Pos}
theorem ds_match {e : Expr} {cs : List MatchCase} (h : DE X e δ O (fun x O' => B.ex x δ O') fun d O1 => DMc X cs d δ O1 B nx) : DS X (.Match e cs pos) δ O B nx := fun W tk G σ H T r s l pins s' I => by
  refine wpAny_Match ?_
  exact thn (m_in h tk trivial r s l (K := fun v H1 => ∀ (pins : List (Addr × Obj)) (s : Shared) (u : Value) (first : Bool), Inv X pins σ H1 s → RelV v u → wpAny (model X.prog X.w) X.A (matchCases cs X.env u first) (SP X pins T) X.xe s) (fun G1 H1 O1 d v st r1 l1 rd q => q W tk G1 σ H1 T v rd r1 st.sta l1) pins s' I) fun u s1 ⟨v, H1, I1, rv, q⟩ => q pins s1 u true I1 rv
theorem dmc_nil {d : D} (q : nx δ O) : DMc X [] d δ O B nx := fun W tk G σ H T v rd r s l pins s' u first I ru =>
  wpAny_matchCases_nil ⟨σ, H, I, l.nx G H O δ σ (Step.refl s) r q⟩
theorem dmc_miss {ps : List Pattern} {body : List Stmt} {rest : List MatchCase} {ds : List D} (hn : ds.length ≠ ps.length) (h : DMc X rest (.tup ds) δ O B nx) (hl : ds.length ≤ 1000)
    (hstar : ps.findIdx? (·.isStar) = none := by rfl) (hwild : (ps.all fun p => p.isWildcard || (p.isStar && p.names.isEmpty)) = false := by rfl) : DMc X (⟨.MatchSequence ps pos, none, body⟩ :: rest) (.tup ds) δ O B nx := fun W tk G σ H T v rd r s l pins s' u first I ru => by
  cases rd with
  | @tup _ a vs hq rl =>
    obtain rfl : u = Value.ref a := ru
    obtain ⟨its, rv, ht, hz⟩ := I.tuple (s.sub.seqT hq)
    have e1 : its.length = ds.length := by rw [← rv.length, rl.length]
    refine wpAny_matchCases_cons (matchSeq_tuple_miss ht (by simp only [List.size_toArray]; omega) (by simp only [List.size_toArray]; omega) ?_ hstar hwild)
    exact h W tk G σ H T _ (.tup hq rl) r s l pins _ _ false (I.tok _) rfl
/-- the items of a tuple under a sequence pattern of as many parts -/
theorem dmc_hit {ps : List Pattern} {body : List Stmt} {rest : List MatchCase} {ds : List D} (S : Sc X N sc) (hn : ds.length = ps.length) (hl : ds.length ≤ 1000)
    {G H : Hp} {σ : L2.St} {T : Ends} {v : V} (rd : Rep X.K G (.tup ds) v) (s : Sta X.K G O H) {pins : List (Addr × Obj)} {s' : Shared} {u : Value} {first : Bool} (I : Inv X pins σ H s') (ru : RelV v u)
    (h : ∀ vs us s3, RepL X.K G ds vs → Vals vs us → Inv X pins σ H s3 → wpAny (model X.prog X.w) X.A (matchEach ps X.env us) (fun r s₁ => match r with
          | none => wpAny (model X.prog X.w) X.A (matchCases rest X.env u false) (SP X pins T) X.xe s₁
          | some bs => wpAny (model X.prog X.w) X.A (assignInOrder (bs.map fun (n, _) => bindName X.env n) (bs.map (·.2))) (fun _ s₂ => wpAny (model X.prog X.w) X.A (execs body X.env) (SP X pins T) X.xe s₂) X.xe s₁) X.xe s3)
    (hstar : ps.findIdx? (·.isStar) = none := by rfl) (hwild : (ps.all fun p => p.isWildcard || (p.isStar && p.names.isEmpty)) = false := by rfl) :
    wpAny (model X.prog X.w) X.A (matchCases (⟨.MatchSequence ps pos, none, body⟩ :: rest) X.env u first) (SP X pins T) X.xe s' := by
  cases rd with
  | @tup _ a vs hq rl =>
    obtain rfl : u = Value.ref a := ru
    obtain ⟨its, rv, ht, hz⟩ := I.tuple (s.sub.seqT hq)
    have e1 : its.length = ps.length := by rw [← rv.length, rl.length, hn]
    refine wpAny_matchCases_cons (matchSeq_tuple_hit ht (by simp only [List.size_toArray]; omega) (by simp only [List.size_toArray]; exact e1) ?_ hstar hwild)
    have uu := unpackItems_tuple (prog := X.prog) (w := X.w) (E := X.xe) (s := { s' with toks := s'.toks + 1 + 1 }) (Q := fun vs s₃ => Inv X pins σ H s₃ ∧ vs = its) (I.ok.hd S.calm) ht fun h' hx => ⟨I.kept (t' := s'.toks + 1 + 1) fun b o e => hx b o (Nat.ne_of_lt (Heap.lt_size e)) e, rfl⟩
    rw [show its.toArray.size = ps.length by simp only [List.size_toArray]; exact e1] at uu
    exact thn uu fun vs2 s3 ⟨I3, ev⟩ => by rw [ev]; exact h vs its s3 rl rv I3
/-- case [a text] -/
theorem dmc_word {x z : Str} {j : Nat} {body : List Stmt} {rest : List MatchCase} (S : Sc X N sc) (h1 : x = z → DSs X body δ O B nx) (h2 : x ≠ z → DMc X rest (.tup [.str x]) δ O B nx) :
    DMc X (⟨.MatchSequence [.MatchValue (.Constant (.str z) j p1) p2] pos, none, body⟩ :: rest) (.tup [.str x]) δ O B nx := fun W tk G σ H T v rd r s l pins s' u first I ru =>
  dmc_hit S rfl (by simp) rd s I ru fun vs us s3 rl rv I3 => by
    cases rl with
    | cons r1 rr =>
      cases r1
      cases rr
      cases rv with
      | cons v1 vv =>
        cases vv
        obtain ⟨t, rfl⟩ := v1
        refine wpAny_matchEach_cons (wpAny_matchPattern_Value (wpAny_Constant_str ?_))
        refine PyProof.Rows.eq_str (wpAny_truthy_bool ?_)
        by_cases hxz : x = z
        · rw [if_pos (beq_iff_eq.2 hxz)]
          refine wpAny_matchEach_nil ?_
          refine wpAny_assignInOrder_none ?_
          exact h1 hxz W tk G σ H T r s l pins _ (I3.tok _)
        · rw [if_neg (fun e => hxz (beq_iff_eq.1 e))]
          exact h2 hxz W tk G σ H T v rd r s l pins _ u false (I3.tok _) ru
/-- case [a text, a name] -/
theorem dmc_pair {x z n : Str} {i j : Nat} {d : D} {body : List Stmt} {rest : List MatchCase} (S : Sc X N sc) (hi : Ix n N i) (hl : Nk n .local sc.names) (h1 : x = z → ∃ δ', SetD d δ i δ' ∧ DSs X body δ' O B nx) (h2 : x ≠ z → DMc X rest (.tup [.str x, d]) δ O B nx) :
    DMc X (⟨.MatchSequence [.MatchValue (.Constant (.str z) j p1) p2, .MatchAs none (some n) p3] pos, none, body⟩ :: rest) (.tup [.str x, d]) δ O B nx := fun W tk G σ H T v rd r s l pins s' u first I ru =>
  dmc_hit S rfl (by simp) rd s I ru fun vs us s3 rl rv I3 => by
    cases rl with
    | cons r1 rr =>
      cases r1
      cases rr with
      | cons r2 rr =>
        cases rr
        cases rv with
        | cons v1 vv =>
          cases vv with
          | cons v2 vv =>
            cases vv
            obtain ⟨t, rfl⟩ := v1
            refine wpAny_matchEach_cons (wpAny_matchPattern_Value (wpAny_Constant_str ?_))
            refine PyProof.Rows.eq_str (wpAny_truthy_bool ?_)
            by_cases hxz : x = z
            · rw [if_pos (beq_iff_eq.2 hxz)]
              refine wpAny_matchEach_cons (wpAny_matchPattern_Capture ?_)
              refine wpAny_matchEach_nil ?_
              obtain ⟨δ', hs, q⟩ := h1 hxz
              refine wpAny_assignInOrder_more (wpAny_bindName ?_)
              refine store_ok (I3.tok _) S.hN (S.ix hi) (.inl (S.lo hl)) v2 (fun s4 I4 => ?_) (.inr (S.lo hl))
              refine wpAny_assignInOrder_none ?_
              exact q W tk G _ H T (by rw [hs.eq]; exact r.set i r2) s l pins _ I4
            · rw [if_neg (fun e => hxz (beq_iff_eq.1 e))]
              exact h2 hxz W tk G σ H T v rd r s l pins _ u false (I3.tok _) ru
end
end DL
end
section
set_option maxRecDepth 100000
set_option maxHeartbeats 4000000
set_option autoImplicit false
namespace DL
open PySem PySem.Spec PyProof.Rows L2
end DL
end
section
set_option maxRecDepth 100000
set_option maxHeartbeats 4000000
set_option autoImplicit false
namespace DL
open PySem PySem.Spec PyProof.Rows L2
end DL
end
section
set_option maxRecDepth 100000
set_option maxHeartbeats 4000000
set_option autoImplicit false
namespace DL
open PySem PySem.Spec PyProof.Rows L2
section
variable {X : Cx} {N : List Str} {sc : Scope} {δ : DEnv} {O O2 : Own} {B : Bk} {nx : DEnv → Own → Prop} {E : XD → Own → Prop}
theorem Lk.perm {W : WX} {G H : Hp} {D : Ends} (l : Lk X W G O H B nx D) (h : O.Perm O2) : Lk X W G O2 H B nx D :=
  ⟨fun _ _ _ _ _ s => l.nx _ _ _ _ _ (s.permL h), fun _ _ _ _ _ s => l.rt _ _ _ _ _ (s.permL h), fun _ _ _ _ _ s => l.bk _ _ _ _ _ (s.permL h), fun _ _ _ _ _ s => l.ct _ _ _ _ _ (s.permL h), fun _ _ _ _ _ _ _ _ s => l.ex _ _ _ _ _ _ _ _ (s.permL h)⟩
theorem DSs.perm {sts : List Stmt} (h : O.Perm O2) (q : DSs X sts δ O2 B nx) : DSs X sts δ O B nx := fun W tk G σ H D r s l => q W tk G σ H D r (s.perm h) (l.perm h)
theorem M.perm {α β : Type} {P : Hp → Prop} {R : Hp → α → β → Prop} {t : TR β} {Q : α → Own → Prop} (h : O.Perm O2) (q : M X P R t δ O2 E Q) : M X P R t δ O E Q := fun W tk G σ H Q' p r s hE hQ =>
  q W tk G σ H Q' p r (s.perm h) (fun _ _ _ _ _ _ st => hE _ _ _ _ _ _ (st.permL h)) fun _ _ _ _ _ st => hQ _ _ _ _ _ (st.permL h)
theorem DC.perm {f : Value} {ds : List D} {Q : D → Own → Prop} (h : O.Perm O2) (q : DC X f ds δ O2 E Q) : DC X f ds δ O E Q := fun vs => M.perm h (q vs)
/-- four cells ahead of what is behind them -/
theorem perm4 {A B C : Own} : (A ++ (B ++ C)).Perm (B ++ (A ++ C)) := by
  rw [← List.append_assoc, ← List.append_assoc]
  exact List.Perm.append_right C List.perm_append_comm
end
end DL
end
section
set_option maxRecDepth 100000
set_option maxHeartbeats 4000000
set_option autoImplicit false
namespace DL
open PySem PySem.Spec PyProof.Rows L2 PySem.SeqAt
end DL
end
section
set_option maxRecDepth 100000
set_option maxHeartbeats 4000000
set_option autoImplicit false
namespace DL
open PySem PySem.Spec PyProof.Rows L2 PySem.SeqAt
abbrev Kp := Int × List Int
/-- at v: a tuple of a number and a tuple of numbers -/
def IsPK (h : Heap) (v : Value) (p : Kp) : Prop := ∃ (a b : Addr) (o : Obj) (t : Tok) (n : Nat) (its : Array Value), v = .ref a ∧ h.get? a = some o ∧ o.cls = .type "tuple" ∧ o.data = .seq #[.int p.1 t, .ref b] n ∧ h.IsTuple b its ∧ IntsAre its.toList p.2
theorem IsPK.keeps {h h' : Heap} {v : Value} {p : Kp} (x : IsPK h v p) (k : ∀ b o, h.get? b = some o → o.cls = .type "tuple" → h'.get? b = some o) : IsPK h' v p := by
  obtain ⟨a, b, o, t, n, its, e, ho, hc, hd, ⟨o2, ho2, hc2, n2, hd2⟩, hi⟩ := x
  exact ⟨a, b, o, t, n, its, e, k _ _ ho hc, hc, hd, ⟨o2, k _ _ ho2 hc2, hc2, n2, hd2⟩, hi⟩
theorem ints_uniq : ∀ {vs : List Value} {ns ms : List Int}, IntsAre vs ns → IntsAre vs ms → ns = ms
  | _, _, _, .nil, .nil => rfl
  | _, _, _, .cons _ _ r, .cons _ _ r2 => by rw [ints_uniq r r2]
theorem IsPK.uniq {h : Heap} {v : Value} {p q : Kp} (x : IsPK h v p) (y : IsPK h v q) : p = q := by
  obtain ⟨a, b, o, t, n, its, e, ho, hc, hd, ⟨o2, ho2, hc2, n2, hd2⟩, hi⟩ := x
  obtain ⟨a', b', o', t', n', its', e', ho', hc', hd', ⟨o2', ho2', hc2', n2', hd2'⟩, hi'⟩ := y
  rw [e] at e'
  cases e'
  rw [ho] at ho'
  cases ho'
  rw [hd] at hd'
  simp at hd'
  obtain ⟨⟨⟨e1, _⟩, e2⟩, _⟩ := hd'
  subst e2
  rw [ho2] at ho2'
  cases ho2'
  rw [hd2] at hd2'
  injection hd2' with e3 _
  subst e3
  exact Prod.ext e1 (ints_uniq hi hi')
end DL
end
section
set_option maxRecDepth 100000
set_option maxHeartbeats 4000000
set_option autoImplicit false
namespace DL
open PySem PySem.Spec PyProof.Rows L2 PySem.SeqAt PySem.W
/-- at v: a list of numbers -/
def IsLK (h : Heap) (v : Value) (p : List Int) : Prop := ∃ (a : Addr) (its : Array Value), v = .ref a ∧ h.IsList a its ∧ IntsAre its.toList p
theorem IsLK.keeps {h h' : Heap} {v : Value} {p : List Int} (x : IsLK h v p) (k : ∀ b o, v = .ref b → h.get? b = some o → h'.get? b = some o) : IsLK h' v p := by
  obtain ⟨a, its, e, ⟨o, ho, r⟩, hi⟩ := x
  exact ⟨a, its, e, ⟨o, k _ _ e ho, r⟩, hi⟩
theorem IsLK.uniq {h : Heap} {v : Value} {p q : List Int} (x : IsLK h v p) (y : IsLK h v q) : p = q := by
  obtain ⟨a, its, e, ⟨o, ho, hc, n, hd⟩, hi⟩ := x
  obtain ⟨a', its', e', ⟨o', ho', hc', n', hd'⟩, hi'⟩ := y
  rw [e] at e'
  cases e'
  rw [ho] at ho'
  cases ho'
  rw [hd] at hd'
  injection hd' with e3 _
  subst e3
  exact ints_uniq hi hi'
end DL
end
section
set_option maxRecDepth 100000
set_option maxHeartbeats 4000000
set_option autoImplicit false
namespace DL
open PySem PySem.Spec PyProof.Rows L2 PySem.SeqAt PySem.W PpSet
end DL
end
section
set_option maxRecDepth 100000
set_option maxHeartbeats 4000000
set_option autoImplicit false
namespace DL
open PySem PySem.Spec PyProof.Rows L2 PySem.W HT
end DL
end
section
set_option maxRecDepth 100000
set_option maxHeartbeats 4000000
set_option autoImplicit false
namespace DL
open PySem PySem.Spec PyProof.Rows L2
end DL
end
section
set_option maxRecDepth 100000
set_option maxHeartbeats 4000000
set_option autoImplicit false
namespace DL
open PySem PySem.Spec PyProof.Rows L2
end DL
end
section
set_option maxRecDepth 100000
set_option maxHeartbeats 4000000
set_option autoImplicit false
namespace DL
open PySem PySem.Spec PyProof.Rows L2
end DL
end
section
set_option maxRecDepth 100000
set_option maxHeartbeats 4000000
set_option autoImplicit false
namespace DL
open PySem PySem.Spec PyProof.Rows L2
/-- what the making does to a table that is known: nothing, or a new code object -/
def LamH2 (p : Pos) (H : Hp) (P : Addr) (ps : Array Value) (q : Str) (H1 : Hp) (c : Addr) : Prop :=
  (H1 = H ∧ codeAmong p ps.toList = some (.ref c)) ∨ (H c = none ∧ H1 = upd (upd H P (.tbl (ps ++ #[rawInt p.line, rawInt p.col, .ref c]))) c (LamX.CodeO c q))
theorem put_same {a : Addr} {c : Cell} {O : Own} (h : At a c O) : Put a c O O := by
  induction h with
  | head => exact .head
  | tail _ ih => exact .tail ih
theorem LamH2.step {K : PySem.W.Frag} {G H H1 : Hp} {O : Own} {p : Pos} {P c : Addr} {ps : Array Value} {q : Str} (h : LamH2 p H P ps q H1 c) (s : Sta K G O H) (at_ : At P (.tab q) O) (hP : H P = some (.tbl ps)) (rc : TabOk G q ps) : ∃ G1, Step K G O H G1 O H1 ∧ G1 c = some (LamX.CodeO c q) := by
  rcases h with ⟨rfl, h⟩ | ⟨hc, rfl⟩
  · obtain ⟨c', e, hg⟩ := rc.2 p _ h
    cases e
    exact ⟨G, Step.refl s, hg⟩
  have ne : c ≠ P := fun z => by rw [z, hP] at hc; cases hc
  have s1 := Step.new s (o := LamX.CodeO c q) hc
  have ok : TabOk (upd G c (LamX.CodeO c q)) q (ps ++ #[rawInt p.line, rawInt p.col, .ref c]) := by
    have el : (ps ++ #[rawInt p.line, rawInt p.col, .ref c]).toList = ps.toList ++ [rawInt p.line, rawInt p.col, .ref c] := by simp
    refine ⟨by rw [el]; exact PySem.TriplesOk_snoc _ _ _ _ rc.1, fun p' cv hcv => ?_⟩
    rw [el] at hcv
    rcases LamX.among_app _ rc.1 hcv with z | z
    · obtain ⟨c0, e1, e2⟩ := rc.2 p' cv z
      exact ⟨c0, e1, s1.g _ _ e2⟩
    · exact ⟨c, z, upd_same⟩
  have s2 := Step.put s1.sta (put_same at_) (o := .tbl (ps ++ #[rawInt p.line, rawInt p.col, .ref c])) ok
  refine ⟨upd G c (LamX.CodeO c q), ?_, upd_same⟩
  have e : upd (upd H P (.tbl (ps ++ #[rawInt p.line, rawInt p.col, .ref c]))) c (LamX.CodeO c q) = upd (upd H c (LamX.CodeO c q)) P (.tbl (ps ++ #[rawInt p.line, rawInt p.col, .ref c])) := by
    funext b
    by_cases h1 : b = c
    · subst h1
      rw [upd_same, upd_ne ne, upd_same]
    · by_cases h2 : b = P
      · subst h2
        rw [upd_ne h1, upd_same, upd_same]
      · rw [upd_ne h1, upd_ne h2, upd_ne h2, upd_ne h1]
  rw [e]
  exact s1.trans s2
end DL
end
section
set_option maxRecDepth 100000
set_option maxHeartbeats 4000000
set_option autoImplicit false
namespace DL
open PySem PySem.Spec PyProof.Rows L2
inductive InZ (x : Str) (d : D) : List Str → List D → Prop
  | head {Nb : List Str} {vs : List D} : InZ x d (x :: Nb) (d :: vs)
  | tail {y : Str} {e : D} {Nb : List Str} {vs : List D} : InZ x d Nb vs → InZ x d (y :: Nb) (e :: vs)
inductive SubZ (Nb : List Str) (vs : List D) : List Str → List D → Prop
  | nil : SubZ Nb vs [] []
  | cons {x : Str} {d : D} {Nb' : List Str} {vs' : List D} : InZ x d Nb vs → SubZ Nb vs Nb' vs' → SubZ Nb vs (x :: Nb') (d :: vs')
theorem InZ.at {x : Str} {d : D} {Nb : List Str} {vs : List D} (h : InZ x d Nb vs) : ∃ i : Nat, Nb[i]? = some x ∧ vs[i]? = some d := by
  induction h with
  | head => exact ⟨0, rfl, rfl⟩
  | tail _ ih => obtain ⟨i, a, b⟩ := ih; exact ⟨i + 1, by simpa using a, by simpa using b⟩
theorem SubZ.len {Nb : List Str} {vs : List D} {Nb' : List Str} {vs' : List D} (h : SubZ Nb vs Nb' vs') : vs'.length = Nb'.length := by
  induction h with
  | nil => rfl
  | cons _ _ ih => rw [List.length_cons, List.length_cons, ih]
theorem SubZ.at {Nb : List Str} {vs : List D} {Nb' : List Str} {vs' : List D} (h : SubZ Nb vs Nb' vs') : ∀ (i : Nat) (x : Str) (d : D), Nb'[i]? = some x → vs'[i]? = some d → InZ x d Nb vs := by
  induction h with
  | nil => intro i x d h; simp at h
  | cons h1 _ ih =>
    intro i x d hx hd
    cases i with
    | zero => simp at hx hd; subst hx hd; exact h1
    | succ i => exact ih i x d (by simpa using hx) (by simpa using hd)
end DL
end
section
set_option maxRecDepth 100000
set_option maxHeartbeats 4000000
set_option autoImplicit false
namespace DL
open PySem PySem.Spec PyProof.Rows L2
end DL
end
section
set_option maxRecDepth 100000
set_option maxHeartbeats 4000000
set_option autoImplicit false
namespace DL
open PySem PySem.Spec PyProof.Rows L2
def tWGetA (K : PySem.W.Frag) (w : World) (td ty tx : TE) : TE := fun σ H Q => td σ H fun x H1 => ∃ d es n, x = .ref d ∧ KDict K w d es n ∧ ty σ H1 fun y H2 => tx σ H2 fun v H3 => ∃ (z : Str), y = .str z ∧ ((∃ (u0 : Value) (v0 : V), PySem.W.nsIn K d z = some (some u0) ∧ RelV v0 u0 ∧ Q v0 H3) ∨ (PySem.W.nsIn K d z = some none ∧ Q v H3))
section
variable {X : Cx} {o e f : Expr} {apos cpos : Pos} {td ty tx : TE}
theorem pe_wgetA (ho : PE X o td) (he : PE X e ty) (hf : PE X f tx) (m : M2 X o "get" apos e f cpos) : PE X (.Call (.Attribute o "get" apos) [e, f] [] cpos) (tWGetA X.K X.w td ty tx) := by
  refine ⟨fun pins s σ H Q I h => ?_⟩
  refine wpAny_Call_method m.base m.few m.line PySem.F.plainAttrs_dict PySem.F.slot_dict_get PySem.F.type_dict_get (thn (ho.run pins s σ H _ I h) fun u s1 ⟨x, H1, I1, rx, d, es, n, ex, D, q1⟩ => ?_)
  subst ex
  obtain rfl : u = Value.ref d := rx
  refine ⟨kd_type D I1, fun b q => ?_, ?_⟩
  · cases q
    exact ⟨_, I1.kIn _ _ D.at_, rfl⟩
  rw [m.trees]
  refine Calls.callWith_builtin rfl (Calls.evalArgs_plain (Calls.spliced_cons (thn (he.run pins s1 σ H1 _ I1 q1) fun iv s2 ⟨y, H2, I2, ry, q2⟩ =>
    Calls.spliced_cons (thn (hf.run pins s2 σ H2 _ I2 q2) fun fv s3 ⟨z, H3, I3, rz, zs, ey, hn⟩ => Calls.spliced_nil ?_))))
  subst ey
  obtain ⟨t, rfl⟩ := ry
  refine call_meetsIn PySem.F.slot_dict_get (kd_type D I3) PySem.F.entry_dict_get (PySem.F.args_dict_get_3 _ _ _) (meets_dict_get_default (PySem.strKind X.prog X.w) d (PySem.strKind_is X.prog X.w zs t) D.low fv) ⟨_, PySem.W.mapOf_K (prog := X.prog) (w := X.w) I3.kIn D.at_ D.lit, ?_⟩
  rcases hn with ⟨u0, v0, hn, ru, q3⟩ | ⟨hn, q3⟩
  · rw [PySem.W.find_K D.at_ hn]
    exact ⟨v0, H3, I3.tok _, ru, q3⟩
  · rw [PySem.W.find_K D.at_ hn]
    exact ⟨z, H3, I3.tok _, rz, q3⟩
end
section
variable {X : Cx} {N : List Str} {sc : Scope} {δ : DEnv} {O : Own} {E : XD → Own → Prop} {Q : D → Own → Prop} {pos apos : Pos}
/-- d.get(k, x), the key there or not -/
theorem de_wgetA {o e f : Expr} (h : DE X o δ O E fun x O1 => ∃ d es n, x = .ref d ∧ KDict X.K X.w d es n ∧ DE X e δ O1 E fun y O2 => DE X f δ O2 E fun v O3 => ∃ (z : Str), y = .str z ∧ ((∃ (j : Int) (t : Tok), PySem.W.nsIn X.K d z = some (some (.int j t)) ∧ Q (.int j) O3) ∨ (PySem.W.nsIn X.K d z = some none ∧ Q v O3)))
    (hbase : attributeBase o "get" X.env (eval o X.env) = eval o X.env := by with_unfolding_all rfl)
    (hfew : ((backTo pos (starEach [e, f] X.env)).all (fun x => !x.1) && (backToKw pos (keywordEach [] X.env)).all (fun x => x.1.isSome)
      && decide (([e, f] : List Expr).length + ([] : List Keyword).length + (if ([] : List Keyword).isEmpty then 0 else 1) < 30)) = true := by with_unfolding_all rfl)
    (hline : (apos.endLine == pos.line) = true := by with_unfolding_all rfl) (htr : backTo pos (starEach [e, f] X.env) = [(false, eval e X.env), (false, eval f X.env)] := by with_unfolding_all rfl) :
    DE X (.Call (.Attribute o "get" apos) [e, f] [] pos) δ O E Q :=
  de_of (pe_wgetA pe_sem pe_sem pe_sem ⟨hbase, hfew, hline, htr⟩) fun W tk G σ H Q' p r s hE hQ => by
    refine h W tk G σ H _ trivial r s hE fun G1 H1 O1 x v st1 rx ⟨d, es, n, ex, D, q1⟩ => ?_
    subst ex
    cases rx
    refine ⟨d, es, n, rfl, D, ?_⟩
    refine q1 W tk G1 σ H1 _ trivial (r.mono st1.g) st1.sta (fun _ _ _ _ _ _ st2 => hE _ _ _ _ _ _ (st1.trans st2)) fun G2 H2 O2 y v2 st2 ry q2 => ?_
    refine q2 W tk G2 σ H2 _ trivial ((r.mono st1.g).mono st2.g) st2.sta (fun _ _ _ _ _ _ st3 => hE _ _ _ _ _ _ ((st1.trans st2).trans st3)) fun G3 H3 O3 z v3 st3 rz ⟨zs, ey, hn⟩ => ?_
    subst ey
    cases ry
    rcases hn with ⟨j, t, hn, q3⟩ | ⟨hn, q3⟩
    · exact ⟨zs, rfl, .inl ⟨_, .int j, hn, ⟨t, rfl⟩, hQ _ _ _ _ _ ((st1.trans st2).trans st3) (.int j) q3⟩⟩
    · exact ⟨zs, rfl, .inr ⟨hn, hQ _ _ _ _ _ ((st1.trans st2).trans st3) rz q3⟩⟩
end
end DL
end
section
set_option maxRecDepth 100000
set_option maxHeartbeats 4000000
set_option autoImplicit false
namespace DL
open PySem PySem.Spec PyProof.Rows L2
end DL
end
section
set_option maxRecDepth 100000
set_option maxHeartbeats 4000000
set_option autoImplicit false
namespace DL
open PySem PySem.Spec PyProof.Rows L2
section
variable {prog : Program} {w : World} {A : Around} {E : Value → Shared → Prop} {s : Shared}
theorem next_tupH {it t x1 : Addr} {i : Nat} {items : Array Value} {Q : Option Value → Shared → Prop} (hot : HotX.HotAt A x1 s.heap) (ne : x1 ≠ it) (hit : IsTupIter s.heap it t i) (ht : IsTup s.heap t items) (hx : items[i]? = none)
    (hQ : ∀ h', Heap.ExtBut it s.heap h' → Q none { s with heap := h' }) : wpAny (model prog w) A (pyNext (.ref it)) Q E s := by
  obtain ⟨hh, o1, vs1, g1, d1, c1⟩ := hot
  obtain ⟨oi, gi, ci, di⟩ := id hit; obtain ⟨ot, gt, _, nt, dt⟩ := ht
  unfold pyNext
  refine wpAny_bind (wpAny_attempt (wpAny_callSpecial?_slot (name := Str.ofString "__next__") hit.typeIs slot_tupleiter_next (wpAny_call_entry slot_tupleiter_next hit.typeIs entry_tupleiter_next ?_ (args_tupleiter_next _))))
  show wpAny _ _ (field (.ref it) 0 >>= _) _ _ s; refine wpAny_bind (wpAny_field gi di (x := .ref t) rfl ?_)
  show wpAny _ _ (if (Value.ref t == Value.none) = true then _ else _) _ _ s; rw [if_neg (show ¬ ((Value.ref t == Value.none) = true) from Bool.false_ne_true)]
  show wpAny _ _ (field (.ref it) 1 >>= _) _ _ s; refine wpAny_bind (wpAny_field gi di (x := .int i 0) rfl ?_)
  show wpAny _ _ (seqItems? (.ref t) >>= _) _ _ s; refine wpAny_bind (wpAny_seqItems gt dt ?_)
  simp only [Int.toNat_natCast, hx]; refine wpAny_bind (wpAny_rule (wpAny_bind (wpAny_setField gi di (by simp) ?_)))
  show wpAny _ _ (newExc (.type "StopIteration") [] >>= _) _ _ _; refine wpAny_bind ?_; simp only [newExc, newTuple]
  refine wpAny_bind (wpAny_newObj_type ?_ (by size_fits)); refine wpAny_bind (m := firstArgMember _ _) (wpAny_of_eq (a := Value.none) (by first | rfl | (simp only [firstArgMember]; rfl)) (wpAny_newObj_type ?_ (by size_fits)))
  have g2 := (Heap.get?_update_other s.heap (Obj.mapFields (·.setIfInBounds 0 Value.none)) (Ne.symm ne)).trans g1
  refine HotX.raiseNew_hot ⟨hh, o1, vs1, Heap.get?_push_of_some _ (Heap.get?_push_of_some _ g2), d1, c1⟩ (Nat.ne_of_lt (Heap.lt_size (Heap.get?_push_of_some _ g2))) (Heap.get?_push_size _ rfl) rfl (by first | (simp; done) | (simp; omega)) ?_
  refine wpAny_bind (wpAny_isInstance (T := "StopIteration") (b := true) ⟨_, Heap.get?_update_self _ (Heap.get?_push_size _ rfl) rfl, rfl⟩ isSubtype_stop (wpAny_pure (hQ _ fun b o hb e => ?_)))
  have e2 := (Heap.get?_update_other s.heap (Obj.mapFields (·.setIfInBounds 0 Value.none)) (Ne.symm hb)).trans e
  rw [Heap.get?_update_other _ _ (Nat.ne_of_gt (Heap.lt_size (Heap.get?_push_of_some _ e2)))]; exact Heap.get?_push_of_some _ (Heap.get?_push_of_some _ e2)
theorem items_tupH {t x1 : Addr} {items : Array Value} {Q : List Value → Shared → Prop} (hot : HotX.HotAt A x1 s.heap) (ht : IsTup s.heap t items)
    (hQ : ∀ h', Heap.ExtBut s.heap.objs.size s.heap h' → Q items.toList { s with heap := h' }) : wpAny (model prog w) A (unpackItems (.ref t) items.size none) Q E s := by
  have lt : t ≠ s.heap.objs.size := by obtain ⟨o, ho, _⟩ := ht; exact Nat.ne_of_lt (Heap.lt_size ho)
  obtain ⟨hh, o1, vs1, g1, d1, c1⟩ := hot
  have lt1 : x1 ≠ s.heap.objs.size := Nat.ne_of_lt (Heap.lt_size g1)
  unfold unpackItems; unfold notIterableAtAll
  refine wpAny_bind (wpAny_bind (wpAny_specialOf ht.typeIs slot_tuple_iter.lookup (wpAny_pure ?_))); simp only [Bool.false_eq_true, if_false]
  refine wpAny_bind (wpAny_holding (iter_tuple ht (wpAny_bind (wpAny_holding (draw_tuple lt items.size 0 _ _ ⟨_, Heap.get?_push_size _ rfl, rfl, rfl⟩ (ht.push _) (by omega) fun h2 it2 sb2 => ?_)))))
  rw [show List.take items.size (List.drop 0 items.toList) = items.toList from by rw [List.drop_zero]; exact List.take_of_length_le (by simp), if_neg (by simp)]
  have keep : ∀ b o, b ≠ s.heap.objs.size → s.heap.get? b = some o → h2.get? b = some o := fun b o hb e => sb2.extBut b o hb (Heap.get?_push_of_some _ e)
  refine wpAny_bind (wpAny_holding (next_tupH (s := { s with heap := h2 }) ⟨hh, o1, vs1, keep _ _ lt1 g1, d1, c1⟩ lt1 it2 ((ht.push _).extBut sb2.extBut lt) (by simp) fun h3 e3 => ?_))
  simp only [Option.isSome_none, Bool.false_eq_true, if_false]; exact wpAny_pure (hQ h3 fun b o hb e => e3 b o hb (keep b o hb e))
theorem assign_tupH {env : Env} {elts : List Expr} {k : Nat} {pos : Pos} {t x1 : Addr} {items : Array Value} {Q : Unit → Shared → Prop} (hot : HotX.HotAt A x1 s.heap) (ht : IsTup s.heap t items)
    (hn : (assignEach elts env).length = items.size) (hs : (assignEach elts env).findIdx? (·.1) = none)
    (h : ∀ h', Heap.ExtBut s.heap.objs.size s.heap h' → wpAny (model prog w) A (assignInOrder ((assignEach elts env).map (·.2)) items.toList) Q E { s with heap := h' }) : wpAny (model prog w) A (assign (.Tuple elts k pos) env (.ref t)) Q E s := by
  rw [assign_Tuple]
  refine wpAny_bind (wpAny_standAt ?_)
  unfold unpack
  rw [hn, hs]
  exact wpAny_bind (wpAny_holding (items_tupH hot ht h))
end
section
variable {X : Cx} {pos : Pos}
theorem pg_tupH {es : List Expr} {k : Nat} {t : TGs} {n : Nat} (hot : L2H.HotC X) (h : PGs X es t) (hn : (assignEach es X.env).length = n := by rfl) (hs : (assignEach es X.env).findIdx? (·.1) = none := by rfl) : PG X (.Tuple es k pos) (gTup X.K n t) :=
  ⟨fun pins s σ H v u Q I r ⟨a, xs, ev, hq, hl, hw⟩ => by
    subst ev
    cases r
    obtain ⟨its, rv, ht, _⟩ := I.tuple hq
    obtain ⟨x1, hx1⟩ := hot.at I
    refine assign_tupH hx1 ht (by simp [hn, ← hl, rv.length]) hs fun h' e => h.run pins _ σ H xs _ Q (I.kept (t' := s.toks) fun b o eb => e b o (Nat.ne_of_lt (Heap.lt_size eb)) eb) (by simpa using rv) hw⟩
end
/-- what is wished of an exception: the statement runs, then Wout -/
def wRe (K : PySem.W.Frag) (c : Value) (tst : Value → Option Addr → TS) (Wout : WX) : WX := fun cls d σ H => PySem.W.exmOne K cls c = some true ∧ tst cls d { nx := fun σ2 H2 => Wout cls d σ2 H2, rt := fun _ _ => False } σ H
section
variable {X : Cx} {x : Str} {c : Value} {body : List Stmt} {st : Stmt} {np rp pos pos' : Pos} {tb : WX → TS} {tst : Value → Option Addr → TS} {Wout : WX}
theorem ps_try_re (hs : X.stack = X.env :: X.outer) (hf : X.env.frame = some X.env.locals) (hex : X.ex = []) (hc : Names X x c) (hpa : ∀ hd : Option Value, PassesOwnAt (model X.prog X.w) (X.A.mark hd) X.A X.env X.xe) (tk : L2N.Takes X Wout)
    (hb : ∀ (W : WX) (pn : List (Addr × Obj)) (xe : Value → Shared → Prop), L2N.Takes (X.tr pn xe) W → PassesOwn (model X.prog X.w) X.A X.env xe → PSs (X.tr pn xe) body (tb W))
    (hsu : ∀ (a : Addr) (oe : Obj) (cls : Value) (d : Option Addr) (pn : List (Addr × Obj)), L2N.Zn cls d oe → (∃ vs, oe.data = .fields vs) → PS (X.suite a ((a, oe) :: pn)) st (tst cls d)) :
    PS X (.Try body [.ExceptHandler (some (.Name x np)) none [st, .Raise none none rp] pos'] [] [] pos) (fun D σ H => tb (wRe X.K c tst Wout) D σ H) := by
  refine ⟨fun pins s σ H D I0 h0 => wpAny_Try_except (wpAny_mono ((hb (wRe X.K c tst Wout) (X.pn ++ pins) (fun e s₁ => wpAny (model X.prog X.w) X.A (noteFrame e X.env) (fun _ s₂ => wpAny (model X.prog X.w) X.A (setFlight e none) (fun _ s₃ =>
    wpAny (model X.prog X.w) X.A (handleBy e X.env [.ExceptHandler (some (.Name x np)) none [st, .Raise none none rp] pos']) (SP X pins D) X.xe s₃) X.xe s₂) X.xe s₁) (fun u s' xx => ?_) PassesOwn.looking).run [] s σ H D (I0.toTry _) h0) (fun f s1 hsp => ?_) (fun e s1 he => he))⟩
  · have ok := I0.ok
    have hfr : X.A.frames = some (X.env :: X.outer) := by rw [ok.frames, hs]
    obtain ⟨a, B, sI, pins', σ', H', cls, d, rfl, J', nb, up, sky, na, os, ag, hb1, hw⟩ := xx
    have J : Inv X pins σ' H' sI := J'.ofTry ok
    have sky' : Sky B (X.env :: X.outer) a (L2N.Zn cls d) X.env.locals s'.heap := hs ▸ sky
    show wpAny (model X.prog X.w) X.A (noteFrame (.ref a) X.env) _ _ _
    refine L2N.Sky.land L2N.Zn.steady hfr hf sky' fun h3 fl3 up3 => ?_
    have J3 : Inv X pins σ' H' { s' with heap := h3 } := J.landed nb fl3.1 (up.trans up3) os ag
    obtain ⟨oe3, vs3, he3, hz3, hd3⟩ := fl3.there
    have off : ∀ {h : Heap} {b : Addr} {o : Obj} {fv : Array Value}, h.FunFrames B (X.env :: X.outer) → h.get? b = some o → o.data = .fields fv → b ∉ frs (X.env :: X.outer) := fun {h b o fv} ff e dd hm => by
      obtain ⟨_, o', e', hnf⟩ := ff.mem hm
      cases e.symm.trans e'
      exact hnf _ dd
    have locF : X.env.locals ∈ frs (X.env :: X.outer) := List.mem_filterMap.mpr ⟨X.env, List.mem_cons_self, hf⟩
    have fsF : ∀ b, b ∈ X.fs → b ∈ frs (X.env :: X.outer) := fun b hm => by
      obtain ⟨e, he, q⟩ := List.mem_filterMap.mp hm
      exact List.mem_filterMap.mpr ⟨e, List.mem_cons_of_mem _ he, q⟩
    have nfr := off fl3.2.2.1 he3 hd3
    have S3 := J3.suite he3 hd3 na (fun z => nfr (by rw [z]; exact locF)) (fun z => nfr (fsF _ z))
    refine wpAny_handleBy_cons (codeAny_handlers_test ?_) (by intro q; cases q)
    have LT : PySem.W.Looks (model X.prog X.w) h3 (typeOf (.ref a)) cls := fun A Q E s k q => wpAny_typeOf_ref (k _ _ he3) (by rw [hz3.1]; exact q)
    have test : ∀ {Q : Value → Shared → Prop} {E : Value → Shared → Prop}, Q c { s' with heap := h3 } → wpAny (model X.prog X.w) (X.A.mark (some (.ref a))) (eval (.Name x np) X.env) Q E { s' with heap := h3 } := fun {Q E} q => by
      obtain ⟨hg, hdbg, hm | ⟨hm, hv, hnn⟩⟩ := hc
      · exact ld_glob (X := X.suite a ((a, oe3) :: (X.pn ++ pins))) S3 hg hm q hdbg
      · exact ld_blt (X := X.suite a ((a, oe3) :: (X.pn ++ pins))) S3 hg hm hv q hnn hdbg
    refine test ((PySem.W.exm_one (M := model X.prog X.w) J3.kIn LT hb1).here (codeAny_handlers_suite (HandSPX.lands_againZ fl3 fun h4 fl4 up4 => ?_)))
    have J4 : Inv X pins σ' H' { s' with heap := h4 } := J.landed nb fl4.1 ((up.trans up3).trans up4) os ag
    obtain ⟨k1, k2, k3, oe, vs, T, oT, ts, ha, hz, hd, hv1, nTB, neT, hT, hdT, ht3⟩ := id fl4
    have nT : H' T = none := (J.inGround nb).gone nTB
    have fa := off k3 ha hd
    have fT := off k3 hT hdT
    have S4 : Inv (X.suite a ((a, oe) :: (T, oT) :: (X.pn ++ pins))) [] σ' H' { s' with heap := h4 } := ⟨J4.ok.suite _ _, J4.os, J4.bare, J4.base, J4.loc, J4.cell, J4.free, J4.freeC, fun p hp => by
      rw [List.append_nil] at hp
      rcases List.mem_cons.mp hp with rfl | hp
      · exact ⟨ha, na, fun z => fa (by rw [show a = X.env.locals from z]; exact locF), fun z => fa (fsF _ z), fun v z => by cases hd.symm.trans z⟩
      rcases List.mem_cons.mp hp with rfl | hp
      · exact ⟨hT, nT, fun z => fT (by rw [show T = X.env.locals from z]; exact locF), fun z => fT (fsF _ z), fun v z => by cases hdT.symm.trans z⟩
      · exact J4.pin p hp, J4.hok, J4.len⟩
    -- the raise again, behind the statement
    have again : ∀ {s6 : Shared} {σ6 : L2.St} {H6 : Hp}, Inv (X.suite a ((a, oe) :: (T, oT) :: (X.pn ++ pins))) [] σ6 H6 s6 → Wout cls d σ6 H6 → ∀ {Q : Flow → Shared → Prop}, wpAny (model X.prog X.w) (X.A.mark (some (.ref a))) (exec (.Raise none none rp) X.env) Q X.xe s6 := fun {s6 σ6 H6} S6 q6 {Q} => by
      have J6 : Inv X pins σ6 H6 s6 := ⟨ok, S6.os, S6.bare, S6.base, S6.loc, S6.cell, S6.free, S6.freeC, fun p hp => S6.pin p (List.mem_append_left _ (List.mem_cons_of_mem _ (List.mem_cons_of_mem _ hp))), S6.hok, S6.len⟩
      obtain ⟨ga, na6, _⟩ := S6.pin (a, oe) (List.mem_append_left _ List.mem_cons_self)
      obtain ⟨gT, nT6, _⟩ := S6.pin (T, oT) (List.mem_append_left _ (List.mem_cons_of_mem _ List.mem_cons_self))
      have ga : s6.heap.get? a = some oe := ga
      have gT : s6.heap.get? T = some oT := gT
      have far : ∀ b o, sI.heap.get? b = some o → b ≠ a ∧ b ≠ T := fun b o e => by
        by_cases hb : b ∈ frs X.stack
        · rw [hs] at hb
          exact ⟨fun z => fa (z ▸ hb), fun z => fT (z ▸ hb)⟩
        · have q := nb b o e hb
          exact ⟨fun z => (by rw [z, k2] at q; cases q), fun z => (by rw [z, nTB] at q; cases q)⟩
      have far0 : ∀ b o, X.s_0.heap.get? b = some o → b ≠ a ∧ b ≠ T := fun b o e => by
        obtain ⟨o', q⟩ := J.base.there b o e (by rw [hex]; simp)
        exact far b o' q
      obtain ⟨G, g1, g2⟩ := restrict s6.heap fun b => !(decide (b = a) || decide (b = T))
      have gIn : ∀ b o, G.get? b = some o → s6.heap.get? b = some o ∧ b ≠ a ∧ b ≠ T := fun b o e => by
        cases q : (!(decide (b = a) || decide (b = T))) with
        | false => rw [g2 b q] at e; cases e
        | true =>
          rw [g1 b q] at e
          simp only [Bool.not_eq_true', Bool.or_eq_false_iff, decide_eq_false_iff_not] at q
          exact ⟨e, q⟩
      have I6 : Inv X pins σ6 H6 { s6 with heap := G } := J6.less (fun b o e => (gIn b o e).1) (fun b o h1 h2 e => by rw [g1 b (by simp [h1, h2])]; exact e) ⟨oe, vs, ga, hd⟩ ⟨oT, ts, gT, hdT⟩ na6 nT6 far0 fun p hp => far p.1 p.2 (J.pin p hp).1
      have off6 : ∀ b, (b = a ∨ b = T) → (PySem.W.hideAll G (frs X.stack)).get? b = none := fun b hb => by
        cases q : (PySem.W.hideAll G (frs X.stack)).get? b with
        | none => rfl
        | some o =>
          obtain ⟨_, n1, n2⟩ := gIn b o (PySem.W.of_hideAll _ q)
          exact absurd hb (fun z => z.elim n1 n2)
      have fl6 : HandSPX.FlyingZ (PySem.W.hideAll G (frs X.stack)) (X.env :: X.outer) a (L2N.Zn cls d) s6.heap :=
        ⟨fun b o e => (gIn b o (PySem.W.of_hideAll _ e)).1, off6 a (.inl rfl), hs ▸ funFrames_none (B := PySem.W.hideAll G (frs X.stack)) J6.stack fun b hb => PySem.W.hideAll_none _ hb, oe, vs, T, oT, ts, ga, hz, hd, hv1, off6 T (.inr rfl), neT, gT, hdT, ht3⟩
      refine wpAny_Raise_bare ?_
      unfold raiseBare raiseStmt
      refine wpAny_bind (wpAny_handled ?_)
      rw [show (X.A.mark (some (Value.ref a))).handled = some (Value.ref a) from rfl]
      dsimp only
      refine wpAny_bind (wpAny_rule (wpAny_bind (wpAny_field ga hd hv1 ?_)))
      rw [if_neg (show ¬ ((Value.ref T == Value.none) = true) from by simp)]
      have out : wpAny (model X.prog X.w) (X.A.mark (some (.ref a))) (setFlight (.ref a) X.env.frame) (fun _ s7 => wpAny (model X.prog X.w) (X.A.mark (some (.ref a))) (throw (.ref a) : Sem Flow) Q X.xe s7) X.xe s6 := by
        rw [hf]
        refine HandSPX.setFlight_upZ fl6 fun h7 hh7 up7 => wpAny_throw (tk _ _ ?_)
        exact ⟨a, PySem.W.hideAll G (frs X.stack), { s6 with heap := G }, pins, σ6, H6, cls, d, rfl, I6, fun b o e hb => PySem.W.hideAll_get _ e hb, (Heap.UpToSlots.of_keeps fun b o e => (gIn b o e).1).trans up7, .inr (.inr (by rw [← hs] at hh7; exact hh7)), na6, rfl, J6.bare, q6⟩
      first
        | exact wpAny_bind (wpAny_pure (wpAny_bind out))
        | exact wpAny_bind out
    refine wpAny_mono (Q := fun (_ : Flow) (_ : Shared) => False) (wpAny_execs_cons (wpAny_mono ((hsu a oe cls d ((T, oT) :: (X.pn ++ pins)) hz ⟨_, hd⟩).run [] { s' with heap := h4 } σ' H' _ S4 hw) (fun g s6 q6 => ?_) fun _ _ z => False.elim z)) (fun f s6 hsp => ?_) (fun e6 s6 z => hpa (some (.ref a)) e6 s6 z)
    · cases g with
      | next =>
        obtain ⟨σ6, H6, S6, q6⟩ := q6
        exact wpAny_execs_cons (again S6 q6)
      | brk => obtain ⟨_, _, _, q⟩ := q6; exact q.elim
      | cont => obtain ⟨_, _, _, q⟩ := q6; exact q.elim
      | ret u => obtain ⟨_, _, _, _, _, q⟩ := q6; exact q.elim
    · exact hsp.elim
  · have ok := I0.ok
    cases f with
    | next => obtain ⟨σ', H', J', q⟩ := hsp; exact wpAny_execs_nil ⟨σ', H', J'.ofTry ok, q⟩
    | brk => obtain ⟨σ', H', J', q⟩ := hsp; exact ⟨σ', H', J'.ofTry ok, q⟩
    | cont => obtain ⟨σ', H', J', q⟩ := hsp; exact ⟨σ', H', J'.ofTry ok, q⟩
    | ret u => obtain ⟨v, σ', H', J', r, q⟩ := hsp; exact ⟨v, σ', H', J'.ofTry ok, r, q⟩
end
theorem XRep.up {K : PySem.W.Frag} {G G2 : Hp} {x : XD} {c : Value} {d : Option Addr} (h : XRep K G x c d) (g : Ex G G2) : XRep K G2 x c d := by
  obtain ⟨h1, h2 | ⟨dd, vs, e, h3, h4⟩⟩ := h
  · exact ⟨h1, .inl h2⟩
  · exact ⟨h1, .inr ⟨dd, vs, e, g _ _ h3, h4.mono g⟩⟩
/-- the suite's context, where the handled error's context is None -/
structure SuitN (Z : Cx) (N : List Str) (sc : Scope) (K : PySem.W.Frag) (mg : Str → Option Value) (x : XD) (y : D) : Prop extends Suit Z N sc K mg x y where
  hot : L2H.HotC Z
section
variable {X : Cx} {N : List Str} {sc : Scope} {δ : DEnv} {O : Own} {B : Bk} {nx : DEnv → Own → Prop} {CE : Addr} {body : List Stmt} {st : Stmt} {p4 p5 p6 rp : Pos} {Pe : XD → DEnv → Own → Prop}
theorem ds_tryRe (S : Sc X N sc) (Df : DL.Df X) (pa : ∀ hd : Option Value, PassesOwnAt (model X.prog X.w) (X.A.mark hd) X.A X.env X.xe) (hu : X.A.units + 65 < cLine) (hg : Nk ("CanonError" : Str) .globalImplicit sc.names) (hme : X.mg "CanonError" = some (.ref CE))
    (hb : ∀ X2, Blk X X2 N sc → DL.Df X2 → DSs X2 body δ O ⟨B.rt, B.bk, B.ct, fun x δ' O' => PySem.W.exmOne X.K (.ref x.C) (.ref CE) = some true ∧ Pe x δ' O'⟩ nx)
    (hs : ∀ (Z : Cx) (x : XD) (y : D) (δ' : DEnv) (O' : Own), SuitN Z N sc X.K X.mg x y → Pe x δ' O' → DS Z st δ' O' ⟨fun _ _ => False, fun _ _ => False, fun _ _ => False, fun _ _ _ => False⟩ fun δ2 O2 => B.ex x δ2 O2) :
    DS X (.Try body [.ExceptHandler (some (.Name "CanonError" p4)) none [st, .Raise none none rp] p5] [] [] p6) δ O B nx := fun W tk G σ H D r s l pins s' I =>
  (ps_try_re (X := X) (c := .ref CE) (Wout := W) (tb := fun W2 D σ H => ∀ X2, (∃ pn xe, X2 = X.tr pn xe ∧ PassesOwn (model X.prog X.w) X.A X.env xe) → L2N.Takes X2 W2 → semSs X2 body D σ H)
    (tst := fun cls d D σ H => ∀ a oe pn, L2N.Zn cls d oe → (∃ vs, oe.data = .fields vs) → semS (X.suite a ((a, oe) :: pn)) st D σ H)
    Df.stk Df.frm Df.ex ⟨S.gl hg, S.dbg hg, .inl hme⟩ pa tk (fun W2 pn xe t2 po => ⟨fun pins s' σ H D I h => h (X.tr pn xe) ⟨pn, xe, rfl, po⟩ t2 pins s' I⟩) (fun a oe cls d pn hz hf => ⟨fun pins s' σ H D I h => h a oe pn hz hf pins s' I⟩)).run pins s' σ H D I (by
    rintro X2 ⟨pn, xe, rfl, po⟩ tk2
    refine hb (X.tr pn xe) ⟨⟨S.nm, S.hn, S.hsc, S.nd, S.calm⟩, rfl, rfl, rfl, rfl, rfl, rfl⟩ ⟨Df.fn, Df.stk, Df.frm, Df.ex, po⟩ _ tk2 G σ H D r s ⟨l.nx, l.rt, l.bk, l.ct, fun G' H' O' δ' σ' x cc dd st' r' xr ⟨hx, pe⟩ => ?_⟩
    have xr2 := xr
    obtain ⟨ec, hd⟩ := xr
    subst ec
    refine ⟨hx, fun a oe pn2 hz hf => ?_⟩
    obtain ⟨y, ry, hy⟩ : ∃ y, Rep X.K G' y (.ref a) ∧ ((x.fs = [] ∧ dd = none ∧ y = .ref a) ∨ ∃ d2, dd = some d2 ∧ y = .exc a d2 x.fs) := by
      rcases hd with ⟨h1, h2⟩ | ⟨d2, vs, h1, h2, h3⟩
      · exact ⟨_, .ref a, .inl ⟨h1, h2, rfl⟩⟩
      · exact ⟨_, .exc h2 h3, .inr ⟨d2, h1, rfl⟩⟩
    obtain ⟨fv, hfv⟩ := hf
    exact hs (X.suite a ((a, oe) :: pn2)) x y δ' O' ⟨⟨S.nm, S.hn, S.hsc, S.nd, rfl, rfl, hu, X, a, oe, pn2, dd, rfl, hz.zc, ⟨fv, hfv⟩, hy⟩, ⟨(a, oe), ⟨rfl, fv, hfv, hz.2.2 fv hfv⟩, List.mem_cons_self⟩⟩ pe (fun _ _ _ _ => False) takes0 G' σ' H' _ r' st'.sta
      ⟨fun G2 H2 O2 δ2 σ2 s2 r2 q => l.ex G2 H2 O2 δ2 σ2 x _ dd (st'.trans s2) r2 (xr2.up s2.g) q, fun _ _ _ _ _ _ _ z => z.elim, fun _ _ _ _ _ _ _ z => z.elim, fun _ _ _ _ _ _ _ z => z.elim, fun _ _ _ _ _ _ _ _ _ _ _ z => z.elim⟩)
end
end DL
end
section
set_option maxRecDepth 100000
set_option maxHeartbeats 4000000
set_option autoImplicit false
namespace DL
open PySem PySem.Spec PyProof.Rows L2
section
variable {M0 : Model} {A : Around} {E : Value → Shared → Prop} {s : Shared} {Z : Obj → Prop} {base : Heap} {env : Env} {outer : List Env} {L C e : Addr}
/-- noted by another frame before -/
theorem look_otherZ {Q : Unit → Shared → Prop} (hZ : PXN.Steady1 Z) (hfr : A.frames = some (env :: outer)) (hf : env.frame = some L) (hh : HandSPX.HeldZ base (env :: outer) e Z C s.heap) (ne : C ≠ L)
    (hQ : ∀ h', HandSPX.HeldZ base (env :: outer) e Z L h' → s.heap.UpToSlots h' → Q () { s with heap := h' }) : wpAny M0 A (noteFrame (.ref e) env) Q E s := by
  obtain ⟨kb, en, ff, oe, vs, T, oT, ts, he, hz, hd, f1, nT, neT, hT, hdT, f3⟩ := hh
  unfold noteFrame
  simp only [hf]
  refine wpAny_bind (wpAny_field he hd f1 ?_); rw [if_pos (show (Value.ref T != Value.none) = true from by simp)]
  refine wpAny_bind (wpAny_field hT hdT f3 ?_); rw [if_neg (show ¬ ((rawInt C == rawInt L) = true) from fun z => ne (by have h : (C : Int) = (L : Int) := by simpa [rawInt] using z
                                                                                                                        exact Int.ofNat.inj h))]
  refine wpAny_bind (wpAny_setField hT hdT (Array.getElem?_eq_some_iff.mp f3).1 ?_)
  have oth : ∀ b, b ≠ T → (s.heap.update T (Obj.mapFields (·.setIfInBounds 3 Value.none))).get? b = s.heap.get? b := fun b hb => Heap.get?_update_other _ _ (Ne.symm hb)
  have noT : ∀ b o, s.heap.get? b = some o → (∀ vs, o.data ≠ .fields vs) → b ≠ T := fun b o hb hnf q => by subst q; cases hb.symm.trans hT; exact hnf ts hdT
  refine PXN.wpAny_entryZ hZ hfr (ff.of_keeps fun b o hb hnf => ⟨o, (oth b (noT b o hb hnf)).trans hb, rfl⟩) hf ((oth e (Ne.symm neT)).trans he) (fun b o hbo => (oth b fun q => by rw [q, nT] at hbo; cases hbo).trans (kb b o hbo)) en hd (Array.getElem?_eq_some_iff.mp f1).1 hz fun h' hN => ?_
  exact hQ h' ⟨hN.1, en, hN.2.1, hN.2.2.1⟩ fun b o hb hnf => hN.2.2.2 b o ((oth b (noT b o hb hnf)).trans hb) hnf
end
/-- the context of a block whose items may raise -/
abbrev blkE (X : Cx) (s : Shared) (H : Hp) (scope : Scope) (ce : Env) (fp : List Addr) : Cx := { X.blk s H scope ce fp with xe := fun u s' => notedBy (model X.prog X.w) X.A ce (CompFails (model X.prog X.w) X.A X.xe ce) u s' }
section
variable {X : Cx} {pins : List (Addr × Obj)} {σ : L2.St} {H : Hp} {s : Shared} {Wout : WX} {scope : Scope} {ce : Env} {fp : List Addr}
/-- what leaves an item is in the def's air -/
theorem takes_blk (hs : X.stack = X.env :: X.outer) (hf : X.env.frame = some X.env.locals) (tk : L2N.Takes X Wout) (I0 : Inv X pins σ H s) (hfr : ce.frame = X.env.frame) (cL : ce.locals = s.heap.objs.size) (hfp : ∀ b ∈ fp, FpOk X pins H b) :
    L2N.Takes (blkE X s H scope ce fp) (fun cls d _ H' => Wout cls d σ H') := fun u s' x => by
  obtain ⟨a, B, sI, pins', σ', H', cls, d, rfl, I, nb, up, sky, na, os, ag, w⟩ := x
  have hA : X.A.frames = some (X.env :: X.outer) := by rw [I0.ok.frames, hs]
  have J : Inv X pins σ H' sI := I0.call' (ch := fp) I.os I.base I.hok I.bare fun b hb => ⟨(hfp b hb).2.2.2.1, (hfp b hb).2.1, (hfp b hb).2.2.2.2.1, (hfp b hb).2.2.2.2.2⟩
  have nC : H' ce.locals = none := I.free
  obtain ⟨m, hn, _⟩ := I.loc
  have hn : sI.heap.Ns ce.locals m := hn
  have fC : FpOk X pins H' ce.locals := by rw [cL]; exact I0.fpOk (Nat.le_refl _) (by rw [← cL]; exact nC)
  have neL : ce.locals ≠ X.env.locals := fC.2.1
  have nb : ∀ b o, sI.heap.get? b = some o → b ∉ frs X.stack → B.get? b = some o := nb
  -- behind the note
  have fin : ∀ h1, HandSPX.HeldZ B (X.env :: X.outer) a (L2N.Zn cls d) X.env.locals h1 → s'.heap.UpToSlots h1 → CompFails (model X.prog X.w) X.A X.xe ce (.ref a) { s' with heap := h1 } := fun h1 hh up1 => by
    obtain ⟨b1, b0, f1, oe, vs, T, oT, ts, he, hz, hd, v1, nT, neT, hT, hdT, t3⟩ := hh
    have hn1 : h1.Ns ce.locals m := hn.upToSlots fun b o e n => (up.trans up1) b o e n
    have isC : ∀ b o (fv : Array Value), h1.get? b = some o → o.data = .fields fv → b ≠ ce.locals := fun b o fv e e2 z => by
      obtain ⟨oc, es, ep, ec, dc, _⟩ := hn1
      rw [z, ec] at e
      cases e
      rw [dc] at e2
      cases e2
    refine ⟨m, hn1, fun h2 m2 hn2 sb => ?_⟩
    have he2 : h2.get? a = some oe := (sb.2 a (isC a oe vs he hd)).trans he
    have hT2 : h2.get? T = some oT := (sb.2 T (isC T oT ts hT hdT)).trans hT
    obtain ⟨G, g1, g2⟩ := restrict sI.heap fun b => !decide (b = ce.locals)
    have gIn : ∀ b o, G.get? b = some o → sI.heap.get? b = some o ∧ b ≠ ce.locals := fun b o e => by
      by_cases hb : b = ce.locals
      · rw [g2 b (by simp [hb])] at e; cases e
      · rw [g1 b (by simp [hb])] at e; exact ⟨e, hb⟩
    have J' : Inv X pins σ H' { sI with heap := G, toks := sI.toks } := J.turned (fun b o hb e => by rw [g1 b (by simp [hb])]; exact e) fC.1 fC.2.1 fC.2.2.2.1 fC.2.2.2.2.1 fC.2.2.2.2.2
    -- the ground without the block
    have gB : ∀ b o, (PySem.W.hideAll G (frs X.stack)).get? b = some o → B.get? b = some o ∧ b ≠ ce.locals := fun b o e => by
      by_cases hb : b ∈ frs X.stack
      · rw [PySem.W.hideAll_none _ hb] at e; cases e
      · obtain ⟨e1, n1⟩ := gIn b o (PySem.W.of_hideAll _ e)
        exact ⟨nb b o e1 hb, n1⟩
    have off : ∀ b, B.get? b = none → (PySem.W.hideAll G (frs X.stack)).get? b = none := fun b hb => by
      cases q : (PySem.W.hideAll G (frs X.stack)).get? b with
      | none => rfl
      | some o => rw [(gB b o q).1] at hb; cases hb
    have st2 : (PySem.W.hideAll G (frs X.stack)).StaysIn h2 := fun b o e => by
      obtain ⟨e1, n1⟩ := gB b o e
      exact (sb.2 b n1).trans (b1 b o e1)
    have ff2 : h2.FunFrames (PySem.W.hideAll G (frs X.stack)) (X.env :: X.outer) := funFrames_none (Heap.FunFrames.sameBut sb hn2 f1) fun b hb => PySem.W.hideAll_none _ (by rw [hs]; exact hb)
    unfold PySem.passOn
    refine wpAny_bind (wpAny_field he2 hd v1 ?_)
    rw [if_neg (show ¬ ((Value.ref T == Value.none) = true) from by simp)]
    have out : wpAny (model X.prog X.w) X.A (setFlight (.ref a) ce.frame) (fun _ s3 => wpAny (model X.prog X.w) X.A (throw (.ref a) : Sem Value) (fun _ _ => False) X.xe s3) X.xe { s' with heap := h2 } := by
      refine HandSPX.setFlight_anyZ (base := PySem.W.hideAll G (frs X.stack)) (l := X.env :: X.outer) (Z := L2N.Zn cls d) st2 ff2 ⟨oe, vs, T, oT, ts, he2, hz, hd, v1, off T nT, neT, hT2, hdT, t3⟩ fun h3 c1 c2 c3 c4 => wpAny_throw (tk _ _ ?_)
      refine ⟨a, PySem.W.hideAll G (frs X.stack), { sI with heap := G, toks := sI.toks }, pins, σ, H', cls, d, rfl, J', fun b o e hb => PySem.W.hideAll_get _ e hb, fun b o e n => ?_, .inr (.inr ?_), na, os, ag, w⟩
      · obtain ⟨e1, n1⟩ := gIn b o e
        obtain ⟨sl, q⟩ := (up.trans up1) b o e1 n
        obtain ⟨sl2, q2⟩ := c4 b _ ((sb.2 b n1).trans q) n
        exact ⟨sl2, q2⟩
      · have q : HandSPX.HeldZ (PySem.W.hideAll G (frs X.stack)) (X.env :: X.outer) a (L2N.Zn cls d) X.env.locals h3 := ⟨c1, off a b0, c2, by
          have z : ce.frame.elim Value.none (fun f => rawInt f) = rawInt X.env.locals := by rw [hfr, hf]; rfl
          rw [← z]
          exact c3⟩
        rw [← hs] at q
        exact q
    first
      | exact wpAny_bind (wpAny_pure (wpAny_bind out))
      | exact wpAny_bind out
  show wpAny (model X.prog X.w) X.A (noteFrame (.ref a) ce) _ _ s'
  rw [noteFrame_env _ hfr]
  have sky' : Sky B (X.env :: X.outer) a (L2N.Zn cls d) ce.locals s'.heap := hs ▸ sky
  rcases sky' with ⟨hB, hna, hl, oe, vs, he, hz, hd, v1⟩ | fl | hh
  · exact PXN.look_newZ L2N.Zn.steady hA hl hf he hB hna hd v1 hz fin
  · exact PXN.looks_onZ L2N.Zn.steady hA hf fl fin
  · exact look_otherZ L2N.Zn.steady hA hf hh neL fin
end
section
variable {X : Cx} {Wout : WX}
/-- [e for x in it], e may raise -/
theorem pe_lcX {elt tg iter : Expr} {ifs : List Expr} {scope : Scope} {own : List (Str × Nat)} {pos : Pos} {wi : TI} {g : TG} {tt : TT} {te : WX → TE} (hs : X.stack = X.env :: X.outer) (hf : X.env.frame = some X.env.locals) (tk : L2N.Takes X Wout) (hc : X.calm = true) (nd : X.N.Nodup) (hi : PI X tg iter wi) (ok : BlkOk X.N X.env.scope scope own)
    (hg : ∀ (s : Shared) (H : Hp) (C : Addr) (cl : List (Str × Addr)) (fp : List Addr), PG (X.blk s H scope (compEnvC scope cl C X.env) fp) tg g) (ht : ∀ (s : Shared) (H : Hp) (C : Addr) (cl : List (Str × Addr)) (fp : List Addr), PTs (X.blk s H scope (compEnvC scope cl C X.env) fp) ifs tt)
    (he : ∀ (s : Shared) (H : Hp) (C : Addr) (cl : List (Str × Addr)) (fp : List Addr) (W : WX), L2N.Takes (blkE X s H scope (compEnvC scope cl C X.env) fp) W → PE (blkE X s H scope (compEnvC scope cl C X.env) fp) elt (te W)) (hfo : ∀ x, foldedSetIterable iter X.env x = pure x := by intro _; rfl) :
    PE X (.ListComp elt [⟨tg, iter, ifs, 0⟩] scope pos) (fun σ H Q => tLc wi g tt (te fun cls d _ H' => Wout cls d σ H') (own.map (·.2)) σ H Q) := ⟨fun pins s σ H Q I0 h => by
  have free : ∀ y ∈ scope.names, y.2 = .free → ∃ c, X.env.cells.lookup y.1 = some c := fun y hy e => (ok.free y hy e).elim (fun k => I0.ok.has _ (.inl k)) fun k => I0.ok.has _ (.inr k)
  rw [eval_ListComp]
  refine comprehension_at (use := none) rfl hfo (closure_ok free) ok.kind (fun y hy e => by rw [ok.uniq y hy, e]) (thn (hi.run pins s σ H _ I0 h) fun xv s1 hx => thn hx fun itv s2 hy => ?_)
  obtain ⟨it, fp, tn, J, H2, rfl, I2, T, st2, f2, q⟩ := hy
  refine wpAny_newObj_type (newEnv_comp ?_) (by show 0 ≤ sizeLine; decide)
  obtain ⟨D, hD⟩ : ∃ D, D = s2.heap.objs.size := ⟨_, rfl⟩
  obtain ⟨W, ⟨m0, w0⟩, turn⟩ := q D (I2.hok.fresh (Nat.le_of_eq hD.symm))
  obtain ⟨s3, es3⟩ : ∃ s3 : Shared, s3 = { s2 with heap := s2.heap.push { cls := .type "list", data := .seq ([] : List Value).toArray } } := ⟨_, rfl⟩
  have hp3 : s3.heap = s2.heap.push { cls := .type "list", data := .seq ([] : List Value).toArray } := by rw [es3]
  have I3 : Inv X pins σ (upd H2 D (.lst [])) s3 := by
    rw [es3]
    exact I2.laid (t' := s2.toks) (fun b o e => Heap.get?_push_of_some _ e) (Nat.le_of_eq hD.symm) ⟨Nat.zero_le _, [], 0, .nil, by rw [hD]; exact Heap.get?_push_size _ rfl⟩
  have f3 : ∀ b ∈ fp, FpOk X pins (upd H2 D (.lst [])) b ∧ b < s3.heap.objs.size := fun b hb => by
    obtain ⟨o, e, _⟩ := T.obj _ _ st2 b hb
    have lt := Heap.lt_size e
    exact ⟨⟨by rw [upd_ne (by rw [hD]; exact Nat.ne_of_lt lt)]; exact (f2 b hb).1, (f2 b hb).2⟩, by rw [hp3, Heap.size_push]; exact Nat.lt_succ_of_lt lt⟩
  have st3 : tn 0 s3.heap := T.keep _ _ _ st2 fun b _ o e => by rw [hp3]; exact Heap.get?_push_of_some _ e
  have I4 := block_start I3 ok nd f3
  have pg := hg s3 (upd H2 D (.lst [])) s3.heap.objs.size (cellsFrom (s3.heap.objs.size + 1) scope.names (cloFrom X.env.cells scope.names [])) fp; have pt := ht s3 (upd H2 D (.lst [])) s3.heap.objs.size (cellsFrom (s3.heap.objs.size + 1) scope.names (cloFrom X.env.cells scope.names [])) fp
  have tkB := takes_blk (scope := scope) (ce := compEnvC scope (cellsFrom (s3.heap.objs.size + 1) scope.names (cloFrom X.env.cells scope.names [])) s3.heap.objs.size X.env) hs hf tk I3 rfl rfl fun b hb => (f3 b hb).1
  have pe := he s3 (upd H2 D (.lst [])) s3.heap.objs.size (cellsFrom (s3.heap.objs.size + 1) scope.names (cloFrom X.env.cells scope.names [])) fp _ tkB
  show codeAny _ _ (.compStart (.ListComp elt [⟨tg, iter, ifs, 0⟩] scope pos) 0 (.ref it) (.ref s2.heap.objs.size) (compEnvC scope (cellsFrom ((s2.heap.push { cls := .type "list", data := .seq ([] : List Value).toArray }).objs.size + 1) scope.names (cloFrom X.env.cells scope.names [])) (s2.heap.push { cls := .type "list", data := .seq ([] : List Value).toArray }).objs.size X.env)) (compEnds (model X.prog X.w) X.A X.xe none _ (.ref s2.heap.objs.size) (compEnvC scope (cellsFrom ((s2.heap.push { cls := .type "list", data := .seq ([] : List Value).toArray }).objs.size + 1) scope.names (cloFrom X.env.cells scope.names [])) (s2.heap.push { cls := .type "list", data := .seq ([] : List Value).toArray }).objs.size X.env)) _
  rw [← hD, ← hp3]
  have nfp : ∀ b ∈ fp, (upd H2 D (.lst [])) b = none := fun b hb => (f3 b hb).1.1
  obtain ⟨ce, hce⟩ : ∃ ce, ce = compEnvC scope (cellsFrom (s3.heap.objs.size + 1) scope.names (cloFrom X.env.cells scope.names [])) s3.heap.objs.size X.env := ⟨_, rfl⟩
  have cL : ce.locals = s3.heap.objs.size := by rw [hce]; rfl
  rw [← hce] at I4 pg pt pe ⊢
  obtain ⟨H3, hH3⟩ : ∃ H3, H3 = upd H2 D (.lst []) := ⟨_, rfl⟩
  rw [← hH3] at I3 I4 pg pt pe w0 nfp f3
  obtain ⟨s4, hs4⟩ : ∃ s4 : Shared, s4 = { s3 with heap := pushCells (s3.heap.push { cls := .type "dict", data := .dict #[] }) scope.names } := ⟨_, rfl⟩
  have eg : ({ s2 with heap := pushCells (s3.heap.push { cls := .type "dict", data := .dict #[] }) scope.names } : Shared) = s4 := by rw [hs4, es3]
  show codeAny _ _ _ _ { s2 with heap := pushCells (s3.heap.push { cls := .type "dict", data := .dict #[] }) scope.names }
  rw [eg]
  rw [← hs4] at I4
  have st4 : tn 0 s4.heap := T.keep _ _ _ st3 fun b _ o e => by rw [hs4]; exact pushCells_keeps _ _ _ _ (Heap.get?_push_of_some _ e)
  have fpB : ∀ {σ' : L2.St} {H' : Hp} {s' : Shared}, Inv (X.blk s3 H3 scope ce fp) [] σ' H' s' → (∀ b ∈ fp, H' b = none) → ∀ b ∈ fp, FpOk (X.blk s3 H3 scope ce fp) [] H' b := fun {σ' H' s'} I' hn b hb =>
    ⟨hn b hb, (I'.ok.exf b hb).1, I'.ok.exfs b hb, .inl hb, fun x c e => (I'.ok.exf b hb).2 x c e, fun p hp => (nomatch hp)⟩
  have loop : codeAny (model X.prog X.w) X.A (.compLoop (.ListComp elt [⟨tg, iter, ifs, 0⟩] scope pos) 0 (.ref it) (.ref D) ce) (compEnds (model X.prog X.w) X.A X.xe none (EP X pins σ Q) (.ref D) ce) s4 := by
    refine compLoop_any (fun n s' => ∃ i H', Inv (X.blk s3 H3 scope ce fp) [] (wipe σ (own.map (·.2))) H' s' ∧ tn i s'.heap ∧ (∀ b ∈ fp, H' b = none) ∧ W i n H') (fun n s5 ⟨i, H5, I5, st5, n5, w5⟩ => ?_) m0 ⟨0, H3, I4, st4, nfp, w0⟩
    rcases turn i n H5 w5 with ⟨stop, qq⟩ | ⟨go, Nx, hNx, step⟩
    · refine thnF (T.done (X.blk s3 H3 scope ce fp) rfl rfl rfl hc i [] s5 _ H5 (fun _ _ => False) I5 (fpB I5 n5) st5 stop) fun r s6 hr => ?_
      obtain ⟨rfl, I6⟩ := hr
      have J7 : Inv X pins σ H5 s6 := I3.call' (ch := fp) I6.os I6.base I6.hok I6.bare fun b hb => ⟨(f3 b hb).1.2.2.2.1, (f3 b hb).1.2.1, (f3 b hb).1.2.2.2.2.1, (f3 b hb).1.2.2.2.2.2⟩
      have nC : H5 ce.locals = none := I6.free
      have fC : FpOk X pins H5 ce.locals := by rw [cL]; exact I3.fpOk (Nat.le_refl _) (by rw [← cL]; exact nC)
      obtain ⟨m, hn, _⟩ := I6.loc
      exact ⟨m, hn, fun h' sb => ⟨.ref D, H5, J7.turned (t' := s6.toks) (fun b o hb e => (sb.2 b hb).trans e) fC.1 fC.2.1 fC.2.2.2.1 fC.2.2.2.2.1 fC.2.2.2.2.2, rfl, qq⟩⟩
    · refine thnF (T.item (X.blk s3 H3 scope ce fp) rfl rfl rfl hc i [] s5 _ H5 (fun _ _ => False) I5 (fpB I5 n5) st5 go) fun r s6 hr => ?_
      obtain ⟨u, rfl, h6⟩ := hr
      refine thnF h6 fun _ s7 h7 => ?_
      obtain ⟨x, H7, I7, r7, y7, st7, n7⟩ := h7
      refine thnF (pg.run _ s7 _ H7 x u _ (I7.pinned (fpB I7 n7) (T.obj _ _ st7)) r7 (step x H7 y7)) fun _ s8 h8 => ?_
      obtain ⟨σ8, H8, I8, hw8, q8⟩ := h8
      refine thnF (pt.run _ s8 σ8 H8 _ I8 q8) fun b s9 h9 => ?_
      obtain ⟨H9, I9, q9⟩ := h9
      have fin : ∀ {s' : Shared} {H' : Hp}, Inv (X.blk s3 H3 scope ce fp) ([] ++ pinsAt fp s7.heap) σ8 H' s' → Nx H' → ∃ m, m < n ∧ ∃ i H', Inv (X.blk s3 H3 scope ce fp) [] (wipe σ (own.map (·.2))) H' s' ∧ tn i s'.heap ∧ (∀ b ∈ fp, H' b = none) ∧ W i m H' := fun {s' H'} I' nx => by
        obtain ⟨m', hm, w'⟩ := hNx H' nx
        have kept : ∀ b ∈ fp, ∀ o, s7.heap.get? b = some o → s'.heap.get? b = some o ∧ H' b = none := fun b hb o e => ⟨(I'.pin (b, o) (List.mem_append_right _ (List.mem_append_right _ (mem_pinsAt hb e)))).1, (I'.pin (b, o) (List.mem_append_right _ (List.mem_append_right _ (mem_pinsAt hb e)))).2.1⟩
        refine ⟨m', hm, i + 1, H', (I'.unpinned (pins := [])).weak (by rw [← hw8, wipe_length]) (fun j v e => (wipe_some (by rw [hw8]; exact e)).1), T.keep _ _ _ st7 fun b hb o e => (kept b hb o e).1, fun b hb => ?_, w'⟩
        obtain ⟨o, e, _⟩ := T.obj _ _ st7 b hb
        exact (kept b hb o e).2
      match b, q9 with
      | false, q9 => exact fin I9 q9
      | true, q9 =>
        refine wpAny_mono (pe.run _ s9 σ8 H9 _ (I9.wish _) q9) (fun z s10 h10 => ?_) fun _ _ y => y
        obtain ⟨yv, H10, I10, r10, acc, hD10, hz10, nx⟩ := h10
        exact app_ok (X := X.blk s3 H3 scope ce fp) I10.unwish hD10 hz10 r10 fun s11 I11 => fin I11 nx
  exact codeAny_compStart_list loop (T.self X.A 0 _ _ _ st4 loop)⟩
end
section
variable {X : Cx} {N : List Str} {sc scope : Scope} {δ : DEnv} {O : Own} {E : XD → Own → Prop} {Q : D → Own → Prop} {pos : Pos}
def LcBodyE (X : Cx) (elt tg : Expr) (ifs : List Expr) (scope : Scope) (vs : List Nat) (δw : DEnv) (ds : List D) (E : XD → Own → Prop) (P : Nat → List D → Own → Prop) : Prop :=
  ∀ i d acc O', ds[i]? = some d → P i acc O' → ∀ (s : Shared) (H : Hp) (C : Addr) (cl : List (Str × Addr)) (fp : List Addr),
    DGc (blkX X scope s H C cl fp) tg d vs δw O' fun δ2 O2 => ∀ (s : Shared) (H : Hp) (C : Addr) (cl : List (Str × Addr)) (fp : List Addr), DTs (blkX X scope s H C cl fp) ifs δ2 O2 noE fun b O3 =>
      (b = true → ∀ (s : Shared) (H : Hp) (C : Addr) (cl : List (Str × Addr)) (fp : List Addr), DE (blkE X s H scope (compEnvC scope cl C X.env) fp) elt δ2 O3 E fun y O4 => acc.length < 100000 ∧ P (i + 1) (acc ++ [y]) O4) ∧ (b = false → P (i + 1) acc O3)
theorem lc_turnsE {elt tg iter : Expr} {ifs : List Expr} {vs : List Nat} {δw : DEnv} {ds : List D} {J : It} {G1 H1 : Hp} {O1 : Own} {σ : L2.St} {Q' : VK} {W : WX} (hw : Wp δ vs δw) (s1 : Sta X.K G1 O1 H1) (r1 : REnv X.K G1 δ σ) (jr : JRep X.K G1 ds J) (P : Nat → List D → Own → Prop) (h0 : P 0 [] O1)
    (hb : LcBodyE X elt tg ifs scope vs δw ds E P) (hE : ∀ G' H' O' x c dd, Step X.K G1 O1 H1 G' O' H' → XRep X.K G' x c dd → E x O' → W c dd σ H') (hd : ∀ acc O', P ds.length acc O' → NewL acc O' Q) (hQ : ∀ G' H' O' d v, Step X.K G1 O1 H1 G' O' H' → Rep X.K G' d v → Q d O' → Q' v H') :
    ∀ Dl, H1 Dl = none → ∃ Wt : Nat → Nat → Hp → Prop, (∃ m, Wt 0 m (upd H1 Dl (.lst []))) ∧ ∀ i m H, Wt i m H →
      (J.stop i H ∧ Q' (.ref Dl) H) ∨ (J.go i H ∧ ∃ Nx : Hp → Prop, (∀ H', Nx H' → ∃ m', m' < m ∧ Wt (i + 1) m' H') ∧ ∀ x H', J.yld i H x H' → (fun v σ H K => ∀ s0 H0 C cl fp, semG (blkX X scope s0 H0 C cl fp) tg v σ H K : TG) x (wipe σ vs) H' fun σ2 H2 => wipe σ2 vs = wipe σ vs ∧ (fun σ H K => ∀ s0 H0 C cl fp, semTs (blkX X scope s0 H0 C cl fp) ifs σ H K : TT) σ2 H2 fun b H3 =>
        if b = true then (fun σ3 H K => ∀ s0 H0 C cl fp, L2N.Takes (blkE X s0 H0 scope (compEnvC scope cl C X.env) fp) (fun c d _ H' => W c d σ H') → sem (blkE X s0 H0 scope (compEnvC scope cl C X.env) fp) elt σ3 H K : TE) σ2 H3 fun y H4 => ∃ acc, H4 Dl = some (.lst acc) ∧ acc.length < sizeLine ∧ Nx (upd H4 Dl (.lst (acc ++ [y]))) else Nx H3) := by
  intro Dl hD
  have S0 := Step.newO s1 (c := .lst []) (o := .lst []) hD .nil
  refine ⟨fun i m H' => m = ds.length - i ∧ i ≤ ds.length ∧ ∃ G' O' acc, Step X.K G1 O1 H1 G' ((Dl, .lst acc) :: O') H' ∧ P i acc O', ⟨_, rfl, Nat.zero_le _, G1, O1, [], S0, h0⟩, fun i m H' hh => ?_⟩
  obtain ⟨rfl, hi, G', O', acc, st', p⟩ := hh
  by_cases hlt : i < ds.length
  · refine .inr ⟨jr.go i G' H' st'.g st'.sta.sub hlt, fun H2 => ∃ G2 O2 acc2, Step X.K G1 O1 H1 G2 ((Dl, .lst acc2) :: O2) H2 ∧ P (i + 1) acc2 O2, fun H2 ⟨G2, O2, acc2, s2, p2⟩ => ⟨ds.length - (i + 1), by omega, rfl, hlt, G2, O2, acc2, s2, p2⟩, fun x H2 hy s0 H0 C cl fp => ?_⟩
    have hdi : ds[i]? = some ds[i] := by simp [hlt]
    obtain ⟨G2, st2, e2, rx⟩ := drawn jr st' hdi hy
    refine hb i _ acc O' hdi p s0 H0 C cl fp x G2 (wipe σ vs) H2 _ rx (wipe_rep hw (r1.mono st2.g)) st2.sta.less fun G3 H3 O3 δ3 σ3 s3 r3 w3 q3 => ⟨w3.trans (wipe_wipe _ _), fun s0 H0 C cl fp => ?_⟩
    have f3 := Step.frame st2.sta s3
    refine q3 s0 H0 C cl fp (fun _ _ _ _ => False) takes0 G3 σ3 H3 _ trivial r3 s3.sta (fun _ _ _ _ _ _ _ _ z => z.elim) fun G4 H4 O4 b b' s4 eb q4 => ?_
    obtain rfl : b = b' := eb
    have f4 := Step.frame f3.sta s4
    have t4 := (st2.trans f3).trans f4
    cases b with
    | false =>
      rw [if_neg Bool.false_ne_true]
      exact ⟨G4, O4, acc, t4, q4.2 rfl⟩
    | true =>
      rw [if_pos rfl]
      intro s0 H0 C cl fp tkB
      refine q4.1 rfl s0 H0 C cl fp _ tkB G4 σ3 H4 _ trivial (r3.mono s4.g) s4.sta (fun G5 H5 O5 x c dd s5 xr e => hE G5 H5 O5 x c dd ((t4.trans (Step.frame f4.sta s5)).less (.cons _ (.refl _))) xr e) fun G5 H5 O5 y v s5 ry hz => ?_
      obtain ⟨hz, p5⟩ := hz
      have f5 := Step.frame f4.sta s5
      obtain ⟨_, o, ho, rc⟩ := f5.sta.own Dl _ List.mem_cons_self
      cases o with
      | lst ws =>
        have rl : RepL X.K G5 acc ws := rc
        exact ⟨ws, ho, by rw [rl.length]; exact Nat.lt_of_lt_of_le hz (by decide), G5, O5, acc ++ [y], (t4.trans f5).trans (Step.put f5.sta (c := .lst (acc ++ [y])) (o := .lst (ws ++ [v])) Put.head (rl.append (.cons ry .nil))), p5⟩
      | _ => exact rc.elim
  · obtain rfl : i = ds.length := by omega
    refine .inl ⟨jr.stop _ G' H' st'.g st'.sta.sub rfl, ?_⟩
    rcases hd acc O' p with n | n
    · obtain ⟨_, o, ho, rc⟩ := st'.sta.own Dl _ List.mem_cons_self
      obtain ⟨fz, rc'⟩ := Step.freeze st'.sta (c := .lst acc) At.head Del.head ho
      cases o with
      | lst ws => exact hQ _ _ _ _ _ (st'.trans fz) (.lst upd_same rc') n
      | _ => exact rc.elim
    · exact hQ _ _ _ _ _ st' (.ref Dl) (n Dl)
/-- what an item does; it may raise -/
def LcE (X : Cx) (N : List Str) (sc : Scope) (elt tg : Expr) (ifs : List Expr) (vs : List Nat) (δw : DEnv) (ds : List D) (E : XD → Own → Prop) (P : Nat → List D → Own → Prop) : Prop :=
  ∀ i d acc O', ds[i]? = some d → P i acc O' → acc.length ≤ i → ∀ X', Blk X X' N sc → DGc X' tg d vs δw O' fun δ2 O2 => ∀ X', Blk X X' N sc → DTs X' ifs δ2 O2 noE fun b O3 =>
    (b = true → ∀ X', Blk X X' N sc → DE X' elt δ2 O3 E fun y O4 => P (i + 1) (acc ++ [y]) O4) ∧ (b = false → P (i + 1) acc O3)
theorem blk_ofE {sc' : Scope} (S : Sc X N sc) (hr : relS scope sc = sc') (hnm : nmOk sc' = true) {s : Shared} {H : Hp} {C : Addr} {cl : List (Str × Addr)} {fp : List Addr} : Blk X (blkE X s H scope (compEnvC scope cl C X.env) fp) N sc' := by
  have b := blk_of S hr hnm (s := s) (H := H) (C := C) (cl := cl) (fp := fp)
  exact ⟨⟨b.sc.nm, b.sc.hn, b.sc.hsc, b.sc.nd, b.sc.calm⟩, rfl, rfl, rfl, rfl, rfl, rfl⟩
theorem de_lcEc {elt tg iter : Expr} {ifs : List Expr} (own : List (Str × Nat)) (sc' : Scope) (S : Sc X N sc) (Df : DL.Df X)
    (h : DI X tg iter δ O E fun ds O1 => ∃ δw, Wp δ (own.map (·.2)) δw ∧ ∃ P : Nat → List D → Own → Prop, P 0 [] O1 ∧ ds.length ≤ 100000 ∧ LcE X N sc' elt tg ifs (own.map (·.2)) δw ds E P ∧ ∀ acc O', P ds.length acc O' → NewL acc O' Q)
    (ok : blkC N sc scope own = true := by decide +kernel) (hrel : relS scope sc = sc' := by with_unfolding_all rfl) (hnm : nmOk sc' = true := by decide +kernel) (hs : ∀ x, foldedSetIterable iter X.env x = pure x := by intro _; with_unfolding_all rfl) : DE X (.ListComp elt [⟨tg, iter, ifs, 0⟩] scope pos) δ O E Q := by
  intro W tk G σ H Q' p r s hE hQ pins s' I
  have P0 : PE X (.ListComp elt [⟨tg, iter, ifs, 0⟩] scope pos) (fun σ H Q => tLc (semI X tg iter) (fun v σ H K => ∀ s0 H0 C cl fp, semG (blkX X scope s0 H0 C cl fp) tg v σ H K) (fun σ H K => ∀ s0 H0 C cl fp, semTs (blkX X scope s0 H0 C cl fp) ifs σ H K)
      (fun σ3 H K => ∀ s0 H0 C cl fp, L2N.Takes (blkE X s0 H0 scope (compEnvC scope cl C X.env) fp) (fun c d _ H' => W c d σ H') → sem (blkE X s0 H0 scope (compEnvC scope cl C X.env) fp) elt σ3 H K) (own.map (·.2)) σ H Q) :=
    pe_lcX (Wout := W) (te := fun W2 σ H K => ∀ s0 H0 C cl fp, L2N.Takes (blkE X s0 H0 scope (compEnvC scope cl C X.env) fp) W2 → sem (blkE X s0 H0 scope (compEnvC scope cl C X.env) fp) elt σ H K) Df.stk Df.frm tk S.calm S.hN pi_sem (by rw [S.hn, S.hsc]; exact blkOk_by ok)
      (fun s0 H0 C cl fp => ⟨fun pins s' σ H v u K I r q => q s0 H0 C cl fp pins s' u I r⟩) (fun s0 H0 C cl fp => ⟨fun pins s' σ H K I q => q s0 H0 C cl fp pins s' I⟩) (fun s0 H0 C cl fp W2 t2 => ⟨fun pins s' σ H K I q => q s0 H0 C cl fp t2 pins s' I⟩) hs
  refine P0.run pins s' σ H Q' I ?_
  refine h W tk G σ H _ p r s hE fun G1 H1 O1 ds J st jr hh => ?_
  obtain ⟨δw, hw, P, h0, hl, hb, n⟩ := hh
  refine lc_turnsE (E := E) (Q := Q) (iter := iter) hw st.sta (r.mono st.g) jr (fun i acc O' => P i acc O' ∧ acc.length ≤ i) ⟨h0, Nat.le_refl _⟩ ?_ (fun G' H' O' x c dd s2 xr e => hE G' H' O' x c dd (st.trans s2) xr e) (fun acc O' ha => n acc O' ha.1) fun G' H' O' d v s2 => hQ G' H' O' d v (st.trans s2)
  intro i d acc O' hd hP s H C cl fp
  obtain ⟨ea, la⟩ := hP
  have hi : i < ds.length := (List.getElem?_eq_some_iff.1 hd).1
  intro v G σ H2 Q2 rd r s2 hk
  refine hb i d acc O' hd ea la _ (blk_of S hrel hnm (s := s) (H := H) (C := C) (cl := cl) (fp := fp)) v G σ H2 Q2 rd r s2 fun G' H' O1 δ' σ' st r' w q => hk G' H' O1 δ' σ' st r' w ?_
  intro s3 H3 C3 cl3 fp3
  refine M.imp (q _ (blk_of S hrel hnm (s := s3) (H := H3) (C := C3) (cl := cl3) (fp := fp3))) fun b O3 qq => ⟨fun hb s4 H4 C4 cl4 fp4 => ?_, fun hb => ⟨qq.2 hb, by omega⟩⟩
  refine M.imp (qq.1 hb _ (blk_ofE S hrel hnm (s := s4) (H := H4) (C := C4) (cl := cl4) (fp := fp4))) fun y O4 e1 => ?_
  exact ⟨by omega, e1, by simp; omega⟩
end
end DL
end
section
set_option maxRecDepth 100000
set_option maxHeartbeats 4000000
set_option autoImplicit false
namespace DL
open PySem PySem.Spec PyProof.Rows L2
structure Alt (a : Addr) (h h' : Heap) : Prop where
  oth : ∀ b, b ≠ a → h'.get? b = h.get? b
  at_ : ∃ (o o' : Obj) (vs vs' : Array Value), h.get? a = some o ∧ h'.get? a = some o' ∧ o.cls = o'.cls ∧ o.dict = o'.dict ∧ o.data = .fields vs ∧ o'.data = .fields vs' ∧ vs[1]? = vs'[1]?
theorem Alt.symm {a : Addr} {h h' : Heap} (x : Alt a h h') : Alt a h' h := by
  obtain ⟨p, o, o', vs, vs', q1, q2, q3, q4, q5, q6, q7⟩ := x
  exact ⟨fun b hb => (p b hb).symm, o', o, vs', vs, q2, q1, q3.symm, q4.symm, q6, q5, q7.symm⟩
theorem Alt.keeps {a : Addr} {h h' : Heap} (x : Alt a h h') (b : Addr) (o : Obj) (e : h.get? b = some o) (n : ∀ vs, o.data ≠ .fields vs) : h'.get? b = some o := by
  by_cases hb : b = a
  · subst hb
    obtain ⟨_, o1, _, vs, _, q1, _, _, _, q5, _⟩ := x
    rw [e] at q1
    cases q1
    exact absurd q5 (n vs)
  · rw [x.oth b hb]
    exact e
theorem Alt.up {a : Addr} {h h' h0 : Heap} (x : Alt a h h') (u : h0.UpToSlots h) : h0.UpToSlots h' := fun b o e n => by
  obtain ⟨sl, q⟩ := u b o e n
  exact ⟨sl, x.keeps b _ q n⟩
abbrev lo (X : Cx) (W : WX) : Cx := X.tr X.pn (fun u s' => L2.XE X W u s')
end DL
end
section
set_option maxRecDepth 100000
set_option maxHeartbeats 4000000
set_option autoImplicit false
namespace L2
open PySem PySem.Spec PyProof.Rows GenW
open Sem (wp)
abbrev EndP := End → Shared → Prop
/-- the code runs on to an end that is wanted -/
def SegP (M : Model) (A : Around) (Φ : EndP) (c : Code) (t : Sem PySem.Fin) (fs : List Frame) (s : Shared) : Prop :=
  ∀ (Γ : PySem.Ctx) (p : Pos), Γ.code = c → Γ.Woken A → ∃ e s1, Runs M Γ p t fs s e s1 ∧ Φ e s1
end L2
end
section
set_option maxRecDepth 100000
set_option maxHeartbeats 4000000
set_option autoImplicit false
namespace L2
open PySem PySem.Spec PyProof.Rows GenW
open Sem (wp)
/-- what is wanted of the next end; the consumer's frame, as it stands while the generator runs -/
structure GP where
  Φ : EndP
  oL : Obj
structure GEnd2 where
  nx : GP → St → Hp → Prop
  rt : GP → VK
  bk : GP → St → Hp → Prop := fun _ _ _ => False
  ct : GP → St → Hp → Prop := fun _ _ _ => False
def GEnd2.at (D : GEnd2) (τ : GP) : Ends := { nx := D.nx τ, rt := D.rt τ, bk := D.bk τ, ct := D.ct τ }
end L2
end
section
set_option maxRecDepth 100000
set_option maxHeartbeats 4000000
set_option autoImplicit false
namespace DL
open PySem PySem.Spec PyProof.Rows L2
/-- what is still to go out; the own cells when the consumer last woke the generator -/
abbrev ZO := List D × Own
structure ZBk where
  rt : ZO → D → Own → Prop
  bk : ZO → DEnv → Own → Prop
  ct : ZO → DEnv → Own → Prop
  ex : XD → DEnv → Own → Prop
def ZBk.at (B : ZBk) (out : ZO) : Bk := ⟨B.rt out, B.bk out, B.ct out, B.ex⟩
section
variable (X : Cx) (L : Addr) (A : Around)
/-- what is wanted of the next end: the items of the list still go out, one by one; in between the consumer changes its own cells (R) and lays new things -/
def PhiD : List D → Hp → Own → Hp → Obj → EndP
  | [], G, O, H, oL => fun e s1 => e = .ret (.ok (.ret .none)) ∧ ∃ G' H' σ ip, Step X.K G O H G' O H' ∧ Inv X ((L, oL) :: ip) σ H' s1
  | d :: rest, G, O, H, oL => fun e s1 => ∃ (v : Value) (l : List Value) (k : Resume → Sem PySem.Fin) (c : Code) (p : Pos) (fs : List Frame), e = .susp v false l k c p fs ∧ e.quiet = true ∧
    ∃ (G' : Hp) (H' : Hp) (σ : L2.St) (ip : List (Addr × Obj)) (x : V), Step X.K G O H G' O H' ∧ Inv X ((L, oL) :: ip) σ H' s1 ∧ (∀ q ∈ ip, q.1 ≠ L) ∧ RelV x v ∧ Rep X.K G' d x ∧
      ∀ (G2 : Hp) (O2 : Own) (H2 : Hp) (oL2 : Obj) (s2 : Shared), Step X.K G' O H' G2 O2 H2 → Inv X ((L, oL2) :: ip) σ H2 s2 → SegP (model X.prog X.w) A (PhiD rest G2 O2 H2 oL2) c (k (.send .none)) fs s2
def Lnk (out : ZO) (τ : GP) (G : Hp) (O : Own) (H : Hp) : Prop := ∃ G0 H0, Step X.K G0 out.2 H0 G O H ∧ τ.Φ = PhiD X L A out.1 G0 out.2 H0 τ.oL
end
section
variable {X : Cx} {L : Addr} {A : Around}
theorem Lnk.step {rest : ZO} {τ : GP} {G G1 H H1 : Hp} {O O1 : Own} (l : Lnk X L A rest τ G O H) (a : Step X.K G O H G1 O1 H1) : Lnk X L A rest τ G1 O1 H1 := let ⟨G0, H0, s, e⟩ := l; ⟨G0, H0, s.trans a, e⟩
end
structure LkZ (X : Cx) (L : Addr) (A : Around) (W : WX) (G : Hp) (O : Own) (H : Hp) (B : ZBk) (nx : ZO → DEnv → Own → Prop) (D : GEnd2) : Prop where
  nx : ∀ G' H' O' δ' σ' ds τ, Step X.K G O H G' O' H' → REnv X.K G' δ' σ' → Lnk X L A ds τ G' O' H' → nx ds δ' O' → D.nx τ σ' H'
  rt : ∀ G' H' O' d v ds τ, Step X.K G O H G' O' H' → Rep X.K G' d v → Lnk X L A ds τ G' O' H' → B.rt ds d O' → D.rt τ v H'
  bk : ∀ G' H' O' δ' σ' ds τ, Step X.K G O H G' O' H' → REnv X.K G' δ' σ' → Lnk X L A ds τ G' O' H' → B.bk ds δ' O' → D.bk τ σ' H'
  ct : ∀ G' H' O' δ' σ' ds τ, Step X.K G O H G' O' H' → REnv X.K G' δ' σ' → Lnk X L A ds τ G' O' H' → B.ct ds δ' O' → D.ct τ σ' H'
  ex : ∀ G' H' O' δ' σ' x c dd, Step X.K G O H G' O' H' → REnv X.K G' δ' σ' → XRep X.K G' x c dd → B.ex x δ' O' → W c dd σ' H'
section
variable {X : Cx} {L : Addr} {A : Around} {W : WX} {G G1 H H1 : Hp} {O O1 : Own} {B : ZBk} {nx nx2 : ZO → DEnv → Own → Prop} {D : GEnd2}
theorem LkZ.step (l : LkZ X L A W G O H B nx D) (a : Step X.K G O H G1 O1 H1) : LkZ X L A W G1 O1 H1 B nx D :=
  ⟨fun _ _ _ _ _ _ _ s => l.nx _ _ _ _ _ _ _ (a.trans s), fun _ _ _ _ _ _ _ s => l.rt _ _ _ _ _ _ _ (a.trans s), fun _ _ _ _ _ _ _ s => l.bk _ _ _ _ _ _ _ (a.trans s), fun _ _ _ _ _ _ _ s => l.ct _ _ _ _ _ _ _ (a.trans s), fun _ _ _ _ _ _ _ _ s => l.ex _ _ _ _ _ _ _ _ (a.trans s)⟩
theorem LkZ.at {out : ZO} {τ : GP} (l : LkZ X L A W G O H B nx D) (k : Lnk X L A out τ G O H) : Lk X W G O H (B.at out) (nx out) (D.at τ) :=
  ⟨fun G' H' O' δ' σ' s r q => l.nx G' H' O' δ' σ' out τ s r (k.step s) q, fun G' H' O' d v s r q => l.rt G' H' O' d v out τ s r (k.step s) q, fun G' H' O' δ' σ' s r q => l.bk G' H' O' δ' σ' out τ s r (k.step s) q, fun G' H' O' δ' σ' s r q => l.ct G' H' O' δ' σ' out τ s r (k.step s) q, l.ex⟩
end
end DL
end
section
set_option maxRecDepth 100000
set_option maxHeartbeats 4000000
set_option autoImplicit false
namespace L2
open PySem PySem.Spec PyProof.Rows GenW
open Sem (wp)
end L2
end
section
set_option maxRecDepth 100000
set_option maxHeartbeats 4000000
set_option autoImplicit false
namespace L2
open PySem PySem.Spec PyProof.Rows GenW
open Sem (wp)
end L2
end
section
set_option maxRecDepth 100000
set_option maxHeartbeats 4000000
set_option autoImplicit false
namespace L2
open PySem PySem.Spec PyProof.Rows GenW
open Sem (wp)
/-- what has become of the ground since the generator was made -/
structure Gr (P : Program) (w : World) (fs : List Addr) (H1 : Hp) (sc : Shared) (H : Hp) (s : Shared) : Prop where
  os : s.os = sc.os
  bare : AllBare s.gens
  un : Un fs [] H1 H sc.heap s.heap
  hok : HOk P w H s.heap
section
variable {P : Program} {w : World} {fs : List Addr} {H1 H : Hp} {sc s : Shared} {h' : Heap} {L D n5 : Addr}
theorem Gr.gens (g : Gr P w fs H1 sc H s) {G : Array GenState} (hb : AllBare G) : Gr P w fs H1 sc H { s with gens := G } := ⟨g.os, hb, g.un, g.hok⟩
/-- an untracked young object has changed -/
theorem Gr.loc {tk : Nat} (g : Gr P w fs H1 sc H s) (hL : H L = none) (yL : sc.heap.objs.size ≤ L) (tL : ∃ o, h'.get? L = some o) (kp : ∀ c o, c ≠ L → s.heap.get? c = some o → h'.get? c = some o) : Gr P w fs H1 sc H { s with heap := h', toks := tk } := by
  have old : ∀ b o, sc.heap.get? b = some o → b ≠ L := fun b o e z => by subst z; exact absurd (Nat.lt_of_lt_of_le (Heap.lt_size e) yL) (Nat.lt_irrefl _)
  refine ⟨g.os, g.bare, ⟨fun b o e n hb hx => kp b o (old b o e) (g.un.keep b o e n hb hx), fun b o e n hb hx => ?_, g.un.free, fun b o e hx => ?_, g.un.tups, g.un.frzs, g.un.tbls⟩, fun a o e => (g.hok a o e).stay (fun c v hc q => kp c v ?_ q) (fun _ q => q) fun _ _ q => q⟩
  · obtain ⟨sl, e1⟩ := g.un.slot b o e n hb hx
    exact ⟨sl, kp b _ (old b o e) e1⟩
  · obtain ⟨o', e1⟩ := g.un.there b o e hx
    exact ⟨o', kp b o' (old b o e) e1⟩
  · rintro rfl
    rcases hc with z | z
    · subst z; rw [hL] at e; cases e
    · rw [hL] at z; cases z
/-- a new tuple is laid and put behind a list -/
theorem Gr.put {tk : Nat} {xs ws : List V} {its us : Array Value} {nv : Nat} (g : Gr P w fs H1 sc H s) (hn : s.heap.objs.size = n5) (hD : H D = some (.lst ws)) (hw : Vals ws its.toList) (hx : Vals xs us.toList) (l1 : ws.length < sizeLine) (l2 : xs.length ≤ sizeLine)
    (kp : ∀ c o, c ≠ D → s.heap.get? c = some o → h'.get? c = some o) (ht : IsTup h' n5 us) (hD5 : h'.get? D = some { cls := .type "list", data := .seq (its.push (.ref n5)) (nv + 1) }) :
    Gr P w fs H1 sc (upd (upd H n5 (.tup xs)) D (.lst (ws ++ [.ref n5]))) { s with heap := h', toks := tk } := by
  have fr : H n5 = none := g.hok.fresh (Nat.le_of_eq hn)
  have nD : n5 ≠ D := fun z => by subst z; rw [fr] at hD; cases hD
  have at_ : ∀ b, b ≠ D → b ≠ n5 → upd (upd H n5 (.tup xs)) D (.lst (ws ++ [.ref n5])) b = H b := fun b h1 h2 => by rw [upd_ne h1, upd_ne h2]
  have oldN : ∀ b o, s.heap.get? b = some o → b ≠ n5 := fun b o e z => absurd (Nat.lt_of_lt_of_eq (Heap.lt_size e) hn) (by rw [z]; exact Nat.lt_irrefl _)
  have notD : ∀ b, H b = none → b ≠ D := fun b h z => by subst z; rw [hD] at h; cases h
  have some5 : ∀ b o, H b = some o → b ≠ n5 := fun b o h z => by subst z; rw [fr] at h; cases h
  have same : ∀ b o, H b = some o → (∀ l, o ≠ .lst l) → upd (upd H n5 (.tup xs)) D (.lst (ws ++ [.ref n5])) b = some o := fun b o h hl => by
    rw [at_ b (fun z => by subst z; rw [hD] at h; cases h; exact hl _ rfl) (some5 b o h)]; exact h
  refine ⟨g.os, g.bare, ⟨fun b o e n hb hxx => kp b o (notD b (g.un.free b o e n hxx)) (g.un.keep b o e n hb hxx), fun b o e n hb hxx => ?_, fun b o e n hxx => ?_, fun b o e hxx => ?_, fun b ys e => same b _ (g.un.tups b ys e) fun _ z => (nomatch z), fun b o u e => same b _ (g.un.frzs b o u e) fun _ z => (nomatch z), fun b ps e => ?_⟩, fun b o e => ?_⟩
  · obtain ⟨sl, e1⟩ := g.un.slot b o e n hb hxx
    exact ⟨sl, kp b _ (notD b (g.un.free b o e n hxx)) e1⟩
  · have h0 := g.un.free b o e n hxx
    obtain ⟨o', e1⟩ := g.un.there b o e hxx
    rw [at_ b (notD b h0) (oldN b o' e1)]
    exact h0
  · obtain ⟨o', e1⟩ := g.un.there b o e hxx
    by_cases hb : b = D
    · subst hb; exact ⟨_, hD5⟩
    · exact ⟨o', kp b o' hb e1⟩
  · obtain ⟨more, e1⟩ := g.un.tbls b ps e
    exact ⟨more, same b _ e1 fun _ z => (nomatch z)⟩
  · by_cases hb : b = D
    · subst hb
      rw [upd_same] at e
      cases e
      refine ⟨by rw [List.length_append, List.length_singleton]; exact l1, (its.push (.ref n5)).toList, nv + 1, ?_, by rw [hD5]⟩
      rw [Array.toList_push]
      exact hw.append (.cons rfl .nil)
    · by_cases h5 : b = n5
      · subst h5
        rw [upd_ne hb, upd_same] at e
        cases e
        exact ⟨l2, us.toList, hx, by rw [Array.toArray_toList]; exact ht⟩
      · rw [at_ b hb h5] at e
        refine (g.hok b o e).stay (fun c v hc q => kp c v ?_ q) (fun c z => same c _ z fun _ y => (nomatch y)) fun c ys z => same c _ z fun _ y => (nomatch y)
        rintro rfl
        rcases hc with z | z
        · exact hb z.symm
        · rw [hD] at z; cases z
end
section
variable {X : Cx} {pins pins' : List (Addr × Obj)} {σ : L2.St} {H H0 H1 : Hp} {s s0 sc : Shared}
theorem Gr.of (I : Inv X pins σ H s) (hx : X.ex = []) : Gr X.prog X.w X.fs X.H_0 X.s_0 H s := ⟨I.os, I.bare, by rw [← hx]; exact I.base, I.hok⟩
end
end L2
end
section
set_option maxRecDepth 100000
set_option maxHeartbeats 4000000
set_option autoImplicit false
namespace DL
open PySem PySem.Spec PyProof.Rows L2 GenW
open Sem (wp)
end DL
end
section
set_option maxRecDepth 100000
set_option maxHeartbeats 4000000
set_option autoImplicit false
namespace DL
open PySem PySem.Spec PyProof.Rows L2 GenW
open Sem (wp)
end DL
end
section
set_option maxRecDepth 100000
set_option maxHeartbeats 4000000
set_option autoImplicit false
namespace DL
open PySem PySem.Spec PyProof.Rows L2
end DL
end
section
set_option maxRecDepth 100000
set_option maxHeartbeats 4000000
set_option autoImplicit false
namespace L2
open PySem PySem.Spec PyProof.Rows GenW
open Sem (wp)
end L2
namespace DL
open PySem PySem.Spec PyProof.Rows L2 GenW
end DL
end
section
set_option maxRecDepth 100000
set_option maxHeartbeats 4000000
set_option autoImplicit false
namespace DL
open PySem PySem.Spec PyProof.Rows L2
end DL
end
end
section
set_option maxRecDepth 100000
set_option maxHeartbeats 4000000
set_option autoImplicit false
namespace KK
open PySem PySem.Spec PyProof.Rows L2 DL
def topS (i : Nat) : Stmt := PySem.Challenge.pw_canonvoices_k17_batches_of_operations.main.body.getD i (.Pass ⟨0, 0, 0, 0⟩)
abbrev s_InvalidMelody_init : Stmt := inClass (topS 3) 0
abbrev s_InvalidRound_init : Stmt := inClass (topS 4) 0
abbrev s_TextFault_init : Stmt := inClass (topS 8) 0
abbrev s_InvalidCode_init : Stmt := inClass (topS 9) 0
abbrev s_InvalidOperation_init : Stmt := inClass (topS 15) 0
abbrev s_is_int_in : Stmt := topS 20
@[reducible] def c_is_int_in : Scope := ⟨.function, [("value", .local), ("low", .local), ("high", .local), ("isinstance", .globalImplicit), ("int", .globalImplicit), ("bool", .globalImplicit)], false, false, []⟩
theorem sc_is_int_in : FnS ["value", "low", "high"] ["value", "low", "high"] (defScope s_is_int_in) := ⟨⟨rfl, rfl, rfl, by decide +kernel, rfl, by decide +kernel, by decide +kernel⟩, by decide +kernel⟩
abbrev s_is_note : Stmt := topS 21
@[reducible] def c_is_note : Scope := ⟨.function, [("value", .local), ("pitch", .local), ("beats", .local), ("isinstance", .globalImplicit), ("tuple", .globalImplicit), ("len", .globalImplicit), ("is_int_in", .globalImplicit), ("Melody", .globalImplicit)], false, false, []⟩
theorem sc_is_note : FnS ["value", "pitch", "beats"] ["value"] (defScope s_is_note) := ⟨⟨rfl, rfl, rfl, by decide +kernel, rfl, by decide +kernel, by decide +kernel⟩, by decide +kernel⟩
abbrev s_Melody_init : Stmt := inClass (topS 22) 3
@[reducible] def c_Melody_init : Scope := ⟨.function, [("self", .local), ("notes", .local), ("index", .local), ("note", .local), ("row", .local), ("number", .local), ("pitch", .local), ("beats", .local), ("enumerate", .globalImplicit), ("Melody", .globalImplicit), ("is_note", .globalImplicit), ("InvalidMelody", .globalImplicit)], false, false, []⟩
theorem sc_Melody_init : FnS ["self", "notes", "index", "note", "row", "number", "pitch", "beats"] ["self", "notes"] (defScope s_Melody_init) := ⟨⟨rfl, rfl, rfl, by decide +kernel, rfl, by decide +kernel, by decide +kernel⟩, by decide +kernel⟩
abbrev s_Melody_parse : Stmt := inClass (topS 22) 4
@[reducible] def c_Melody_parse : Scope := ⟨.function, [("cls", .local), ("text", .local), ("notes", .local), ("place", .local), ("word", .local), ("parts", .local), ("enumerate", .globalImplicit), ("len", .globalImplicit), ("is_number", .globalImplicit), ("REST", .globalImplicit), ("TextFault", .globalImplicit), ("int", .globalImplicit)], false, false, []⟩
theorem sc_Melody_parse : FnS ["cls", "text", "notes", "place", "word", "parts"] ["cls", "text"] (defScope s_Melody_parse) := ⟨⟨rfl, rfl, rfl, by decide +kernel, rfl, by decide +kernel, by decide +kernel⟩, by decide +kernel⟩
abbrev s_Melody_notes : Stmt := inClass (topS 22) 5
abbrev s_Melody_text : Stmt := inClass (topS 22) 6
abbrev s_Melody_pitches : Stmt := inClass (topS 22) 7
abbrev s_Melody_sound : Stmt := inClass (topS 22) 8
@[reducible] def c_Melody_sound : Scope := ⟨.function, [("self", .local), ("beat", .local), ("len", .globalImplicit)], false, false, []⟩
theorem sc_Melody_sound : FnS ["self", "beat"] ["self", "beat"] (defScope s_Melody_sound) := ⟨⟨rfl, rfl, rfl, by decide +kernel, rfl, by decide +kernel, by decide +kernel⟩, by decide +kernel⟩
abbrev s_Melody_call : Stmt := inClass (topS 22) 9
abbrev s_Melody_len : Stmt := inClass (topS 22) 10
abbrev s_Melody_eq : Stmt := inClass (topS 22) 11
abbrev s_Melody_bool : Stmt := inClass (topS 22) 12
abbrev s_Melody_contains : Stmt := inClass (topS 22) 13
abbrev s_Melody_getitem : Stmt := inClass (topS 22) 14
abbrev s_Melody_iter : Stmt := inClass (topS 22) 15
abbrev s_Melody_add : Stmt := inClass (topS 22) 16
abbrev s_Melody_mul : Stmt := inClass (topS 22) 17
abbrev s_Melody_rshift : Stmt := inClass (topS 22) 18
@[reducible] def c_Melody_rshift : Scope := ⟨.function, [("self", .local), ("steps", .cell), ("notes", .local), ("is_int_in", .globalImplicit), ("Melody", .globalImplicit), ("InvalidNumber", .globalImplicit), ("melody_of", .globalImplicit)], false, false, [("fast", .str "self"), ("fast", .str "steps"), ("fast", .str "pitch"), ("fast", .str "beats"), ("fast", .str "notes")]⟩
theorem sc_Melody_rshift : FnS ["self", "steps", "notes", "pitch", "beats"] ["self", "steps"] (defScope s_Melody_rshift) := ⟨⟨rfl, rfl, rfl, by decide +kernel, rfl, by decide +kernel, by decide +kernel⟩, by decide +kernel⟩
abbrev s_Melody_invert : Stmt := inClass (topS 22) 19
abbrev s_Melody_neg : Stmt := inClass (topS 22) 20
abbrev s_melody_of : Stmt := topS 23
@[reducible] def c_melody_of : Scope := ⟨.function, [("notes", .local), ("pitch", .local), ("beats", .local), ("Melody", .globalImplicit), ("OutOfRange", .globalImplicit)], false, false, []⟩
theorem sc_melody_of : FnS ["notes", "pitch", "beats"] ["notes"] (defScope s_melody_of) := ⟨⟨rfl, rfl, rfl, by decide +kernel, rfl, by decide +kernel, by decide +kernel⟩, by decide +kernel⟩
abbrev s_is_number : Stmt := topS 24
@[reducible] def c_is_number : Scope := ⟨.function, [("word", .local), ("most", .local), ("len", .globalImplicit), ("any", .globalImplicit)], false, false, [("fast", .str "word"), ("fast", .str "most"), ("fast", .str "digit")]⟩
theorem sc_is_number : FnS ["word", "most", "digit"] ["word", "most"] (defScope s_is_number) := ⟨⟨rfl, rfl, rfl, by decide +kernel, rfl, by decide +kernel, by decide +kernel⟩, by decide +kernel⟩
abbrev s_check_clashing : Stmt := topS 29
@[reducible] def c_check_clashing : Scope := ⟨.function, [("clashing", .local), ("index", .local), ("interval", .local), ("isinstance", .globalImplicit), ("tuple", .globalImplicit), ("InvalidRound", .globalImplicit), ("enumerate", .globalImplicit), ("is_int_in", .globalImplicit)], false, false, []⟩
theorem sc_check_clashing : FnS ["clashing", "index", "interval"] ["clashing"] (defScope s_check_clashing) := ⟨⟨rfl, rfl, rfl, by decide +kernel, rfl, by decide +kernel, by decide +kernel⟩, by decide +kernel⟩
abbrev s_do_clash : Stmt := topS 30
@[reducible] def c_do_clash : Scope := ⟨.function, [("one", .local), ("other", .local), ("clashing", .local), ("abs", .globalImplicit)], false, false, []⟩
theorem sc_do_clash : FnS ["one", "other", "clashing"] ["one", "other", "clashing"] (defScope s_do_clash) := ⟨⟨rfl, rfl, rfl, by decide +kernel, rfl, by decide +kernel, by decide +kernel⟩, by decide +kernel⟩
abbrev s_check_shift : Stmt := topS 32
@[reducible] def c_check_shift : Scope := ⟨.function, [("shift", .local), ("is_int_in", .globalImplicit), ("MAX_SHIFT", .globalImplicit), ("InvalidNumber", .globalImplicit)], false, false, []⟩
theorem sc_check_shift : FnS ["shift"] ["shift"] (defScope s_check_shift) := ⟨⟨rfl, rfl, rfl, by decide +kernel, rfl, by decide +kernel, by decide +kernel⟩, by decide +kernel⟩
abbrev s_is_operation : Stmt := topS 41
@[reducible] def c_is_operation : Scope := ⟨.function, [("value", .local), ("isinstance", .globalImplicit), ("tuple", .globalImplicit), ("str", .globalImplicit), ("LENGTHS", .globalImplicit), ("len", .globalImplicit)], false, false, []⟩
theorem sc_is_operation : FnS ["value"] ["value"] (defScope s_is_operation) := ⟨⟨rfl, rfl, rfl, by decide +kernel, rfl, by decide +kernel, by decide +kernel⟩, by decide +kernel⟩
abbrev s_Choir_init : Stmt := inClass (topS 42) 0
@[reducible] def c_Choir_init : Scope := ⟨.function, [("self", .local), ("melody", .local), ("clashing", .local), ("check_clashing", .globalImplicit)], false, false, []⟩
theorem sc_Choir_init : FnS ["self", "melody", "clashing"] ["self", "melody", "clashing"] (defScope s_Choir_init) := ⟨⟨rfl, rfl, rfl, by decide +kernel, rfl, by decide +kernel, by decide +kernel⟩, by decide +kernel⟩
abbrev s_Choir_record : Stmt := inClass (topS 42) 2
@[reducible] def c_Choir_record : Scope := ⟨.function, [("self", .local), ("word", .local), ("now", .local)], false, false, []⟩
theorem sc_Choir_record : FnS ["self", "word", "now"] ["self", "word", "now"] (defScope s_Choir_record) := ⟨⟨rfl, rfl, rfl, by decide +kernel, rfl, by decide +kernel, by decide +kernel⟩, by decide +kernel⟩
abbrev s_Choir_enter : Stmt := inClass (topS 42) 3
@[reducible] def c_Choir_enter : Scope := ⟨.function, [("self", .local), ("shift", .local), ("part", .local), ("beat", .local), ("voices", .local), ("number", .local), ("count", .local), ("check_shift", .globalImplicit), ("len", .globalImplicit), ("MAX_VOICES", .globalImplicit), ("TooManyVoices", .globalImplicit), ("ENTER", .globalImplicit)], false, false, []⟩
theorem sc_Choir_enter : FnS ["self", "shift", "part", "beat", "voices", "number", "count"] ["self", "shift"] (defScope s_Choir_enter) := ⟨⟨rfl, rfl, rfl, by decide +kernel, rfl, by decide +kernel, by decide +kernel⟩, by decide +kernel⟩
abbrev s_Choir_leave : Stmt := inClass (topS 42) 4
@[reducible] def c_Choir_leave : Scope := ⟨.function, [("self", .local), ("number", .cell), ("beat", .local), ("voices", .local), ("following", .local), ("count", .local), ("found", .local), ("rest", .local), ("UnknownVoice", .globalImplicit), ("tuple", .globalImplicit), ("LEAVE", .globalImplicit)], false, false, [("fast", .str "self"), ("fast", .str "number"), ("fast", .str "beat"), ("fast", .str "voices"), ("fast", .str "following"), ("fast", .str "count"), ("fast", .str "voice"), ("fast", .str "found"), ("fast", .str "rest")]⟩
theorem sc_Choir_leave : FnS ["self", "number", "beat", "voices", "following", "count", "found", "rest", "voice"] ["self", "number"] (defScope s_Choir_leave) := ⟨⟨rfl, rfl, rfl, by decide +kernel, rfl, by decide +kernel, by decide +kernel⟩, by decide +kernel⟩
abbrev s_Choir_sing : Stmt := inClass (topS 42) 5
@[reducible] def c_Choir_sing : Scope := ⟨.function, [("self", .cell), ("beats", .local), ("beat", .local), ("voices", .local), ("number", .local), ("count", .local), ("found", .local), ("turn", .cell), ("row", .local), ("place", .local), ("pitch", .cell), ("is_int_in", .globalImplicit), ("MAX_BEATS", .globalImplicit), ("InvalidNumber", .globalImplicit), ("range", .globalImplicit), ("enumerate", .globalImplicit), ("len", .globalImplicit), ("SING", .globalImplicit)], false, false, [("fast", .str "self"), ("fast", .str "beats"), ("fast", .str "beat"), ("fast", .str "voices"), ("fast", .str "number"), ("fast", .str "count"), ("fast", .str "found"), ("fast", .str "turn"), ("fast", .str "voice"), ("fast", .str "start"), ("fast", .str "part"), ("fast", .str "row"), ("fast", .str "place"), ("fast", .str "pitch"), ("fast", .str "other")]⟩
theorem sc_Choir_sing : FnS ["self", "beats", "beat", "voices", "number", "count", "found", "turn", "row", "place", "pitch", "voice", "start", "part", "other"] ["self", "beats"] (defScope s_Choir_sing) := ⟨⟨rfl, rfl, rfl, by decide +kernel, rfl, by decide +kernel, by decide +kernel⟩, by decide +kernel⟩
abbrev s_Choir_undo : Stmt := inClass (topS 42) 6
@[reducible] def c_Choir_undo : Scope := ⟨.function, [("self", .local), ("entry", .local)], false, false, []⟩
theorem sc_Choir_undo : FnS ["self", "entry"] ["self"] (defScope s_Choir_undo) := ⟨⟨rfl, rfl, rfl, by decide +kernel, rfl, by decide +kernel, by decide +kernel⟩, by decide +kernel⟩
abbrev s_Choir_redo : Stmt := inClass (topS 42) 7
@[reducible] def c_Choir_redo : Scope := ⟨.function, [("self", .local), ("entry", .local)], false, false, []⟩
theorem sc_Choir_redo : FnS ["self", "entry"] ["self"] (defScope s_Choir_redo) := ⟨⟨rfl, rfl, rfl, by decide +kernel, rfl, by decide +kernel, by decide +kernel⟩, by decide +kernel⟩
abbrev s_Choir_passed : Stmt := inClass (topS 42) 8
@[reducible] def c_Choir_passed : Scope := ⟨.function, [("self", .local)], false, false, []⟩
theorem sc_Choir_passed : FnS ["self"] ["self"] (defScope s_Choir_passed) := ⟨⟨rfl, rfl, rfl, by decide +kernel, rfl, by decide +kernel, by decide +kernel⟩, by decide +kernel⟩
abbrev s_Choir_singers : Stmt := inClass (topS 42) 9
@[reducible] def c_Choir_singers : Scope := ⟨.function, [("self", .local)], false, false, [("fast", .str "self"), ("fast", .str "voice")]⟩
theorem sc_Choir_singers : FnS ["self", "voice"] ["self"] (defScope s_Choir_singers) := ⟨⟨rfl, rfl, rfl, by decide +kernel, rfl, by decide +kernel, by decide +kernel⟩, by decide +kernel⟩
abbrev s_Choir_clash_count : Stmt := inClass (topS 42) 10
@[reducible] def c_Choir_clash_count : Scope := ⟨.function, [("self", .local)], false, false, []⟩
theorem sc_Choir_clash_count : FnS ["self"] ["self"] (defScope s_Choir_clash_count) := ⟨⟨rfl, rfl, rfl, by decide +kernel, rfl, by decide +kernel, by decide +kernel⟩, by decide +kernel⟩
abbrev s_Choir_operations : Stmt := inClass (topS 42) 11
@[reducible] def c_Choir_operations : Scope := ⟨.function, [("self", .local)], false, false, [("fast", .str "self"), ("fast", .str "entry")]⟩
theorem sc_Choir_operations : FnS ["self", "entry"] ["self"] (defScope s_Choir_operations) := ⟨⟨rfl, rfl, rfl, by decide +kernel, rfl, by decide +kernel, by decide +kernel⟩, by decide +kernel⟩
abbrev s_Choir_execute : Stmt := inClass (topS 42) 14
@[reducible] def c_Choir_execute : Scope := ⟨.function, [("self", .local), ("operation", .local), ("shift", .local), ("number", .local), ("beats", .local)], false, false, []⟩
theorem sc_Choir_execute : FnS ["self", "operation", "shift", "number", "beats"] ["self", "operation"] (defScope s_Choir_execute) := ⟨⟨rfl, rfl, rfl, by decide +kernel, rfl, by decide +kernel, by decide +kernel⟩, by decide +kernel⟩
abbrev s_Choir_batch : Stmt := inClass (topS 42) 15
@[reducible] def c_Choir_batch : Scope := ⟨.function, [("self", .cell), ("operations", .local), ("place", .local), ("operation", .local), ("before", .local), ("isinstance", .globalImplicit), ("list", .globalImplicit), ("InvalidOperation", .globalImplicit), ("enumerate", .globalImplicit), ("is_operation", .globalImplicit), ("CanonError", .globalImplicit)], false, false, [("fast", .str "self"), ("fast", .str "operations"), ("fast", .str "place"), ("fast", .str "operation"), ("fast", .str "before")]⟩
theorem sc_Choir_batch : FnS ["self", "operations", "place", "operation", "before"] ["self", "operations"] (defScope s_Choir_batch) := ⟨⟨rfl, rfl, rfl, by decide +kernel, rfl, by decide +kernel, by decide +kernel⟩, by decide +kernel⟩
abbrev s_law_random : Stmt := topS 44
@[reducible] def c_law_random : Scope := ⟨.function, [("_law_script", .local), ("_law_salt", .local), ("_law_seed", .local), ("_law_cell", .local), ("abs", .globalImplicit)], false, false, [("fast", .str "_law_script"), ("fast", .str "_law_salt"), ("fast", .str "_law_seed"), ("fast", .str "_law_cell")]⟩
theorem sc_law_random : FnS ["_law_script", "_law_salt", "_law_seed", "_law_cell"] ["_law_script", "_law_salt"] (defScope s_law_random) := ⟨⟨rfl, rfl, rfl, by decide +kernel, rfl, by decide +kernel, by decide +kernel⟩, by decide +kernel⟩
abbrev s_law_below : Stmt := topS 45
@[reducible] def c_law_below : Scope := ⟨.function, [("_law_d", .local), ("_law_limit", .local), ("_law_result", .local), ("len", .globalImplicit)], false, false, []⟩
theorem sc_law_below : FnS ["_law_d", "_law_limit", "_law_result"] ["_law_d", "_law_limit"] (defScope s_law_below) := ⟨⟨rfl, rfl, rfl, by decide +kernel, rfl, by decide +kernel, by decide +kernel⟩, by decide +kernel⟩
abbrev s_law_notes : Stmt := topS 46
@[reducible] def c_law_notes : Scope := ⟨.function, [("_law_d", .local), ("_law_most", .local), ("_law_low", .local), ("_law_span", .local), ("_law_longest", .local), ("_law_found", .local), ("_law_k", .local), ("_law_below", .globalImplicit), ("range", .globalImplicit)], false, false, []⟩
theorem sc_law_notes : FnS ["_law_d", "_law_most", "_law_low", "_law_span", "_law_longest", "_law_found", "_law_k"] ["_law_d", "_law_most"] (defScope s_law_notes) := ⟨⟨rfl, rfl, rfl, by decide +kernel, rfl, by decide +kernel, by decide +kernel⟩, by decide +kernel⟩
abbrev s_law_new : Stmt := topS 47
@[reducible] def c_law_new : Scope := ⟨.function, [("_law_d", .local), ("_law_notes", .globalImplicit)], false, false, []⟩
theorem sc_law_new : FnS ["_law_d"] ["_law_d"] (defScope s_law_new) := ⟨⟨rfl, rfl, rfl, by decide +kernel, rfl, by decide +kernel, by decide +kernel⟩, by decide +kernel⟩
abbrev s_law_words : Stmt := topS 48
@[reducible] def c_law_words : Scope := ⟨.function, [("_law_notes_here", .local)], false, false, [("fast", .str "_law_notes_here"), ("fast", .str "_law_pitch"), ("fast", .str "_law_beats")]⟩
theorem sc_law_words : FnS ["_law_notes_here", "_law_pitch", "_law_beats"] ["_law_notes_here"] (defScope s_law_words) := ⟨⟨rfl, rfl, rfl, by decide +kernel, rfl, by decide +kernel, by decide +kernel⟩, by decide +kernel⟩
abbrev s_law_melody : Stmt := topS 49
@[reducible] def c_law_melody : Scope := ⟨.function, [("_law_notes_here", .local), ("Melody", .globalImplicit), ("_law_words", .globalImplicit)], false, false, []⟩
theorem sc_law_melody : FnS ["_law_notes_here"] ["_law_notes_here"] (defScope s_law_melody) := ⟨⟨rfl, rfl, rfl, by decide +kernel, rfl, by decide +kernel, by decide +kernel⟩, by decide +kernel⟩
abbrev s_law_fits : Stmt := topS 50
@[reducible] def c_law_fits : Scope := ⟨.function, [("_law_notes_here", .local)], false, false, [("fast", .str "_law_notes_here"), ("fast", .str "_law_pitch"), ("fast", .str "_law_beats")]⟩
theorem sc_law_fits : FnS ["_law_notes_here", "_law_pitch", "_law_beats"] ["_law_notes_here"] (defScope s_law_fits) := ⟨⟨rfl, rfl, rfl, by decide +kernel, rfl, by decide +kernel, by decide +kernel⟩, by decide +kernel⟩
abbrev s_law_shifted : Stmt := topS 51
@[reducible] def c_law_shifted : Scope := ⟨.function, [("_law_notes_here", .local), ("_law_steps", .cell)], false, false, [("fast", .str "_law_notes_here"), ("fast", .str "_law_steps"), ("fast", .str "_law_pitch"), ("fast", .str "_law_beats")]⟩
theorem sc_law_shifted : FnS ["_law_notes_here", "_law_steps", "_law_pitch", "_law_beats"] ["_law_notes_here", "_law_steps"] (defScope s_law_shifted) := ⟨⟨rfl, rfl, rfl, by decide +kernel, rfl, by decide +kernel, by decide +kernel⟩, by decide +kernel⟩
abbrev s_law_row : Stmt := topS 52
@[reducible] def c_law_row : Scope := ⟨.function, [("_law_notes_here", .local), ("_law_found", .local), ("_law_pitch", .local), ("_law_beats", .local)], false, false, []⟩
theorem sc_law_row : FnS ["_law_notes_here", "_law_found", "_law_pitch", "_law_beats"] ["_law_notes_here"] (defScope s_law_row) := ⟨⟨rfl, rfl, rfl, by decide +kernel, rfl, by decide +kernel, by decide +kernel⟩, by decide +kernel⟩
abbrev s_law_sounds : Stmt := topS 53
@[reducible] def c_law_sounds : Scope := ⟨.function, [("_law_notes_here", .local), ("_law_voices", .local), ("_law_beat", .local), ("_law_row_here", .local), ("_law_found", .local), ("_law_delay", .local), ("_law_shift", .local), ("_law_pitch", .local), ("_law_row", .globalImplicit), ("len", .globalImplicit)], false, false, []⟩
theorem sc_law_sounds : FnS ["_law_notes_here", "_law_voices", "_law_beat", "_law_row_here", "_law_found", "_law_delay", "_law_shift", "_law_pitch"] ["_law_notes_here", "_law_voices", "_law_beat"] (defScope s_law_sounds) := ⟨⟨rfl, rfl, rfl, by decide +kernel, rfl, by decide +kernel, by decide +kernel⟩, by decide +kernel⟩
abbrev s_law_is_clash : Stmt := topS 54
@[reducible] def c_law_is_clash : Scope := ⟨.function, [("_law_one", .local), ("_law_other", .local), ("_law_sharp", .local)], false, false, []⟩
theorem sc_law_is_clash : FnS ["_law_one", "_law_other", "_law_sharp"] ["_law_one", "_law_other", "_law_sharp"] (defScope s_law_is_clash) := ⟨⟨rfl, rfl, rfl, by decide +kernel, rfl, by decide +kernel, by decide +kernel⟩, by decide +kernel⟩
abbrev s_law_pairs : Stmt := topS 55
@[reducible] def c_law_pairs : Scope := ⟨.function, [("_law_sounds_here", .cell), ("_law_sharp", .cell), ("_law_found", .local), ("_law_one", .cell), ("_law_later", .local), ("range", .globalImplicit), ("len", .globalImplicit)], false, false, [("fast", .str "_law_sounds_here"), ("fast", .str "_law_sharp"), ("fast", .str "_law_found"), ("fast", .str "_law_one"), ("fast", .str "_law_k"), ("fast", .str "_law_later")]⟩
theorem sc_law_pairs : FnS ["_law_sounds_here", "_law_sharp", "_law_found", "_law_one", "_law_later", "_law_k"] ["_law_sounds_here", "_law_sharp"] (defScope s_law_pairs) := ⟨⟨rfl, rfl, rfl, by decide +kernel, rfl, by decide +kernel, by decide +kernel⟩, by decide +kernel⟩
abbrev s_law_worked_on : Stmt := topS 56
@[reducible] def c_law_worked_on : Scope := ⟨.function, [("_law_notes_here", .local), ("_law_now", .local), ("_law_operation_here", .local), ("_law_beat", .local), ("_law_voices", .local), ("_law_number", .local), ("_law_count", .local), ("_law_word", .local), ("_law_value", .cell), ("_law_found", .local), ("_law_sums", .local), ("_law_k", .local), ("_law_some", .local), ("_law_fits", .globalImplicit), ("_law_shifted", .globalImplicit), ("len", .globalImplicit), ("range", .globalImplicit), ("_law_sounds", .globalImplicit), ("_law_pairs", .globalImplicit)], false, false, [("fast", .str "_law_notes_here"), ("fast", .str "_law_now"), ("fast", .str "_law_operation_here"), ("fast", .str "_law_beat"), ("fast", .str "_law_voices"), ("fast", .str "_law_number"), ("fast", .str "_law_count"), ("fast", .str "_law_word"), ("fast", .str "_law_value"), ("fast", .str "_law_voice"), ("fast", .str "_law_found"), ("fast", .str "_law_sums"), ("fast", .str "_law_k"), ("fast", .str "_law_some")]⟩
theorem sc_law_worked_on : FnS ["_law_notes_here", "_law_now", "_law_operation_here", "_law_beat", "_law_voices", "_law_number", "_law_count", "_law_word", "_law_value", "_law_found", "_law_sums", "_law_k", "_law_some", "_law_voice"] ["_law_notes_here", "_law_now", "_law_operation_here"] (defScope s_law_worked_on) := ⟨⟨rfl, rfl, rfl, by decide +kernel, rfl, by decide +kernel, by decide +kernel⟩, by decide +kernel⟩
abbrev s_law_worked : Stmt := topS 57
@[reducible] def c_law_worked : Scope := ⟨.function, [("_law_w", .local), ("_law_operation_here", .local), ("_law_notes_here", .local), ("_law_now", .local), ("_law_past", .local), ("_law_undone", .local), ("_law_word", .local), ("_law_entry", .local), ("_law_after", .local), ("_law_bad", .local), ("_law_value", .local), ("_law_worked_on", .globalImplicit)], false, false, []⟩
theorem sc_law_worked : FnS ["_law_w", "_law_operation_here", "_law_notes_here", "_law_now", "_law_past", "_law_undone", "_law_word", "_law_entry", "_law_after", "_law_bad", "_law_value"] ["_law_w", "_law_operation_here"] (defScope s_law_worked) := ⟨⟨rfl, rfl, rfl, by decide +kernel, rfl, by decide +kernel, by decide +kernel⟩, by decide +kernel⟩
abbrev s_law_equal : Stmt := topS 58
@[reducible] def c_law_equal : Scope := ⟨.function, [("_law_actual", .cell), ("_law_expected", .cell), ("isinstance", .globalImplicit), ("bool", .globalImplicit), ("int", .globalImplicit), ("str", .globalImplicit), ("tuple", .globalImplicit), ("list", .globalImplicit), ("len", .globalImplicit), ("all", .globalImplicit), ("range", .globalImplicit)], false, false, [("fast", .str "_law_actual"), ("fast", .str "_law_expected"), ("fast", .str "_law_k")]⟩
theorem sc_law_equal : FnS ["_law_actual", "_law_expected", "_law_k"] ["_law_actual", "_law_expected"] (defScope s_law_equal) := ⟨⟨rfl, rfl, rfl, by decide +kernel, rfl, by decide +kernel, by decide +kernel⟩, by decide +kernel⟩
abbrev s_law_operation : Stmt := topS 59
@[reducible] def c_law_operation : Scope := ⟨.function, [("_law_d", .local), ("_law_many", .local), ("_law_kind", .local), ("_law_below", .globalImplicit)], false, false, []⟩
theorem sc_law_operation : FnS ["_law_d", "_law_many", "_law_kind"] ["_law_d", "_law_many"] (defScope s_law_operation) := ⟨⟨rfl, rfl, rfl, by decide +kernel, rfl, by decide +kernel, by decide +kernel⟩, by decide +kernel⟩
abbrev s_law_error_of : Stmt := topS 60
@[reducible] def c_law_error_of : Scope := ⟨.function, [("_law_call", .local), ("e", .local), ("_law_kinds", .local), ("_law_names", .local), ("_law_name", .local), ("CanonError", .globalImplicit), ("isinstance", .globalImplicit), ("InvalidMelody", .globalImplicit), ("InvalidRound", .globalImplicit), ("OutOfRange", .globalImplicit), ("InvalidNumber", .globalImplicit), ("TooLong", .globalImplicit), ("TextFault", .globalImplicit), ("InvalidCode", .globalImplicit), ("Contradiction", .globalImplicit), ("UnknownVoice", .globalImplicit), ("TooManyVoices", .globalImplicit), ("InvalidName", .globalImplicit), ("UnknownName", .globalImplicit), ("InvalidOperation", .globalImplicit), ("ValueError", .globalImplicit)], false, false, []⟩
theorem sc_law_error_of : FnS ["_law_call", "e", "_law_kinds", "_law_names", "_law_name"] ["_law_call"] (defScope s_law_error_of) := ⟨⟨rfl, rfl, rfl, by decide +kernel, rfl, by decide +kernel, by decide +kernel⟩, by decide +kernel⟩
abbrev s_law_stands : Stmt := topS 61
@[reducible] def c_law_stands : Scope := ⟨.function, [("_law_choir", .local), ("_law_w", .local), ("_law_notes_here", .local), ("_law_beat", .local), ("_law_voices", .local), ("_law_number", .local), ("_law_count", .local), ("_law_past", .local), ("_law_undone", .local), ("_law_found", .local), ("_law_equal", .globalImplicit)], false, false, [("fast", .str "_law_choir"), ("fast", .str "_law_w"), ("fast", .str "_law_notes_here"), ("fast", .str "_law_beat"), ("fast", .str "_law_voices"), ("fast", .str "_law_number"), ("fast", .str "_law_count"), ("fast", .str "_law_past"), ("fast", .str "_law_undone"), ("fast", .str "_law_found"), ("fast", .str "_law_voice"), ("fast", .str "_law_entry")]⟩
theorem sc_law_stands : FnS ["_law_choir", "_law_w", "_law_notes_here", "_law_beat", "_law_voices", "_law_number", "_law_count", "_law_past", "_law_undone", "_law_found", "_law_voice", "_law_entry"] ["_law_choir", "_law_w"] (defScope s_law_stands) := ⟨⟨rfl, rfl, rfl, by decide +kernel, rfl, by decide +kernel, by decide +kernel⟩, by decide +kernel⟩
abbrev s_law : Stmt := topS 62
@[reducible] def c_law : Scope := ⟨.function, [("_law_script", .local), ("_law_d", .local), ("_law_w", .local), ("_law_turn", .local), ("_law_undone", .local), ("_law_before", .local), ("_law_operations", .local), ("_law_results", .local), ("_law_bad", .local), ("_law_k", .local), ("_law_found", .local), ("_law_again", .local), ("_law_choir", .cell), ("_law_given", .cell), ("_law_random", .globalImplicit), ("_law_new", .globalImplicit), ("Choir", .globalImplicit), ("_law_melody", .globalImplicit), ("range", .globalImplicit), ("_law_worked", .globalImplicit), ("_law_below", .globalImplicit), ("_law_equal", .globalImplicit), ("_law_operation", .globalImplicit), ("list", .globalImplicit), ("_law_error_of", .globalImplicit), ("_law_stands", .globalImplicit)], false, false, []⟩
theorem sc_law : FnS ["_law_script", "_law_d", "_law_w", "_law_choir", "_law_turn", "_law_undone", "_law_before", "_law_operations", "_law_results", "_law_bad", "_law_k", "_law_found", "_law_given", "_law_again"] ["_law_script"] (defScope s_law) := ⟨⟨rfl, rfl, rfl, by decide +kernel, rfl, by decide +kernel, by decide +kernel⟩, by decide +kernel⟩
structure Adr where
  C_CanonError : Addr
  C_InvalidMelody : Addr
  f_InvalidMelody_init : Addr
  C_InvalidRound : Addr
  f_InvalidRound_init : Addr
  C_OutOfRange : Addr
  C_InvalidNumber : Addr
  C_TooLong : Addr
  C_TextFault : Addr
  f_TextFault_init : Addr
  C_InvalidCode : Addr
  f_InvalidCode_init : Addr
  C_Contradiction : Addr
  C_UnknownVoice : Addr
  C_TooManyVoices : Addr
  C_InvalidName : Addr
  C_UnknownName : Addr
  C_InvalidOperation : Addr
  f_InvalidOperation_init : Addr
  f_is_int_in : Addr
  f_is_note : Addr
  C_Melody : Addr
  f_Melody_init : Addr
  f_Melody_parse : Addr
  p_Melody_parse : Addr
  f_Melody_notes : Addr
  p_Melody_notes : Addr
  f_Melody_text : Addr
  p_Melody_text : Addr
  f_Melody_pitches : Addr
  p_Melody_pitches : Addr
  f_Melody_sound : Addr
  f_Melody_call : Addr
  f_Melody_len : Addr
  f_Melody_eq : Addr
  f_Melody_bool : Addr
  f_Melody_contains : Addr
  f_Melody_getitem : Addr
  f_Melody_iter : Addr
  f_Melody_add : Addr
  f_Melody_mul : Addr
  f_Melody_rshift : Addr
  f_Melody_invert : Addr
  f_Melody_neg : Addr
  f_melody_of : Addr
  f_is_number : Addr
  t_CLASHING : Addr
  f_check_clashing : Addr
  f_do_clash : Addr
  f_check_shift : Addr
  d_LENGTHS : Addr
  f_is_operation : Addr
  C_Choir : Addr
  f_Choir_init : Addr
  f_Choir_record : Addr
  f_Choir_enter : Addr
  f_Choir_leave : Addr
  f_Choir_sing : Addr
  f_Choir_undo : Addr
  f_Choir_redo : Addr
  f_Choir_passed : Addr
  p_Choir_passed : Addr
  f_Choir_singers : Addr
  p_Choir_singers : Addr
  f_Choir_clash_count : Addr
  p_Choir_clash_count : Addr
  f_Choir_operations : Addr
  p_Choir_operations : Addr
  f_Choir_execute : Addr
  f_Choir_batch : Addr
  f_law_random : Addr
  f_law_below : Addr
  f_law_notes : Addr
  f_law_new : Addr
  f_law_words : Addr
  f_law_melody : Addr
  f_law_fits : Addr
  f_law_shifted : Addr
  f_law_row : Addr
  f_law_sounds : Addr
  f_law_is_clash : Addr
  f_law_pairs : Addr
  f_law_worked_on : Addr
  f_law_worked : Addr
  f_law_equal : Addr
  f_law_operation : Addr
  f_law_error_of : Addr
  f_law_stands : Addr
  f_law : Addr
  cA_law : Addr
  PA_law : Addr
  wd : World
structure Txt (K : PySem.W.Frag) (mg : Str → Option Value) (a : Adr) : Prop where
  CanonError : ExB K mg "CanonError" a.C_CanonError
  InvalidMelody_init : MDef K a.C_InvalidMelody "__init__" "InvalidMelody.__init__" s_InvalidMelody_init ["self", "index"] a.f_InvalidMelody_init
  InvalidMelody : ExC1 K mg "InvalidMelody" a.C_InvalidMelody a.f_InvalidMelody_init
  n_InvalidMelody_index : NoAttr K a.C_InvalidMelody "index"
  InvalidRound_init : MDef K a.C_InvalidRound "__init__" "InvalidRound.__init__" s_InvalidRound_init ["self", "part", "index"] a.f_InvalidRound_init
  InvalidRound : ExC1 K mg "InvalidRound" a.C_InvalidRound a.f_InvalidRound_init
  n_InvalidRound_part : NoAttr K a.C_InvalidRound "part"
  n_InvalidRound_index : NoAttr K a.C_InvalidRound "index"
  OutOfRange : ExC0 K mg "OutOfRange" a.C_OutOfRange
  InvalidNumber : ExC0 K mg "InvalidNumber" a.C_InvalidNumber
  TooLong : ExC0 K mg "TooLong" a.C_TooLong
  TextFault_init : MDef K a.C_TextFault "__init__" "TextFault.__init__" s_TextFault_init ["self", "word"] a.f_TextFault_init
  TextFault : ExC1 K mg "TextFault" a.C_TextFault a.f_TextFault_init
  n_TextFault_word : NoAttr K a.C_TextFault "word"
  InvalidCode_init : MDef K a.C_InvalidCode "__init__" "InvalidCode.__init__" s_InvalidCode_init ["self", "place"] a.f_InvalidCode_init
  InvalidCode : ExC1 K mg "InvalidCode" a.C_InvalidCode a.f_InvalidCode_init
  n_InvalidCode_place : NoAttr K a.C_InvalidCode "place"
  Contradiction : ExC0 K mg "Contradiction" a.C_Contradiction
  UnknownVoice : ExC0 K mg "UnknownVoice" a.C_UnknownVoice
  TooManyVoices : ExC0 K mg "TooManyVoices" a.C_TooManyVoices
  InvalidName : ExC0 K mg "InvalidName" a.C_InvalidName
  UnknownName : ExC0 K mg "UnknownName" a.C_UnknownName
  InvalidOperation_init : MDef K a.C_InvalidOperation "__init__" "InvalidOperation.__init__" s_InvalidOperation_init ["self", "place"] a.f_InvalidOperation_init
  InvalidOperation : ExC1 K mg "InvalidOperation" a.C_InvalidOperation a.f_InvalidOperation_init
  n_InvalidOperation_place : NoAttr K a.C_InvalidOperation "place"
  v_MAX_NUMBER : ∃ t, mg "MAX_NUMBER" = some (.int 1000000000000000000 t)
  v_DIGITS : ∃ t, mg "DIGITS" = some (.str "0123456789" t)
  v_REST : ∃ t, mg "REST" = some (.str "-" t)
  is_int_in : Def K mg "is_int_in" s_is_int_in ["value", "low", "high"] a.f_is_int_in
  is_note : Def K mg "is_note" s_is_note ["value"] a.f_is_note
  Melody : ClD K mg "Melody" a.C_Melody
  v_Melody_MAX_NOTES : ∃ u, ClX.CVal K a.C_Melody (.type "type") "MAX_NOTES" (.int 32) u
  v_Melody_MAX_BEATS : ∃ u, ClX.CVal K a.C_Melody (.type "type") "MAX_BEATS" (.int 16) u
  v_Melody_MAX_PITCH : ∃ u, ClX.CVal K a.C_Melody (.type "type") "MAX_PITCH" (.int 127) u
  Melody_init : SDef K a.C_Melody "__init__" "Melody.__init__" s_Melody_init ["self"] "notes" a.f_Melody_init
  Melody_parse : CDef K a.C_Melody "parse" "Melody.parse" s_Melody_parse ["cls", "text"] a.p_Melody_parse a.f_Melody_parse
  Melody_notes : PDef K a.C_Melody "notes" "Melody.notes" s_Melody_notes a.p_Melody_notes a.f_Melody_notes
  Melody_text : PDef K a.C_Melody "text" "Melody.text" s_Melody_text a.p_Melody_text a.f_Melody_text
  Melody_pitches : PDef K a.C_Melody "pitches" "Melody.pitches" s_Melody_pitches a.p_Melody_pitches a.f_Melody_pitches
  Melody_sound : MDef K a.C_Melody "sound" "Melody.sound" s_Melody_sound ["self", "beat"] a.f_Melody_sound
  Melody_call : MDef K a.C_Melody "__call__" "Melody.__call__" s_Melody_call ["self", "beat"] a.f_Melody_call
  Melody_len : MDef K a.C_Melody "__len__" "Melody.__len__" s_Melody_len ["self"] a.f_Melody_len
  Melody_eq : MDef K a.C_Melody "__eq__" "Melody.__eq__" s_Melody_eq ["self", "other"] a.f_Melody_eq
  Melody_bool : MDef K a.C_Melody "__bool__" "Melody.__bool__" s_Melody_bool ["self"] a.f_Melody_bool
  Melody_contains : MDef K a.C_Melody "__contains__" "Melody.__contains__" s_Melody_contains ["self", "pitch"] a.f_Melody_contains
  Melody_getitem : MDef K a.C_Melody "__getitem__" "Melody.__getitem__" s_Melody_getitem ["self", "number"] a.f_Melody_getitem
  Melody_iter : MDef K a.C_Melody "__iter__" "Melody.__iter__" s_Melody_iter ["self"] a.f_Melody_iter
  Melody_add : MDef K a.C_Melody "__add__" "Melody.__add__" s_Melody_add ["self", "other"] a.f_Melody_add
  Melody_mul : MDef K a.C_Melody "__mul__" "Melody.__mul__" s_Melody_mul ["self", "times"] a.f_Melody_mul
  Melody_rshift : MDef K a.C_Melody "__rshift__" "Melody.__rshift__" s_Melody_rshift ["self", "steps"] a.f_Melody_rshift
  Melody_invert : MDef K a.C_Melody "__invert__" "Melody.__invert__" s_Melody_invert ["self"] a.f_Melody_invert
  Melody_neg : MDef K a.C_Melody "__neg__" "Melody.__neg__" s_Melody_neg ["self"] a.f_Melody_neg
  fi_Melody_call : PySem.W.fnIn K a.f_Melody_call = true
  fi_Melody_getitem : PySem.W.fnIn K a.f_Melody_getitem = true
  ne_Melody : PySem.W.findIn K (.ref a.C_Melody) "__ne__" = some (some (.builtin "object.__ne__"))
  sf_Melody : PySem.W.selfFirst K a.C_Melody = true
  sb_Melody_int : PySem.W.subIn K (.type "int") (.ref a.C_Melody) = some false
  sb_Melody_bool : PySem.W.subIn K (.type "bool") (.ref a.C_Melody) = some false
  sb_Melody_str : PySem.W.subIn K (.type "str") (.ref a.C_Melody) = some false
  sb_Melody_NoneType : PySem.W.subIn K (.type "NoneType") (.ref a.C_Melody) = some false
  sb_Melody_tuple : PySem.W.subIn K (.type "tuple") (.ref a.C_Melody) = some false
  sb_Melody_list : PySem.W.subIn K (.type "list") (.ref a.C_Melody) = some false
  o_Melody_rshift : OpI K a.C_Melody "rshift" a.f_Melody_rshift
  o_Melody_mul : OpI K a.C_Melody "mul" a.f_Melody_mul
  n_Melody_given : NoAttr K a.C_Melody "given"
  n_Melody_row : NoAttr K a.C_Melody "row"
  melody_of : Def K mg "melody_of" s_melody_of ["notes"] a.f_melody_of
  is_number : Def K mg "is_number" s_is_number ["word", "most"] a.f_is_number
  v_MAX_SHIFT : ∃ t, mg "MAX_SHIFT" = some (.int 24 t)
  v_MAX_VOICES : ∃ t, mg "MAX_VOICES" = some (.int 8 t)
  v_CLASHING : mg "CLASHING" = some (.ref a.t_CLASHING)
  ct_CLASHING : CTup K a.t_CLASHING [1, 2, 6, 10, 11]
  check_clashing : Def K mg "check_clashing" s_check_clashing ["clashing"] a.f_check_clashing
  do_clash : Def K mg "do_clash" s_do_clash ["one", "other", "clashing"] a.f_do_clash
  check_shift : Def K mg "check_shift" s_check_shift ["shift"] a.f_check_shift
  v_MAX_BEATS : ∃ t, mg "MAX_BEATS" = some (.int 500 t)
  v_ENTER : ∃ t, mg "ENTER" = some (.str "enter" t)
  v_LEAVE : ∃ t, mg "LEAVE" = some (.str "leave" t)
  v_SING : ∃ t, mg "SING" = some (.str "sing" t)
  v_UNDO : ∃ t, mg "UNDO" = some (.str "undo" t)
  v_REDO : ∃ t, mg "REDO" = some (.str "redo" t)
  v_LENGTHS : mg "LENGTHS" = some (.ref a.d_LENGTHS)
  kd_LENGTHS : ∃ es n, KDict K a.wd a.d_LENGTHS es n
  kv_LENGTHS_enter : ∃ t, PySem.W.nsIn K a.d_LENGTHS "enter" = some (some (.int 2 t))
  kv_LENGTHS_leave : ∃ t, PySem.W.nsIn K a.d_LENGTHS "leave" = some (some (.int 2 t))
  kv_LENGTHS_sing : ∃ t, PySem.W.nsIn K a.d_LENGTHS "sing" = some (some (.int 2 t))
  kv_LENGTHS_undo : ∃ t, PySem.W.nsIn K a.d_LENGTHS "undo" = some (some (.int 1 t))
  kv_LENGTHS_redo : ∃ t, PySem.W.nsIn K a.d_LENGTHS "redo" = some (some (.int 1 t))
  is_operation : Def K mg "is_operation" s_is_operation ["value"] a.f_is_operation
  Choir : ClD K mg "Choir" a.C_Choir
  Choir_init : KWDef K a.C_Choir "__init__" "Choir.__init__" s_Choir_init ["self", "melody"] "clashing" (.tup [.int 1, .int 2, .int 6, .int 10, .int 11]) a.f_Choir_init
  Choir_record : MDef K a.C_Choir "record" "Choir.record" s_Choir_record ["self", "word", "now"] a.f_Choir_record
  Choir_enter : MDef K a.C_Choir "enter" "Choir.enter" s_Choir_enter ["self", "shift"] a.f_Choir_enter
  Choir_leave : MDef K a.C_Choir "leave" "Choir.leave" s_Choir_leave ["self", "number"] a.f_Choir_leave
  Choir_sing : MDef K a.C_Choir "sing" "Choir.sing" s_Choir_sing ["self", "beats"] a.f_Choir_sing
  Choir_undo : MDef K a.C_Choir "undo" "Choir.undo" s_Choir_undo ["self"] a.f_Choir_undo
  Choir_redo : MDef K a.C_Choir "redo" "Choir.redo" s_Choir_redo ["self"] a.f_Choir_redo
  Choir_passed : PDef K a.C_Choir "passed" "Choir.passed" s_Choir_passed a.p_Choir_passed a.f_Choir_passed
  Choir_singers : PDef K a.C_Choir "singers" "Choir.singers" s_Choir_singers a.p_Choir_singers a.f_Choir_singers
  Choir_clash_count : PDef K a.C_Choir "clash_count" "Choir.clash_count" s_Choir_clash_count a.p_Choir_clash_count a.f_Choir_clash_count
  Choir_operations : PDef K a.C_Choir "operations" "Choir.operations" s_Choir_operations a.p_Choir_operations a.f_Choir_operations
  Choir_execute : MDef K a.C_Choir "execute" "Choir.execute" s_Choir_execute ["self", "operation"] a.f_Choir_execute
  Choir_batch : MDef K a.C_Choir "batch" "Choir.batch" s_Choir_batch ["self", "operations"] a.f_Choir_batch
  n_Choir_melody : NoAttr K a.C_Choir "melody"
  n_Choir_clashing : NoAttr K a.C_Choir "clashing"
  n_Choir_now : NoAttr K a.C_Choir "now"
  n_Choir_past : NoAttr K a.C_Choir "past"
  n_Choir_undone : NoAttr K a.C_Choir "undone"
  n_Choir_saved : NoAttr K a.C_Choir "saved"
  law_random : Def K mg "_law_random" s_law_random ["_law_script", "_law_salt"] a.f_law_random
  law_below : Def K mg "_law_below" s_law_below ["_law_d", "_law_limit"] a.f_law_below
  law_notes : Def K mg "_law_notes" s_law_notes ["_law_d", "_law_most"] a.f_law_notes
  law_new : Def K mg "_law_new" s_law_new ["_law_d"] a.f_law_new
  law_words : Def K mg "_law_words" s_law_words ["_law_notes_here"] a.f_law_words
  law_melody : Def K mg "_law_melody" s_law_melody ["_law_notes_here"] a.f_law_melody
  law_fits : Def K mg "_law_fits" s_law_fits ["_law_notes_here"] a.f_law_fits
  law_shifted : Def K mg "_law_shifted" s_law_shifted ["_law_notes_here", "_law_steps"] a.f_law_shifted
  law_row : Def K mg "_law_row" s_law_row ["_law_notes_here"] a.f_law_row
  law_sounds : Def K mg "_law_sounds" s_law_sounds ["_law_notes_here", "_law_voices", "_law_beat"] a.f_law_sounds
  law_is_clash : Def K mg "_law_is_clash" s_law_is_clash ["_law_one", "_law_other", "_law_sharp"] a.f_law_is_clash
  law_pairs : Def K mg "_law_pairs" s_law_pairs ["_law_sounds_here", "_law_sharp"] a.f_law_pairs
  law_worked_on : Def K mg "_law_worked_on" s_law_worked_on ["_law_notes_here", "_law_now", "_law_operation_here"] a.f_law_worked_on
  law_worked : Def K mg "_law_worked" s_law_worked ["_law_w", "_law_operation_here"] a.f_law_worked
  law_equal : Def K mg "_law_equal" s_law_equal ["_law_actual", "_law_expected"] a.f_law_equal
  law_operation : Def K mg "_law_operation" s_law_operation ["_law_d", "_law_many"] a.f_law_operation
  law_error_of : Def K mg "_law_error_of" s_law_error_of ["_law_call"] a.f_law_error_of
  law_stands : Def K mg "_law_stands" s_law_stands ["_law_choir", "_law_w"] a.f_law_stands
  law : Def K mg "law" s_law ["_law_script"] a.f_law
  L_law : LDef K "law" "law" s_law a.f_law a.cA_law a.PA_law
  b_abs : mg "abs" = none
  b_all : mg "all" = none
  b_any : mg "any" = none
  b_bool : mg "bool" = none
  b_enumerate : mg "enumerate" = none
  b_int : mg "int" = none
  b_isinstance : mg "isinstance" = none
  b_len : mg "len" = none
  b_list : mg "list" = none
  b_range : mg "range" = none
  b_sorted : mg "sorted" = none
  b_str : mg "str" = none
  b_tuple : mg "tuple" = none
  errt : errTab K [a.C_InvalidMelody, a.C_InvalidRound, a.C_OutOfRange, a.C_InvalidNumber, a.C_TooLong, a.C_TextFault, a.C_InvalidCode, a.C_Contradiction, a.C_UnknownVoice, a.C_TooManyVoices, a.C_InvalidName, a.C_UnknownName, a.C_InvalidOperation] = true
  errc : errCls K [a.C_InvalidMelody, a.C_InvalidRound, a.C_OutOfRange, a.C_InvalidNumber, a.C_TooLong, a.C_TextFault, a.C_InvalidCode, a.C_Contradiction, a.C_UnknownVoice, a.C_TooManyVoices, a.C_InvalidName, a.C_UnknownName, a.C_InvalidOperation] a.C_CanonError = true
  eg2 : PySem.W.specialIn K (.builtin "object.__class__") "__get__" = some (some (.builtin "getset_descriptor.__get__"))
  eg3 : PySem.W.takesIn K (.builtin "object.__class__") = some true
  bv_ValueError : mg "ValueError" = none
theorem mk_txt {K : PySem.W.Frag} {h : Heap} {mg : Str → Option Value} (X : K.In h) (G : h.Ns mainGlobals mg) {C_CanonError C_InvalidMelody f_InvalidMelody_init C_InvalidRound f_InvalidRound_init C_OutOfRange C_InvalidNumber C_TooLong C_TextFault f_TextFault_init C_InvalidCode f_InvalidCode_init C_Contradiction C_UnknownVoice C_TooManyVoices C_InvalidName C_UnknownName C_InvalidOperation f_InvalidOperation_init f_is_int_in f_is_note C_Melody f_Melody_init f_Melody_parse p_Melody_parse f_Melody_notes p_Melody_notes f_Melody_text p_Melody_text f_Melody_pitches p_Melody_pitches f_Melody_sound f_Melody_call f_Melody_len f_Melody_eq f_Melody_bool f_Melody_contains f_Melody_getitem f_Melody_iter f_Melody_add f_Melody_mul f_Melody_rshift f_Melody_invert f_Melody_neg f_melody_of f_is_number t_CLASHING f_check_clashing f_do_clash f_check_shift d_LENGTHS f_is_operation C_Choir f_Choir_init f_Choir_record f_Choir_enter f_Choir_leave f_Choir_sing f_Choir_undo f_Choir_redo f_Choir_passed p_Choir_passed f_Choir_singers p_Choir_singers f_Choir_clash_count p_Choir_clash_count f_Choir_operations p_Choir_operations f_Choir_execute f_Choir_batch f_law_random f_law_below f_law_notes f_law_new f_law_words f_law_melody f_law_fits f_law_shifted f_law_row f_law_sounds f_law_is_clash f_law_pairs f_law_worked_on f_law_worked f_law_equal f_law_operation f_law_error_of f_law_stands f_law cA_law PA_law : Addr} {wd : World}
  {od1 an1 : Option Addr} {sl1 : Array (Option Value)} {oc1 kV1 dc1 pm1 cd1 ct1 : Value}
  {od2 an2 : Option Addr} {sl2 : Array (Option Value)} {oc2 kV2 dc2 pm2 cd2 ct2 : Value}
  {od3 an3 : Option Addr} {sl3 : Array (Option Value)} {oc3 kV3 dc3 pm3 cd3 ct3 : Value}
  {od4 an4 : Option Addr} {sl4 : Array (Option Value)} {oc4 kV4 dc4 pm4 cd4 ct4 : Value}
  {od5 an5 : Option Addr} {sl5 : Array (Option Value)} {oc5 kV5 dc5 pm5 cd5 ct5 : Value}
  {tk_MAX_NUMBER : Tok}
  {tk_DIGITS : Tok}
  {tk_REST : Tok}
  {od6 an6 : Option Addr} {sl6 : Array (Option Value)} {oc6 kV6 dc6 pm6 cd6 ct6 : Value}
  {od7 an7 : Option Addr} {sl7 : Array (Option Value)} {oc7 kV7 dc7 pm7 cd7 ct7 : Value}
  {tk_Melody_MAX_NOTES : Tok}
  {tk_Melody_MAX_BEATS : Tok}
  {tk_Melody_MAX_PITCH : Tok}
  {od8 an8 : Option Addr} {sl8 : Array (Option Value)} {oc8 kV8 dc8 pm8 cd8 ct8 : Value}
  {od9 an9 : Option Addr} {sl9 : Array (Option Value)} {oc9 kV9 dc9 pm9 cd9 ct9 : Value}
  {rs9 : List Value}
  {od10 an10 : Option Addr} {sl10 : Array (Option Value)} {oc10 kV10 dc10 pm10 cd10 ct10 : Value}
  {rs10 : List Value}
  {od11 an11 : Option Addr} {sl11 : Array (Option Value)} {oc11 kV11 dc11 pm11 cd11 ct11 : Value}
  {rs11 : List Value}
  {od12 an12 : Option Addr} {sl12 : Array (Option Value)} {oc12 kV12 dc12 pm12 cd12 ct12 : Value}
  {rs12 : List Value}
  {od13 an13 : Option Addr} {sl13 : Array (Option Value)} {oc13 kV13 dc13 pm13 cd13 ct13 : Value}
  {od14 an14 : Option Addr} {sl14 : Array (Option Value)} {oc14 kV14 dc14 pm14 cd14 ct14 : Value}
  {od15 an15 : Option Addr} {sl15 : Array (Option Value)} {oc15 kV15 dc15 pm15 cd15 ct15 : Value}
  {od16 an16 : Option Addr} {sl16 : Array (Option Value)} {oc16 kV16 dc16 pm16 cd16 ct16 : Value}
  {od17 an17 : Option Addr} {sl17 : Array (Option Value)} {oc17 kV17 dc17 pm17 cd17 ct17 : Value}
  {od18 an18 : Option Addr} {sl18 : Array (Option Value)} {oc18 kV18 dc18 pm18 cd18 ct18 : Value}
  {od19 an19 : Option Addr} {sl19 : Array (Option Value)} {oc19 kV19 dc19 pm19 cd19 ct19 : Value}
  {od20 an20 : Option Addr} {sl20 : Array (Option Value)} {oc20 kV20 dc20 pm20 cd20 ct20 : Value}
  {od21 an21 : Option Addr} {sl21 : Array (Option Value)} {oc21 kV21 dc21 pm21 cd21 ct21 : Value}
  {od22 an22 : Option Addr} {sl22 : Array (Option Value)} {oc22 kV22 dc22 pm22 cd22 ct22 : Value}
  {od23 an23 : Option Addr} {sl23 : Array (Option Value)} {oc23 kV23 dc23 pm23 cd23 ct23 : Value}
  {od24 an24 : Option Addr} {sl24 : Array (Option Value)} {oc24 kV24 dc24 pm24 cd24 ct24 : Value}
  {od25 an25 : Option Addr} {sl25 : Array (Option Value)} {oc25 kV25 dc25 pm25 cd25 ct25 : Value}
  {od26 an26 : Option Addr} {sl26 : Array (Option Value)} {oc26 kV26 dc26 pm26 cd26 ct26 : Value}
  {od27 an27 : Option Addr} {sl27 : Array (Option Value)} {oc27 kV27 dc27 pm27 cd27 ct27 : Value}
  {tk_MAX_SHIFT : Tok}
  {tk_MAX_VOICES : Tok}
  {dd_CLASHING : Option Addr} {n_CLASHING : Nat} {sl_CLASHING : Array (Option Value)} {tk_CLASHING_0 tk_CLASHING_1 tk_CLASHING_2 tk_CLASHING_3 tk_CLASHING_4 : Tok}
  {od28 an28 : Option Addr} {sl28 : Array (Option Value)} {oc28 kV28 dc28 pm28 cd28 ct28 : Value}
  {od29 an29 : Option Addr} {sl29 : Array (Option Value)} {oc29 kV29 dc29 pm29 cd29 ct29 : Value}
  {od30 an30 : Option Addr} {sl30 : Array (Option Value)} {oc30 kV30 dc30 pm30 cd30 ct30 : Value}
  {tk_MAX_BEATS : Tok}
  {tk_ENTER : Tok}
  {tk_LEAVE : Tok}
  {tk_SING : Tok}
  {tk_UNDO : Tok}
  {tk_REDO : Tok}
  {tk_LENGTHS_0 tk_LENGTHS_1 tk_LENGTHS_2 tk_LENGTHS_3 tk_LENGTHS_4 : Tok}
  {od31 an31 : Option Addr} {sl31 : Array (Option Value)} {oc31 kV31 dc31 pm31 cd31 ct31 : Value}
  {od32 an32 : Option Addr} {sl32 : Array (Option Value)} {oc32 dc32 pm32 cd32 ct32 : Value} {DD32 : Addr}
  {od33 an33 : Option Addr} {sl33 : Array (Option Value)} {oc33 kV33 dc33 pm33 cd33 ct33 : Value}
  {od34 an34 : Option Addr} {sl34 : Array (Option Value)} {oc34 kV34 dc34 pm34 cd34 ct34 : Value}
  {od35 an35 : Option Addr} {sl35 : Array (Option Value)} {oc35 kV35 dc35 pm35 cd35 ct35 : Value}
  {od36 an36 : Option Addr} {sl36 : Array (Option Value)} {oc36 kV36 dc36 pm36 cd36 ct36 : Value}
  {od37 an37 : Option Addr} {sl37 : Array (Option Value)} {oc37 kV37 dc37 pm37 cd37 ct37 : Value}
  {od38 an38 : Option Addr} {sl38 : Array (Option Value)} {oc38 kV38 dc38 pm38 cd38 ct38 : Value}
  {od39 an39 : Option Addr} {sl39 : Array (Option Value)} {oc39 kV39 dc39 pm39 cd39 ct39 : Value}
  {rs39 : List Value}
  {od40 an40 : Option Addr} {sl40 : Array (Option Value)} {oc40 kV40 dc40 pm40 cd40 ct40 : Value}
  {rs40 : List Value}
  {od41 an41 : Option Addr} {sl41 : Array (Option Value)} {oc41 kV41 dc41 pm41 cd41 ct41 : Value}
  {rs41 : List Value}
  {od42 an42 : Option Addr} {sl42 : Array (Option Value)} {oc42 kV42 dc42 pm42 cd42 ct42 : Value}
  {rs42 : List Value}
  {od43 an43 : Option Addr} {sl43 : Array (Option Value)} {oc43 kV43 dc43 pm43 cd43 ct43 : Value}
  {od44 an44 : Option Addr} {sl44 : Array (Option Value)} {oc44 kV44 dc44 pm44 cd44 ct44 : Value}
  {od45 an45 : Option Addr} {sl45 : Array (Option Value)} {oc45 kV45 dc45 pm45 cd45 ct45 : Value}
  {od46 an46 : Option Addr} {sl46 : Array (Option Value)} {oc46 kV46 dc46 pm46 cd46 ct46 : Value}
  {od47 an47 : Option Addr} {sl47 : Array (Option Value)} {oc47 kV47 dc47 pm47 cd47 ct47 : Value}
  {od48 an48 : Option Addr} {sl48 : Array (Option Value)} {oc48 kV48 dc48 pm48 cd48 ct48 : Value}
  {od49 an49 : Option Addr} {sl49 : Array (Option Value)} {oc49 kV49 dc49 pm49 cd49 ct49 : Value}
  {od50 an50 : Option Addr} {sl50 : Array (Option Value)} {oc50 kV50 dc50 pm50 cd50 ct50 : Value}
  {od51 an51 : Option Addr} {sl51 : Array (Option Value)} {oc51 kV51 dc51 pm51 cd51 ct51 : Value}
  {od52 an52 : Option Addr} {sl52 : Array (Option Value)} {oc52 kV52 dc52 pm52 cd52 ct52 : Value}
  {od53 an53 : Option Addr} {sl53 : Array (Option Value)} {oc53 kV53 dc53 pm53 cd53 ct53 : Value}
  {od54 an54 : Option Addr} {sl54 : Array (Option Value)} {oc54 kV54 dc54 pm54 cd54 ct54 : Value}
  {od55 an55 : Option Addr} {sl55 : Array (Option Value)} {oc55 kV55 dc55 pm55 cd55 ct55 : Value}
  {od56 an56 : Option Addr} {sl56 : Array (Option Value)} {oc56 kV56 dc56 pm56 cd56 ct56 : Value}
  {od57 an57 : Option Addr} {sl57 : Array (Option Value)} {oc57 kV57 dc57 pm57 cd57 ct57 : Value}
  {od58 an58 : Option Addr} {sl58 : Array (Option Value)} {oc58 kV58 dc58 pm58 cd58 ct58 : Value}
  {od59 an59 : Option Addr} {sl59 : Array (Option Value)} {oc59 kV59 dc59 pm59 cd59 ct59 : Value}
  {od60 an60 : Option Addr} {sl60 : Array (Option Value)} {oc60 kV60 dc60 pm60 cd60 ct60 : Value}
  {od61 an61 : Option Addr} {sl61 : Array (Option Value)} {oc61 kV61 dc61 pm61 cd61 ct61 : Value}
  {od62 an62 : Option Addr} {sl62 : Array (Option Value)} {oc62 kV62 dc62 pm62 cd62 ct62 : Value}
  {od63 an63 : Option Addr} {sl63 : Array (Option Value)} {oc63 kV63 dc63 pm63 ct63 : Value}
  {ec_law : Value} {ecd_law : Option Addr} {vc_law : Array Value} {esl_law : Array (Option Value)}
  (xCanonError : PySem.W.nsIn K mainGlobals "CanonError" = some (some (.ref C_CanonError)))
  (rdCanonError : PySem.W.readsIn K C_CanonError (.type "type") = true)
  (gaCanonError : PySem.W.specialIn K (.ref C_CanonError) "__getattribute__" = some (some (.builtin "type.__getattribute__")))
  (atCanonError : PySem.W.findCls K (.ref C_CanonError) (.type "type") "__init__" = some (.val (.builtin "ValueError.__init__")))
  (xInvalidMelody : PySem.W.nsIn K mainGlobals "InvalidMelody" = some (some (.ref C_InvalidMelody)))
  (xkInvalidMelody : PySem.W.keepIn K (.ref C_InvalidMelody) = true)
  (esInvalidMelody : PySem.W.subIn K (.ref C_InvalidMelody) (.type "BaseException") = some true)
  (etInvalidMelody : PySem.W.typeIn K (.ref C_InvalidMelody) = some (.type "type"))
  (a1 : PySem.W.findIn K (.ref C_InvalidMelody) "__init__" = some (some (.ref f_InvalidMelody_init)))
  (i1 : PySem.W.isFn K (.ref f_InvalidMelody_init) = true)
  (l1 : K.lookup f_InvalidMelody_init = some ⟨oc1, od1, .func (PySem.W.fnOf "__init__" "InvalidMelody.__init__" (defArgs s_InvalidMelody_init) (defBody s_InvalidMelody_init) (defScope s_InvalidMelody_init) .none kV1 dc1 pm1 an1 cd1 ct1), sl1⟩)
  (c1 : PySem.W.codeIn K cd1 "InvalidMelody.__init__" = true)
  (k1 : PySem.W.keepIn K (.ref f_InvalidMelody_init) = true)
  (kr_oxInvalidMelody : oexB K C_InvalidMelody = true)
  (saInvalidMelody : PySem.W.findIn K (.ref C_InvalidMelody) "__setattr__" = some (some (.builtin "object.__setattr__")))
  (tfInvalidMelody : PySem.W.typeIn K (.ref f_InvalidMelody_init) = some (.type "function"))
  (n_InvalidMelody_index : PySem.W.findIn K (.ref C_InvalidMelody) "index" = some none)
  (xInvalidRound : PySem.W.nsIn K mainGlobals "InvalidRound" = some (some (.ref C_InvalidRound)))
  (xkInvalidRound : PySem.W.keepIn K (.ref C_InvalidRound) = true)
  (esInvalidRound : PySem.W.subIn K (.ref C_InvalidRound) (.type "BaseException") = some true)
  (etInvalidRound : PySem.W.typeIn K (.ref C_InvalidRound) = some (.type "type"))
  (a2 : PySem.W.findIn K (.ref C_InvalidRound) "__init__" = some (some (.ref f_InvalidRound_init)))
  (i2 : PySem.W.isFn K (.ref f_InvalidRound_init) = true)
  (l2 : K.lookup f_InvalidRound_init = some ⟨oc2, od2, .func (PySem.W.fnOf "__init__" "InvalidRound.__init__" (defArgs s_InvalidRound_init) (defBody s_InvalidRound_init) (defScope s_InvalidRound_init) .none kV2 dc2 pm2 an2 cd2 ct2), sl2⟩)
  (c2 : PySem.W.codeIn K cd2 "InvalidRound.__init__" = true)
  (k2 : PySem.W.keepIn K (.ref f_InvalidRound_init) = true)
  (kr_oxInvalidRound : oexB K C_InvalidRound = true)
  (saInvalidRound : PySem.W.findIn K (.ref C_InvalidRound) "__setattr__" = some (some (.builtin "object.__setattr__")))
  (tfInvalidRound : PySem.W.typeIn K (.ref f_InvalidRound_init) = some (.type "function"))
  (n_InvalidRound_part : PySem.W.findIn K (.ref C_InvalidRound) "part" = some none)
  (n_InvalidRound_index : PySem.W.findIn K (.ref C_InvalidRound) "index" = some none)
  (xOutOfRange : PySem.W.nsIn K mainGlobals "OutOfRange" = some (some (.ref C_OutOfRange)))
  (xkOutOfRange : PySem.W.keepIn K (.ref C_OutOfRange) = true)
  (esOutOfRange : PySem.W.subIn K (.ref C_OutOfRange) (.type "BaseException") = some true)
  (etOutOfRange : PySem.W.typeIn K (.ref C_OutOfRange) = some (.type "type"))
  (kr_emOutOfRange : PySem.W.excIn K C_OutOfRange PySem.HandSPX.veTail "ValueError.__new__" = true)
  (xInvalidNumber : PySem.W.nsIn K mainGlobals "InvalidNumber" = some (some (.ref C_InvalidNumber)))
  (xkInvalidNumber : PySem.W.keepIn K (.ref C_InvalidNumber) = true)
  (esInvalidNumber : PySem.W.subIn K (.ref C_InvalidNumber) (.type "BaseException") = some true)
  (etInvalidNumber : PySem.W.typeIn K (.ref C_InvalidNumber) = some (.type "type"))
  (kr_emInvalidNumber : PySem.W.excIn K C_InvalidNumber PySem.HandSPX.veTail "ValueError.__new__" = true)
  (xTooLong : PySem.W.nsIn K mainGlobals "TooLong" = some (some (.ref C_TooLong)))
  (xkTooLong : PySem.W.keepIn K (.ref C_TooLong) = true)
  (esTooLong : PySem.W.subIn K (.ref C_TooLong) (.type "BaseException") = some true)
  (etTooLong : PySem.W.typeIn K (.ref C_TooLong) = some (.type "type"))
  (kr_emTooLong : PySem.W.excIn K C_TooLong PySem.HandSPX.veTail "ValueError.__new__" = true)
  (xTextFault : PySem.W.nsIn K mainGlobals "TextFault" = some (some (.ref C_TextFault)))
  (xkTextFault : PySem.W.keepIn K (.ref C_TextFault) = true)
  (esTextFault : PySem.W.subIn K (.ref C_TextFault) (.type "BaseException") = some true)
  (etTextFault : PySem.W.typeIn K (.ref C_TextFault) = some (.type "type"))
  (a3 : PySem.W.findIn K (.ref C_TextFault) "__init__" = some (some (.ref f_TextFault_init)))
  (i3 : PySem.W.isFn K (.ref f_TextFault_init) = true)
  (l3 : K.lookup f_TextFault_init = some ⟨oc3, od3, .func (PySem.W.fnOf "__init__" "TextFault.__init__" (defArgs s_TextFault_init) (defBody s_TextFault_init) (defScope s_TextFault_init) .none kV3 dc3 pm3 an3 cd3 ct3), sl3⟩)
  (c3 : PySem.W.codeIn K cd3 "TextFault.__init__" = true)
  (k3 : PySem.W.keepIn K (.ref f_TextFault_init) = true)
  (kr_oxTextFault : oexB K C_TextFault = true)
  (saTextFault : PySem.W.findIn K (.ref C_TextFault) "__setattr__" = some (some (.builtin "object.__setattr__")))
  (tfTextFault : PySem.W.typeIn K (.ref f_TextFault_init) = some (.type "function"))
  (n_TextFault_word : PySem.W.findIn K (.ref C_TextFault) "word" = some none)
  (xInvalidCode : PySem.W.nsIn K mainGlobals "InvalidCode" = some (some (.ref C_InvalidCode)))
  (xkInvalidCode : PySem.W.keepIn K (.ref C_InvalidCode) = true)
  (esInvalidCode : PySem.W.subIn K (.ref C_InvalidCode) (.type "BaseException") = some true)
  (etInvalidCode : PySem.W.typeIn K (.ref C_InvalidCode) = some (.type "type"))
  (a4 : PySem.W.findIn K (.ref C_InvalidCode) "__init__" = some (some (.ref f_InvalidCode_init)))
  (i4 : PySem.W.isFn K (.ref f_InvalidCode_init) = true)
  (l4 : K.lookup f_InvalidCode_init = some ⟨oc4, od4, .func (PySem.W.fnOf "__init__" "InvalidCode.__init__" (defArgs s_InvalidCode_init) (defBody s_InvalidCode_init) (defScope s_InvalidCode_init) .none kV4 dc4 pm4 an4 cd4 ct4), sl4⟩)
  (c4 : PySem.W.codeIn K cd4 "InvalidCode.__init__" = true)
  (k4 : PySem.W.keepIn K (.ref f_InvalidCode_init) = true)
  (kr_oxInvalidCode : oexB K C_InvalidCode = true)
  (saInvalidCode : PySem.W.findIn K (.ref C_InvalidCode) "__setattr__" = some (some (.builtin "object.__setattr__")))
  (tfInvalidCode : PySem.W.typeIn K (.ref f_InvalidCode_init) = some (.type "function"))
  (n_InvalidCode_place : PySem.W.findIn K (.ref C_InvalidCode) "place" = some none)
  (xContradiction : PySem.W.nsIn K mainGlobals "Contradiction" = some (some (.ref C_Contradiction)))
  (xkContradiction : PySem.W.keepIn K (.ref C_Contradiction) = true)
  (esContradiction : PySem.W.subIn K (.ref C_Contradiction) (.type "BaseException") = some true)
  (etContradiction : PySem.W.typeIn K (.ref C_Contradiction) = some (.type "type"))
  (kr_emContradiction : PySem.W.excIn K C_Contradiction PySem.HandSPX.veTail "ValueError.__new__" = true)
  (xUnknownVoice : PySem.W.nsIn K mainGlobals "UnknownVoice" = some (some (.ref C_UnknownVoice)))
  (xkUnknownVoice : PySem.W.keepIn K (.ref C_UnknownVoice) = true)
  (esUnknownVoice : PySem.W.subIn K (.ref C_UnknownVoice) (.type "BaseException") = some true)
  (etUnknownVoice : PySem.W.typeIn K (.ref C_UnknownVoice) = some (.type "type"))
  (kr_emUnknownVoice : PySem.W.excIn K C_UnknownVoice PySem.HandSPX.veTail "ValueError.__new__" = true)
  (xTooManyVoices : PySem.W.nsIn K mainGlobals "TooManyVoices" = some (some (.ref C_TooManyVoices)))
  (xkTooManyVoices : PySem.W.keepIn K (.ref C_TooManyVoices) = true)
  (esTooManyVoices : PySem.W.subIn K (.ref C_TooManyVoices) (.type "BaseException") = some true)
  (etTooManyVoices : PySem.W.typeIn K (.ref C_TooManyVoices) = some (.type "type"))
  (kr_emTooManyVoices : PySem.W.excIn K C_TooManyVoices PySem.HandSPX.veTail "ValueError.__new__" = true)
  (xInvalidName : PySem.W.nsIn K mainGlobals "InvalidName" = some (some (.ref C_InvalidName)))
  (xkInvalidName : PySem.W.keepIn K (.ref C_InvalidName) = true)
  (esInvalidName : PySem.W.subIn K (.ref C_InvalidName) (.type "BaseException") = some true)
  (etInvalidName : PySem.W.typeIn K (.ref C_InvalidName) = some (.type "type"))
  (kr_emInvalidName : PySem.W.excIn K C_InvalidName PySem.HandSPX.veTail "ValueError.__new__" = true)
  (xUnknownName : PySem.W.nsIn K mainGlobals "UnknownName" = some (some (.ref C_UnknownName)))
  (xkUnknownName : PySem.W.keepIn K (.ref C_UnknownName) = true)
  (esUnknownName : PySem.W.subIn K (.ref C_UnknownName) (.type "BaseException") = some true)
  (etUnknownName : PySem.W.typeIn K (.ref C_UnknownName) = some (.type "type"))
  (kr_emUnknownName : PySem.W.excIn K C_UnknownName PySem.HandSPX.veTail "ValueError.__new__" = true)
  (xInvalidOperation : PySem.W.nsIn K mainGlobals "InvalidOperation" = some (some (.ref C_InvalidOperation)))
  (xkInvalidOperation : PySem.W.keepIn K (.ref C_InvalidOperation) = true)
  (esInvalidOperation : PySem.W.subIn K (.ref C_InvalidOperation) (.type "BaseException") = some true)
  (etInvalidOperation : PySem.W.typeIn K (.ref C_InvalidOperation) = some (.type "type"))
  (a5 : PySem.W.findIn K (.ref C_InvalidOperation) "__init__" = some (some (.ref f_InvalidOperation_init)))
  (i5 : PySem.W.isFn K (.ref f_InvalidOperation_init) = true)
  (l5 : K.lookup f_InvalidOperation_init = some ⟨oc5, od5, .func (PySem.W.fnOf "__init__" "InvalidOperation.__init__" (defArgs s_InvalidOperation_init) (defBody s_InvalidOperation_init) (defScope s_InvalidOperation_init) .none kV5 dc5 pm5 an5 cd5 ct5), sl5⟩)
  (c5 : PySem.W.codeIn K cd5 "InvalidOperation.__init__" = true)
  (k5 : PySem.W.keepIn K (.ref f_InvalidOperation_init) = true)
  (kr_oxInvalidOperation : oexB K C_InvalidOperation = true)
  (saInvalidOperation : PySem.W.findIn K (.ref C_InvalidOperation) "__setattr__" = some (some (.builtin "object.__setattr__")))
  (tfInvalidOperation : PySem.W.typeIn K (.ref f_InvalidOperation_init) = some (.type "function"))
  (n_InvalidOperation_place : PySem.W.findIn K (.ref C_InvalidOperation) "place" = some none)
  (v_MAX_NUMBER : PySem.W.nsIn K mainGlobals "MAX_NUMBER" = some (some (.int 1000000000000000000 tk_MAX_NUMBER)))
  (v_DIGITS : PySem.W.nsIn K mainGlobals "DIGITS" = some (some (.str "0123456789" tk_DIGITS)))
  (v_REST : PySem.W.nsIn K mainGlobals "REST" = some (some (.str "-" tk_REST)))
  (a6 : PySem.W.nsIn K mainGlobals "is_int_in" = some (some (.ref f_is_int_in)))
  (l6 : K.lookup f_is_int_in = some ⟨oc6, od6, .func (PySem.W.fnOf "is_int_in" "is_int_in" (defArgs s_is_int_in) (defBody s_is_int_in) (defScope s_is_int_in) .none kV6 dc6 pm6 an6 cd6 ct6), sl6⟩)
  (c6 : PySem.W.codeIn K cd6 "is_int_in" = true)
  (k6 : PySem.W.keepIn K (.ref f_is_int_in) = true)
  (a7 : PySem.W.nsIn K mainGlobals "is_note" = some (some (.ref f_is_note)))
  (l7 : K.lookup f_is_note = some ⟨oc7, od7, .func (PySem.W.fnOf "is_note" "is_note" (defArgs s_is_note) (defBody s_is_note) (defScope s_is_note) .none kV7 dc7 pm7 an7 cd7 ct7), sl7⟩)
  (c7 : PySem.W.codeIn K cd7 "is_note" = true)
  (k7 : PySem.W.keepIn K (.ref f_is_note) = true)
  (xMelody : PySem.W.nsIn K mainGlobals "Melody" = some (some (.ref C_Melody)))
  (xkMelody : PySem.W.keepIn K (.ref C_Melody) = true)
  (pgMelody : PySem.W.plainGet K C_Melody Str.empty = true)
  (hdMelody : PySem.W.hasDictIn K C_Melody = true)
  (poMelody : PySem.W.plainOver K C_Melody = true)
  (saMelody : PySem.W.findIn K (.ref C_Melody) "__setattr__" = some (some (.builtin "object.__setattr__")))
  (mkMelody : PySem.W.makesIn K C_Melody = true)
  (rdMelody : PySem.W.readsIn K C_Melody (.type "type") = true)
  (gaMelody : PySem.W.specialIn K (.ref C_Melody) "__getattribute__" = some (some (.builtin "type.__getattribute__")))
  (y1Melody : PySem.W.findIn K (.ref C_Melody) "__class__" = some (some (.builtin "object.__class__")))
  (y2Melody : PySem.W.specialIn K (.builtin "object.__class__") "__get__" = some (some (.builtin "getset_descriptor.__get__")))
  (y3Melody : PySem.W.takesIn K (.builtin "object.__class__") = some true)
  (y4Melody : PySem.W.mroIn K C_Melody (.type "object") = some true)
  (v_Melody_MAX_NOTES : PySem.W.findCls K (.ref C_Melody) (.type "type") "MAX_NOTES" = some (.val (.int 32 tk_Melody_MAX_NOTES)))
  (v_Melody_MAX_BEATS : PySem.W.findCls K (.ref C_Melody) (.type "type") "MAX_BEATS" = some (.val (.int 16 tk_Melody_MAX_BEATS)))
  (v_Melody_MAX_PITCH : PySem.W.findCls K (.ref C_Melody) (.type "type") "MAX_PITCH" = some (.val (.int 127 tk_Melody_MAX_PITCH)))
  (a8 : PySem.W.findIn K (.ref C_Melody) "__init__" = some (some (.ref f_Melody_init)))
  (i8 : PySem.W.isFn K (.ref f_Melody_init) = true)
  (l8 : K.lookup f_Melody_init = some ⟨oc8, od8, .func (PySem.W.fnOf "__init__" "Melody.__init__" (defArgs s_Melody_init) (defBody s_Melody_init) (defScope s_Melody_init) .none kV8 dc8 pm8 an8 cd8 ct8), sl8⟩)
  (c8 : PySem.W.codeIn K cd8 "Melody.__init__" = true)
  (k8 : PySem.W.keepIn K (.ref f_Melody_init) = true)
  (a9 : PySem.W.findCls K (.ref C_Melody) (.type "type") "parse" = some (.get (.builtin "classmethod.__get__") (.ref p_Melody_parse) .none (.ref C_Melody)))
  (r9 : PySem.W.recIn K p_Melody_parse "classmethod" = some (.ref f_Melody_parse :: rs9))
  (n9 : PySem.W.fnIn K f_Melody_parse = true)
  (l9 : K.lookup f_Melody_parse = some ⟨oc9, od9, .func (PySem.W.fnOf "parse" "Melody.parse" (defArgs s_Melody_parse) (defBody s_Melody_parse) (defScope s_Melody_parse) .none kV9 dc9 pm9 an9 cd9 ct9), sl9⟩)
  (c9 : PySem.W.codeIn K cd9 "Melody.parse" = true)
  (k9 : PySem.W.keepIn K (.ref f_Melody_parse) = true)
  (a10 : PySem.W.findIn K (.ref C_Melody) "notes" = some (some (.ref p_Melody_notes)))
  (g10 : PySem.W.specialIn K (.ref p_Melody_notes) "__get__" = some (some (.builtin "property.__get__")))
  (t10 : PySem.W.takesIn K (.ref p_Melody_notes) = some true)
  (r10 : PySem.W.recIn K p_Melody_notes "property" = some (.ref f_Melody_notes :: rs10))
  (l10 : K.lookup f_Melody_notes = some ⟨oc10, od10, .func (PySem.W.fnOf "notes" "Melody.notes" (defArgs s_Melody_notes) (defBody s_Melody_notes) (defScope s_Melody_notes) .none kV10 dc10 pm10 an10 cd10 ct10), sl10⟩)
  (c10 : PySem.W.codeIn K cd10 "Melody.notes" = true)
  (k10 : PySem.W.keepIn K (.ref f_Melody_notes) = true)
  (a11 : PySem.W.findIn K (.ref C_Melody) "text" = some (some (.ref p_Melody_text)))
  (g11 : PySem.W.specialIn K (.ref p_Melody_text) "__get__" = some (some (.builtin "property.__get__")))
  (t11 : PySem.W.takesIn K (.ref p_Melody_text) = some true)
  (r11 : PySem.W.recIn K p_Melody_text "property" = some (.ref f_Melody_text :: rs11))
  (l11 : K.lookup f_Melody_text = some ⟨oc11, od11, .func (PySem.W.fnOf "text" "Melody.text" (defArgs s_Melody_text) (defBody s_Melody_text) (defScope s_Melody_text) .none kV11 dc11 pm11 an11 cd11 ct11), sl11⟩)
  (c11 : PySem.W.codeIn K cd11 "Melody.text" = true)
  (k11 : PySem.W.keepIn K (.ref f_Melody_text) = true)
  (a12 : PySem.W.findIn K (.ref C_Melody) "pitches" = some (some (.ref p_Melody_pitches)))
  (g12 : PySem.W.specialIn K (.ref p_Melody_pitches) "__get__" = some (some (.builtin "property.__get__")))
  (t12 : PySem.W.takesIn K (.ref p_Melody_pitches) = some true)
  (r12 : PySem.W.recIn K p_Melody_pitches "property" = some (.ref f_Melody_pitches :: rs12))
  (l12 : K.lookup f_Melody_pitches = some ⟨oc12, od12, .func (PySem.W.fnOf "pitches" "Melody.pitches" (defArgs s_Melody_pitches) (defBody s_Melody_pitches) (defScope s_Melody_pitches) .none kV12 dc12 pm12 an12 cd12 ct12), sl12⟩)
  (c12 : PySem.W.codeIn K cd12 "Melody.pitches" = true)
  (k12 : PySem.W.keepIn K (.ref f_Melody_pitches) = true)
  (a13 : PySem.W.findIn K (.ref C_Melody) "sound" = some (some (.ref f_Melody_sound)))
  (i13 : PySem.W.isFn K (.ref f_Melody_sound) = true)
  (l13 : K.lookup f_Melody_sound = some ⟨oc13, od13, .func (PySem.W.fnOf "sound" "Melody.sound" (defArgs s_Melody_sound) (defBody s_Melody_sound) (defScope s_Melody_sound) .none kV13 dc13 pm13 an13 cd13 ct13), sl13⟩)
  (c13 : PySem.W.codeIn K cd13 "Melody.sound" = true)
  (k13 : PySem.W.keepIn K (.ref f_Melody_sound) = true)
  (a14 : PySem.W.findIn K (.ref C_Melody) "__call__" = some (some (.ref f_Melody_call)))
  (i14 : PySem.W.isFn K (.ref f_Melody_call) = true)
  (l14 : K.lookup f_Melody_call = some ⟨oc14, od14, .func (PySem.W.fnOf "__call__" "Melody.__call__" (defArgs s_Melody_call) (defBody s_Melody_call) (defScope s_Melody_call) .none kV14 dc14 pm14 an14 cd14 ct14), sl14⟩)
  (c14 : PySem.W.codeIn K cd14 "Melody.__call__" = true)
  (k14 : PySem.W.keepIn K (.ref f_Melody_call) = true)
  (a15 : PySem.W.findIn K (.ref C_Melody) "__len__" = some (some (.ref f_Melody_len)))
  (i15 : PySem.W.isFn K (.ref f_Melody_len) = true)
  (l15 : K.lookup f_Melody_len = some ⟨oc15, od15, .func (PySem.W.fnOf "__len__" "Melody.__len__" (defArgs s_Melody_len) (defBody s_Melody_len) (defScope s_Melody_len) .none kV15 dc15 pm15 an15 cd15 ct15), sl15⟩)
  (c15 : PySem.W.codeIn K cd15 "Melody.__len__" = true)
  (k15 : PySem.W.keepIn K (.ref f_Melody_len) = true)
  (a16 : PySem.W.findIn K (.ref C_Melody) "__eq__" = some (some (.ref f_Melody_eq)))
  (i16 : PySem.W.isFn K (.ref f_Melody_eq) = true)
  (l16 : K.lookup f_Melody_eq = some ⟨oc16, od16, .func (PySem.W.fnOf "__eq__" "Melody.__eq__" (defArgs s_Melody_eq) (defBody s_Melody_eq) (defScope s_Melody_eq) .none kV16 dc16 pm16 an16 cd16 ct16), sl16⟩)
  (c16 : PySem.W.codeIn K cd16 "Melody.__eq__" = true)
  (k16 : PySem.W.keepIn K (.ref f_Melody_eq) = true)
  (a17 : PySem.W.findIn K (.ref C_Melody) "__bool__" = some (some (.ref f_Melody_bool)))
  (i17 : PySem.W.isFn K (.ref f_Melody_bool) = true)
  (l17 : K.lookup f_Melody_bool = some ⟨oc17, od17, .func (PySem.W.fnOf "__bool__" "Melody.__bool__" (defArgs s_Melody_bool) (defBody s_Melody_bool) (defScope s_Melody_bool) .none kV17 dc17 pm17 an17 cd17 ct17), sl17⟩)
  (c17 : PySem.W.codeIn K cd17 "Melody.__bool__" = true)
  (k17 : PySem.W.keepIn K (.ref f_Melody_bool) = true)
  (a18 : PySem.W.findIn K (.ref C_Melody) "__contains__" = some (some (.ref f_Melody_contains)))
  (i18 : PySem.W.isFn K (.ref f_Melody_contains) = true)
  (l18 : K.lookup f_Melody_contains = some ⟨oc18, od18, .func (PySem.W.fnOf "__contains__" "Melody.__contains__" (defArgs s_Melody_contains) (defBody s_Melody_contains) (defScope s_Melody_contains) .none kV18 dc18 pm18 an18 cd18 ct18), sl18⟩)
  (c18 : PySem.W.codeIn K cd18 "Melody.__contains__" = true)
  (k18 : PySem.W.keepIn K (.ref f_Melody_contains) = true)
  (a19 : PySem.W.findIn K (.ref C_Melody) "__getitem__" = some (some (.ref f_Melody_getitem)))
  (i19 : PySem.W.isFn K (.ref f_Melody_getitem) = true)
  (l19 : K.lookup f_Melody_getitem = some ⟨oc19, od19, .func (PySem.W.fnOf "__getitem__" "Melody.__getitem__" (defArgs s_Melody_getitem) (defBody s_Melody_getitem) (defScope s_Melody_getitem) .none kV19 dc19 pm19 an19 cd19 ct19), sl19⟩)
  (c19 : PySem.W.codeIn K cd19 "Melody.__getitem__" = true)
  (k19 : PySem.W.keepIn K (.ref f_Melody_getitem) = true)
  (a20 : PySem.W.findIn K (.ref C_Melody) "__iter__" = some (some (.ref f_Melody_iter)))
  (i20 : PySem.W.isFn K (.ref f_Melody_iter) = true)
  (l20 : K.lookup f_Melody_iter = some ⟨oc20, od20, .func (PySem.W.fnOf "__iter__" "Melody.__iter__" (defArgs s_Melody_iter) (defBody s_Melody_iter) (defScope s_Melody_iter) .none kV20 dc20 pm20 an20 cd20 ct20), sl20⟩)
  (c20 : PySem.W.codeIn K cd20 "Melody.__iter__" = true)
  (k20 : PySem.W.keepIn K (.ref f_Melody_iter) = true)
  (a21 : PySem.W.findIn K (.ref C_Melody) "__add__" = some (some (.ref f_Melody_add)))
  (i21 : PySem.W.isFn K (.ref f_Melody_add) = true)
  (l21 : K.lookup f_Melody_add = some ⟨oc21, od21, .func (PySem.W.fnOf "__add__" "Melody.__add__" (defArgs s_Melody_add) (defBody s_Melody_add) (defScope s_Melody_add) .none kV21 dc21 pm21 an21 cd21 ct21), sl21⟩)
  (c21 : PySem.W.codeIn K cd21 "Melody.__add__" = true)
  (k21 : PySem.W.keepIn K (.ref f_Melody_add) = true)
  (a22 : PySem.W.findIn K (.ref C_Melody) "__mul__" = some (some (.ref f_Melody_mul)))
  (i22 : PySem.W.isFn K (.ref f_Melody_mul) = true)
  (l22 : K.lookup f_Melody_mul = some ⟨oc22, od22, .func (PySem.W.fnOf "__mul__" "Melody.__mul__" (defArgs s_Melody_mul) (defBody s_Melody_mul) (defScope s_Melody_mul) .none kV22 dc22 pm22 an22 cd22 ct22), sl22⟩)
  (c22 : PySem.W.codeIn K cd22 "Melody.__mul__" = true)
  (k22 : PySem.W.keepIn K (.ref f_Melody_mul) = true)
  (a23 : PySem.W.findIn K (.ref C_Melody) "__rshift__" = some (some (.ref f_Melody_rshift)))
  (i23 : PySem.W.isFn K (.ref f_Melody_rshift) = true)
  (l23 : K.lookup f_Melody_rshift = some ⟨oc23, od23, .func (PySem.W.fnOf "__rshift__" "Melody.__rshift__" (defArgs s_Melody_rshift) (defBody s_Melody_rshift) (defScope s_Melody_rshift) .none kV23 dc23 pm23 an23 cd23 ct23), sl23⟩)
  (c23 : PySem.W.codeIn K cd23 "Melody.__rshift__" = true)
  (k23 : PySem.W.keepIn K (.ref f_Melody_rshift) = true)
  (a24 : PySem.W.findIn K (.ref C_Melody) "__invert__" = some (some (.ref f_Melody_invert)))
  (i24 : PySem.W.isFn K (.ref f_Melody_invert) = true)
  (l24 : K.lookup f_Melody_invert = some ⟨oc24, od24, .func (PySem.W.fnOf "__invert__" "Melody.__invert__" (defArgs s_Melody_invert) (defBody s_Melody_invert) (defScope s_Melody_invert) .none kV24 dc24 pm24 an24 cd24 ct24), sl24⟩)
  (c24 : PySem.W.codeIn K cd24 "Melody.__invert__" = true)
  (k24 : PySem.W.keepIn K (.ref f_Melody_invert) = true)
  (a25 : PySem.W.findIn K (.ref C_Melody) "__neg__" = some (some (.ref f_Melody_neg)))
  (i25 : PySem.W.isFn K (.ref f_Melody_neg) = true)
  (l25 : K.lookup f_Melody_neg = some ⟨oc25, od25, .func (PySem.W.fnOf "__neg__" "Melody.__neg__" (defArgs s_Melody_neg) (defBody s_Melody_neg) (defScope s_Melody_neg) .none kV25 dc25 pm25 an25 cd25 ct25), sl25⟩)
  (c25 : PySem.W.codeIn K cd25 "Melody.__neg__" = true)
  (k25 : PySem.W.keepIn K (.ref f_Melody_neg) = true)
  (fi_Melody_call : PySem.W.fnIn K f_Melody_call = true)
  (fi_Melody_getitem : PySem.W.fnIn K f_Melody_getitem = true)
  (ne_Melody : PySem.W.findIn K (.ref C_Melody) "__ne__" = some (some (.builtin "object.__ne__")))
  (sfMelody : PySem.W.selfFirst K C_Melody = true)
  (sb_Melody_int : PySem.W.subIn K (.type "int") (.ref C_Melody) = some false)
  (sb_Melody_bool : PySem.W.subIn K (.type "bool") (.ref C_Melody) = some false)
  (sb_Melody_str : PySem.W.subIn K (.type "str") (.ref C_Melody) = some false)
  (sb_Melody_NoneType : PySem.W.subIn K (.type "NoneType") (.ref C_Melody) = some false)
  (sb_Melody_tuple : PySem.W.subIn K (.type "tuple") (.ref C_Melody) = some false)
  (sb_Melody_list : PySem.W.subIn K (.type "list") (.ref C_Melody) = some false)
  (rr_Melody_rshift : PySem.W.findIn K (.ref C_Melody) "__rrshift__" = some none)
  (rr_Melody_mul : PySem.W.findIn K (.ref C_Melody) "__rmul__" = some none)
  (n_Melody_given : PySem.W.findIn K (.ref C_Melody) "given" = some none)
  (n_Melody_row : PySem.W.findIn K (.ref C_Melody) "row" = some none)
  (a26 : PySem.W.nsIn K mainGlobals "melody_of" = some (some (.ref f_melody_of)))
  (l26 : K.lookup f_melody_of = some ⟨oc26, od26, .func (PySem.W.fnOf "melody_of" "melody_of" (defArgs s_melody_of) (defBody s_melody_of) (defScope s_melody_of) .none kV26 dc26 pm26 an26 cd26 ct26), sl26⟩)
  (c26 : PySem.W.codeIn K cd26 "melody_of" = true)
  (k26 : PySem.W.keepIn K (.ref f_melody_of) = true)
  (a27 : PySem.W.nsIn K mainGlobals "is_number" = some (some (.ref f_is_number)))
  (l27 : K.lookup f_is_number = some ⟨oc27, od27, .func (PySem.W.fnOf "is_number" "is_number" (defArgs s_is_number) (defBody s_is_number) (defScope s_is_number) .none kV27 dc27 pm27 an27 cd27 ct27), sl27⟩)
  (c27 : PySem.W.codeIn K cd27 "is_number" = true)
  (k27 : PySem.W.keepIn K (.ref f_is_number) = true)
  (v_MAX_SHIFT : PySem.W.nsIn K mainGlobals "MAX_SHIFT" = some (some (.int 24 tk_MAX_SHIFT)))
  (v_MAX_VOICES : PySem.W.nsIn K mainGlobals "MAX_VOICES" = some (some (.int 8 tk_MAX_VOICES)))
  (v_CLASHING : PySem.W.nsIn K mainGlobals "CLASHING" = some (some (.ref t_CLASHING)))
  (l_CLASHING : K.lookup t_CLASHING = some ⟨.type "tuple", dd_CLASHING, .seq [.int 1 tk_CLASHING_0, .int 2 tk_CLASHING_1, .int 6 tk_CLASHING_2, .int 10 tk_CLASHING_3, .int 11 tk_CLASHING_4].toArray n_CLASHING, sl_CLASHING⟩)
  (a28 : PySem.W.nsIn K mainGlobals "check_clashing" = some (some (.ref f_check_clashing)))
  (l28 : K.lookup f_check_clashing = some ⟨oc28, od28, .func (PySem.W.fnOf "check_clashing" "check_clashing" (defArgs s_check_clashing) (defBody s_check_clashing) (defScope s_check_clashing) .none kV28 dc28 pm28 an28 cd28 ct28), sl28⟩)
  (c28 : PySem.W.codeIn K cd28 "check_clashing" = true)
  (k28 : PySem.W.keepIn K (.ref f_check_clashing) = true)
  (a29 : PySem.W.nsIn K mainGlobals "do_clash" = some (some (.ref f_do_clash)))
  (l29 : K.lookup f_do_clash = some ⟨oc29, od29, .func (PySem.W.fnOf "do_clash" "do_clash" (defArgs s_do_clash) (defBody s_do_clash) (defScope s_do_clash) .none kV29 dc29 pm29 an29 cd29 ct29), sl29⟩)
  (c29 : PySem.W.codeIn K cd29 "do_clash" = true)
  (k29 : PySem.W.keepIn K (.ref f_do_clash) = true)
  (a30 : PySem.W.nsIn K mainGlobals "check_shift" = some (some (.ref f_check_shift)))
  (l30 : K.lookup f_check_shift = some ⟨oc30, od30, .func (PySem.W.fnOf "check_shift" "check_shift" (defArgs s_check_shift) (defBody s_check_shift) (defScope s_check_shift) .none kV30 dc30 pm30 an30 cd30 ct30), sl30⟩)
  (c30 : PySem.W.codeIn K cd30 "check_shift" = true)
  (k30 : PySem.W.keepIn K (.ref f_check_shift) = true)
  (v_MAX_BEATS : PySem.W.nsIn K mainGlobals "MAX_BEATS" = some (some (.int 500 tk_MAX_BEATS)))
  (v_ENTER : PySem.W.nsIn K mainGlobals "ENTER" = some (some (.str "enter" tk_ENTER)))
  (v_LEAVE : PySem.W.nsIn K mainGlobals "LEAVE" = some (some (.str "leave" tk_LEAVE)))
  (v_SING : PySem.W.nsIn K mainGlobals "SING" = some (some (.str "sing" tk_SING)))
  (v_UNDO : PySem.W.nsIn K mainGlobals "UNDO" = some (some (.str "undo" tk_UNDO)))
  (v_REDO : PySem.W.nsIn K mainGlobals "REDO" = some (some (.str "redo" tk_REDO)))
  (v_LENGTHS : PySem.W.nsIn K mainGlobals "LENGTHS" = some (some (.ref d_LENGTHS)))
  (kr_dw_LENGTHS : He.dicW K d_LENGTHS = some (He.keysIn wd.params ["enter", "leave", "sing", "undo", "redo"]))
  (kv_LENGTHS_0 : PySem.W.nsIn K d_LENGTHS "enter" = some (some (.int 2 tk_LENGTHS_0)))
  (kv_LENGTHS_1 : PySem.W.nsIn K d_LENGTHS "leave" = some (some (.int 2 tk_LENGTHS_1)))
  (kv_LENGTHS_2 : PySem.W.nsIn K d_LENGTHS "sing" = some (some (.int 2 tk_LENGTHS_2)))
  (kv_LENGTHS_3 : PySem.W.nsIn K d_LENGTHS "undo" = some (some (.int 1 tk_LENGTHS_3)))
  (kv_LENGTHS_4 : PySem.W.nsIn K d_LENGTHS "redo" = some (some (.int 1 tk_LENGTHS_4)))
  (a31 : PySem.W.nsIn K mainGlobals "is_operation" = some (some (.ref f_is_operation)))
  (l31 : K.lookup f_is_operation = some ⟨oc31, od31, .func (PySem.W.fnOf "is_operation" "is_operation" (defArgs s_is_operation) (defBody s_is_operation) (defScope s_is_operation) .none kV31 dc31 pm31 an31 cd31 ct31), sl31⟩)
  (c31 : PySem.W.codeIn K cd31 "is_operation" = true)
  (k31 : PySem.W.keepIn K (.ref f_is_operation) = true)
  (xChoir : PySem.W.nsIn K mainGlobals "Choir" = some (some (.ref C_Choir)))
  (xkChoir : PySem.W.keepIn K (.ref C_Choir) = true)
  (pgChoir : PySem.W.plainGet K C_Choir Str.empty = true)
  (hdChoir : PySem.W.hasDictIn K C_Choir = true)
  (poChoir : PySem.W.plainOver K C_Choir = true)
  (saChoir : PySem.W.findIn K (.ref C_Choir) "__setattr__" = some (some (.builtin "object.__setattr__")))
  (mkChoir : PySem.W.makesIn K C_Choir = true)
  (rdChoir : PySem.W.readsIn K C_Choir (.type "type") = true)
  (gaChoir : PySem.W.specialIn K (.ref C_Choir) "__getattribute__" = some (some (.builtin "type.__getattribute__")))
  (y1Choir : PySem.W.findIn K (.ref C_Choir) "__class__" = some (some (.builtin "object.__class__")))
  (y2Choir : PySem.W.specialIn K (.builtin "object.__class__") "__get__" = some (some (.builtin "getset_descriptor.__get__")))
  (y3Choir : PySem.W.takesIn K (.builtin "object.__class__") = some true)
  (y4Choir : PySem.W.mroIn K C_Choir (.type "object") = some true)
  (a32 : PySem.W.findIn K (.ref C_Choir) "__init__" = some (some (.ref f_Choir_init)))
  (i32 : PySem.W.isFn K (.ref f_Choir_init) = true)
  (l32 : K.lookup f_Choir_init = some ⟨oc32, od32, .func (PySem.W.fnOf "__init__" "Choir.__init__" (defArgs s_Choir_init) (defBody s_Choir_init) (defScope s_Choir_init) .none (.ref DD32) dc32 pm32 an32 cd32 ct32), sl32⟩)
  (c32 : PySem.W.codeIn K cd32 "Choir.__init__" = true)
  (k32 : PySem.W.keepIn K (.ref f_Choir_init) = true)
  (q32 : PySem.W.nsIn K DD32 "clashing" = some (some (.ref t_CLASHING)))
  (a33 : PySem.W.findIn K (.ref C_Choir) "record" = some (some (.ref f_Choir_record)))
  (i33 : PySem.W.isFn K (.ref f_Choir_record) = true)
  (l33 : K.lookup f_Choir_record = some ⟨oc33, od33, .func (PySem.W.fnOf "record" "Choir.record" (defArgs s_Choir_record) (defBody s_Choir_record) (defScope s_Choir_record) .none kV33 dc33 pm33 an33 cd33 ct33), sl33⟩)
  (c33 : PySem.W.codeIn K cd33 "Choir.record" = true)
  (k33 : PySem.W.keepIn K (.ref f_Choir_record) = true)
  (a34 : PySem.W.findIn K (.ref C_Choir) "enter" = some (some (.ref f_Choir_enter)))
  (i34 : PySem.W.isFn K (.ref f_Choir_enter) = true)
  (l34 : K.lookup f_Choir_enter = some ⟨oc34, od34, .func (PySem.W.fnOf "enter" "Choir.enter" (defArgs s_Choir_enter) (defBody s_Choir_enter) (defScope s_Choir_enter) .none kV34 dc34 pm34 an34 cd34 ct34), sl34⟩)
  (c34 : PySem.W.codeIn K cd34 "Choir.enter" = true)
  (k34 : PySem.W.keepIn K (.ref f_Choir_enter) = true)
  (a35 : PySem.W.findIn K (.ref C_Choir) "leave" = some (some (.ref f_Choir_leave)))
  (i35 : PySem.W.isFn K (.ref f_Choir_leave) = true)
  (l35 : K.lookup f_Choir_leave = some ⟨oc35, od35, .func (PySem.W.fnOf "leave" "Choir.leave" (defArgs s_Choir_leave) (defBody s_Choir_leave) (defScope s_Choir_leave) .none kV35 dc35 pm35 an35 cd35 ct35), sl35⟩)
  (c35 : PySem.W.codeIn K cd35 "Choir.leave" = true)
  (k35 : PySem.W.keepIn K (.ref f_Choir_leave) = true)
  (a36 : PySem.W.findIn K (.ref C_Choir) "sing" = some (some (.ref f_Choir_sing)))
  (i36 : PySem.W.isFn K (.ref f_Choir_sing) = true)
  (l36 : K.lookup f_Choir_sing = some ⟨oc36, od36, .func (PySem.W.fnOf "sing" "Choir.sing" (defArgs s_Choir_sing) (defBody s_Choir_sing) (defScope s_Choir_sing) .none kV36 dc36 pm36 an36 cd36 ct36), sl36⟩)
  (c36 : PySem.W.codeIn K cd36 "Choir.sing" = true)
  (k36 : PySem.W.keepIn K (.ref f_Choir_sing) = true)
  (a37 : PySem.W.findIn K (.ref C_Choir) "undo" = some (some (.ref f_Choir_undo)))
  (i37 : PySem.W.isFn K (.ref f_Choir_undo) = true)
  (l37 : K.lookup f_Choir_undo = some ⟨oc37, od37, .func (PySem.W.fnOf "undo" "Choir.undo" (defArgs s_Choir_undo) (defBody s_Choir_undo) (defScope s_Choir_undo) .none kV37 dc37 pm37 an37 cd37 ct37), sl37⟩)
  (c37 : PySem.W.codeIn K cd37 "Choir.undo" = true)
  (k37 : PySem.W.keepIn K (.ref f_Choir_undo) = true)
  (a38 : PySem.W.findIn K (.ref C_Choir) "redo" = some (some (.ref f_Choir_redo)))
  (i38 : PySem.W.isFn K (.ref f_Choir_redo) = true)
  (l38 : K.lookup f_Choir_redo = some ⟨oc38, od38, .func (PySem.W.fnOf "redo" "Choir.redo" (defArgs s_Choir_redo) (defBody s_Choir_redo) (defScope s_Choir_redo) .none kV38 dc38 pm38 an38 cd38 ct38), sl38⟩)
  (c38 : PySem.W.codeIn K cd38 "Choir.redo" = true)
  (k38 : PySem.W.keepIn K (.ref f_Choir_redo) = true)
  (a39 : PySem.W.findIn K (.ref C_Choir) "passed" = some (some (.ref p_Choir_passed)))
  (g39 : PySem.W.specialIn K (.ref p_Choir_passed) "__get__" = some (some (.builtin "property.__get__")))
  (t39 : PySem.W.takesIn K (.ref p_Choir_passed) = some true)
  (r39 : PySem.W.recIn K p_Choir_passed "property" = some (.ref f_Choir_passed :: rs39))
  (l39 : K.lookup f_Choir_passed = some ⟨oc39, od39, .func (PySem.W.fnOf "passed" "Choir.passed" (defArgs s_Choir_passed) (defBody s_Choir_passed) (defScope s_Choir_passed) .none kV39 dc39 pm39 an39 cd39 ct39), sl39⟩)
  (c39 : PySem.W.codeIn K cd39 "Choir.passed" = true)
  (k39 : PySem.W.keepIn K (.ref f_Choir_passed) = true)
  (a40 : PySem.W.findIn K (.ref C_Choir) "singers" = some (some (.ref p_Choir_singers)))
  (g40 : PySem.W.specialIn K (.ref p_Choir_singers) "__get__" = some (some (.builtin "property.__get__")))
  (t40 : PySem.W.takesIn K (.ref p_Choir_singers) = some true)
  (r40 : PySem.W.recIn K p_Choir_singers "property" = some (.ref f_Choir_singers :: rs40))
  (l40 : K.lookup f_Choir_singers = some ⟨oc40, od40, .func (PySem.W.fnOf "singers" "Choir.singers" (defArgs s_Choir_singers) (defBody s_Choir_singers) (defScope s_Choir_singers) .none kV40 dc40 pm40 an40 cd40 ct40), sl40⟩)
  (c40 : PySem.W.codeIn K cd40 "Choir.singers" = true)
  (k40 : PySem.W.keepIn K (.ref f_Choir_singers) = true)
  (a41 : PySem.W.findIn K (.ref C_Choir) "clash_count" = some (some (.ref p_Choir_clash_count)))
  (g41 : PySem.W.specialIn K (.ref p_Choir_clash_count) "__get__" = some (some (.builtin "property.__get__")))
  (t41 : PySem.W.takesIn K (.ref p_Choir_clash_count) = some true)
  (r41 : PySem.W.recIn K p_Choir_clash_count "property" = some (.ref f_Choir_clash_count :: rs41))
  (l41 : K.lookup f_Choir_clash_count = some ⟨oc41, od41, .func (PySem.W.fnOf "clash_count" "Choir.clash_count" (defArgs s_Choir_clash_count) (defBody s_Choir_clash_count) (defScope s_Choir_clash_count) .none kV41 dc41 pm41 an41 cd41 ct41), sl41⟩)
  (c41 : PySem.W.codeIn K cd41 "Choir.clash_count" = true)
  (k41 : PySem.W.keepIn K (.ref f_Choir_clash_count) = true)
  (a42 : PySem.W.findIn K (.ref C_Choir) "operations" = some (some (.ref p_Choir_operations)))
  (g42 : PySem.W.specialIn K (.ref p_Choir_operations) "__get__" = some (some (.builtin "property.__get__")))
  (t42 : PySem.W.takesIn K (.ref p_Choir_operations) = some true)
  (r42 : PySem.W.recIn K p_Choir_operations "property" = some (.ref f_Choir_operations :: rs42))
  (l42 : K.lookup f_Choir_operations = some ⟨oc42, od42, .func (PySem.W.fnOf "operations" "Choir.operations" (defArgs s_Choir_operations) (defBody s_Choir_operations) (defScope s_Choir_operations) .none kV42 dc42 pm42 an42 cd42 ct42), sl42⟩)
  (c42 : PySem.W.codeIn K cd42 "Choir.operations" = true)
  (k42 : PySem.W.keepIn K (.ref f_Choir_operations) = true)
  (a43 : PySem.W.findIn K (.ref C_Choir) "execute" = some (some (.ref f_Choir_execute)))
  (i43 : PySem.W.isFn K (.ref f_Choir_execute) = true)
  (l43 : K.lookup f_Choir_execute = some ⟨oc43, od43, .func (PySem.W.fnOf "execute" "Choir.execute" (defArgs s_Choir_execute) (defBody s_Choir_execute) (defScope s_Choir_execute) .none kV43 dc43 pm43 an43 cd43 ct43), sl43⟩)
  (c43 : PySem.W.codeIn K cd43 "Choir.execute" = true)
  (k43 : PySem.W.keepIn K (.ref f_Choir_execute) = true)
  (a44 : PySem.W.findIn K (.ref C_Choir) "batch" = some (some (.ref f_Choir_batch)))
  (i44 : PySem.W.isFn K (.ref f_Choir_batch) = true)
  (l44 : K.lookup f_Choir_batch = some ⟨oc44, od44, .func (PySem.W.fnOf "batch" "Choir.batch" (defArgs s_Choir_batch) (defBody s_Choir_batch) (defScope s_Choir_batch) .none kV44 dc44 pm44 an44 cd44 ct44), sl44⟩)
  (c44 : PySem.W.codeIn K cd44 "Choir.batch" = true)
  (k44 : PySem.W.keepIn K (.ref f_Choir_batch) = true)
  (n_Choir_melody : PySem.W.findIn K (.ref C_Choir) "melody" = some none)
  (n_Choir_clashing : PySem.W.findIn K (.ref C_Choir) "clashing" = some none)
  (n_Choir_now : PySem.W.findIn K (.ref C_Choir) "now" = some none)
  (n_Choir_past : PySem.W.findIn K (.ref C_Choir) "past" = some none)
  (n_Choir_undone : PySem.W.findIn K (.ref C_Choir) "undone" = some none)
  (n_Choir_saved : PySem.W.findIn K (.ref C_Choir) "saved" = some none)
  (a45 : PySem.W.nsIn K mainGlobals "_law_random" = some (some (.ref f_law_random)))
  (l45 : K.lookup f_law_random = some ⟨oc45, od45, .func (PySem.W.fnOf "_law_random" "_law_random" (defArgs s_law_random) (defBody s_law_random) (defScope s_law_random) .none kV45 dc45 pm45 an45 cd45 ct45), sl45⟩)
  (c45 : PySem.W.codeIn K cd45 "_law_random" = true)
  (k45 : PySem.W.keepIn K (.ref f_law_random) = true)
  (a46 : PySem.W.nsIn K mainGlobals "_law_below" = some (some (.ref f_law_below)))
  (l46 : K.lookup f_law_below = some ⟨oc46, od46, .func (PySem.W.fnOf "_law_below" "_law_below" (defArgs s_law_below) (defBody s_law_below) (defScope s_law_below) .none kV46 dc46 pm46 an46 cd46 ct46), sl46⟩)
  (c46 : PySem.W.codeIn K cd46 "_law_below" = true)
  (k46 : PySem.W.keepIn K (.ref f_law_below) = true)
  (a47 : PySem.W.nsIn K mainGlobals "_law_notes" = some (some (.ref f_law_notes)))
  (l47 : K.lookup f_law_notes = some ⟨oc47, od47, .func (PySem.W.fnOf "_law_notes" "_law_notes" (defArgs s_law_notes) (defBody s_law_notes) (defScope s_law_notes) .none kV47 dc47 pm47 an47 cd47 ct47), sl47⟩)
  (c47 : PySem.W.codeIn K cd47 "_law_notes" = true)
  (k47 : PySem.W.keepIn K (.ref f_law_notes) = true)
  (a48 : PySem.W.nsIn K mainGlobals "_law_new" = some (some (.ref f_law_new)))
  (l48 : K.lookup f_law_new = some ⟨oc48, od48, .func (PySem.W.fnOf "_law_new" "_law_new" (defArgs s_law_new) (defBody s_law_new) (defScope s_law_new) .none kV48 dc48 pm48 an48 cd48 ct48), sl48⟩)
  (c48 : PySem.W.codeIn K cd48 "_law_new" = true)
  (k48 : PySem.W.keepIn K (.ref f_law_new) = true)
  (a49 : PySem.W.nsIn K mainGlobals "_law_words" = some (some (.ref f_law_words)))
  (l49 : K.lookup f_law_words = some ⟨oc49, od49, .func (PySem.W.fnOf "_law_words" "_law_words" (defArgs s_law_words) (defBody s_law_words) (defScope s_law_words) .none kV49 dc49 pm49 an49 cd49 ct49), sl49⟩)
  (c49 : PySem.W.codeIn K cd49 "_law_words" = true)
  (k49 : PySem.W.keepIn K (.ref f_law_words) = true)
  (a50 : PySem.W.nsIn K mainGlobals "_law_melody" = some (some (.ref f_law_melody)))
  (l50 : K.lookup f_law_melody = some ⟨oc50, od50, .func (PySem.W.fnOf "_law_melody" "_law_melody" (defArgs s_law_melody) (defBody s_law_melody) (defScope s_law_melody) .none kV50 dc50 pm50 an50 cd50 ct50), sl50⟩)
  (c50 : PySem.W.codeIn K cd50 "_law_melody" = true)
  (k50 : PySem.W.keepIn K (.ref f_law_melody) = true)
  (a51 : PySem.W.nsIn K mainGlobals "_law_fits" = some (some (.ref f_law_fits)))
  (l51 : K.lookup f_law_fits = some ⟨oc51, od51, .func (PySem.W.fnOf "_law_fits" "_law_fits" (defArgs s_law_fits) (defBody s_law_fits) (defScope s_law_fits) .none kV51 dc51 pm51 an51 cd51 ct51), sl51⟩)
  (c51 : PySem.W.codeIn K cd51 "_law_fits" = true)
  (k51 : PySem.W.keepIn K (.ref f_law_fits) = true)
  (a52 : PySem.W.nsIn K mainGlobals "_law_shifted" = some (some (.ref f_law_shifted)))
  (l52 : K.lookup f_law_shifted = some ⟨oc52, od52, .func (PySem.W.fnOf "_law_shifted" "_law_shifted" (defArgs s_law_shifted) (defBody s_law_shifted) (defScope s_law_shifted) .none kV52 dc52 pm52 an52 cd52 ct52), sl52⟩)
  (c52 : PySem.W.codeIn K cd52 "_law_shifted" = true)
  (k52 : PySem.W.keepIn K (.ref f_law_shifted) = true)
  (a53 : PySem.W.nsIn K mainGlobals "_law_row" = some (some (.ref f_law_row)))
  (l53 : K.lookup f_law_row = some ⟨oc53, od53, .func (PySem.W.fnOf "_law_row" "_law_row" (defArgs s_law_row) (defBody s_law_row) (defScope s_law_row) .none kV53 dc53 pm53 an53 cd53 ct53), sl53⟩)
  (c53 : PySem.W.codeIn K cd53 "_law_row" = true)
  (k53 : PySem.W.keepIn K (.ref f_law_row) = true)
  (a54 : PySem.W.nsIn K mainGlobals "_law_sounds" = some (some (.ref f_law_sounds)))
  (l54 : K.lookup f_law_sounds = some ⟨oc54, od54, .func (PySem.W.fnOf "_law_sounds" "_law_sounds" (defArgs s_law_sounds) (defBody s_law_sounds) (defScope s_law_sounds) .none kV54 dc54 pm54 an54 cd54 ct54), sl54⟩)
  (c54 : PySem.W.codeIn K cd54 "_law_sounds" = true)
  (k54 : PySem.W.keepIn K (.ref f_law_sounds) = true)
  (a55 : PySem.W.nsIn K mainGlobals "_law_is_clash" = some (some (.ref f_law_is_clash)))
  (l55 : K.lookup f_law_is_clash = some ⟨oc55, od55, .func (PySem.W.fnOf "_law_is_clash" "_law_is_clash" (defArgs s_law_is_clash) (defBody s_law_is_clash) (defScope s_law_is_clash) .none kV55 dc55 pm55 an55 cd55 ct55), sl55⟩)
  (c55 : PySem.W.codeIn K cd55 "_law_is_clash" = true)
  (k55 : PySem.W.keepIn K (.ref f_law_is_clash) = true)
  (a56 : PySem.W.nsIn K mainGlobals "_law_pairs" = some (some (.ref f_law_pairs)))
  (l56 : K.lookup f_law_pairs = some ⟨oc56, od56, .func (PySem.W.fnOf "_law_pairs" "_law_pairs" (defArgs s_law_pairs) (defBody s_law_pairs) (defScope s_law_pairs) .none kV56 dc56 pm56 an56 cd56 ct56), sl56⟩)
  (c56 : PySem.W.codeIn K cd56 "_law_pairs" = true)
  (k56 : PySem.W.keepIn K (.ref f_law_pairs) = true)
  (a57 : PySem.W.nsIn K mainGlobals "_law_worked_on" = some (some (.ref f_law_worked_on)))
  (l57 : K.lookup f_law_worked_on = some ⟨oc57, od57, .func (PySem.W.fnOf "_law_worked_on" "_law_worked_on" (defArgs s_law_worked_on) (defBody s_law_worked_on) (defScope s_law_worked_on) .none kV57 dc57 pm57 an57 cd57 ct57), sl57⟩)
  (c57 : PySem.W.codeIn K cd57 "_law_worked_on" = true)
  (k57 : PySem.W.keepIn K (.ref f_law_worked_on) = true)
  (a58 : PySem.W.nsIn K mainGlobals "_law_worked" = some (some (.ref f_law_worked)))
  (l58 : K.lookup f_law_worked = some ⟨oc58, od58, .func (PySem.W.fnOf "_law_worked" "_law_worked" (defArgs s_law_worked) (defBody s_law_worked) (defScope s_law_worked) .none kV58 dc58 pm58 an58 cd58 ct58), sl58⟩)
  (c58 : PySem.W.codeIn K cd58 "_law_worked" = true)
  (k58 : PySem.W.keepIn K (.ref f_law_worked) = true)
  (a59 : PySem.W.nsIn K mainGlobals "_law_equal" = some (some (.ref f_law_equal)))
  (l59 : K.lookup f_law_equal = some ⟨oc59, od59, .func (PySem.W.fnOf "_law_equal" "_law_equal" (defArgs s_law_equal) (defBody s_law_equal) (defScope s_law_equal) .none kV59 dc59 pm59 an59 cd59 ct59), sl59⟩)
  (c59 : PySem.W.codeIn K cd59 "_law_equal" = true)
  (k59 : PySem.W.keepIn K (.ref f_law_equal) = true)
  (a60 : PySem.W.nsIn K mainGlobals "_law_operation" = some (some (.ref f_law_operation)))
  (l60 : K.lookup f_law_operation = some ⟨oc60, od60, .func (PySem.W.fnOf "_law_operation" "_law_operation" (defArgs s_law_operation) (defBody s_law_operation) (defScope s_law_operation) .none kV60 dc60 pm60 an60 cd60 ct60), sl60⟩)
  (c60 : PySem.W.codeIn K cd60 "_law_operation" = true)
  (k60 : PySem.W.keepIn K (.ref f_law_operation) = true)
  (a61 : PySem.W.nsIn K mainGlobals "_law_error_of" = some (some (.ref f_law_error_of)))
  (l61 : K.lookup f_law_error_of = some ⟨oc61, od61, .func (PySem.W.fnOf "_law_error_of" "_law_error_of" (defArgs s_law_error_of) (defBody s_law_error_of) (defScope s_law_error_of) .none kV61 dc61 pm61 an61 cd61 ct61), sl61⟩)
  (c61 : PySem.W.codeIn K cd61 "_law_error_of" = true)
  (k61 : PySem.W.keepIn K (.ref f_law_error_of) = true)
  (a62 : PySem.W.nsIn K mainGlobals "_law_stands" = some (some (.ref f_law_stands)))
  (l62 : K.lookup f_law_stands = some ⟨oc62, od62, .func (PySem.W.fnOf "_law_stands" "_law_stands" (defArgs s_law_stands) (defBody s_law_stands) (defScope s_law_stands) .none kV62 dc62 pm62 an62 cd62 ct62), sl62⟩)
  (c62 : PySem.W.codeIn K cd62 "_law_stands" = true)
  (k62 : PySem.W.keepIn K (.ref f_law_stands) = true)
  (a63 : PySem.W.nsIn K mainGlobals "law" = some (some (.ref f_law)))
  (l63 : K.lookup f_law = some ⟨oc63, od63, .func (PySem.W.fnOf "law" "law" (defArgs s_law) (defBody s_law) (defScope s_law) .none kV63 dc63 pm63 an63 (.ref cA_law) ct63), sl63⟩)
  (c63 : PySem.W.codeIn K (.ref cA_law) "law" = true)
  (k63 : PySem.W.keepIn K (.ref f_law) = true)
  (lc_law : K.lookup cA_law = some ⟨ec_law, ecd_law, .fields vc_law, esl_law⟩)
  (rf_pa_law : vc_law[11]? = some (.ref PA_law))
  (kr_hd_law : PySem.W.codeHdIn K cA_law PA_law = true)
  (kr_no_law : K.lookup PA_law = none)
  (b_abs : PySem.W.nsIn K mainGlobals "abs" = some none)
  (b_all : PySem.W.nsIn K mainGlobals "all" = some none)
  (b_any : PySem.W.nsIn K mainGlobals "any" = some none)
  (b_bool : PySem.W.nsIn K mainGlobals "bool" = some none)
  (b_enumerate : PySem.W.nsIn K mainGlobals "enumerate" = some none)
  (b_int : PySem.W.nsIn K mainGlobals "int" = some none)
  (b_isinstance : PySem.W.nsIn K mainGlobals "isinstance" = some none)
  (b_len : PySem.W.nsIn K mainGlobals "len" = some none)
  (b_list : PySem.W.nsIn K mainGlobals "list" = some none)
  (b_range : PySem.W.nsIn K mainGlobals "range" = some none)
  (b_sorted : PySem.W.nsIn K mainGlobals "sorted" = some none)
  (b_str : PySem.W.nsIn K mainGlobals "str" = some none)
  (b_tuple : PySem.W.nsIn K mainGlobals "tuple" = some none)
  (kr_errt : errTab K [C_InvalidMelody, C_InvalidRound, C_OutOfRange, C_InvalidNumber, C_TooLong, C_TextFault, C_InvalidCode, C_Contradiction, C_UnknownVoice, C_TooManyVoices, C_InvalidName, C_UnknownName, C_InvalidOperation] = true)
  (kr_errc : errCls K [C_InvalidMelody, C_InvalidRound, C_OutOfRange, C_InvalidNumber, C_TooLong, C_TextFault, C_InvalidCode, C_Contradiction, C_UnknownVoice, C_TooManyVoices, C_InvalidName, C_UnknownName, C_InvalidOperation] C_CanonError = true)
  (eg2 : PySem.W.specialIn K (.builtin "object.__class__") "__get__" = some (some (.builtin "getset_descriptor.__get__")))
  (eg3 : PySem.W.takesIn K (.builtin "object.__class__") = some true)
  (b_ValueError : PySem.W.nsIn K mainGlobals "ValueError" = some none)
  : Txt K mg ⟨C_CanonError, C_InvalidMelody, f_InvalidMelody_init, C_InvalidRound, f_InvalidRound_init, C_OutOfRange, C_InvalidNumber, C_TooLong, C_TextFault, f_TextFault_init, C_InvalidCode, f_InvalidCode_init, C_Contradiction, C_UnknownVoice, C_TooManyVoices, C_InvalidName, C_UnknownName, C_InvalidOperation, f_InvalidOperation_init, f_is_int_in, f_is_note, C_Melody, f_Melody_init, f_Melody_parse, p_Melody_parse, f_Melody_notes, p_Melody_notes, f_Melody_text, p_Melody_text, f_Melody_pitches, p_Melody_pitches, f_Melody_sound, f_Melody_call, f_Melody_len, f_Melody_eq, f_Melody_bool, f_Melody_contains, f_Melody_getitem, f_Melody_iter, f_Melody_add, f_Melody_mul, f_Melody_rshift, f_Melody_invert, f_Melody_neg, f_melody_of, f_is_number, t_CLASHING, f_check_clashing, f_do_clash, f_check_shift, d_LENGTHS, f_is_operation, C_Choir, f_Choir_init, f_Choir_record, f_Choir_enter, f_Choir_leave, f_Choir_sing, f_Choir_undo, f_Choir_redo, f_Choir_passed, p_Choir_passed, f_Choir_singers, p_Choir_singers, f_Choir_clash_count, p_Choir_clash_count, f_Choir_operations, p_Choir_operations, f_Choir_execute, f_Choir_batch, f_law_random, f_law_below, f_law_notes, f_law_new, f_law_words, f_law_melody, f_law_fits, f_law_shifted, f_law_row, f_law_sounds, f_law_is_clash, f_law_pairs, f_law_worked_on, f_law_worked, f_law_equal, f_law_operation, f_law_error_of, f_law_stands, f_law, cA_law, PA_law, wd⟩ := by
  have ct_CLASHING : CTup K t_CLASHING [1, 2, 6, 10, 11] := ⟨_, _, _, _, l_CLASHING, .cons ⟨_, rfl⟩ (.cons ⟨_, rfl⟩ (.cons ⟨_, rfl⟩ (.cons ⟨_, rfl⟩ (.cons ⟨_, rfl⟩ (.nil))))), by decide⟩
  exact {
    CanonError := ⟨PySem.W.mg_of X G xCanonError, ⟨rdCanonError, gaCanonError⟩, atCanonError⟩
    InvalidMelody_init := ⟨⟨a1, i1, k1⟩, _, fun_mk (st := s_InvalidMelody_init) l1 c1 k1, (fun_mk (st := s_InvalidMelody_init) l1 c1 k1).binds (ps := ["self", "index"]) fun _ _ _ _ _ _ us hl => match us, hl with | [_, _], _ => rfl⟩
    InvalidMelody := ⟨PySem.W.mg_of X G xInvalidMelody, xkInvalidMelody, kr_oxInvalidMelody, saInvalidMelody, esInvalidMelody, etInvalidMelody, a1, tfInvalidMelody⟩
    n_InvalidMelody_index := n_InvalidMelody_index
    InvalidRound_init := ⟨⟨a2, i2, k2⟩, _, fun_mk (st := s_InvalidRound_init) l2 c2 k2, (fun_mk (st := s_InvalidRound_init) l2 c2 k2).binds (ps := ["self", "part", "index"]) fun _ _ _ _ _ _ us hl => match us, hl with | [_, _, _], _ => rfl⟩
    InvalidRound := ⟨PySem.W.mg_of X G xInvalidRound, xkInvalidRound, kr_oxInvalidRound, saInvalidRound, esInvalidRound, etInvalidRound, a2, tfInvalidRound⟩
    n_InvalidRound_part := n_InvalidRound_part
    n_InvalidRound_index := n_InvalidRound_index
    OutOfRange := ⟨PySem.W.mg_of X G xOutOfRange, xkOutOfRange, kr_emOutOfRange, esOutOfRange, etOutOfRange⟩
    InvalidNumber := ⟨PySem.W.mg_of X G xInvalidNumber, xkInvalidNumber, kr_emInvalidNumber, esInvalidNumber, etInvalidNumber⟩
    TooLong := ⟨PySem.W.mg_of X G xTooLong, xkTooLong, kr_emTooLong, esTooLong, etTooLong⟩
    TextFault_init := ⟨⟨a3, i3, k3⟩, _, fun_mk (st := s_TextFault_init) l3 c3 k3, (fun_mk (st := s_TextFault_init) l3 c3 k3).binds (ps := ["self", "word"]) fun _ _ _ _ _ _ us hl => match us, hl with | [_, _], _ => rfl⟩
    TextFault := ⟨PySem.W.mg_of X G xTextFault, xkTextFault, kr_oxTextFault, saTextFault, esTextFault, etTextFault, a3, tfTextFault⟩
    n_TextFault_word := n_TextFault_word
    InvalidCode_init := ⟨⟨a4, i4, k4⟩, _, fun_mk (st := s_InvalidCode_init) l4 c4 k4, (fun_mk (st := s_InvalidCode_init) l4 c4 k4).binds (ps := ["self", "place"]) fun _ _ _ _ _ _ us hl => match us, hl with | [_, _], _ => rfl⟩
    InvalidCode := ⟨PySem.W.mg_of X G xInvalidCode, xkInvalidCode, kr_oxInvalidCode, saInvalidCode, esInvalidCode, etInvalidCode, a4, tfInvalidCode⟩
    n_InvalidCode_place := n_InvalidCode_place
    Contradiction := ⟨PySem.W.mg_of X G xContradiction, xkContradiction, kr_emContradiction, esContradiction, etContradiction⟩
    UnknownVoice := ⟨PySem.W.mg_of X G xUnknownVoice, xkUnknownVoice, kr_emUnknownVoice, esUnknownVoice, etUnknownVoice⟩
    TooManyVoices := ⟨PySem.W.mg_of X G xTooManyVoices, xkTooManyVoices, kr_emTooManyVoices, esTooManyVoices, etTooManyVoices⟩
    InvalidName := ⟨PySem.W.mg_of X G xInvalidName, xkInvalidName, kr_emInvalidName, esInvalidName, etInvalidName⟩
    UnknownName := ⟨PySem.W.mg_of X G xUnknownName, xkUnknownName, kr_emUnknownName, esUnknownName, etUnknownName⟩
    InvalidOperation_init := ⟨⟨a5, i5, k5⟩, _, fun_mk (st := s_InvalidOperation_init) l5 c5 k5, (fun_mk (st := s_InvalidOperation_init) l5 c5 k5).binds (ps := ["self", "place"]) fun _ _ _ _ _ _ us hl => match us, hl with | [_, _], _ => rfl⟩
    InvalidOperation := ⟨PySem.W.mg_of X G xInvalidOperation, xkInvalidOperation, kr_oxInvalidOperation, saInvalidOperation, esInvalidOperation, etInvalidOperation, a5, tfInvalidOperation⟩
    n_InvalidOperation_place := n_InvalidOperation_place
    v_MAX_NUMBER := ⟨_, PySem.W.mg_of X G v_MAX_NUMBER⟩
    v_DIGITS := ⟨_, PySem.W.mg_of X G v_DIGITS⟩
    v_REST := ⟨_, PySem.W.mg_of X G v_REST⟩
    is_int_in := ⟨PySem.W.mg_of X G a6, k6, _, fun_mk (st := s_is_int_in) l6 c6 k6, (fun_mk (st := s_is_int_in) l6 c6 k6).binds (ps := ["value", "low", "high"]) fun _ _ _ _ _ _ us hl => match us, hl with | [_, _, _], _ => rfl⟩
    is_note := ⟨PySem.W.mg_of X G a7, k7, _, fun_mk (st := s_is_note) l7 c7 k7, (fun_mk (st := s_is_note) l7 c7 k7).binds (ps := ["value"]) fun _ _ _ _ _ _ us hl => match us, hl with | [_], _ => rfl⟩
    Melody := ⟨PySem.W.mg_of X G xMelody, xkMelody, ⟨pgMelody, hdMelody, poMelody, saMelody⟩, mkMelody, ⟨rdMelody, gaMelody⟩, y1Melody, y2Melody, y3Melody, y4Melody⟩
    v_Melody_MAX_NOTES := ⟨_, v_Melody_MAX_NOTES, ⟨_, rfl⟩⟩
    v_Melody_MAX_BEATS := ⟨_, v_Melody_MAX_BEATS, ⟨_, rfl⟩⟩
    v_Melody_MAX_PITCH := ⟨_, v_Melody_MAX_PITCH, ⟨_, rfl⟩⟩
    Melody_init := ⟨⟨a8, i8, k8⟩, _, fun_mk (st := s_Melody_init) l8 c8 k8, fun us rest hl => match us, hl with | [_], _ => by cases rest <;> rfl⟩
    Melody_parse := ⟨⟨a9, ⟨_, r9⟩, n9⟩, _, fun_mk (st := s_Melody_parse) l9 c9 k9, (fun_mk (st := s_Melody_parse) l9 c9 k9).binds (ps := ["cls", "text"]) fun _ _ _ _ _ _ us hl => match us, hl with | [_, _], _ => rfl⟩
    Melody_notes := ⟨⟨a10, g10, t10, _, r10⟩, _, fun_mk (st := s_Melody_notes) l10 c10 k10, (fun_mk (st := s_Melody_notes) l10 c10 k10).binds (ps := ["self"]) fun _ _ _ _ _ _ us hl => match us, hl with | [_], _ => rfl⟩
    Melody_text := ⟨⟨a11, g11, t11, _, r11⟩, _, fun_mk (st := s_Melody_text) l11 c11 k11, (fun_mk (st := s_Melody_text) l11 c11 k11).binds (ps := ["self"]) fun _ _ _ _ _ _ us hl => match us, hl with | [_], _ => rfl⟩
    Melody_pitches := ⟨⟨a12, g12, t12, _, r12⟩, _, fun_mk (st := s_Melody_pitches) l12 c12 k12, (fun_mk (st := s_Melody_pitches) l12 c12 k12).binds (ps := ["self"]) fun _ _ _ _ _ _ us hl => match us, hl with | [_], _ => rfl⟩
    Melody_sound := ⟨⟨a13, i13, k13⟩, _, fun_mk (st := s_Melody_sound) l13 c13 k13, (fun_mk (st := s_Melody_sound) l13 c13 k13).binds (ps := ["self", "beat"]) fun _ _ _ _ _ _ us hl => match us, hl with | [_, _], _ => rfl⟩
    Melody_call := ⟨⟨a14, i14, k14⟩, _, fun_mk (st := s_Melody_call) l14 c14 k14, (fun_mk (st := s_Melody_call) l14 c14 k14).binds (ps := ["self", "beat"]) fun _ _ _ _ _ _ us hl => match us, hl with | [_, _], _ => rfl⟩
    Melody_len := ⟨⟨a15, i15, k15⟩, _, fun_mk (st := s_Melody_len) l15 c15 k15, (fun_mk (st := s_Melody_len) l15 c15 k15).binds (ps := ["self"]) fun _ _ _ _ _ _ us hl => match us, hl with | [_], _ => rfl⟩
    Melody_eq := ⟨⟨a16, i16, k16⟩, _, fun_mk (st := s_Melody_eq) l16 c16 k16, (fun_mk (st := s_Melody_eq) l16 c16 k16).binds (ps := ["self", "other"]) fun _ _ _ _ _ _ us hl => match us, hl with | [_, _], _ => rfl⟩
    Melody_bool := ⟨⟨a17, i17, k17⟩, _, fun_mk (st := s_Melody_bool) l17 c17 k17, (fun_mk (st := s_Melody_bool) l17 c17 k17).binds (ps := ["self"]) fun _ _ _ _ _ _ us hl => match us, hl with | [_], _ => rfl⟩
    Melody_contains := ⟨⟨a18, i18, k18⟩, _, fun_mk (st := s_Melody_contains) l18 c18 k18, (fun_mk (st := s_Melody_contains) l18 c18 k18).binds (ps := ["self", "pitch"]) fun _ _ _ _ _ _ us hl => match us, hl with | [_, _], _ => rfl⟩
    Melody_getitem := ⟨⟨a19, i19, k19⟩, _, fun_mk (st := s_Melody_getitem) l19 c19 k19, (fun_mk (st := s_Melody_getitem) l19 c19 k19).binds (ps := ["self", "number"]) fun _ _ _ _ _ _ us hl => match us, hl with | [_, _], _ => rfl⟩
    Melody_iter := ⟨⟨a20, i20, k20⟩, _, fun_mk (st := s_Melody_iter) l20 c20 k20, (fun_mk (st := s_Melody_iter) l20 c20 k20).binds (ps := ["self"]) fun _ _ _ _ _ _ us hl => match us, hl with | [_], _ => rfl⟩
    Melody_add := ⟨⟨a21, i21, k21⟩, _, fun_mk (st := s_Melody_add) l21 c21 k21, (fun_mk (st := s_Melody_add) l21 c21 k21).binds (ps := ["self", "other"]) fun _ _ _ _ _ _ us hl => match us, hl with | [_, _], _ => rfl⟩
    Melody_mul := ⟨⟨a22, i22, k22⟩, _, fun_mk (st := s_Melody_mul) l22 c22 k22, (fun_mk (st := s_Melody_mul) l22 c22 k22).binds (ps := ["self", "times"]) fun _ _ _ _ _ _ us hl => match us, hl with | [_, _], _ => rfl⟩
    Melody_rshift := ⟨⟨a23, i23, k23⟩, _, fun_mk (st := s_Melody_rshift) l23 c23 k23, (fun_mk (st := s_Melody_rshift) l23 c23 k23).binds (ps := ["self", "steps"]) fun _ _ _ _ _ _ us hl => match us, hl with | [_, _], _ => rfl⟩
    Melody_invert := ⟨⟨a24, i24, k24⟩, _, fun_mk (st := s_Melody_invert) l24 c24 k24, (fun_mk (st := s_Melody_invert) l24 c24 k24).binds (ps := ["self"]) fun _ _ _ _ _ _ us hl => match us, hl with | [_], _ => rfl⟩
    Melody_neg := ⟨⟨a25, i25, k25⟩, _, fun_mk (st := s_Melody_neg) l25 c25 k25, (fun_mk (st := s_Melody_neg) l25 c25 k25).binds (ps := ["self"]) fun _ _ _ _ _ _ us hl => match us, hl with | [_], _ => rfl⟩
    fi_Melody_call := fi_Melody_call
    fi_Melody_getitem := fi_Melody_getitem
    ne_Melody := ne_Melody
    sf_Melody := sfMelody
    sb_Melody_int := sb_Melody_int
    sb_Melody_bool := sb_Melody_bool
    sb_Melody_str := sb_Melody_str
    sb_Melody_NoneType := sb_Melody_NoneType
    sb_Melody_tuple := sb_Melody_tuple
    sb_Melody_list := sb_Melody_list
    o_Melody_rshift := ⟨sfMelody, a23, i23, rr_Melody_rshift⟩
    o_Melody_mul := ⟨sfMelody, a22, i22, rr_Melody_mul⟩
    n_Melody_given := n_Melody_given
    n_Melody_row := n_Melody_row
    melody_of := ⟨PySem.W.mg_of X G a26, k26, _, fun_mk (st := s_melody_of) l26 c26 k26, (fun_mk (st := s_melody_of) l26 c26 k26).binds (ps := ["notes"]) fun _ _ _ _ _ _ us hl => match us, hl with | [_], _ => rfl⟩
    is_number := ⟨PySem.W.mg_of X G a27, k27, _, fun_mk (st := s_is_number) l27 c27 k27, (fun_mk (st := s_is_number) l27 c27 k27).binds (ps := ["word", "most"]) fun _ _ _ _ _ _ us hl => match us, hl with | [_, _], _ => rfl⟩
    v_MAX_SHIFT := ⟨_, PySem.W.mg_of X G v_MAX_SHIFT⟩
    v_MAX_VOICES := ⟨_, PySem.W.mg_of X G v_MAX_VOICES⟩
    v_CLASHING := PySem.W.mg_of X G v_CLASHING
    ct_CLASHING := ct_CLASHING
    check_clashing := ⟨PySem.W.mg_of X G a28, k28, _, fun_mk (st := s_check_clashing) l28 c28 k28, (fun_mk (st := s_check_clashing) l28 c28 k28).binds (ps := ["clashing"]) fun _ _ _ _ _ _ us hl => match us, hl with | [_], _ => rfl⟩
    do_clash := ⟨PySem.W.mg_of X G a29, k29, _, fun_mk (st := s_do_clash) l29 c29 k29, (fun_mk (st := s_do_clash) l29 c29 k29).binds (ps := ["one", "other", "clashing"]) fun _ _ _ _ _ _ us hl => match us, hl with | [_, _, _], _ => rfl⟩
    check_shift := ⟨PySem.W.mg_of X G a30, k30, _, fun_mk (st := s_check_shift) l30 c30 k30, (fun_mk (st := s_check_shift) l30 c30 k30).binds (ps := ["shift"]) fun _ _ _ _ _ _ us hl => match us, hl with | [_], _ => rfl⟩
    v_MAX_BEATS := ⟨_, PySem.W.mg_of X G v_MAX_BEATS⟩
    v_ENTER := ⟨_, PySem.W.mg_of X G v_ENTER⟩
    v_LEAVE := ⟨_, PySem.W.mg_of X G v_LEAVE⟩
    v_SING := ⟨_, PySem.W.mg_of X G v_SING⟩
    v_UNDO := ⟨_, PySem.W.mg_of X G v_UNDO⟩
    v_REDO := ⟨_, PySem.W.mg_of X G v_REDO⟩
    v_LENGTHS := PySem.W.mg_of X G v_LENGTHS
    kd_LENGTHS := He.dicW_ok kr_dw_LENGTHS
    kv_LENGTHS_enter := ⟨_, kv_LENGTHS_0⟩
    kv_LENGTHS_leave := ⟨_, kv_LENGTHS_1⟩
    kv_LENGTHS_sing := ⟨_, kv_LENGTHS_2⟩
    kv_LENGTHS_undo := ⟨_, kv_LENGTHS_3⟩
    kv_LENGTHS_redo := ⟨_, kv_LENGTHS_4⟩
    is_operation := ⟨PySem.W.mg_of X G a31, k31, _, fun_mk (st := s_is_operation) l31 c31 k31, (fun_mk (st := s_is_operation) l31 c31 k31).binds (ps := ["value"]) fun _ _ _ _ _ _ us hl => match us, hl with | [_], _ => rfl⟩
    Choir := ⟨PySem.W.mg_of X G xChoir, xkChoir, ⟨pgChoir, hdChoir, poChoir, saChoir⟩, mkChoir, ⟨rdChoir, gaChoir⟩, y1Choir, y2Choir, y3Choir, y4Choir⟩
    Choir_init := ⟨⟨a32, i32, k32⟩, _, _, _, _, _, _, .ref t_CLASHING, _, _, _, _, l32, c32, q32, rfl, ct_CLASHING.rep, (fun us z hl => match us, hl with | [_, _], _ => rfl), (fun us hl => match us, hl with | [_, _], _ => ⟨_, _, _, _, _, _, rfl, rfl, rfl⟩)⟩
    Choir_record := ⟨⟨a33, i33, k33⟩, _, fun_mk (st := s_Choir_record) l33 c33 k33, (fun_mk (st := s_Choir_record) l33 c33 k33).binds (ps := ["self", "word", "now"]) fun _ _ _ _ _ _ us hl => match us, hl with | [_, _, _], _ => rfl⟩
    Choir_enter := ⟨⟨a34, i34, k34⟩, _, fun_mk (st := s_Choir_enter) l34 c34 k34, (fun_mk (st := s_Choir_enter) l34 c34 k34).binds (ps := ["self", "shift"]) fun _ _ _ _ _ _ us hl => match us, hl with | [_, _], _ => rfl⟩
    Choir_leave := ⟨⟨a35, i35, k35⟩, _, fun_mk (st := s_Choir_leave) l35 c35 k35, (fun_mk (st := s_Choir_leave) l35 c35 k35).binds (ps := ["self", "number"]) fun _ _ _ _ _ _ us hl => match us, hl with | [_, _], _ => rfl⟩
    Choir_sing := ⟨⟨a36, i36, k36⟩, _, fun_mk (st := s_Choir_sing) l36 c36 k36, (fun_mk (st := s_Choir_sing) l36 c36 k36).binds (ps := ["self", "beats"]) fun _ _ _ _ _ _ us hl => match us, hl with | [_, _], _ => rfl⟩
    Choir_undo := ⟨⟨a37, i37, k37⟩, _, fun_mk (st := s_Choir_undo) l37 c37 k37, (fun_mk (st := s_Choir_undo) l37 c37 k37).binds (ps := ["self"]) fun _ _ _ _ _ _ us hl => match us, hl with | [_], _ => rfl⟩
    Choir_redo := ⟨⟨a38, i38, k38⟩, _, fun_mk (st := s_Choir_redo) l38 c38 k38, (fun_mk (st := s_Choir_redo) l38 c38 k38).binds (ps := ["self"]) fun _ _ _ _ _ _ us hl => match us, hl with | [_], _ => rfl⟩
    Choir_passed := ⟨⟨a39, g39, t39, _, r39⟩, _, fun_mk (st := s_Choir_passed) l39 c39 k39, (fun_mk (st := s_Choir_passed) l39 c39 k39).binds (ps := ["self"]) fun _ _ _ _ _ _ us hl => match us, hl with | [_], _ => rfl⟩
    Choir_singers := ⟨⟨a40, g40, t40, _, r40⟩, _, fun_mk (st := s_Choir_singers) l40 c40 k40, (fun_mk (st := s_Choir_singers) l40 c40 k40).binds (ps := ["self"]) fun _ _ _ _ _ _ us hl => match us, hl with | [_], _ => rfl⟩
    Choir_clash_count := ⟨⟨a41, g41, t41, _, r41⟩, _, fun_mk (st := s_Choir_clash_count) l41 c41 k41, (fun_mk (st := s_Choir_clash_count) l41 c41 k41).binds (ps := ["self"]) fun _ _ _ _ _ _ us hl => match us, hl with | [_], _ => rfl⟩
    Choir_operations := ⟨⟨a42, g42, t42, _, r42⟩, _, fun_mk (st := s_Choir_operations) l42 c42 k42, (fun_mk (st := s_Choir_operations) l42 c42 k42).binds (ps := ["self"]) fun _ _ _ _ _ _ us hl => match us, hl with | [_], _ => rfl⟩
    Choir_execute := ⟨⟨a43, i43, k43⟩, _, fun_mk (st := s_Choir_execute) l43 c43 k43, (fun_mk (st := s_Choir_execute) l43 c43 k43).binds (ps := ["self", "operation"]) fun _ _ _ _ _ _ us hl => match us, hl with | [_, _], _ => rfl⟩
    Choir_batch := ⟨⟨a44, i44, k44⟩, _, fun_mk (st := s_Choir_batch) l44 c44 k44, (fun_mk (st := s_Choir_batch) l44 c44 k44).binds (ps := ["self", "operations"]) fun _ _ _ _ _ _ us hl => match us, hl with | [_, _], _ => rfl⟩
    n_Choir_melody := n_Choir_melody
    n_Choir_clashing := n_Choir_clashing
    n_Choir_now := n_Choir_now
    n_Choir_past := n_Choir_past
    n_Choir_undone := n_Choir_undone
    n_Choir_saved := n_Choir_saved
    law_random := ⟨PySem.W.mg_of X G a45, k45, _, fun_mk (st := s_law_random) l45 c45 k45, (fun_mk (st := s_law_random) l45 c45 k45).binds (ps := ["_law_script", "_law_salt"]) fun _ _ _ _ _ _ us hl => match us, hl with | [_, _], _ => rfl⟩
    law_below := ⟨PySem.W.mg_of X G a46, k46, _, fun_mk (st := s_law_below) l46 c46 k46, (fun_mk (st := s_law_below) l46 c46 k46).binds (ps := ["_law_d", "_law_limit"]) fun _ _ _ _ _ _ us hl => match us, hl with | [_, _], _ => rfl⟩
    law_notes := ⟨PySem.W.mg_of X G a47, k47, _, fun_mk (st := s_law_notes) l47 c47 k47, (fun_mk (st := s_law_notes) l47 c47 k47).binds (ps := ["_law_d", "_law_most"]) fun _ _ _ _ _ _ us hl => match us, hl with | [_, _], _ => rfl⟩
    law_new := ⟨PySem.W.mg_of X G a48, k48, _, fun_mk (st := s_law_new) l48 c48 k48, (fun_mk (st := s_law_new) l48 c48 k48).binds (ps := ["_law_d"]) fun _ _ _ _ _ _ us hl => match us, hl with | [_], _ => rfl⟩
    law_words := ⟨PySem.W.mg_of X G a49, k49, _, fun_mk (st := s_law_words) l49 c49 k49, (fun_mk (st := s_law_words) l49 c49 k49).binds (ps := ["_law_notes_here"]) fun _ _ _ _ _ _ us hl => match us, hl with | [_], _ => rfl⟩
    law_melody := ⟨PySem.W.mg_of X G a50, k50, _, fun_mk (st := s_law_melody) l50 c50 k50, (fun_mk (st := s_law_melody) l50 c50 k50).binds (ps := ["_law_notes_here"]) fun _ _ _ _ _ _ us hl => match us, hl with | [_], _ => rfl⟩
    law_fits := ⟨PySem.W.mg_of X G a51, k51, _, fun_mk (st := s_law_fits) l51 c51 k51, (fun_mk (st := s_law_fits) l51 c51 k51).binds (ps := ["_law_notes_here"]) fun _ _ _ _ _ _ us hl => match us, hl with | [_], _ => rfl⟩
    law_shifted := ⟨PySem.W.mg_of X G a52, k52, _, fun_mk (st := s_law_shifted) l52 c52 k52, (fun_mk (st := s_law_shifted) l52 c52 k52).binds (ps := ["_law_notes_here", "_law_steps"]) fun _ _ _ _ _ _ us hl => match us, hl with | [_, _], _ => rfl⟩
    law_row := ⟨PySem.W.mg_of X G a53, k53, _, fun_mk (st := s_law_row) l53 c53 k53, (fun_mk (st := s_law_row) l53 c53 k53).binds (ps := ["_law_notes_here"]) fun _ _ _ _ _ _ us hl => match us, hl with | [_], _ => rfl⟩
    law_sounds := ⟨PySem.W.mg_of X G a54, k54, _, fun_mk (st := s_law_sounds) l54 c54 k54, (fun_mk (st := s_law_sounds) l54 c54 k54).binds (ps := ["_law_notes_here", "_law_voices", "_law_beat"]) fun _ _ _ _ _ _ us hl => match us, hl with | [_, _, _], _ => rfl⟩
    law_is_clash := ⟨PySem.W.mg_of X G a55, k55, _, fun_mk (st := s_law_is_clash) l55 c55 k55, (fun_mk (st := s_law_is_clash) l55 c55 k55).binds (ps := ["_law_one", "_law_other", "_law_sharp"]) fun _ _ _ _ _ _ us hl => match us, hl with | [_, _, _], _ => rfl⟩
    law_pairs := ⟨PySem.W.mg_of X G a56, k56, _, fun_mk (st := s_law_pairs) l56 c56 k56, (fun_mk (st := s_law_pairs) l56 c56 k56).binds (ps := ["_law_sounds_here", "_law_sharp"]) fun _ _ _ _ _ _ us hl => match us, hl with | [_, _], _ => rfl⟩
    law_worked_on := ⟨PySem.W.mg_of X G a57, k57, _, fun_mk (st := s_law_worked_on) l57 c57 k57, (fun_mk (st := s_law_worked_on) l57 c57 k57).binds (ps := ["_law_notes_here", "_law_now", "_law_operation_here"]) fun _ _ _ _ _ _ us hl => match us, hl with | [_, _, _], _ => rfl⟩
    law_worked := ⟨PySem.W.mg_of X G a58, k58, _, fun_mk (st := s_law_worked) l58 c58 k58, (fun_mk (st := s_law_worked) l58 c58 k58).binds (ps := ["_law_w", "_law_operation_here"]) fun _ _ _ _ _ _ us hl => match us, hl with | [_, _], _ => rfl⟩
    law_equal := ⟨PySem.W.mg_of X G a59, k59, _, fun_mk (st := s_law_equal) l59 c59 k59, (fun_mk (st := s_law_equal) l59 c59 k59).binds (ps := ["_law_actual", "_law_expected"]) fun _ _ _ _ _ _ us hl => match us, hl with | [_, _], _ => rfl⟩
    law_operation := ⟨PySem.W.mg_of X G a60, k60, _, fun_mk (st := s_law_operation) l60 c60 k60, (fun_mk (st := s_law_operation) l60 c60 k60).binds (ps := ["_law_d", "_law_many"]) fun _ _ _ _ _ _ us hl => match us, hl with | [_, _], _ => rfl⟩
    law_error_of := ⟨PySem.W.mg_of X G a61, k61, _, fun_mk (st := s_law_error_of) l61 c61 k61, (fun_mk (st := s_law_error_of) l61 c61 k61).binds (ps := ["_law_call"]) fun _ _ _ _ _ _ us hl => match us, hl with | [_], _ => rfl⟩
    law_stands := ⟨PySem.W.mg_of X G a62, k62, _, fun_mk (st := s_law_stands) l62 c62 k62, (fun_mk (st := s_law_stands) l62 c62 k62).binds (ps := ["_law_choir", "_law_w"]) fun _ _ _ _ _ _ us hl => match us, hl with | [_, _], _ => rfl⟩
    law := ⟨PySem.W.mg_of X G a63, k63, _, fun_mk (st := s_law) l63 c63 k63, (fun_mk (st := s_law) l63 c63 k63).binds (ps := ["_law_script"]) fun _ _ _ _ _ _ us hl => match us, hl with | [_], _ => rfl⟩
    L_law := ⟨⟨_, _, _, _, _, _, _, _, l63⟩, c63, kr_hd_law, kr_no_law⟩
    b_abs := PySem.W.mg_none_of X G b_abs
    b_all := PySem.W.mg_none_of X G b_all
    b_any := PySem.W.mg_none_of X G b_any
    b_bool := PySem.W.mg_none_of X G b_bool
    b_enumerate := PySem.W.mg_none_of X G b_enumerate
    b_int := PySem.W.mg_none_of X G b_int
    b_isinstance := PySem.W.mg_none_of X G b_isinstance
    b_len := PySem.W.mg_none_of X G b_len
    b_list := PySem.W.mg_none_of X G b_list
    b_range := PySem.W.mg_none_of X G b_range
    b_sorted := PySem.W.mg_none_of X G b_sorted
    b_str := PySem.W.mg_none_of X G b_str
    b_tuple := PySem.W.mg_none_of X G b_tuple
    errt := kr_errt
    errc := kr_errc
    eg2 := eg2
    eg3 := eg3
    bv_ValueError := PySem.W.mg_none_of X G b_ValueError
  }
end KK
end
section
namespace KK
open PySem PySem.Spec PyProof.Rows L2 DL
/-- what the end asks of the law's body -/
def LawBody : Prop := ∀ {P : Program} {w : World} {K : PySem.W.Frag} {mg : Str → Option Value} {base : Heap} {a : Adr} (T : Txt K mg a) (hw : a.wd = w) (TB : LamX.TabB base mg a.cA_law a.PA_law), BodyOkL P w K mg base 29 ["_law_script", "_law_d", "_law_w", "_law_choir", "_law_turn", "_law_undone", "_law_before", "_law_operations", "_law_results", "_law_bad", "_law_k", "_law_found", "_law_given", "_law_again"] s_law a.cA_law lamQ (spLawL a.PA_law lamQ)
end KK
end
section
set_option maxRecDepth 100000
open PySem PySem.W PyProof.Rows in
set_option maxRecDepth 100000 in
set_option maxHeartbeats 0 in
theorem KK.fin_of (okl : KK.LawBody) : PySem.Challenge.rw_canonvoices_k17_batches_of_operations.Holds := by
  refine hd ?_
  k_fill
  refine DL.walkL (l := PySem.Challenge.rw_canonvoices_k17_batches_of_operations) rfl rfl (by first | rfl | decide +kernel | kernel_rfl) (fun w h Y => by first | exact PySem.W.kIn_of Y | exact PySem.W.km_in_of Y) ?F
  case F =>
    intro w mg fa h KX G hmg
    have T : ∃ a, KK.Txt _ mg a ∧ a.wd = w := ⟨_, by
      refine' KK.mk_txt (wd := w) KX G ?xCanonError ?rdCanonError ?gaCanonError ?atCanonError ?xInvalidMelody ?xkInvalidMelody ?esInvalidMelody ?etInvalidMelody ?a1 ?i1 ?l1 ?c1 ?k1 ?kr_oxInvalidMelody ?saInvalidMelody ?tfInvalidMelody ?n_InvalidMelody_index ?xInvalidRound ?xkInvalidRound ?esInvalidRound ?etInvalidRound ?a2 ?i2 ?l2 ?c2 ?k2 ?kr_oxInvalidRound ?saInvalidRound ?tfInvalidRound ?n_InvalidRound_part ?n_InvalidRound_index ?xOutOfRange ?xkOutOfRange ?esOutOfRange ?etOutOfRange ?kr_emOutOfRange ?xInvalidNumber ?xkInvalidNumber ?esInvalidNumber ?etInvalidNumber ?kr_emInvalidNumber ?xTooLong ?xkTooLong ?esTooLong ?etTooLong ?kr_emTooLong ?xTextFault ?xkTextFault ?esTextFault ?etTextFault ?a3 ?i3 ?l3 ?c3 ?k3 ?kr_oxTextFault ?saTextFault ?tfTextFault ?n_TextFault_word ?xInvalidCode ?xkInvalidCode ?esInvalidCode ?etInvalidCode ?a4 ?i4 ?l4 ?c4 ?k4 ?kr_oxInvalidCode ?saInvalidCode ?tfInvalidCode ?n_InvalidCode_place ?xContradiction ?xkContradiction ?esContradiction ?etContradiction ?kr_emContradiction ?xUnknownVoice ?xkUnknownVoice ?esUnknownVoice ?etUnknownVoice ?kr_emUnknownVoice ?xTooManyVoices ?xkTooManyVoices ?esTooManyVoices ?etTooManyVoices ?kr_emTooManyVoices ?xInvalidName ?xkInvalidName ?esInvalidName ?etInvalidName ?kr_emInvalidName ?xUnknownName ?xkUnknownName ?esUnknownName ?etUnknownName ?kr_emUnknownName ?xInvalidOperation ?xkInvalidOperation ?esInvalidOperation ?etInvalidOperation ?a5 ?i5 ?l5 ?c5 ?k5 ?kr_oxInvalidOperation ?saInvalidOperation ?tfInvalidOperation ?n_InvalidOperation_place ?v_MAX_NUMBER ?v_DIGITS ?v_REST ?a6 ?l6 ?c6 ?k6 ?a7 ?l7 ?c7 ?k7 ?xMelody ?xkMelody ?pgMelody ?hdMelody ?poMelody ?saMelody ?mkMelody ?rdMelody ?gaMelody ?y1Melody ?y2Melody ?y3Melody ?y4Melody ?v_Melody_MAX_NOTES ?v_Melody_MAX_BEATS ?v_Melody_MAX_PITCH ?a8 ?i8 ?l8 ?c8 ?k8 ?a9 ?r9 ?n9 ?l9 ?c9 ?k9 ?a10 ?g10 ?t10 ?r10 ?l10 ?c10 ?k10 ?a11 ?g11 ?t11 ?r11 ?l11 ?c11 ?k11 ?a12 ?g12 ?t12 ?r12 ?l12 ?c12 ?k12 ?a13 ?i13 ?l13 ?c13 ?k13 ?a14 ?i14 ?l14 ?c14 ?k14 ?a15 ?i15 ?l15 ?c15 ?k15 ?a16 ?i16 ?l16 ?c16 ?k16 ?a17 ?i17 ?l17 ?c17 ?k17 ?a18 ?i18 ?l18 ?c18 ?k18 ?a19 ?i19 ?l19 ?c19 ?k19 ?a20 ?i20 ?l20 ?c20 ?k20 ?a21 ?i21 ?l21 ?c21 ?k21 ?a22 ?i22 ?l22 ?c22 ?k22 ?a23 ?i23 ?l23 ?c23 ?k23 ?a24 ?i24 ?l24 ?c24 ?k24 ?a25 ?i25 ?l25 ?c25 ?k25 ?fi_Melody_call ?fi_Melody_getitem ?ne_Melody ?sfMelody ?sb_Melody_int ?sb_Melody_bool ?sb_Melody_str ?sb_Melody_NoneType ?sb_Melody_tuple ?sb_Melody_list ?rr_Melody_rshift ?rr_Melody_mul ?n_Melody_given ?n_Melody_row ?a26 ?l26 ?c26 ?k26 ?a27 ?l27 ?c27 ?k27 ?v_MAX_SHIFT ?v_MAX_VOICES ?v_CLASHING ?l_CLASHING ?a28 ?l28 ?c28 ?k28 ?a29 ?l29 ?c29 ?k29 ?a30 ?l30 ?c30 ?k30 ?v_MAX_BEATS ?v_ENTER ?v_LEAVE ?v_SING ?v_UNDO ?v_REDO ?v_LENGTHS ?kr_dw_LENGTHS ?kv_LENGTHS_0 ?kv_LENGTHS_1 ?kv_LENGTHS_2 ?kv_LENGTHS_3 ?kv_LENGTHS_4 ?a31 ?l31 ?c31 ?k31 ?xChoir ?xkChoir ?pgChoir ?hdChoir ?poChoir ?saChoir ?mkChoir ?rdChoir ?gaChoir ?y1Choir ?y2Choir ?y3Choir ?y4Choir ?a32 ?i32 ?l32 ?c32 ?k32 ?q32 ?a33 ?i33 ?l33 ?c33 ?k33 ?a34 ?i34 ?l34 ?c34 ?k34 ?a35 ?i35 ?l35 ?c35 ?k35 ?a36 ?i36 ?l36 ?c36 ?k36 ?a37 ?i37 ?l37 ?c37 ?k37 ?a38 ?i38 ?l38 ?c38 ?k38 ?a39 ?g39 ?t39 ?r39 ?l39 ?c39 ?k39 ?a40 ?g40 ?t40 ?r40 ?l40 ?c40 ?k40 ?a41 ?g41 ?t41 ?r41 ?l41 ?c41 ?k41 ?a42 ?g42 ?t42 ?r42 ?l42 ?c42 ?k42 ?a43 ?i43 ?l43 ?c43 ?k43 ?a44 ?i44 ?l44 ?c44 ?k44 ?n_Choir_melody ?n_Choir_clashing ?n_Choir_now ?n_Choir_past ?n_Choir_undone ?n_Choir_saved ?a45 ?l45 ?c45 ?k45 ?a46 ?l46 ?c46 ?k46 ?a47 ?l47 ?c47 ?k47 ?a48 ?l48 ?c48 ?k48 ?a49 ?l49 ?c49 ?k49 ?a50 ?l50 ?c50 ?k50 ?a51 ?l51 ?c51 ?k51 ?a52 ?l52 ?c52 ?k52 ?a53 ?l53 ?c53 ?k53 ?a54 ?l54 ?c54 ?k54 ?a55 ?l55 ?c55 ?k55 ?a56 ?l56 ?c56 ?k56 ?a57 ?l57 ?c57 ?k57 ?a58 ?l58 ?c58 ?k58 ?a59 ?l59 ?c59 ?k59 ?a60 ?l60 ?c60 ?k60 ?a61 ?l61 ?c61 ?k61 ?a62 ?l62 ?c62 ?k62 ?a63 ?l63 ?c63 ?k63 ?lc_law ?rf_pa_law ?kr_hd_law ?kr_no_law ?b_abs ?b_all ?b_any ?b_bool ?b_enumerate ?b_int ?b_isinstance ?b_len ?b_list ?b_range ?b_sorted ?b_str ?b_tuple ?kr_errt ?kr_errc ?eg2 ?eg3 ?b_ValueError
      (case xCanonError => k_is)
      (case rdCanonError => k_is)
      (case gaCanonError => k_is)
      (case atCanonError => k_is)
      (case xInvalidMelody => k_is)
      (case xkInvalidMelody => k_is)
      (case esInvalidMelody => k_is)
      (case etInvalidMelody => k_is)
      (case a1 => k_is)
      (case i1 => k_is)
      (case l1 => k_is)
      (case c1 => k_is)
      (case k1 => k_is)
      (case kr_oxInvalidMelody => kernel_rfl)
      (case saInvalidMelody => k_is)
      (case tfInvalidMelody => k_is)
      (case n_InvalidMelody_index => k_is)
      (case xInvalidRound => k_is)
      (case xkInvalidRound => k_is)
      (case esInvalidRound => k_is)
      (case etInvalidRound => k_is)
      (case a2 => k_is)
      (case i2 => k_is)
      (case l2 => k_is)
      (case c2 => k_is)
      (case k2 => k_is)
      (case kr_oxInvalidRound => kernel_rfl)
      (case saInvalidRound => k_is)
      (case tfInvalidRound => k_is)
      (case n_InvalidRound_part => k_is)
      (case n_InvalidRound_index => k_is)
      (case xOutOfRange => k_is)
      (case xkOutOfRange => k_is)
      (case esOutOfRange => k_is)
      (case etOutOfRange => k_is)
      (case kr_emOutOfRange => kernel_rfl)
      (case xInvalidNumber => k_is)
      (case xkInvalidNumber => k_is)
      (case esInvalidNumber => k_is)
      (case etInvalidNumber => k_is)
      (case kr_emInvalidNumber => kernel_rfl)
      (case xTooLong => k_is)
      (case xkTooLong => k_is)
      (case esTooLong => k_is)
      (case etTooLong => k_is)
      (case kr_emTooLong => kernel_rfl)
      (case xTextFault => k_is)
      (case xkTextFault => k_is)
      (case esTextFault => k_is)
      (case etTextFault => k_is)
      (case a3 => k_is)
      (case i3 => k_is)
      (case l3 => k_is)
      (case c3 => k_is)
      (case k3 => k_is)
      (case kr_oxTextFault => kernel_rfl)
      (case saTextFault => k_is)
      (case tfTextFault => k_is)
      (case n_TextFault_word => k_is)
      (case xInvalidCode => k_is)
      (case xkInvalidCode => k_is)
      (case esInvalidCode => k_is)
      (case etInvalidCode => k_is)
      (case a4 => k_is)
      (case i4 => k_is)
      (case l4 => k_is)
      (case c4 => k_is)
      (case k4 => k_is)
      (case kr_oxInvalidCode => kernel_rfl)
      (case saInvalidCode => k_is)
      (case tfInvalidCode => k_is)
      (case n_InvalidCode_place => k_is)
      (case xContradiction => k_is)
      (case xkContradiction => k_is)
      (case esContradiction => k_is)
      (case etContradiction => k_is)
      (case kr_emContradiction => kernel_rfl)
      (case xUnknownVoice => k_is)
      (case xkUnknownVoice => k_is)
      (case esUnknownVoice => k_is)
      (case etUnknownVoice => k_is)
      (case kr_emUnknownVoice => kernel_rfl)
      (case xTooManyVoices => k_is)
      (case xkTooManyVoices => k_is)
      (case esTooManyVoices => k_is)
      (case etTooManyVoices => k_is)
      (case kr_emTooManyVoices => kernel_rfl)
      (case xInvalidName => k_is)
      (case xkInvalidName => k_is)
      (case esInvalidName => k_is)
      (case etInvalidName => k_is)
      (case kr_emInvalidName => kernel_rfl)
      (case xUnknownName => k_is)
      (case xkUnknownName => k_is)
      (case esUnknownName => k_is)
      (case etUnknownName => k_is)
      (case kr_emUnknownName => kernel_rfl)
      (case xInvalidOperation => k_is)
      (case xkInvalidOperation => k_is)
      (case esInvalidOperation => k_is)
      (case etInvalidOperation => k_is)
      (case a5 => k_is)
      (case i5 => k_is)
      (case l5 => k_is)
      (case c5 => k_is)
      (case k5 => k_is)
      (case kr_oxInvalidOperation => kernel_rfl)
      (case saInvalidOperation => k_is)
      (case tfInvalidOperation => k_is)
      (case n_InvalidOperation_place => k_is)
      (case v_MAX_NUMBER => k_is)
      (case v_DIGITS => k_is)
      (case v_REST => k_is)
      (case a6 => k_is)
      (case l6 => k_is)
      (case c6 => k_is)
      (case k6 => k_is)
      (case a7 => k_is)
      (case l7 => k_is)
      (case c7 => k_is)
      (case k7 => k_is)
      (case xMelody => k_is)
      (case xkMelody => k_is)
      (case pgMelody => k_is)
      (case hdMelody => k_is)
      (case poMelody => k_is)
      (case saMelody => k_is)
      (case mkMelody => k_is)
      (case rdMelody => k_is)
      (case gaMelody => k_is)
      (case y1Melody => k_is)
      (case y2Melody => k_is)
      (case y3Melody => k_is)
      (case y4Melody => k_is)
      (case v_Melody_MAX_NOTES => k_is)
      (case v_Melody_MAX_BEATS => k_is)
      (case v_Melody_MAX_PITCH => k_is)
      (case a8 => k_is)
      (case i8 => k_is)
      (case l8 => k_is)
      (case c8 => k_is)
      (case k8 => k_is)
      (case a9 => k_is)
      (case r9 => k_is)
      (case n9 => k_is)
      (case l9 => k_is)
      (case c9 => k_is)
      (case k9 => k_is)
      (case a10 => k_is)
      (case g10 => k_is)
      (case t10 => k_is)
      (case r10 => k_is)
      (case l10 => k_is)
      (case c10 => k_is)
      (case k10 => k_is)
      (case a11 => k_is)
      (case g11 => k_is)
      (case t11 => k_is)
      (case r11 => k_is)
      (case l11 => k_is)
      (case c11 => k_is)
      (case k11 => k_is)
      (case a12 => k_is)
      (case g12 => k_is)
      (case t12 => k_is)
      (case r12 => k_is)
      (case l12 => k_is)
      (case c12 => k_is)
      (case k12 => k_is)
      (case a13 => k_is)
      (case i13 => k_is)
      (case l13 => k_is)
      (case c13 => k_is)
      (case k13 => k_is)
      (case a14 => k_is)
      (case i14 => k_is)
      (case l14 => k_is)
      (case c14 => k_is)
      (case k14 => k_is)
      (case a15 => k_is)
      (case i15 => k_is)
      (case l15 => k_is)
      (case c15 => k_is)
      (case k15 => k_is)
      (case a16 => k_is)
      (case i16 => k_is)
      (case l16 => k_is)
      (case c16 => k_is)
      (case k16 => k_is)
      (case a17 => k_is)
      (case i17 => k_is)
      (case l17 => k_is)
      (case c17 => k_is)
      (case k17 => k_is)
      (case a18 => k_is)
      (case i18 => k_is)
      (case l18 => k_is)
      (case c18 => k_is)
      (case k18 => k_is)
      (case a19 => k_is)
      (case i19 => k_is)
      (case l19 => k_is)
      (case c19 => k_is)
      (case k19 => k_is)
      (case a20 => k_is)
      (case i20 => k_is)
      (case l20 => k_is)
      (case c20 => k_is)
      (case k20 => k_is)
      (case a21 => k_is)
      (case i21 => k_is)
      (case l21 => k_is)
      (case c21 => k_is)
      (case k21 => k_is)
      (case a22 => k_is)
      (case i22 => k_is)
      (case l22 => k_is)
      (case c22 => k_is)
      (case k22 => k_is)
      (case a23 => k_is)
      (case i23 => k_is)
      (case l23 => k_is)
      (case c23 => k_is)
      (case k23 => k_is)
      (case a24 => k_is)
      (case i24 => k_is)
      (case l24 => k_is)
      (case c24 => k_is)
      (case k24 => k_is)
      (case a25 => k_is)
      (case i25 => k_is)
      (case l25 => k_is)
      (case c25 => k_is)
      (case k25 => k_is)
      (case fi_Melody_call => k_is)
      (case fi_Melody_getitem => k_is)
      (case ne_Melody => k_is)
      (case sfMelody => k_is)
      (case sb_Melody_int => k_is)
      (case sb_Melody_bool => k_is)
      (case sb_Melody_str => k_is)
      (case sb_Melody_NoneType => k_is)
      (case sb_Melody_tuple => k_is)
      (case sb_Melody_list => k_is)
      (case rr_Melody_rshift => k_is)
      (case rr_Melody_mul => k_is)
      (case n_Melody_given => k_is)
      (case n_Melody_row => k_is)
      (case a26 => k_is)
      (case l26 => k_is)
      (case c26 => k_is)
      (case k26 => k_is)
      (case a27 => k_is)
      (case l27 => k_is)
      (case c27 => k_is)
      (case k27 => k_is)
      (case v_MAX_SHIFT => k_is)
      (case v_MAX_VOICES => k_is)
      (case v_CLASHING => k_is)
      (case l_CLASHING => k_is)
      (case a28 => k_is)
      (case l28 => k_is)
      (case c28 => k_is)
      (case k28 => k_is)
      (case a29 => k_is)
      (case l29 => k_is)
      (case c29 => k_is)
      (case k29 => k_is)
      (case a30 => k_is)
      (case l30 => k_is)
      (case c30 => k_is)
      (case k30 => k_is)
      (case v_MAX_BEATS => k_is)
      (case v_ENTER => k_is)
      (case v_LEAVE => k_is)
      (case v_SING => k_is)
      (case v_UNDO => k_is)
      (case v_REDO => k_is)
      (case v_LENGTHS => k_is)
      (case kr_dw_LENGTHS => kernel_rfl)
      (case kv_LENGTHS_0 => k_is)
      (case kv_LENGTHS_1 => k_is)
      (case kv_LENGTHS_2 => k_is)
      (case kv_LENGTHS_3 => k_is)
      (case kv_LENGTHS_4 => k_is)
      (case a31 => k_is)
      (case l31 => k_is)
      (case c31 => k_is)
      (case k31 => k_is)
      (case xChoir => k_is)
      (case xkChoir => k_is)
      (case pgChoir => k_is)
      (case hdChoir => k_is)
      (case poChoir => k_is)
      (case saChoir => k_is)
      (case mkChoir => k_is)
      (case rdChoir => k_is)
      (case gaChoir => k_is)
      (case y1Choir => k_is)
      (case y2Choir => k_is)
      (case y3Choir => k_is)
      (case y4Choir => k_is)
      (case a32 => k_is)
      (case i32 => k_is)
      (case l32 => k_is)
      (case c32 => k_is)
      (case k32 => k_is)
      (case q32 => k_is)
      (case a33 => k_is)
      (case i33 => k_is)
      (case l33 => k_is)
      (case c33 => k_is)
      (case k33 => k_is)
      (case a34 => k_is)
      (case i34 => k_is)
      (case l34 => k_is)
      (case c34 => k_is)
      (case k34 => k_is)
      (case a35 => k_is)
      (case i35 => k_is)
      (case l35 => k_is)
      (case c35 => k_is)
      (case k35 => k_is)
      (case a36 => k_is)
      (case i36 => k_is)
      (case l36 => k_is)
      (case c36 => k_is)
      (case k36 => k_is)
      (case a37 => k_is)
      (case i37 => k_is)
      (case l37 => k_is)
      (case c37 => k_is)
      (case k37 => k_is)
      (case a38 => k_is)
      (case i38 => k_is)
      (case l38 => k_is)
      (case c38 => k_is)
      (case k38 => k_is)
      (case a39 => k_is)
      (case g39 => k_is)
      (case t39 => k_is)
      (case r39 => k_is)
      (case l39 => k_is)
      (case c39 => k_is)
      (case k39 => k_is)
      (case a40 => k_is)
      (case g40 => k_is)
      (case t40 => k_is)
      (case r40 => k_is)
      (case l40 => k_is)
      (case c40 => k_is)
      (case k40 => k_is)
      (case a41 => k_is)
      (case g41 => k_is)
      (case t41 => k_is)
      (case r41 => k_is)
      (case l41 => k_is)
      (case c41 => k_is)
      (case k41 => k_is)
      (case a42 => k_is)
      (case g42 => k_is)
      (case t42 => k_is)
      (case r42 => k_is)
      (case l42 => k_is)
      (case c42 => k_is)
      (case k42 => k_is)
      (case a43 => k_is)
      (case i43 => k_is)
      (case l43 => k_is)
      (case c43 => k_is)
      (case k43 => k_is)
      (case a44 => k_is)
      (case i44 => k_is)
      (case l44 => k_is)
      (case c44 => k_is)
      (case k44 => k_is)
      (case n_Choir_melody => k_is)
      (case n_Choir_clashing => k_is)
      (case n_Choir_now => k_is)
      (case n_Choir_past => k_is)
      (case n_Choir_undone => k_is)
      (case n_Choir_saved => k_is)
      (case a45 => k_is)
      (case l45 => k_is)
      (case c45 => k_is)
      (case k45 => k_is)
      (case a46 => k_is)
      (case l46 => k_is)
      (case c46 => k_is)
      (case k46 => k_is)
      (case a47 => k_is)
      (case l47 => k_is)
      (case c47 => k_is)
      (case k47 => k_is)
      (case a48 => k_is)
      (case l48 => k_is)
      (case c48 => k_is)
      (case k48 => k_is)
      (case a49 => k_is)
      (case l49 => k_is)
      (case c49 => k_is)
      (case k49 => k_is)
      (case a50 => k_is)
      (case l50 => k_is)
      (case c50 => k_is)
      (case k50 => k_is)
      (case a51 => k_is)
      (case l51 => k_is)
      (case c51 => k_is)
      (case k51 => k_is)
      (case a52 => k_is)
      (case l52 => k_is)
      (case c52 => k_is)
      (case k52 => k_is)
      (case a53 => k_is)
      (case l53 => k_is)
      (case c53 => k_is)
      (case k53 => k_is)
      (case a54 => k_is)
      (case l54 => k_is)
      (case c54 => k_is)
      (case k54 => k_is)
      (case a55 => k_is)
      (case l55 => k_is)
      (case c55 => k_is)
      (case k55 => k_is)
      (case a56 => k_is)
      (case l56 => k_is)
      (case c56 => k_is)
      (case k56 => k_is)
      (case a57 => k_is)
      (case l57 => k_is)
      (case c57 => k_is)
      (case k57 => k_is)
      (case a58 => k_is)
      (case l58 => k_is)
      (case c58 => k_is)
      (case k58 => k_is)
      (case a59 => k_is)
      (case l59 => k_is)
      (case c59 => k_is)
      (case k59 => k_is)
      (case a60 => k_is)
      (case l60 => k_is)
      (case c60 => k_is)
      (case k60 => k_is)
      (case a61 => k_is)
      (case l61 => k_is)
      (case c61 => k_is)
      (case k61 => k_is)
      (case a62 => k_is)
      (case l62 => k_is)
      (case c62 => k_is)
      (case k62 => k_is)
      (case a63 => k_is)
      (case l63 => k_is)
      (case c63 => k_is)
      (case k63 => k_is)
      (case lc_law => k_is)
      (case rf_pa_law => (with_unfolding_all rfl))
      (case kr_hd_law => kernel_rfl)
      (case kr_no_law => kernel_rfl)
      (case b_abs => k_is)
      (case b_all => k_is)
      (case b_any => k_is)
      (case b_bool => k_is)
      (case b_enumerate => k_is)
      (case b_int => k_is)
      (case b_isinstance => k_is)
      (case b_len => k_is)
      (case b_list => k_is)
      (case b_range => k_is)
      (case b_sorted => k_is)
      (case b_str => k_is)
      (case b_tuple => k_is)
      (case kr_errt => kernel_rfl)
      (case kr_errc => kernel_rfl)
      (case eg2 => k_is)
      (case eg3 => k_is)
      (case b_ValueError => k_is), by rfl⟩
    obtain ⟨a, T, hw⟩ := T
    have e : a.f_law = fa := by
      have h1 := T.law.g
      have h2 : mg "law" = some (.ref fa) := hmg
      rw [h1] at h2
      injection h2 with h2
      injection h2
    subst e
    exact ⟨KK.s_law, a.cA_law, a.PA_law, _, T.L_law, KK.sc_law, fun _ _ _ _ _ _ _ => BindsTo.of_eq rfl, fun base TB => okl T hw TB⟩
end
section
set_option maxRecDepth 100000
set_option maxHeartbeats 4000000
set_option autoImplicit false
namespace KK
open PySem PySem.Spec PyProof.Rows L2 DL
set_option hygiene false in
local macro_rules | `(tactic| walk_at "go") => `(tactic| (repeat (first
  | (with_reducible refine as_DE ?_; (first
    | (with_reducible refine as_name ?_; (first
    | (with_reducible refine' de_name (by assumption) ?hi ?hd ?_; (case hi => (repeat (with_reducible constructor))); (case hd => (repeat (with_reducible constructor))))
    | with_reducible refine de_cint (by assumption) T.v_MAX_NUMBER ?_
    | with_reducible refine de_cstr (by assumption) T.v_DIGITS ?_
    | with_reducible refine de_cstr (by assumption) T.v_REST ?_
    | with_reducible refine de_cint (by assumption) T.v_MAX_SHIFT ?_
    | with_reducible refine de_cint (by assumption) T.v_MAX_VOICES ?_
    | with_reducible refine de_cint (by assumption) T.v_MAX_BEATS ?_
    | with_reducible refine de_cstr (by assumption) T.v_ENTER ?_
    | with_reducible refine de_cstr (by assumption) T.v_LEAVE ?_
    | with_reducible refine de_cstr (by assumption) T.v_SING ?_
    | with_reducible refine de_cstr (by assumption) T.v_UNDO ?_
    | with_reducible refine de_cstr (by assumption) T.v_REDO ?_
    | with_reducible refine de_bltn (T := "bool") (by assumption) T.b_bool boot_bool ?_
    | with_reducible refine de_bltn (T := "int") (by assumption) T.b_int boot_int ?_
    | with_reducible refine de_bltn (T := "list") (by assumption) T.b_list boot_list ?_
    | with_reducible refine de_bltn (T := "str") (by assumption) T.b_str boot_str ?_
    | with_reducible refine de_bltn (T := "tuple") (by assumption) T.b_tuple boot_tuple ?_))
    | (with_reducible refine as_call ?_; (first
    | with_reducible refine de_append ?_
    | with_reducible refine de_join ?_
    | with_reducible refine de_split ?_
    | with_reducible refine de_extend ?_
    | with_reducible refine de_call (by assumption) T.is_int_in.g T.is_int_in.k ?_
    | with_reducible refine de_call (by assumption) T.is_note.g T.is_note.k ?_
    | with_reducible refine de_call (by assumption) T.Melody.g T.Melody.k ?_
    | with_reducible refine de_callS (by assumption) T.Melody.g T.Melody.k ?_
    | with_reducible refine de_call (by assumption) T.melody_of.g T.melody_of.k ?_
    | with_reducible refine de_call (by assumption) T.is_number.g T.is_number.k ?_
    | with_reducible refine de_call (by assumption) T.check_clashing.g T.check_clashing.k ?_
    | with_reducible refine de_call (by assumption) T.do_clash.g T.do_clash.k ?_
    | with_reducible refine de_call (by assumption) T.check_shift.g T.check_shift.k ?_
    | with_reducible refine de_call (by assumption) T.is_operation.g T.is_operation.k ?_
    | with_reducible refine de_call (by assumption) T.Choir.g T.Choir.k ?_
    | with_reducible refine de_callS (by assumption) T.Choir.g T.Choir.k ?_
    | with_reducible refine de_call (by assumption) T.law_random.g T.law_random.k ?_
    | with_reducible refine de_call (by assumption) T.law_below.g T.law_below.k ?_
    | with_reducible refine de_call (by assumption) T.law_notes.g T.law_notes.k ?_
    | with_reducible refine de_call (by assumption) T.law_new.g T.law_new.k ?_
    | with_reducible refine de_call (by assumption) T.law_words.g T.law_words.k ?_
    | with_reducible refine de_call (by assumption) T.law_melody.g T.law_melody.k ?_
    | with_reducible refine de_call (by assumption) T.law_fits.g T.law_fits.k ?_
    | with_reducible refine de_call (by assumption) T.law_shifted.g T.law_shifted.k ?_
    | with_reducible refine de_call (by assumption) T.law_row.g T.law_row.k ?_
    | with_reducible refine de_call (by assumption) T.law_sounds.g T.law_sounds.k ?_
    | with_reducible refine de_call (by assumption) T.law_is_clash.g T.law_is_clash.k ?_
    | with_reducible refine de_call (by assumption) T.law_pairs.g T.law_pairs.k ?_
    | with_reducible refine de_call (by assumption) T.law_worked_on.g T.law_worked_on.k ?_
    | with_reducible refine de_call (by assumption) T.law_worked.g T.law_worked.k ?_
    | with_reducible refine de_call (by assumption) T.law_equal.g T.law_equal.k ?_
    | with_reducible refine de_call (by assumption) T.law_operation.g T.law_operation.k ?_
    | with_reducible refine de_call (by assumption) T.law_error_of.g T.law_error_of.k ?_
    | with_reducible refine de_call (by assumption) T.law_stands.g T.law_stands.k ?_
    | with_reducible refine de_call (by assumption) T.law.g T.law.k ?_
    | with_reducible refine de_callB (id := "abs") (by assumption) T.b_abs boot_abs ?_
    | with_reducible refine de_callB (id := "all") (by assumption) T.b_all boot_all ?_
    | with_reducible refine de_callB (id := "any") (by assumption) T.b_any boot_any ?_
    | with_reducible refine de_callT (T := "bool") (by assumption) T.b_bool boot_bool ?_
    | with_reducible refine de_callT (T := "int") (by assumption) T.b_int boot_int ?_
    | with_reducible refine de_callB (id := "isinstance") (by assumption) T.b_isinstance boot_isinstance ?_
    | with_reducible refine de_callB (id := "len") (by assumption) T.b_len boot_len ?_
    | with_reducible refine de_callT (T := "list") (by assumption) T.b_list boot_list ?_
    | with_reducible refine de_callB (id := "sorted") (by assumption) T.b_sorted boot_sorted ?_
    | with_reducible refine de_callT (T := "str") (by assumption) T.b_str boot_str ?_
    | with_reducible refine de_callT (T := "tuple") (by assumption) T.b_tuple boot_tuple ?_))
    | (with_reducible refine as_con ?_; (first
    | with_reducible refine de_int ?_
    | with_reducible refine de_str ?_
    | with_reducible refine de_non ?_
    | with_reducible refine de_bl ?_))
    | with_reducible refine de_bin ?_
    | with_reducible refine de_cmp ?_
    | with_reducible refine de_lele ?_
    | with_reducible refine de_if ?_
    | with_reducible refine de_ix ?_ (by with_unfolding_all (intro _ _; rfl)) (by with_unfolding_all (intro _ _; rfl))
    | with_reducible refine de_tup ?_
    | with_reducible refine de_and ?_
    | with_reducible refine de_or ?_
    | with_reducible refine de_one ?_
    | with_reducible refine de_not ?_
    | with_reducible refine de_lst ?_
    | (with_reducible refine as_attr ?_; (first
    | with_reducible refine de_fldG T.InvalidRound.cl T.n_InvalidRound_part ?_
    | with_reducible refine de_fldG T.TextFault.cl T.n_TextFault_word ?_
    | with_reducible refine de_cconst (by assumption) T.Melody T.v_Melody_MAX_NOTES ?_
    | with_reducible refine de_cconst (by assumption) T.Melody T.v_Melody_MAX_BEATS ?_
    | with_reducible refine de_cconst (by assumption) T.Melody T.v_Melody_MAX_PITCH ?_
    | with_reducible refine de_fldG T.Melody.cl T.n_Melody_given ?_
    | with_reducible refine de_fldG T.Melody.cl T.n_Melody_row ?_
    | with_reducible refine de_fldG T.Choir.cl T.n_Choir_melody ?_
    | with_reducible refine de_fldG T.Choir.cl T.n_Choir_clashing ?_
    | with_reducible refine de_fldG T.Choir.cl T.n_Choir_now ?_
    | with_reducible refine de_fldG T.Choir.cl T.n_Choir_past ?_
    | with_reducible refine de_fldG T.Choir.cl T.n_Choir_undone ?_
    | with_reducible refine de_fldG T.Choir.cl T.n_Choir_saved ?_
    ))))
  | (with_reducible refine as_DA ?_; (first
    | with_reducible refine da_cons ?_
    | with_reducible refine da_nil ?_
    | with_reducible refine da_star ?_))
  | (with_reducible refine as_DSs ?_; (first
    | with_reducible refine dss_one ?_
    | with_reducible refine dss_cons ?_
    | with_reducible refine dss_nil ?_))
  | (with_reducible refine as_DS ?_; (first
    | with_reducible refine ds_ret ?_
    | with_reducible refine ds_if ?_
    | with_reducible refine ds_expr ?_
    | (with_reducible refine' ds_set (hl := ?hl) (by assumption) ?hi ?_; (case hl => ((repeat (with_reducible constructor)); done)); (case hi => (repeat (with_reducible constructor))))
    | (with_reducible refine' ds_par2 (hx := ?hx) (hy := ?hy) (by assumption) ?hi ?hj ?hk ?_; (case hx => ((repeat (with_reducible constructor)); done)); (case hy => ((repeat (with_reducible constructor)); done)); (case hi => repeat (with_reducible constructor)); (case hj => repeat (with_reducible constructor)); (case hk => with_unfolding_all rfl))
    | (with_reducible refine' ds_aug (hl := ?hl) (by assumption) ?hi ?hd ?_; (case hl => ((repeat (with_reducible constructor)); done)); (case hi => repeat (with_reducible constructor)); (case hd => repeat (with_reducible constructor)))
    | with_reducible refine ds_fld ?_
    | with_reducible refine ds_asg ?_
    ))
  | (with_reducible refine as_DT ?_; (first
    | with_reducible refine dt_cmp ?_
    | with_reducible refine dt_lele ?_
    | with_reducible refine dt_not ?_
    | with_reducible refine dt_w (dw_and ?_)
    | with_reducible refine dt_w (dw_or ?_)
    | with_reducible refine dt_val ?_))
  | (with_reducible refine as_DW ?_; (first
    | with_reducible refine dw_and ?_
    | with_reducible refine dw_or ?_
    | with_reducible refine dw_one ?_))
  | (with_reducible refine as_DB ?_; (first
    | with_reducible refine db_add ?_
    | with_reducible refine db_sub ?_
    | with_reducible refine db_lt ?_
    | with_reducible refine db_le ?_
    | with_reducible refine db_gt ?_
    | with_reducible refine db_ge ?_
    | with_reducible refine db_eq_int ?_
    | with_reducible refine db_ne_int ?_
    | with_reducible refine db_eq_str ?_
    | with_reducible refine db_ne_str ?_
    | with_reducible refine db_isN ?_
    | with_reducible refine db_notN ?_
    | with_reducible refine db_iadd ?_
    | with_reducible refine db_eq_bl ?_
    | with_reducible refine db_ne_bl ?_
    | with_reducible refine db_in_sign ?_
    | with_reducible refine db_notin_sign ?_
    | with_reducible refine db_mul (cm_r (by decide) (by decide)) ?_
    | with_reducible refine db_fdiv (cdiv_ (by decide) (by decide)) ?_
    | with_reducible refine db_mod (by first | decide | omega) ?_
    | with_reducible refine db_pow (cpow_ (by decide) (by decide) (by decide)) ?_))
  | (with_reducible refine as_DC ?_; (first
    | with_reducible refine dc_abs ?_
    | with_reducible refine dc_intB ?_
    | with_reducible refine dc_len_own (by (repeat (first | with_reducible assumption | with_reducible constructor))) ?_
    | with_reducible refine dc_int ?_
    | with_reducible refine dc_tuple ?_
    | with_reducible refine dc_len_tup ?_
    | with_reducible refine dc_len_str (by first | assumption | omega) ?_
    | with_reducible refine dc_len_lst ?_
    | (with_reducible refine' dc_isi_int ?hty ?_; (case hty => first | assumption | (simp [tyD]; done)))
    | (with_reducible refine' dc_isi_bl ?hty ?_; (case hty => first | assumption | (simp [tyD]; done)))
    | (with_reducible refine' dc_isi_str ?hty ?_; (case hty => first | assumption | (simp [tyD]; done)))
    | (with_reducible refine' dc_isi_tup ?hty ?_; (case hty => first | assumption | (simp [tyD]; done)))
    | (with_reducible refine' dc_isi_lst ?hty ?_; (case hty => first | assumption | (simp [tyD]; done)))))
  | (with_reducible refine as_DG ?_; (first
    | (with_reducible refine' dg_name (hl := ?hl) (by assumption) ?hi ?hs ?_; (case hl => ((repeat (with_reducible constructor)); done)); (case hi => (repeat (with_reducible constructor))); (case hs => (repeat (with_reducible constructor))))
    | with_reducible refine dg_sub ?_
    | (with_reducible refine' dg_cell (hl := ?hl) (by assumption) Df.fn ?hi ?hs ?_; (case hl => ((repeat (with_reducible constructor)); done)); (case hi => (repeat (with_reducible constructor))); (case hs => (repeat (with_reducible constructor))))
    | with_reducible refine dg_tup (by assumption) (by with_unfolding_all rfl) ?_))
  | (with_reducible refine as_DX ?_; (first
    | (with_reducible refine' dx_tup ?dxh ?_; (case dxh => first | with_reducible exact atI_0 | with_reducible exact atI_1 | with_reducible exact atI_2 | with_reducible exact atI_3))
    | (with_reducible refine' dx_lst ?dxh ?_; (case dxh => first | with_reducible exact atI_0 | with_reducible exact atI_1 | with_reducible exact atI_2 | with_reducible exact atI_3))
    | (with_reducible refine' dx_own ?dxm ?dxh ?_; (case dxm => (repeat (first | with_reducible assumption | with_reducible constructor))); (case dxh => first | with_reducible exact atI_0 | with_reducible exact atI_1 | with_reducible exact atI_2 | with_reducible exact atI_3))))
  | with_reducible refine ex_bl ?_
  | with_reducible refine ref_in ?_
  | with_reducible refine int_in ?_
  | with_reducible refine int_in2 ?_
  | with_reducible refine str_in ?_
  | with_reducible refine br_t ?_
  | with_reducible refine br_f ?_
  | with_reducible refine rb_t ?_
  | with_reducible refine rb_f ?_
  | with_reducible refine br_nt ?_
  | with_reducible refine br_nf ?_
  | with_reducible refine rb_nt ?_
  | with_reducible refine rb_nf ?_
  | with_reducible refine len_and (by with_unfolding_all rfl) ?_
  | with_reducible refine fld_ins (by with_unfolding_all rfl) ?_
  | with_reducible refine fld_own (by (repeat (first | with_reducible assumption | with_reducible constructor))) (by with_unfolding_all rfl) ?_
  | (with_reducible refine' sd_in ?hs ?_; (case hs => (repeat (with_reducible constructor))))
  | ((with_reducible refine' wp_in ?gw ?_); (case gw => (repeat (first | exact Wp.nil | exact SetN.head | apply SetN.tail | apply Wp.cons))))
  | (with_reducible refine' own2_in ?ga ?_; (case ga => repeat (first | with_reducible assumption | with_reducible exact At.head | with_reducible apply At.tail)))
  | (with_reducible refine' par_in ?h1 ?h2 ?_; (case h1 => repeat (with_reducible constructor)); (case h2 => repeat (with_reducible constructor)))
  | with_reducible refine dpo_none ?_
  | with_reducible refine dpo_some ?_
  | (with_reducible refine' dgc_name (by assumption) ?hi ?hs ?hv ?_; (case hi => (repeat (with_reducible constructor))); (case hs => (repeat (with_reducible constructor))); (case hv => decide))
  | with_reducible refine dgc_tup (by assumption) (by with_unfolding_all rfl) ?_
  | with_reducible refine dgs_cons ?_
  | with_reducible refine dgs_nil ?_
  | with_reducible refine dgcs_cons ?_
  | with_reducible refine dgcs_nil ?_
  | with_reducible refine dts_nil ?_
  | with_reducible refine dts_one ?_
  | (with_reducible refine as_br ?_; (first
    | with_reducible refine br_et (by with_unfolding_all rfl) ?_
    | with_reducible refine br_ef (by with_unfolding_all rfl) ?_))
  | (with_reducible refine as_rb ?_; (first
    | with_reducible refine rb_et (by with_unfolding_all rfl) ?_
    | with_reducible refine rb_ef (by with_unfolding_all rfl) ?_))
  | (dsimp only))))
set_option hygiene false in
local macro_rules | `(tactic| walk_at "g1") => `(tactic| (dsimp only [dOpt_none, dOpt_some]))
set_option hygiene false in
local macro_rules | `(tactic| walk_at "g1") => `(tactic| (with_reducible refine as_rb ?_; (first | with_reducible refine rb_et (by with_unfolding_all rfl) ?_ | with_reducible refine rb_ef (by with_unfolding_all rfl) ?_)))
set_option hygiene false in
local macro_rules | `(tactic| walk_at "g1") => `(tactic| (with_reducible refine as_br ?_; (first | with_reducible refine br_et (by with_unfolding_all rfl) ?_ | with_reducible refine br_ef (by with_unfolding_all rfl) ?_)))
set_option hygiene false in
local macro_rules | `(tactic| walk_at "g1") => `(tactic| with_reducible refine star_lst ?_)
set_option hygiene false in
local macro_rules | `(tactic| walk_at "g1") => `(tactic| with_reducible refine star_tup ?_)
set_option hygiene false in
local macro_rules | `(tactic| walk_at "g1") => `(tactic| (with_reducible exact ⟨rfl, rfl⟩))
set_option hygiene false in
local macro_rules | `(tactic| walk_at "g1") => `(tactic| (with_reducible refine as_blk ?_; (intro X2 B2; have T := (show Txt X2.K X2.mg a from by rw [B2.K, B2.mg]; assumption); have S2 := B2.sc; have hr := B2.room (by assumption))))
set_option hygiene false in
local macro_rules | `(tactic| walk_at "g1") => `(tactic| with_reducible refine dts_one ?_)
set_option hygiene false in
local macro_rules | `(tactic| walk_at "g1") => `(tactic| with_reducible refine dts_nil ?_)
set_option hygiene false in
local macro_rules | `(tactic| walk_at "g1") => `(tactic| with_reducible refine dgcs_nil ?_)
set_option hygiene false in
local macro_rules | `(tactic| walk_at "g1") => `(tactic| with_reducible refine dgcs_cons ?_)
set_option hygiene false in
local macro_rules | `(tactic| walk_at "g1") => `(tactic| with_reducible refine dgs_nil ?_)
set_option hygiene false in
local macro_rules | `(tactic| walk_at "g1") => `(tactic| with_reducible refine dgs_cons ?_)
set_option hygiene false in
local macro_rules | `(tactic| walk_at "g1") => `(tactic| with_reducible refine dgc_tup (by assumption) (by with_unfolding_all rfl) ?_)
set_option hygiene false in
local macro_rules | `(tactic| walk_at "g1") => `(tactic| (with_reducible refine' dgc_name (by assumption) ?hi ?hs ?hv ?_; (case hi => (repeat (with_reducible constructor))); (case hs => (repeat (with_reducible constructor))); (case hv => decide)))
set_option hygiene false in
local macro_rules | `(tactic| walk_at "g1") => `(tactic| with_reducible refine dpo_some ?_)
set_option hygiene false in
local macro_rules | `(tactic| walk_at "g1") => `(tactic| with_reducible refine dpo_none ?_)
set_option hygiene false in
local macro_rules | `(tactic| walk_at "g1") => `(tactic| (with_reducible refine' fput_in ?ha T.Choir.cl T.n_Choir_saved ?hl ?hp ?_; (case ha => (repeat (first | with_reducible assumption | with_reducible constructor))); (case hl => with_unfolding_all rfl); (case hp => (repeat (first | with_reducible assumption | with_reducible constructor)))))
set_option hygiene false in
local macro_rules | `(tactic| walk_at "g1") => `(tactic| (with_reducible refine' fput_in ?ha T.Choir.cl T.n_Choir_undone ?hl ?hp ?_; (case ha => (repeat (first | with_reducible assumption | with_reducible constructor))); (case hl => with_unfolding_all rfl); (case hp => (repeat (first | with_reducible assumption | with_reducible constructor)))))
set_option hygiene false in
local macro_rules | `(tactic| walk_at "g1") => `(tactic| (with_reducible refine' fput_in ?ha T.Choir.cl T.n_Choir_past ?hl ?hp ?_; (case ha => (repeat (first | with_reducible assumption | with_reducible constructor))); (case hl => with_unfolding_all rfl); (case hp => (repeat (first | with_reducible assumption | with_reducible constructor)))))
set_option hygiene false in
local macro_rules | `(tactic| walk_at "g1") => `(tactic| (with_reducible refine' fput_in ?ha T.Choir.cl T.n_Choir_now ?hl ?hp ?_; (case ha => (repeat (first | with_reducible assumption | with_reducible constructor))); (case hl => with_unfolding_all rfl); (case hp => (repeat (first | with_reducible assumption | with_reducible constructor)))))
set_option hygiene false in
local macro_rules | `(tactic| walk_at "g1") => `(tactic| (with_reducible refine' fput_in ?ha T.Choir.cl T.n_Choir_clashing ?hl ?hp ?_; (case ha => (repeat (first | with_reducible assumption | with_reducible constructor))); (case hl => with_unfolding_all rfl); (case hp => (repeat (first | with_reducible assumption | with_reducible constructor)))))
set_option hygiene false in
local macro_rules | `(tactic| walk_at "g1") => `(tactic| (with_reducible refine' fput_in ?ha T.Choir.cl T.n_Choir_melody ?hl ?hp ?_; (case ha => (repeat (first | with_reducible assumption | with_reducible constructor))); (case hl => with_unfolding_all rfl); (case hp => (repeat (first | with_reducible assumption | with_reducible constructor)))))
set_option hygiene false in
local macro_rules | `(tactic| walk_at "g1") => `(tactic| (with_reducible refine' fput_in ?ha T.Melody.cl T.n_Melody_row ?hl ?hp ?_; (case ha => (repeat (first | with_reducible assumption | with_reducible constructor))); (case hl => with_unfolding_all rfl); (case hp => (repeat (first | with_reducible assumption | with_reducible constructor)))))
set_option hygiene false in
local macro_rules | `(tactic| walk_at "g1") => `(tactic| (with_reducible refine' fput_in ?ha T.Melody.cl T.n_Melody_given ?hl ?hp ?_; (case ha => (repeat (first | with_reducible assumption | with_reducible constructor))); (case hl => with_unfolding_all rfl); (case hp => (repeat (first | with_reducible assumption | with_reducible constructor)))))
set_option hygiene false in
local macro_rules | `(tactic| walk_at "g1") => `(tactic| (with_reducible refine' fput_in ?ha T.InvalidOperation.cl T.n_InvalidOperation_place ?hl ?hp ?_; (case ha => (repeat (first | with_reducible assumption | with_reducible constructor))); (case hl => with_unfolding_all rfl); (case hp => (repeat (first | with_reducible assumption | with_reducible constructor)))))
set_option hygiene false in
local macro_rules | `(tactic| walk_at "g1") => `(tactic| (with_reducible refine' fput_in ?ha T.InvalidCode.cl T.n_InvalidCode_place ?hl ?hp ?_; (case ha => (repeat (first | with_reducible assumption | with_reducible constructor))); (case hl => with_unfolding_all rfl); (case hp => (repeat (first | with_reducible assumption | with_reducible constructor)))))
set_option hygiene false in
local macro_rules | `(tactic| walk_at "g1") => `(tactic| (with_reducible refine' fput_in ?ha T.TextFault.cl T.n_TextFault_word ?hl ?hp ?_; (case ha => (repeat (first | with_reducible assumption | with_reducible constructor))); (case hl => with_unfolding_all rfl); (case hp => (repeat (first | with_reducible assumption | with_reducible constructor)))))
set_option hygiene false in
local macro_rules | `(tactic| walk_at "g1") => `(tactic| (with_reducible refine' fput_in ?ha T.InvalidRound.cl T.n_InvalidRound_index ?hl ?hp ?_; (case ha => (repeat (first | with_reducible assumption | with_reducible constructor))); (case hl => with_unfolding_all rfl); (case hp => (repeat (first | with_reducible assumption | with_reducible constructor)))))
set_option hygiene false in
local macro_rules | `(tactic| walk_at "g1") => `(tactic| (with_reducible refine' fput_in ?ha T.InvalidRound.cl T.n_InvalidRound_part ?hl ?hp ?_; (case ha => (repeat (first | with_reducible assumption | with_reducible constructor))); (case hl => with_unfolding_all rfl); (case hp => (repeat (first | with_reducible assumption | with_reducible constructor)))))
set_option hygiene false in
local macro_rules | `(tactic| walk_at "g1") => `(tactic| (with_reducible refine' fput_in ?ha T.InvalidMelody.cl T.n_InvalidMelody_index ?hl ?hp ?_; (case ha => (repeat (first | with_reducible assumption | with_reducible constructor))); (case hl => with_unfolding_all rfl); (case hp => (repeat (first | with_reducible assumption | with_reducible constructor)))))
set_option hygiene false in
local macro_rules | `(tactic| walk_at "g1") => `(tactic| (with_reducible refine' fldA_own ?ha T.InvalidOperation.cl T.n_InvalidOperation_place ?hl ?_; (case ha => (repeat (first | with_reducible assumption | with_reducible constructor))); (case hl => with_unfolding_all rfl)))
set_option hygiene false in
local macro_rules | `(tactic| walk_at "g1") => `(tactic| (with_reducible refine' fldA_ins T.InvalidOperation.cl T.n_InvalidOperation_place ?hl ?_; (case hl => with_unfolding_all rfl)))
set_option hygiene false in
local macro_rules | `(tactic| walk_at "g1") => `(tactic| (with_reducible refine' fldA_own ?ha T.InvalidCode.cl T.n_InvalidCode_place ?hl ?_; (case ha => (repeat (first | with_reducible assumption | with_reducible constructor))); (case hl => with_unfolding_all rfl)))
set_option hygiene false in
local macro_rules | `(tactic| walk_at "g1") => `(tactic| (with_reducible refine' fldA_ins T.InvalidCode.cl T.n_InvalidCode_place ?hl ?_; (case hl => with_unfolding_all rfl)))
set_option hygiene false in
local macro_rules | `(tactic| walk_at "g1") => `(tactic| (with_reducible refine' fldA_own ?ha T.InvalidRound.cl T.n_InvalidRound_index ?hl ?_; (case ha => (repeat (first | with_reducible assumption | with_reducible constructor))); (case hl => with_unfolding_all rfl)))
set_option hygiene false in
local macro_rules | `(tactic| walk_at "g1") => `(tactic| (with_reducible refine' fldA_ins T.InvalidRound.cl T.n_InvalidRound_index ?hl ?_; (case hl => with_unfolding_all rfl)))
set_option hygiene false in
local macro_rules | `(tactic| walk_at "g1") => `(tactic| (with_reducible refine' fldA_own ?ha T.InvalidMelody.cl T.n_InvalidMelody_index ?hl ?_; (case ha => (repeat (first | with_reducible assumption | with_reducible constructor))); (case hl => with_unfolding_all rfl)))
set_option hygiene false in
local macro_rules | `(tactic| walk_at "g1") => `(tactic| (with_reducible refine' fldA_ins T.InvalidMelody.cl T.n_InvalidMelody_index ?hl ?_; (case hl => with_unfolding_all rfl)))
set_option hygiene false in
local macro_rules | `(tactic| walk_at "g1") => `(tactic| (with_reducible refine' mt_own ?ha T.Choir.cl T.Choir_batch.mt ?hl ?_; (case ha => (repeat (first | with_reducible assumption | with_reducible constructor))); (case hl => with_unfolding_all rfl)))
set_option hygiene false in
local macro_rules | `(tactic| walk_at "g1") => `(tactic| (with_reducible refine' mt_in T.Choir.cl T.Choir_batch.mt ?hl ?_; (case hl => with_unfolding_all rfl)))
set_option hygiene false in
local macro_rules | `(tactic| walk_at "g1") => `(tactic| (with_reducible refine' mt_own ?ha T.Choir.cl T.Choir_execute.mt ?hl ?_; (case ha => (repeat (first | with_reducible assumption | with_reducible constructor))); (case hl => with_unfolding_all rfl)))
set_option hygiene false in
local macro_rules | `(tactic| walk_at "g1") => `(tactic| (with_reducible refine' mt_in T.Choir.cl T.Choir_execute.mt ?hl ?_; (case hl => with_unfolding_all rfl)))
set_option hygiene false in
local macro_rules | `(tactic| walk_at "g1") => `(tactic| (with_reducible refine' mt_own ?ha T.Choir.cl T.Choir_redo.mt ?hl ?_; (case ha => (repeat (first | with_reducible assumption | with_reducible constructor))); (case hl => with_unfolding_all rfl)))
set_option hygiene false in
local macro_rules | `(tactic| walk_at "g1") => `(tactic| (with_reducible refine' mt_in T.Choir.cl T.Choir_redo.mt ?hl ?_; (case hl => with_unfolding_all rfl)))
set_option hygiene false in
local macro_rules | `(tactic| walk_at "g1") => `(tactic| (with_reducible refine' mt_own ?ha T.Choir.cl T.Choir_undo.mt ?hl ?_; (case ha => (repeat (first | with_reducible assumption | with_reducible constructor))); (case hl => with_unfolding_all rfl)))
set_option hygiene false in
local macro_rules | `(tactic| walk_at "g1") => `(tactic| (with_reducible refine' mt_in T.Choir.cl T.Choir_undo.mt ?hl ?_; (case hl => with_unfolding_all rfl)))
set_option hygiene false in
local macro_rules | `(tactic| walk_at "g1") => `(tactic| (with_reducible refine' mt_own ?ha T.Choir.cl T.Choir_sing.mt ?hl ?_; (case ha => (repeat (first | with_reducible assumption | with_reducible constructor))); (case hl => with_unfolding_all rfl)))
set_option hygiene false in
local macro_rules | `(tactic| walk_at "g1") => `(tactic| (with_reducible refine' mt_in T.Choir.cl T.Choir_sing.mt ?hl ?_; (case hl => with_unfolding_all rfl)))
set_option hygiene false in
local macro_rules | `(tactic| walk_at "g1") => `(tactic| (with_reducible refine' mt_own ?ha T.Choir.cl T.Choir_leave.mt ?hl ?_; (case ha => (repeat (first | with_reducible assumption | with_reducible constructor))); (case hl => with_unfolding_all rfl)))
set_option hygiene false in
local macro_rules | `(tactic| walk_at "g1") => `(tactic| (with_reducible refine' mt_in T.Choir.cl T.Choir_leave.mt ?hl ?_; (case hl => with_unfolding_all rfl)))
set_option hygiene false in
local macro_rules | `(tactic| walk_at "g1") => `(tactic| (with_reducible refine' mt_own ?ha T.Choir.cl T.Choir_enter.mt ?hl ?_; (case ha => (repeat (first | with_reducible assumption | with_reducible constructor))); (case hl => with_unfolding_all rfl)))
set_option hygiene false in
local macro_rules | `(tactic| walk_at "g1") => `(tactic| (with_reducible refine' mt_in T.Choir.cl T.Choir_enter.mt ?hl ?_; (case hl => with_unfolding_all rfl)))
set_option hygiene false in
local macro_rules | `(tactic| walk_at "g1") => `(tactic| (with_reducible refine' mt_own ?ha T.Choir.cl T.Choir_record.mt ?hl ?_; (case ha => (repeat (first | with_reducible assumption | with_reducible constructor))); (case hl => with_unfolding_all rfl)))
set_option hygiene false in
local macro_rules | `(tactic| walk_at "g1") => `(tactic| (with_reducible refine' mt_in T.Choir.cl T.Choir_record.mt ?hl ?_; (case hl => with_unfolding_all rfl)))
set_option hygiene false in
local macro_rules | `(tactic| walk_at "g1") => `(tactic| (with_reducible refine' mt_own ?ha T.Melody.cl T.Melody_neg.mt ?hl ?_; (case ha => (repeat (first | with_reducible assumption | with_reducible constructor))); (case hl => with_unfolding_all rfl)))
set_option hygiene false in
local macro_rules | `(tactic| walk_at "g1") => `(tactic| (with_reducible refine' mt_in T.Melody.cl T.Melody_neg.mt ?hl ?_; (case hl => with_unfolding_all rfl)))
set_option hygiene false in
local macro_rules | `(tactic| walk_at "g1") => `(tactic| (with_reducible refine' mt_own ?ha T.Melody.cl T.Melody_invert.mt ?hl ?_; (case ha => (repeat (first | with_reducible assumption | with_reducible constructor))); (case hl => with_unfolding_all rfl)))
set_option hygiene false in
local macro_rules | `(tactic| walk_at "g1") => `(tactic| (with_reducible refine' mt_in T.Melody.cl T.Melody_invert.mt ?hl ?_; (case hl => with_unfolding_all rfl)))
set_option hygiene false in
local macro_rules | `(tactic| walk_at "g1") => `(tactic| (with_reducible refine' mt_own ?ha T.Melody.cl T.Melody_rshift.mt ?hl ?_; (case ha => (repeat (first | with_reducible assumption | with_reducible constructor))); (case hl => with_unfolding_all rfl)))
set_option hygiene false in
local macro_rules | `(tactic| walk_at "g1") => `(tactic| (with_reducible refine' mt_in T.Melody.cl T.Melody_rshift.mt ?hl ?_; (case hl => with_unfolding_all rfl)))
set_option hygiene false in
local macro_rules | `(tactic| walk_at "g1") => `(tactic| (with_reducible refine' mt_own ?ha T.Melody.cl T.Melody_mul.mt ?hl ?_; (case ha => (repeat (first | with_reducible assumption | with_reducible constructor))); (case hl => with_unfolding_all rfl)))
set_option hygiene false in
local macro_rules | `(tactic| walk_at "g1") => `(tactic| (with_reducible refine' mt_in T.Melody.cl T.Melody_mul.mt ?hl ?_; (case hl => with_unfolding_all rfl)))
set_option hygiene false in
local macro_rules | `(tactic| walk_at "g1") => `(tactic| (with_reducible refine' mt_own ?ha T.Melody.cl T.Melody_add.mt ?hl ?_; (case ha => (repeat (first | with_reducible assumption | with_reducible constructor))); (case hl => with_unfolding_all rfl)))
set_option hygiene false in
local macro_rules | `(tactic| walk_at "g1") => `(tactic| (with_reducible refine' mt_in T.Melody.cl T.Melody_add.mt ?hl ?_; (case hl => with_unfolding_all rfl)))
set_option hygiene false in
local macro_rules | `(tactic| walk_at "g1") => `(tactic| (with_reducible refine' mt_own ?ha T.Melody.cl T.Melody_iter.mt ?hl ?_; (case ha => (repeat (first | with_reducible assumption | with_reducible constructor))); (case hl => with_unfolding_all rfl)))
set_option hygiene false in
local macro_rules | `(tactic| walk_at "g1") => `(tactic| (with_reducible refine' mt_in T.Melody.cl T.Melody_iter.mt ?hl ?_; (case hl => with_unfolding_all rfl)))
set_option hygiene false in
local macro_rules | `(tactic| walk_at "g1") => `(tactic| (with_reducible refine' mt_own ?ha T.Melody.cl T.Melody_getitem.mt ?hl ?_; (case ha => (repeat (first | with_reducible assumption | with_reducible constructor))); (case hl => with_unfolding_all rfl)))
set_option hygiene false in
local macro_rules | `(tactic| walk_at "g1") => `(tactic| (with_reducible refine' mt_in T.Melody.cl T.Melody_getitem.mt ?hl ?_; (case hl => with_unfolding_all rfl)))
set_option hygiene false in
local macro_rules | `(tactic| walk_at "g1") => `(tactic| (with_reducible refine' mt_own ?ha T.Melody.cl T.Melody_contains.mt ?hl ?_; (case ha => (repeat (first | with_reducible assumption | with_reducible constructor))); (case hl => with_unfolding_all rfl)))
set_option hygiene false in
local macro_rules | `(tactic| walk_at "g1") => `(tactic| (with_reducible refine' mt_in T.Melody.cl T.Melody_contains.mt ?hl ?_; (case hl => with_unfolding_all rfl)))
set_option hygiene false in
local macro_rules | `(tactic| walk_at "g1") => `(tactic| (with_reducible refine' mt_own ?ha T.Melody.cl T.Melody_bool.mt ?hl ?_; (case ha => (repeat (first | with_reducible assumption | with_reducible constructor))); (case hl => with_unfolding_all rfl)))
set_option hygiene false in
local macro_rules | `(tactic| walk_at "g1") => `(tactic| (with_reducible refine' mt_in T.Melody.cl T.Melody_bool.mt ?hl ?_; (case hl => with_unfolding_all rfl)))
set_option hygiene false in
local macro_rules | `(tactic| walk_at "g1") => `(tactic| (with_reducible refine' mt_own ?ha T.Melody.cl T.Melody_eq.mt ?hl ?_; (case ha => (repeat (first | with_reducible assumption | with_reducible constructor))); (case hl => with_unfolding_all rfl)))
set_option hygiene false in
local macro_rules | `(tactic| walk_at "g1") => `(tactic| (with_reducible refine' mt_in T.Melody.cl T.Melody_eq.mt ?hl ?_; (case hl => with_unfolding_all rfl)))
set_option hygiene false in
local macro_rules | `(tactic| walk_at "g1") => `(tactic| (with_reducible refine' mt_own ?ha T.Melody.cl T.Melody_len.mt ?hl ?_; (case ha => (repeat (first | with_reducible assumption | with_reducible constructor))); (case hl => with_unfolding_all rfl)))
set_option hygiene false in
local macro_rules | `(tactic| walk_at "g1") => `(tactic| (with_reducible refine' mt_in T.Melody.cl T.Melody_len.mt ?hl ?_; (case hl => with_unfolding_all rfl)))
set_option hygiene false in
local macro_rules | `(tactic| walk_at "g1") => `(tactic| (with_reducible refine' mt_own ?ha T.Melody.cl T.Melody_call.mt ?hl ?_; (case ha => (repeat (first | with_reducible assumption | with_reducible constructor))); (case hl => with_unfolding_all rfl)))
set_option hygiene false in
local macro_rules | `(tactic| walk_at "g1") => `(tactic| (with_reducible refine' mt_in T.Melody.cl T.Melody_call.mt ?hl ?_; (case hl => with_unfolding_all rfl)))
set_option hygiene false in
local macro_rules | `(tactic| walk_at "g1") => `(tactic| (with_reducible refine' mt_own ?ha T.Melody.cl T.Melody_sound.mt ?hl ?_; (case ha => (repeat (first | with_reducible assumption | with_reducible constructor))); (case hl => with_unfolding_all rfl)))
set_option hygiene false in
local macro_rules | `(tactic| walk_at "g1") => `(tactic| (with_reducible refine' mt_in T.Melody.cl T.Melody_sound.mt ?hl ?_; (case hl => with_unfolding_all rfl)))
set_option hygiene false in
local macro_rules | `(tactic| walk_at "g1") => `(tactic| (with_reducible refine' mt_own ?ha T.Melody.cl T.Melody_init.mt ?hl ?_; (case ha => (repeat (first | with_reducible assumption | with_reducible constructor))); (case hl => with_unfolding_all rfl)))
set_option hygiene false in
local macro_rules | `(tactic| walk_at "g1") => `(tactic| (with_reducible refine' mt_in T.Melody.cl T.Melody_init.mt ?hl ?_; (case hl => with_unfolding_all rfl)))
set_option hygiene false in
local macro_rules | `(tactic| walk_at "g1") => `(tactic| (with_reducible refine' mt_own ?ha T.InvalidOperation.cl T.InvalidOperation_init.mt ?hl ?_; (case ha => (repeat (first | with_reducible assumption | with_reducible constructor))); (case hl => with_unfolding_all rfl)))
set_option hygiene false in
local macro_rules | `(tactic| walk_at "g1") => `(tactic| (with_reducible refine' mt_in T.InvalidOperation.cl T.InvalidOperation_init.mt ?hl ?_; (case hl => with_unfolding_all rfl)))
set_option hygiene false in
local macro_rules | `(tactic| walk_at "g1") => `(tactic| (with_reducible refine' mt_own ?ha T.InvalidCode.cl T.InvalidCode_init.mt ?hl ?_; (case ha => (repeat (first | with_reducible assumption | with_reducible constructor))); (case hl => with_unfolding_all rfl)))
set_option hygiene false in
local macro_rules | `(tactic| walk_at "g1") => `(tactic| (with_reducible refine' mt_in T.InvalidCode.cl T.InvalidCode_init.mt ?hl ?_; (case hl => with_unfolding_all rfl)))
set_option hygiene false in
local macro_rules | `(tactic| walk_at "g1") => `(tactic| (with_reducible refine' mt_own ?ha T.TextFault.cl T.TextFault_init.mt ?hl ?_; (case ha => (repeat (first | with_reducible assumption | with_reducible constructor))); (case hl => with_unfolding_all rfl)))
set_option hygiene false in
local macro_rules | `(tactic| walk_at "g1") => `(tactic| (with_reducible refine' mt_in T.TextFault.cl T.TextFault_init.mt ?hl ?_; (case hl => with_unfolding_all rfl)))
set_option hygiene false in
local macro_rules | `(tactic| walk_at "g1") => `(tactic| (with_reducible refine' mt_own ?ha T.InvalidRound.cl T.InvalidRound_init.mt ?hl ?_; (case ha => (repeat (first | with_reducible assumption | with_reducible constructor))); (case hl => with_unfolding_all rfl)))
set_option hygiene false in
local macro_rules | `(tactic| walk_at "g1") => `(tactic| (with_reducible refine' mt_in T.InvalidRound.cl T.InvalidRound_init.mt ?hl ?_; (case hl => with_unfolding_all rfl)))
set_option hygiene false in
local macro_rules | `(tactic| walk_at "g1") => `(tactic| (with_reducible refine' mt_own ?ha T.InvalidMelody.cl T.InvalidMelody_init.mt ?hl ?_; (case ha => (repeat (first | with_reducible assumption | with_reducible constructor))); (case hl => with_unfolding_all rfl)))
set_option hygiene false in
local macro_rules | `(tactic| walk_at "g1") => `(tactic| (with_reducible refine' mt_in T.InvalidMelody.cl T.InvalidMelody_init.mt ?hl ?_; (case hl => with_unfolding_all rfl)))
set_option hygiene false in
local macro_rules | `(tactic| walk_at "g1") => `(tactic| (with_reducible refine' pr_operations T hr ?hk ?hl ?h8 ?_; (case hk => decide); (case hl => (first | assumption | omega)); (case h8 => (first | assumption | omega))))
set_option hygiene false in
local macro_rules | `(tactic| walk_at "g1") => `(tactic| (with_reducible refine' pr_singers T hr ?hk ?hl ?h8 ?_; (case hk => decide); (case hl => (first | assumption | omega)); (case h8 => (first | assumption | omega))))
set_option hygiene false in
local macro_rules | `(tactic| walk_at "g1") => `(tactic| (with_reducible refine' pr_clash_count T hr ?hk ?hl ?h8 ?_; (case hk => decide); (case hl => (first | assumption | omega)); (case h8 => (first | assumption | omega))))
set_option hygiene false in
local macro_rules | `(tactic| walk_at "g1") => `(tactic| (with_reducible refine' pr_passed T hr ?hk ?hl ?h8 ?_; (case hk => decide); (case hl => (first | assumption | omega)); (case h8 => (first | assumption | omega))))
set_option hygiene false in
local macro_rules | `(tactic| walk_at "g1") => `(tactic| with_reducible refine lst_in ?_)
set_option hygiene false in
local macro_rules | `(tactic| walk_at "g1") => `(tactic| (with_reducible refine' app_in ?h1 ?h2 ?h3 ?_; (case h1 => (repeat (first | with_reducible assumption | with_reducible constructor))); (case h2 => (first | omega | (simp; done) | (simp; omega))); (case h3 => (repeat (first | with_reducible assumption | with_reducible constructor)))))
set_option hygiene false in
local macro_rules | `(tactic| walk_at "g1") => `(tactic| (with_reducible refine' rng2_in ?h1 ?h2 ?h3 ?h4 ?_; (case h1 => (first | decide | omega)); (case h2 => (first | decide | omega)); (case h3 => (first | decide | omega)); (case h4 => (first | decide | omega))))
set_option hygiene false in
local macro_rules | `(tactic| walk_at "g1") => `(tactic| (with_reducible refine' rng1_in ?h1 ?h2 ?_; (case h1 => (first | decide | omega)); (case h2 => (first | decide | omega))))
set_option hygiene false in
local macro_rules | `(tactic| walk_at "g1") => `(tactic| with_reducible refine seq1_tup ?_)
set_option hygiene false in
local macro_rules | `(tactic| walk_at "g1") => `(tactic| with_reducible refine seq1_fz ?_)
set_option hygiene false in
local macro_rules | `(tactic| walk_at "g1") => `(tactic| with_reducible refine seq1_lst ?_)
set_option hygiene false in
local macro_rules | `(tactic| walk_at "g1") => `(tactic| with_reducible refine seq_tup ?_)
set_option hygiene false in
local macro_rules | `(tactic| walk_at "g1") => `(tactic| with_reducible refine seq_fz ?_)
set_option hygiene false in
local macro_rules | `(tactic| walk_at "g1") => `(tactic| with_reducible refine seq_lst ?_)
set_option hygiene false in
local macro_rules | `(tactic| walk_at "g1") => `(tactic| (with_reducible refine' par3_in ?h1 ?h2 ?h3 ?_; (case h1 => repeat (with_reducible constructor)); (case h2 => repeat (with_reducible constructor)); (case h3 => repeat (with_reducible constructor))))
set_option hygiene false in
local macro_rules | `(tactic| walk_at "g1") => `(tactic| (with_reducible refine' par_in ?h1 ?h2 ?_; (case h1 => repeat (with_reducible constructor)); (case h2 => repeat (with_reducible constructor))))
set_option hygiene false in
local macro_rules | `(tactic| walk_at "g1") => `(tactic| (with_reducible refine' own2_in ?ga ?_; (case ga => repeat (first | with_reducible assumption | with_reducible exact At.head | with_reducible apply At.tail))))
set_option hygiene false in
local macro_rules | `(tactic| walk_at "g1") => `(tactic| ((with_reducible refine' wp_in ?gw ?_); (case gw => (repeat (first | exact Wp.nil | exact SetN.head | apply SetN.tail | apply Wp.cons)))))
set_option hygiene false in
local macro_rules | `(tactic| walk_at "g1") => `(tactic| (with_reducible refine' sd_in ?hs ?_; (case hs => (repeat (with_reducible constructor)))))
set_option hygiene false in
local macro_rules | `(tactic| walk_at "g1") => `(tactic| with_reducible refine fld_own (by (repeat (first | with_reducible assumption | with_reducible constructor))) (by with_unfolding_all rfl) ?_)
set_option hygiene false in
local macro_rules | `(tactic| walk_at "g1") => `(tactic| with_reducible refine fld_ins (by with_unfolding_all rfl) ?_)
set_option hygiene false in
local macro_rules | `(tactic| walk_at "g1") => `(tactic| with_reducible refine len_and (by with_unfolding_all rfl) ?_)
set_option hygiene false in
local macro_rules | `(tactic| walk_at "g1") => `(tactic| with_reducible refine rb_nf ?_)
set_option hygiene false in
local macro_rules | `(tactic| walk_at "g1") => `(tactic| with_reducible refine rb_nt ?_)
set_option hygiene false in
local macro_rules | `(tactic| walk_at "g1") => `(tactic| with_reducible refine br_nf ?_)
set_option hygiene false in
local macro_rules | `(tactic| walk_at "g1") => `(tactic| with_reducible refine br_nt ?_)
set_option hygiene false in
local macro_rules | `(tactic| walk_at "g1") => `(tactic| with_reducible refine rb_f ?_)
set_option hygiene false in
local macro_rules | `(tactic| walk_at "g1") => `(tactic| with_reducible refine rb_t ?_)
set_option hygiene false in
local macro_rules | `(tactic| walk_at "g1") => `(tactic| with_reducible refine br_f ?_)
set_option hygiene false in
local macro_rules | `(tactic| walk_at "g1") => `(tactic| with_reducible refine br_t ?_)
set_option hygiene false in
local macro_rules | `(tactic| walk_at "g1") => `(tactic| with_reducible refine str_in ?_)
set_option hygiene false in
local macro_rules | `(tactic| walk_at "g1") => `(tactic| with_reducible refine int_in2 ?_)
set_option hygiene false in
local macro_rules | `(tactic| walk_at "g1") => `(tactic| with_reducible refine int_in ?_)
set_option hygiene false in
local macro_rules | `(tactic| walk_at "g1") => `(tactic| with_reducible refine ref_in ?_)
set_option hygiene false in
local macro_rules | `(tactic| walk_at "g1") => `(tactic| with_reducible refine ex_bl ?_)
set_option hygiene false in
local macro_rules | `(tactic| walk_at "g1") => `(tactic| (with_reducible refine as_DX ?_; (first | (with_reducible refine' dx_tup ?dxh ?_; (case dxh => first | with_reducible exact atI_0 | with_reducible exact atI_1 | with_reducible exact atI_2 | with_reducible exact atI_3)) | (with_reducible refine' dx_lst ?dxh ?_; (case dxh => first | with_reducible exact atI_0 | with_reducible exact atI_1 | with_reducible exact atI_2 | with_reducible exact atI_3)) | (with_reducible refine' dx_own ?dxm ?dxh ?_; (case dxm => (repeat (first | with_reducible assumption | with_reducible constructor))); (case dxh => first | with_reducible exact atI_0 | with_reducible exact atI_1 | with_reducible exact atI_2 | with_reducible exact atI_3)))))
set_option hygiene false in
local macro_rules | `(tactic| walk_at "g1") => `(tactic| (with_reducible refine as_DI ?_; (first | (with_reducible refine' di_range1 (by assumption) T.b_range ?_) | (with_reducible refine' di_range2 (by assumption) T.b_range ?_) | (with_reducible refine' di_enumS (by assumption) T.b_enumerate ?_))))
set_option hygiene false in
local macro_rules | `(tactic| walk_at "g1") => `(tactic| (with_reducible refine as_DG ?_; (first | (with_reducible refine' dg_name (hl := ?hl) (by assumption) ?hi ?hs ?_; (case hl => ((repeat (with_reducible constructor)); done)); (case hi => (repeat (with_reducible constructor))); (case hs => (repeat (with_reducible constructor)))) | with_reducible refine dg_sub ?_ | (with_reducible refine' dg_cell (hl := ?hl) (by assumption) Df.fn ?hi ?hs ?_; (case hl => ((repeat (with_reducible constructor)); done)); (case hi => (repeat (with_reducible constructor))); (case hs => (repeat (with_reducible constructor)))) | with_reducible refine dg_tup (by assumption) (by with_unfolding_all rfl) ?_ )))
set_option hygiene false in
local macro_rules | `(tactic| walk_at "g1") => `(tactic| (with_reducible refine as_DCk ?_; (first | fail)))
set_option hygiene false in
local macro_rules | `(tactic| walk_at "g1") => `(tactic| (with_reducible refine as_DKw ?_; (first | fail )))
set_option hygiene false in
local macro_rules | `(tactic| walk_at "g1") => `(tactic| (with_reducible refine as_DC ?_; (first | (with_reducible refine' dc_isinT T hr ?hk ?h1 ?h2 ?_; (case hk => decide); (case h1 => omega); (case h2 => omega)) | (with_reducible refine' dc_isin T hr ?hk ?ht ?_; (case hk => decide); (case ht => (first | assumption | (simp [tyD]; done) | exact tyD_opt _))) | (with_reducible refine' mk_melK T hr ?hk ?hm ?_; (case hk => decide); (case hm => assumption)) | (with_reducible refine' dc_bel T hr ?hk ?ha ?h0 ?h1 ?_; (case hk => decide); (case ha => (repeat (first | with_reducible assumption | with_reducible constructor))); (case h0 => (first | decide | omega)); (case h1 => (first | decide | omega))) | (with_reducible refine' dc_sound T hr ?hk ?hm ?_; (case hk => decide); (case hm => assumption)) | with_reducible refine dc_abs ?_ | with_reducible refine dc_intB ?_ | with_reducible refine dc_len_own (by (repeat (first | with_reducible assumption | with_reducible constructor))) ?_ | with_reducible refine dc_int ?_ | with_reducible refine dc_tuple ?_ | with_reducible refine dc_len_tup ?_ | with_reducible refine dc_len_str (by first | assumption | omega) ?_ | with_reducible refine dc_len_lst ?_ | (with_reducible refine' dc_isi_int ?hty ?_; (case hty => first | assumption | (simp [tyD]; done))) | (with_reducible refine' dc_isi_bl ?hty ?_; (case hty => first | assumption | (simp [tyD]; done))) | (with_reducible refine' dc_isi_str ?hty ?_; (case hty => first | assumption | (simp [tyD]; done))) | (with_reducible refine' dc_isi_tup ?hty ?_; (case hty => first | assumption | (simp [tyD]; done))) | (with_reducible refine' dc_isi_lst ?hty ?_; (case hty => first | assumption | (simp [tyD]; done))))))
set_option hygiene false in
local macro_rules | `(tactic| walk_at "g1") => `(tactic| (with_reducible refine as_DB ?_; (first | (with_reducible refine' db_shift T hr ?hk ?h1 ?h2 ?hm ?hm2 ?_; (case hk => decide); (case h1 => omega); (case h2 => omega); (case hm => assumption); (case hm2 => assumption)) | with_reducible refine db_add ?_ | with_reducible refine db_sub ?_ | with_reducible refine db_lt ?_ | with_reducible refine db_le ?_ | with_reducible refine db_gt ?_ | with_reducible refine db_ge ?_ | with_reducible refine db_eq_int ?_ | with_reducible refine db_ne_int ?_ | with_reducible refine db_eq_str ?_ | with_reducible refine db_ne_str ?_ | with_reducible refine db_isN ?_ | with_reducible refine db_notN ?_ | with_reducible refine db_iadd ?_ | with_reducible refine db_eq_bl ?_ | with_reducible refine db_ne_bl ?_ | with_reducible refine db_in_sign ?_ | with_reducible refine db_notin_sign ?_ | with_reducible refine db_mul (cm_r (by decide) (by decide)) ?_ | with_reducible refine db_fdiv (cdiv_ (by decide) (by decide)) ?_ | with_reducible refine db_mod (by first | decide | omega) ?_ | with_reducible refine db_pow (cpow_ (by decide) (by decide) (by decide)) ?_ | with_reducible refine db_inI .tup ?_ | with_reducible refine db_inI .lst ?_)))
set_option hygiene false in
local macro_rules | `(tactic| walk_at "g1") => `(tactic| (with_reducible refine as_DW ?_; (first | with_reducible refine dw_and ?_ | with_reducible refine dw_or ?_ | with_reducible refine dw_one ?_)))
set_option hygiene false in
local macro_rules | `(tactic| walk_at "g1") => `(tactic| (with_reducible refine as_DT ?_; (first | with_reducible refine dt_cmp ?_ | with_reducible refine dt_lele ?_ | with_reducible refine dt_not ?_ | with_reducible refine dt_w (dw_and ?_) | with_reducible refine dt_w (dw_or ?_) | with_reducible refine dt_val ?_)))
set_option hygiene false in
local macro_rules | `(tactic| walk_at "g1") => `(tactic| (with_reducible refine as_DS ?_; (first | with_reducible refine ds_raise0 (by assumption) T.OutOfRange ?_ | with_reducible refine ds_raise0 (by assumption) T.InvalidNumber ?_ | with_reducible refine ds_raise0 (by assumption) T.TooLong ?_ | with_reducible refine ds_raise0 (by assumption) T.Contradiction ?_ | with_reducible refine ds_raise0 (by assumption) T.UnknownVoice ?_ | with_reducible refine ds_raise0 (by assumption) T.TooManyVoices ?_ | with_reducible refine ds_raise0 (by assumption) T.InvalidName ?_ | with_reducible refine ds_raise0 (by assumption) T.UnknownName ?_ | with_reducible refine ds_ret ?_ | with_reducible refine ds_if ?_ | with_reducible refine ds_expr ?_ | (with_reducible refine' ds_set (hl := ?hl) (by assumption) ?hi ?_; (case hl => ((repeat (with_reducible constructor)); done)); (case hi => (repeat (with_reducible constructor)))) | (with_reducible refine' ds_par2 (hx := ?hx) (hy := ?hy) (by assumption) ?hi ?hj ?hk ?_; (case hx => ((repeat (with_reducible constructor)); done)); (case hy => ((repeat (with_reducible constructor)); done)); (case hi => repeat (with_reducible constructor)); (case hj => repeat (with_reducible constructor)); (case hk => with_unfolding_all rfl)) | (with_reducible refine' ds_aug (hl := ?hl) (by assumption) ?hi ?hd ?_; (case hl => ((repeat (with_reducible constructor)); done)); (case hi => repeat (with_reducible constructor)); (case hd => repeat (with_reducible constructor))) | with_reducible refine ds_fld ?_ | with_reducible refine ds_asg ?_ )))
set_option hygiene false in
local macro_rules | `(tactic| walk_at "g1") => `(tactic| (with_reducible refine as_DSs ?_; (first | with_reducible refine dss_one ?_ | with_reducible refine dss_cons ?_ | with_reducible refine dss_nil ?_)))
set_option hygiene false in
local macro_rules | `(tactic| walk_at "g1") => `(tactic| (with_reducible refine as_DA ?_; (first | with_reducible refine da_cons ?_ | with_reducible refine da_nil ?_ | with_reducible refine da_star ?_)))
set_option hygiene false in
local macro_rules | `(tactic| walk_at "g1") => `(tactic| (with_reducible refine as_DE ?_; (first | with_reducible refine de_count hr.u65 ?_ | with_reducible refine de_index hr.u65 ?_ | (with_reducible refine' de_callErr T (by assumption) (by assumption) (by assumption) (by assumption) hr ?ha ?_; (case ha => (repeat (first | with_reducible exact At.head | with_reducible assumption | with_reducible apply At.tail)))) | with_reducible refine de_pop ?_ | with_reducible refine de_sliceT (a := .Name "_law_voice" _) ?_ | (with_reducible refine de_wgetA (o := .Name "LENGTHS" _) ?_) | (with_reducible refine as_name ?_; (first | (with_reducible refine' de_name (by assumption) ?hi ?hd ?_; (case hi => (repeat (with_reducible constructor))); (case hd => (repeat (with_reducible constructor)))) | with_reducible refine de_cint (by assumption) T.v_MAX_NUMBER ?_ | with_reducible refine de_cstr (by assumption) T.v_DIGITS ?_ | with_reducible refine de_cstr (by assumption) T.v_REST ?_ | with_reducible refine de_cint (by assumption) T.v_MAX_SHIFT ?_ | with_reducible refine de_cint (by assumption) T.v_MAX_VOICES ?_ | with_reducible refine de_cint (by assumption) T.v_MAX_BEATS ?_ | with_reducible refine de_cstr (by assumption) T.v_ENTER ?_ | with_reducible refine de_cstr (by assumption) T.v_LEAVE ?_ | with_reducible refine de_cstr (by assumption) T.v_SING ?_ | with_reducible refine de_cstr (by assumption) T.v_UNDO ?_ | with_reducible refine de_cstr (by assumption) T.v_REDO ?_ | with_reducible refine de_bltn (T := "bool") (by assumption) T.b_bool boot_bool ?_ | with_reducible refine de_bltn (T := "int") (by assumption) T.b_int boot_int ?_ | with_reducible refine de_bltn (T := "list") (by assumption) T.b_list boot_list ?_ | with_reducible refine de_bltn (T := "str") (by assumption) T.b_str boot_str ?_ | with_reducible refine de_bltn (T := "tuple") (by assumption) T.b_tuple boot_tuple ?_)) | (with_reducible refine as_call ?_; (first | with_reducible refine de_append ?_ | with_reducible refine de_join ?_ | with_reducible refine de_split ?_ | with_reducible refine de_extend ?_ | with_reducible refine de_call (by assumption) T.is_int_in.g T.is_int_in.k ?_ | with_reducible refine de_call (by assumption) T.is_note.g T.is_note.k ?_ | with_reducible refine de_call (by assumption) T.Melody.g T.Melody.k ?_ | with_reducible refine de_callS (by assumption) T.Melody.g T.Melody.k ?_ | with_reducible refine de_call (by assumption) T.melody_of.g T.melody_of.k ?_ | with_reducible refine de_call (by assumption) T.is_number.g T.is_number.k ?_ | with_reducible refine de_call (by assumption) T.check_clashing.g T.check_clashing.k ?_ | with_reducible refine de_call (by assumption) T.do_clash.g T.do_clash.k ?_ | with_reducible refine de_call (by assumption) T.check_shift.g T.check_shift.k ?_ | with_reducible refine de_call (by assumption) T.is_operation.g T.is_operation.k ?_ | with_reducible refine de_call (by assumption) T.Choir.g T.Choir.k ?_ | with_reducible refine de_callS (by assumption) T.Choir.g T.Choir.k ?_ | with_reducible refine de_call (by assumption) T.law_random.g T.law_random.k ?_ | with_reducible refine de_call (by assumption) T.law_below.g T.law_below.k ?_ | with_reducible refine de_call (by assumption) T.law_notes.g T.law_notes.k ?_ | with_reducible refine de_call (by assumption) T.law_new.g T.law_new.k ?_ | with_reducible refine de_call (by assumption) T.law_words.g T.law_words.k ?_ | with_reducible refine de_call (by assumption) T.law_melody.g T.law_melody.k ?_ | with_reducible refine de_call (by assumption) T.law_fits.g T.law_fits.k ?_ | with_reducible refine de_call (by assumption) T.law_shifted.g T.law_shifted.k ?_ | with_reducible refine de_call (by assumption) T.law_row.g T.law_row.k ?_ | with_reducible refine de_call (by assumption) T.law_sounds.g T.law_sounds.k ?_ | with_reducible refine de_call (by assumption) T.law_is_clash.g T.law_is_clash.k ?_ | with_reducible refine de_call (by assumption) T.law_pairs.g T.law_pairs.k ?_ | with_reducible refine de_call (by assumption) T.law_worked_on.g T.law_worked_on.k ?_ | with_reducible refine de_call (by assumption) T.law_worked.g T.law_worked.k ?_ | with_reducible refine de_call (by assumption) T.law_equal.g T.law_equal.k ?_ | with_reducible refine de_call (by assumption) T.law_operation.g T.law_operation.k ?_ | with_reducible refine de_call (by assumption) T.law_error_of.g T.law_error_of.k ?_ | with_reducible refine de_call (by assumption) T.law_stands.g T.law_stands.k ?_ | with_reducible refine de_call (by assumption) T.law.g T.law.k ?_ | with_reducible refine de_callB (id := "abs") (by assumption) T.b_abs boot_abs ?_ | with_reducible refine de_callB (id := "all") (by assumption) T.b_all boot_all ?_ | with_reducible refine de_callB (id := "any") (by assumption) T.b_any boot_any ?_ | with_reducible refine de_callT (T := "bool") (by assumption) T.b_bool boot_bool ?_ | with_reducible refine de_callT (T := "int") (by assumption) T.b_int boot_int ?_ | with_reducible refine de_callB (id := "isinstance") (by assumption) T.b_isinstance boot_isinstance ?_ | with_reducible refine de_callB (id := "len") (by assumption) T.b_len boot_len ?_ | with_reducible refine de_callT (T := "list") (by assumption) T.b_list boot_list ?_ | with_reducible refine de_callB (id := "sorted") (by assumption) T.b_sorted boot_sorted ?_ | with_reducible refine de_callT (T := "str") (by assumption) T.b_str boot_str ?_ | with_reducible refine de_callT (T := "tuple") (by assumption) T.b_tuple boot_tuple ?_ | with_reducible refine de_cmeth T.Melody.rd T.Melody_parse.c ?_ | with_reducible refine de_meth ?_ | with_reducible refine de_meth0 ?_)) | (with_reducible refine as_con ?_; (first | with_reducible refine de_int ?_ | with_reducible refine de_str ?_ | with_reducible refine de_non ?_ | with_reducible refine de_bl ?_)) | with_reducible refine de_bin ?_ | with_reducible refine de_cmp ?_ | with_reducible refine de_lele ?_ | with_reducible refine de_if ?_ | with_reducible refine de_ix ?_ (by with_unfolding_all (intro _ _; rfl)) (by with_unfolding_all (intro _ _; rfl)) | with_reducible refine de_tup ?_ | with_reducible refine de_and ?_ | with_reducible refine de_or ?_ | with_reducible refine de_one ?_ | with_reducible refine de_not ?_ | with_reducible refine de_lst ?_ | with_reducible refine de_neg ?_ | (with_reducible refine de_sliceL ?_) | (with_reducible refine as_attr ?_; (first | with_reducible refine de_fldG T.InvalidRound.cl T.n_InvalidRound_part ?_ | with_reducible refine de_fldG T.TextFault.cl T.n_TextFault_word ?_ | with_reducible refine de_cconst (by assumption) T.Melody T.v_Melody_MAX_NOTES ?_ | with_reducible refine de_cconst (by assumption) T.Melody T.v_Melody_MAX_BEATS ?_ | with_reducible refine de_cconst (by assumption) T.Melody T.v_Melody_MAX_PITCH ?_ | with_reducible refine de_fldG T.Melody.cl T.n_Melody_given ?_ | with_reducible refine de_fldG T.Melody.cl T.n_Melody_row ?_ | with_reducible refine de_fldG T.Choir.cl T.n_Choir_melody ?_ | with_reducible refine de_fldG T.Choir.cl T.n_Choir_clashing ?_ | with_reducible refine de_fldG T.Choir.cl T.n_Choir_now ?_ | with_reducible refine de_fldG T.Choir.cl T.n_Choir_past ?_ | with_reducible refine de_fldG T.Choir.cl T.n_Choir_undone ?_ | with_reducible refine de_fldG T.Choir.cl T.n_Choir_saved ?_ | with_reducible refine de_propS ?_)))))
set_option hygiene false in
local macro_rules | `(tactic| walk_at "g1") => `(tactic| (with_reducible exact REST))
set_option hygiene false in
local macro_rules | `(tactic| walk_at "h1") => `(tactic| (dsimp only [dOpt_none, dOpt_some]))
set_option hygiene false in
local macro_rules | `(tactic| walk_at "h1") => `(tactic| (with_reducible refine as_rb ?_; (first | with_reducible refine rb_et (by with_unfolding_all rfl) ?_ | with_reducible refine rb_ef (by with_unfolding_all rfl) ?_)))
set_option hygiene false in
local macro_rules | `(tactic| walk_at "h1") => `(tactic| (with_reducible refine as_br ?_; (first | with_reducible refine br_et (by with_unfolding_all rfl) ?_ | with_reducible refine br_ef (by with_unfolding_all rfl) ?_)))
set_option hygiene false in
local macro_rules | `(tactic| walk_at "h1") => `(tactic| with_reducible refine star_lst ?_)
set_option hygiene false in
local macro_rules | `(tactic| walk_at "h1") => `(tactic| with_reducible refine star_tup ?_)
set_option hygiene false in
local macro_rules | `(tactic| walk_at "h1") => `(tactic| (with_reducible exact ⟨rfl, rfl⟩))
set_option hygiene false in
local macro_rules | `(tactic| walk_at "h1") => `(tactic| (with_reducible refine as_blk ?_; (intro X2 B2; have T := (show Txt X2.K X2.mg a from by rw [B2.K, B2.mg]; assumption); have S2 := B2.sc; have hr := B2.room (by assumption))))
set_option hygiene false in
local macro_rules | `(tactic| walk_at "h1") => `(tactic| with_reducible refine dts_one ?_)
set_option hygiene false in
local macro_rules | `(tactic| walk_at "h1") => `(tactic| with_reducible refine dts_nil ?_)
set_option hygiene false in
local macro_rules | `(tactic| walk_at "h1") => `(tactic| with_reducible refine dgcs_nil ?_)
set_option hygiene false in
local macro_rules | `(tactic| walk_at "h1") => `(tactic| with_reducible refine dgcs_cons ?_)
set_option hygiene false in
local macro_rules | `(tactic| walk_at "h1") => `(tactic| with_reducible refine dgs_nil ?_)
set_option hygiene false in
local macro_rules | `(tactic| walk_at "h1") => `(tactic| with_reducible refine dgs_cons ?_)
set_option hygiene false in
local macro_rules | `(tactic| walk_at "h1") => `(tactic| with_reducible refine dgc_tup (by assumption) (by with_unfolding_all rfl) ?_)
set_option hygiene false in
local macro_rules | `(tactic| walk_at "h1") => `(tactic| (with_reducible refine' dgc_name (by assumption) ?hi ?hs ?hv ?_; (case hi => (repeat (with_reducible constructor))); (case hs => (repeat (with_reducible constructor))); (case hv => decide)))
set_option hygiene false in
local macro_rules | `(tactic| walk_at "h1") => `(tactic| with_reducible refine dpo_some ?_)
set_option hygiene false in
local macro_rules | `(tactic| walk_at "h1") => `(tactic| with_reducible refine dpo_none ?_)
set_option hygiene false in
local macro_rules | `(tactic| walk_at "h1") => `(tactic| (with_reducible refine' fput_in ?ha T.Choir.cl T.n_Choir_saved ?hl ?hp ?_; (case ha => (repeat (first | with_reducible assumption | with_reducible constructor))); (case hl => with_unfolding_all rfl); (case hp => (repeat (first | with_reducible assumption | with_reducible constructor)))))
set_option hygiene false in
local macro_rules | `(tactic| walk_at "h1") => `(tactic| (with_reducible refine' fput_in ?ha T.Choir.cl T.n_Choir_undone ?hl ?hp ?_; (case ha => (repeat (first | with_reducible assumption | with_reducible constructor))); (case hl => with_unfolding_all rfl); (case hp => (repeat (first | with_reducible assumption | with_reducible constructor)))))
set_option hygiene false in
local macro_rules | `(tactic| walk_at "h1") => `(tactic| (with_reducible refine' fput_in ?ha T.Choir.cl T.n_Choir_past ?hl ?hp ?_; (case ha => (repeat (first | with_reducible assumption | with_reducible constructor))); (case hl => with_unfolding_all rfl); (case hp => (repeat (first | with_reducible assumption | with_reducible constructor)))))
set_option hygiene false in
local macro_rules | `(tactic| walk_at "h1") => `(tactic| (with_reducible refine' fput_in ?ha T.Choir.cl T.n_Choir_now ?hl ?hp ?_; (case ha => (repeat (first | with_reducible assumption | with_reducible constructor))); (case hl => with_unfolding_all rfl); (case hp => (repeat (first | with_reducible assumption | with_reducible constructor)))))
set_option hygiene false in
local macro_rules | `(tactic| walk_at "h1") => `(tactic| (with_reducible refine' fput_in ?ha T.Choir.cl T.n_Choir_clashing ?hl ?hp ?_; (case ha => (repeat (first | with_reducible assumption | with_reducible constructor))); (case hl => with_unfolding_all rfl); (case hp => (repeat (first | with_reducible assumption | with_reducible constructor)))))
set_option hygiene false in
local macro_rules | `(tactic| walk_at "h1") => `(tactic| (with_reducible refine' fput_in ?ha T.Choir.cl T.n_Choir_melody ?hl ?hp ?_; (case ha => (repeat (first | with_reducible assumption | with_reducible constructor))); (case hl => with_unfolding_all rfl); (case hp => (repeat (first | with_reducible assumption | with_reducible constructor)))))
set_option hygiene false in
local macro_rules | `(tactic| walk_at "h1") => `(tactic| (with_reducible refine' fput_in ?ha T.Melody.cl T.n_Melody_row ?hl ?hp ?_; (case ha => (repeat (first | with_reducible assumption | with_reducible constructor))); (case hl => with_unfolding_all rfl); (case hp => (repeat (first | with_reducible assumption | with_reducible constructor)))))
set_option hygiene false in
local macro_rules | `(tactic| walk_at "h1") => `(tactic| (with_reducible refine' fput_in ?ha T.Melody.cl T.n_Melody_given ?hl ?hp ?_; (case ha => (repeat (first | with_reducible assumption | with_reducible constructor))); (case hl => with_unfolding_all rfl); (case hp => (repeat (first | with_reducible assumption | with_reducible constructor)))))
set_option hygiene false in
local macro_rules | `(tactic| walk_at "h1") => `(tactic| (with_reducible refine' fput_in ?ha T.InvalidOperation.cl T.n_InvalidOperation_place ?hl ?hp ?_; (case ha => (repeat (first | with_reducible assumption | with_reducible constructor))); (case hl => with_unfolding_all rfl); (case hp => (repeat (first | with_reducible assumption | with_reducible constructor)))))
set_option hygiene false in
local macro_rules | `(tactic| walk_at "h1") => `(tactic| (with_reducible refine' fput_in ?ha T.InvalidCode.cl T.n_InvalidCode_place ?hl ?hp ?_; (case ha => (repeat (first | with_reducible assumption | with_reducible constructor))); (case hl => with_unfolding_all rfl); (case hp => (repeat (first | with_reducible assumption | with_reducible constructor)))))
set_option hygiene false in
local macro_rules | `(tactic| walk_at "h1") => `(tactic| (with_reducible refine' fput_in ?ha T.TextFault.cl T.n_TextFault_word ?hl ?hp ?_; (case ha => (repeat (first | with_reducible assumption | with_reducible constructor))); (case hl => with_unfolding_all rfl); (case hp => (repeat (first | with_reducible assumption | with_reducible constructor)))))
set_option hygiene false in
local macro_rules | `(tactic| walk_at "h1") => `(tactic| (with_reducible refine' fput_in ?ha T.InvalidRound.cl T.n_InvalidRound_index ?hl ?hp ?_; (case ha => (repeat (first | with_reducible assumption | with_reducible constructor))); (case hl => with_unfolding_all rfl); (case hp => (repeat (first | with_reducible assumption | with_reducible constructor)))))
set_option hygiene false in
local macro_rules | `(tactic| walk_at "h1") => `(tactic| (with_reducible refine' fput_in ?ha T.InvalidRound.cl T.n_InvalidRound_part ?hl ?hp ?_; (case ha => (repeat (first | with_reducible assumption | with_reducible constructor))); (case hl => with_unfolding_all rfl); (case hp => (repeat (first | with_reducible assumption | with_reducible constructor)))))
set_option hygiene false in
local macro_rules | `(tactic| walk_at "h1") => `(tactic| (with_reducible refine' fput_in ?ha T.InvalidMelody.cl T.n_InvalidMelody_index ?hl ?hp ?_; (case ha => (repeat (first | with_reducible assumption | with_reducible constructor))); (case hl => with_unfolding_all rfl); (case hp => (repeat (first | with_reducible assumption | with_reducible constructor)))))
set_option hygiene false in
local macro_rules | `(tactic| walk_at "h1") => `(tactic| (with_reducible refine' fldA_own ?ha T.InvalidOperation.cl T.n_InvalidOperation_place ?hl ?_; (case ha => (repeat (first | with_reducible assumption | with_reducible constructor))); (case hl => with_unfolding_all rfl)))
set_option hygiene false in
local macro_rules | `(tactic| walk_at "h1") => `(tactic| (with_reducible refine' fldA_ins T.InvalidOperation.cl T.n_InvalidOperation_place ?hl ?_; (case hl => with_unfolding_all rfl)))
set_option hygiene false in
local macro_rules | `(tactic| walk_at "h1") => `(tactic| (with_reducible refine' fldA_own ?ha T.InvalidCode.cl T.n_InvalidCode_place ?hl ?_; (case ha => (repeat (first | with_reducible assumption | with_reducible constructor))); (case hl => with_unfolding_all rfl)))
set_option hygiene false in
local macro_rules | `(tactic| walk_at "h1") => `(tactic| (with_reducible refine' fldA_ins T.InvalidCode.cl T.n_InvalidCode_place ?hl ?_; (case hl => with_unfolding_all rfl)))
set_option hygiene false in
local macro_rules | `(tactic| walk_at "h1") => `(tactic| (with_reducible refine' fldA_own ?ha T.InvalidRound.cl T.n_InvalidRound_index ?hl ?_; (case ha => (repeat (first | with_reducible assumption | with_reducible constructor))); (case hl => with_unfolding_all rfl)))
set_option hygiene false in
local macro_rules | `(tactic| walk_at "h1") => `(tactic| (with_reducible refine' fldA_ins T.InvalidRound.cl T.n_InvalidRound_index ?hl ?_; (case hl => with_unfolding_all rfl)))
set_option hygiene false in
local macro_rules | `(tactic| walk_at "h1") => `(tactic| (with_reducible refine' fldA_own ?ha T.InvalidMelody.cl T.n_InvalidMelody_index ?hl ?_; (case ha => (repeat (first | with_reducible assumption | with_reducible constructor))); (case hl => with_unfolding_all rfl)))
set_option hygiene false in
local macro_rules | `(tactic| walk_at "h1") => `(tactic| (with_reducible refine' fldA_ins T.InvalidMelody.cl T.n_InvalidMelody_index ?hl ?_; (case hl => with_unfolding_all rfl)))
set_option hygiene false in
local macro_rules | `(tactic| walk_at "h1") => `(tactic| (with_reducible refine' mt_own ?ha T.Choir.cl T.Choir_batch.mt ?hl ?_; (case ha => (repeat (first | with_reducible assumption | with_reducible constructor))); (case hl => with_unfolding_all rfl)))
set_option hygiene false in
local macro_rules | `(tactic| walk_at "h1") => `(tactic| (with_reducible refine' mt_in T.Choir.cl T.Choir_batch.mt ?hl ?_; (case hl => with_unfolding_all rfl)))
set_option hygiene false in
local macro_rules | `(tactic| walk_at "h1") => `(tactic| (with_reducible refine' mt_own ?ha T.Choir.cl T.Choir_execute.mt ?hl ?_; (case ha => (repeat (first | with_reducible assumption | with_reducible constructor))); (case hl => with_unfolding_all rfl)))
set_option hygiene false in
local macro_rules | `(tactic| walk_at "h1") => `(tactic| (with_reducible refine' mt_in T.Choir.cl T.Choir_execute.mt ?hl ?_; (case hl => with_unfolding_all rfl)))
set_option hygiene false in
local macro_rules | `(tactic| walk_at "h1") => `(tactic| (with_reducible refine' mt_own ?ha T.Choir.cl T.Choir_redo.mt ?hl ?_; (case ha => (repeat (first | with_reducible assumption | with_reducible constructor))); (case hl => with_unfolding_all rfl)))
set_option hygiene false in
local macro_rules | `(tactic| walk_at "h1") => `(tactic| (with_reducible refine' mt_in T.Choir.cl T.Choir_redo.mt ?hl ?_; (case hl => with_unfolding_all rfl)))
set_option hygiene false in
local macro_rules | `(tactic| walk_at "h1") => `(tactic| (with_reducible refine' mt_own ?ha T.Choir.cl T.Choir_undo.mt ?hl ?_; (case ha => (repeat (first | with_reducible assumption | with_reducible constructor))); (case hl => with_unfolding_all rfl)))
set_option hygiene false in
local macro_rules | `(tactic| walk_at "h1") => `(tactic| (with_reducible refine' mt_in T.Choir.cl T.Choir_undo.mt ?hl ?_; (case hl => with_unfolding_all rfl)))
set_option hygiene false in
local macro_rules | `(tactic| walk_at "h1") => `(tactic| (with_reducible refine' mt_own ?ha T.Choir.cl T.Choir_sing.mt ?hl ?_; (case ha => (repeat (first | with_reducible assumption | with_reducible constructor))); (case hl => with_unfolding_all rfl)))
set_option hygiene false in
local macro_rules | `(tactic| walk_at "h1") => `(tactic| (with_reducible refine' mt_in T.Choir.cl T.Choir_sing.mt ?hl ?_; (case hl => with_unfolding_all rfl)))
set_option hygiene false in
local macro_rules | `(tactic| walk_at "h1") => `(tactic| (with_reducible refine' mt_own ?ha T.Choir.cl T.Choir_leave.mt ?hl ?_; (case ha => (repeat (first | with_reducible assumption | with_reducible constructor))); (case hl => with_unfolding_all rfl)))
set_option hygiene false in
local macro_rules | `(tactic| walk_at "h1") => `(tactic| (with_reducible refine' mt_in T.Choir.cl T.Choir_leave.mt ?hl ?_; (case hl => with_unfolding_all rfl)))
set_option hygiene false in
local macro_rules | `(tactic| walk_at "h1") => `(tactic| (with_reducible refine' mt_own ?ha T.Choir.cl T.Choir_enter.mt ?hl ?_; (case ha => (repeat (first | with_reducible assumption | with_reducible constructor))); (case hl => with_unfolding_all rfl)))
set_option hygiene false in
local macro_rules | `(tactic| walk_at "h1") => `(tactic| (with_reducible refine' mt_in T.Choir.cl T.Choir_enter.mt ?hl ?_; (case hl => with_unfolding_all rfl)))
set_option hygiene false in
local macro_rules | `(tactic| walk_at "h1") => `(tactic| (with_reducible refine' mt_own ?ha T.Choir.cl T.Choir_record.mt ?hl ?_; (case ha => (repeat (first | with_reducible assumption | with_reducible constructor))); (case hl => with_unfolding_all rfl)))
set_option hygiene false in
local macro_rules | `(tactic| walk_at "h1") => `(tactic| (with_reducible refine' mt_in T.Choir.cl T.Choir_record.mt ?hl ?_; (case hl => with_unfolding_all rfl)))
set_option hygiene false in
local macro_rules | `(tactic| walk_at "h1") => `(tactic| (with_reducible refine' mt_own ?ha T.Melody.cl T.Melody_neg.mt ?hl ?_; (case ha => (repeat (first | with_reducible assumption | with_reducible constructor))); (case hl => with_unfolding_all rfl)))
set_option hygiene false in
local macro_rules | `(tactic| walk_at "h1") => `(tactic| (with_reducible refine' mt_in T.Melody.cl T.Melody_neg.mt ?hl ?_; (case hl => with_unfolding_all rfl)))
set_option hygiene false in
local macro_rules | `(tactic| walk_at "h1") => `(tactic| (with_reducible refine' mt_own ?ha T.Melody.cl T.Melody_invert.mt ?hl ?_; (case ha => (repeat (first | with_reducible assumption | with_reducible constructor))); (case hl => with_unfolding_all rfl)))
set_option hygiene false in
local macro_rules | `(tactic| walk_at "h1") => `(tactic| (with_reducible refine' mt_in T.Melody.cl T.Melody_invert.mt ?hl ?_; (case hl => with_unfolding_all rfl)))
set_option hygiene false in
local macro_rules | `(tactic| walk_at "h1") => `(tactic| (with_reducible refine' mt_own ?ha T.Melody.cl T.Melody_rshift.mt ?hl ?_; (case ha => (repeat (first | with_reducible assumption | with_reducible constructor))); (case hl => with_unfolding_all rfl)))
set_option hygiene false in
local macro_rules | `(tactic| walk_at "h1") => `(tactic| (with_reducible refine' mt_in T.Melody.cl T.Melody_rshift.mt ?hl ?_; (case hl => with_unfolding_all rfl)))
set_option hygiene false in
local macro_rules | `(tactic| walk_at "h1") => `(tactic| (with_reducible refine' mt_own ?ha T.Melody.cl T.Melody_mul.mt ?hl ?_; (case ha => (repeat (first | with_reducible assumption | with_reducible constructor))); (case hl => with_unfolding_all rfl)))
set_option hygiene false in
local macro_rules | `(tactic| walk_at "h1") => `(tactic| (with_reducible refine' mt_in T.Melody.cl T.Melody_mul.mt ?hl ?_; (case hl => with_unfolding_all rfl)))
set_option hygiene false in
local macro_rules | `(tactic| walk_at "h1") => `(tactic| (with_reducible refine' mt_own ?ha T.Melody.cl T.Melody_add.mt ?hl ?_; (case ha => (repeat (first | with_reducible assumption | with_reducible constructor))); (case hl => with_unfolding_all rfl)))
set_option hygiene false in
local macro_rules | `(tactic| walk_at "h1") => `(tactic| (with_reducible refine' mt_in T.Melody.cl T.Melody_add.mt ?hl ?_; (case hl => with_unfolding_all rfl)))
set_option hygiene false in
local macro_rules | `(tactic| walk_at "h1") => `(tactic| (with_reducible refine' mt_own ?ha T.Melody.cl T.Melody_iter.mt ?hl ?_; (case ha => (repeat (first | with_reducible assumption | with_reducible constructor))); (case hl => with_unfolding_all rfl)))
set_option hygiene false in
local macro_rules | `(tactic| walk_at "h1") => `(tactic| (with_reducible refine' mt_in T.Melody.cl T.Melody_iter.mt ?hl ?_; (case hl => with_unfolding_all rfl)))
set_option hygiene false in
local macro_rules | `(tactic| walk_at "h1") => `(tactic| (with_reducible refine' mt_own ?ha T.Melody.cl T.Melody_getitem.mt ?hl ?_; (case ha => (repeat (first | with_reducible assumption | with_reducible constructor))); (case hl => with_unfolding_all rfl)))
set_option hygiene false in
local macro_rules | `(tactic| walk_at "h1") => `(tactic| (with_reducible refine' mt_in T.Melody.cl T.Melody_getitem.mt ?hl ?_; (case hl => with_unfolding_all rfl)))
set_option hygiene false in
local macro_rules | `(tactic| walk_at "h1") => `(tactic| (with_reducible refine' mt_own ?ha T.Melody.cl T.Melody_contains.mt ?hl ?_; (case ha => (repeat (first | with_reducible assumption | with_reducible constructor))); (case hl => with_unfolding_all rfl)))
set_option hygiene false in
local macro_rules | `(tactic| walk_at "h1") => `(tactic| (with_reducible refine' mt_in T.Melody.cl T.Melody_contains.mt ?hl ?_; (case hl => with_unfolding_all rfl)))
set_option hygiene false in
local macro_rules | `(tactic| walk_at "h1") => `(tactic| (with_reducible refine' mt_own ?ha T.Melody.cl T.Melody_bool.mt ?hl ?_; (case ha => (repeat (first | with_reducible assumption | with_reducible constructor))); (case hl => with_unfolding_all rfl)))
set_option hygiene false in
local macro_rules | `(tactic| walk_at "h1") => `(tactic| (with_reducible refine' mt_in T.Melody.cl T.Melody_bool.mt ?hl ?_; (case hl => with_unfolding_all rfl)))
set_option hygiene false in
local macro_rules | `(tactic| walk_at "h1") => `(tactic| (with_reducible refine' mt_own ?ha T.Melody.cl T.Melody_eq.mt ?hl ?_; (case ha => (repeat (first | with_reducible assumption | with_reducible constructor))); (case hl => with_unfolding_all rfl)))
set_option hygiene false in
local macro_rules | `(tactic| walk_at "h1") => `(tactic| (with_reducible refine' mt_in T.Melody.cl T.Melody_eq.mt ?hl ?_; (case hl => with_unfolding_all rfl)))
set_option hygiene false in
local macro_rules | `(tactic| walk_at "h1") => `(tactic| (with_reducible refine' mt_own ?ha T.Melody.cl T.Melody_len.mt ?hl ?_; (case ha => (repeat (first | with_reducible assumption | with_reducible constructor))); (case hl => with_unfolding_all rfl)))
set_option hygiene false in
local macro_rules | `(tactic| walk_at "h1") => `(tactic| (with_reducible refine' mt_in T.Melody.cl T.Melody_len.mt ?hl ?_; (case hl => with_unfolding_all rfl)))
set_option hygiene false in
local macro_rules | `(tactic| walk_at "h1") => `(tactic| (with_reducible refine' mt_own ?ha T.Melody.cl T.Melody_call.mt ?hl ?_; (case ha => (repeat (first | with_reducible assumption | with_reducible constructor))); (case hl => with_unfolding_all rfl)))
set_option hygiene false in
local macro_rules | `(tactic| walk_at "h1") => `(tactic| (with_reducible refine' mt_in T.Melody.cl T.Melody_call.mt ?hl ?_; (case hl => with_unfolding_all rfl)))
set_option hygiene false in
local macro_rules | `(tactic| walk_at "h1") => `(tactic| (with_reducible refine' mt_own ?ha T.Melody.cl T.Melody_sound.mt ?hl ?_; (case ha => (repeat (first | with_reducible assumption | with_reducible constructor))); (case hl => with_unfolding_all rfl)))
set_option hygiene false in
local macro_rules | `(tactic| walk_at "h1") => `(tactic| (with_reducible refine' mt_in T.Melody.cl T.Melody_sound.mt ?hl ?_; (case hl => with_unfolding_all rfl)))
set_option hygiene false in
local macro_rules | `(tactic| walk_at "h1") => `(tactic| (with_reducible refine' mt_own ?ha T.Melody.cl T.Melody_init.mt ?hl ?_; (case ha => (repeat (first | with_reducible assumption | with_reducible constructor))); (case hl => with_unfolding_all rfl)))
set_option hygiene false in
local macro_rules | `(tactic| walk_at "h1") => `(tactic| (with_reducible refine' mt_in T.Melody.cl T.Melody_init.mt ?hl ?_; (case hl => with_unfolding_all rfl)))
set_option hygiene false in
local macro_rules | `(tactic| walk_at "h1") => `(tactic| (with_reducible refine' mt_own ?ha T.InvalidOperation.cl T.InvalidOperation_init.mt ?hl ?_; (case ha => (repeat (first | with_reducible assumption | with_reducible constructor))); (case hl => with_unfolding_all rfl)))
set_option hygiene false in
local macro_rules | `(tactic| walk_at "h1") => `(tactic| (with_reducible refine' mt_in T.InvalidOperation.cl T.InvalidOperation_init.mt ?hl ?_; (case hl => with_unfolding_all rfl)))
set_option hygiene false in
local macro_rules | `(tactic| walk_at "h1") => `(tactic| (with_reducible refine' mt_own ?ha T.InvalidCode.cl T.InvalidCode_init.mt ?hl ?_; (case ha => (repeat (first | with_reducible assumption | with_reducible constructor))); (case hl => with_unfolding_all rfl)))
set_option hygiene false in
local macro_rules | `(tactic| walk_at "h1") => `(tactic| (with_reducible refine' mt_in T.InvalidCode.cl T.InvalidCode_init.mt ?hl ?_; (case hl => with_unfolding_all rfl)))
set_option hygiene false in
local macro_rules | `(tactic| walk_at "h1") => `(tactic| (with_reducible refine' mt_own ?ha T.TextFault.cl T.TextFault_init.mt ?hl ?_; (case ha => (repeat (first | with_reducible assumption | with_reducible constructor))); (case hl => with_unfolding_all rfl)))
set_option hygiene false in
local macro_rules | `(tactic| walk_at "h1") => `(tactic| (with_reducible refine' mt_in T.TextFault.cl T.TextFault_init.mt ?hl ?_; (case hl => with_unfolding_all rfl)))
set_option hygiene false in
local macro_rules | `(tactic| walk_at "h1") => `(tactic| (with_reducible refine' mt_own ?ha T.InvalidRound.cl T.InvalidRound_init.mt ?hl ?_; (case ha => (repeat (first | with_reducible assumption | with_reducible constructor))); (case hl => with_unfolding_all rfl)))
set_option hygiene false in
local macro_rules | `(tactic| walk_at "h1") => `(tactic| (with_reducible refine' mt_in T.InvalidRound.cl T.InvalidRound_init.mt ?hl ?_; (case hl => with_unfolding_all rfl)))
set_option hygiene false in
local macro_rules | `(tactic| walk_at "h1") => `(tactic| (with_reducible refine' mt_own ?ha T.InvalidMelody.cl T.InvalidMelody_init.mt ?hl ?_; (case ha => (repeat (first | with_reducible assumption | with_reducible constructor))); (case hl => with_unfolding_all rfl)))
set_option hygiene false in
local macro_rules | `(tactic| walk_at "h1") => `(tactic| (with_reducible refine' mt_in T.InvalidMelody.cl T.InvalidMelody_init.mt ?hl ?_; (case hl => with_unfolding_all rfl)))
set_option hygiene false in
local macro_rules | `(tactic| walk_at "h1") => `(tactic| (with_reducible refine' pr_operations T hr ?hk ?hl ?h8 ?_; (case hk => decide); (case hl => (first | assumption | omega)); (case h8 => (first | assumption | omega))))
set_option hygiene false in
local macro_rules | `(tactic| walk_at "h1") => `(tactic| (with_reducible refine' pr_singers T hr ?hk ?hl ?h8 ?_; (case hk => decide); (case hl => (first | assumption | omega)); (case h8 => (first | assumption | omega))))
set_option hygiene false in
local macro_rules | `(tactic| walk_at "h1") => `(tactic| (with_reducible refine' pr_clash_count T hr ?hk ?hl ?h8 ?_; (case hk => decide); (case hl => (first | assumption | omega)); (case h8 => (first | assumption | omega))))
set_option hygiene false in
local macro_rules | `(tactic| walk_at "h1") => `(tactic| (with_reducible refine' pr_passed T hr ?hk ?hl ?h8 ?_; (case hk => decide); (case hl => (first | assumption | omega)); (case h8 => (first | assumption | omega))))
set_option hygiene false in
local macro_rules | `(tactic| walk_at "h1") => `(tactic| with_reducible refine lst_in ?_)
set_option hygiene false in
local macro_rules | `(tactic| walk_at "h1") => `(tactic| (with_reducible refine' app_in ?h1 ?h2 ?h3 ?_; (case h1 => (repeat (first | with_reducible assumption | with_reducible constructor))); (case h2 => (first | omega | (simp; done) | (simp; omega))); (case h3 => (repeat (first | with_reducible assumption | with_reducible constructor)))))
set_option hygiene false in
local macro_rules | `(tactic| walk_at "h1") => `(tactic| (with_reducible refine' rng2_in ?h1 ?h2 ?h3 ?h4 ?_; (case h1 => (first | decide | omega)); (case h2 => (first | decide | omega)); (case h3 => (first | decide | omega)); (case h4 => (first | decide | omega))))
set_option hygiene false in
local macro_rules | `(tactic| walk_at "h1") => `(tactic| (with_reducible refine' rng1_in ?h1 ?h2 ?_; (case h1 => (first | decide | omega)); (case h2 => (first | decide | omega))))
set_option hygiene false in
local macro_rules | `(tactic| walk_at "h1") => `(tactic| with_reducible refine seq1_tup ?_)
set_option hygiene false in
local macro_rules | `(tactic| walk_at "h1") => `(tactic| with_reducible refine seq1_fz ?_)
set_option hygiene false in
local macro_rules | `(tactic| walk_at "h1") => `(tactic| with_reducible refine seq1_lst ?_)
set_option hygiene false in
local macro_rules | `(tactic| walk_at "h1") => `(tactic| with_reducible refine seq_tup ?_)
set_option hygiene false in
local macro_rules | `(tactic| walk_at "h1") => `(tactic| with_reducible refine seq_fz ?_)
set_option hygiene false in
local macro_rules | `(tactic| walk_at "h1") => `(tactic| with_reducible refine seq_lst ?_)
set_option hygiene false in
local macro_rules | `(tactic| walk_at "h1") => `(tactic| (with_reducible refine' par3_in ?h1 ?h2 ?h3 ?_; (case h1 => repeat (with_reducible constructor)); (case h2 => repeat (with_reducible constructor)); (case h3 => repeat (with_reducible constructor))))
set_option hygiene false in
local macro_rules | `(tactic| walk_at "h1") => `(tactic| (with_reducible refine' par_in ?h1 ?h2 ?_; (case h1 => repeat (with_reducible constructor)); (case h2 => repeat (with_reducible constructor))))
set_option hygiene false in
local macro_rules | `(tactic| walk_at "h1") => `(tactic| (with_reducible refine' own2_in ?ga ?_; (case ga => repeat (first | with_reducible assumption | with_reducible exact At.head | with_reducible apply At.tail))))
set_option hygiene false in
local macro_rules | `(tactic| walk_at "h1") => `(tactic| ((with_reducible refine' wp_in ?gw ?_); (case gw => (repeat (first | exact Wp.nil | exact SetN.head | apply SetN.tail | apply Wp.cons)))))
set_option hygiene false in
local macro_rules | `(tactic| walk_at "h1") => `(tactic| (with_reducible refine' sd_in ?hs ?_; (case hs => (repeat (with_reducible constructor)))))
set_option hygiene false in
local macro_rules | `(tactic| walk_at "h1") => `(tactic| with_reducible refine fld_own (by (repeat (first | with_reducible assumption | with_reducible constructor))) (by with_unfolding_all rfl) ?_)
set_option hygiene false in
local macro_rules | `(tactic| walk_at "h1") => `(tactic| with_reducible refine fld_ins (by with_unfolding_all rfl) ?_)
set_option hygiene false in
local macro_rules | `(tactic| walk_at "h1") => `(tactic| with_reducible refine len_and (by with_unfolding_all rfl) ?_)
set_option hygiene false in
local macro_rules | `(tactic| walk_at "h1") => `(tactic| with_reducible refine rb_nf ?_)
set_option hygiene false in
local macro_rules | `(tactic| walk_at "h1") => `(tactic| with_reducible refine rb_nt ?_)
set_option hygiene false in
local macro_rules | `(tactic| walk_at "h1") => `(tactic| with_reducible refine br_nf ?_)
set_option hygiene false in
local macro_rules | `(tactic| walk_at "h1") => `(tactic| with_reducible refine br_nt ?_)
set_option hygiene false in
local macro_rules | `(tactic| walk_at "h1") => `(tactic| with_reducible refine rb_f ?_)
set_option hygiene false in
local macro_rules | `(tactic| walk_at "h1") => `(tactic| with_reducible refine rb_t ?_)
set_option hygiene false in
local macro_rules | `(tactic| walk_at "h1") => `(tactic| with_reducible refine br_f ?_)
set_option hygiene false in
local macro_rules | `(tactic| walk_at "h1") => `(tactic| with_reducible refine br_t ?_)
set_option hygiene false in
local macro_rules | `(tactic| walk_at "h1") => `(tactic| with_reducible refine str_in ?_)
set_option hygiene false in
local macro_rules | `(tactic| walk_at "h1") => `(tactic| with_reducible refine int_in2 ?_)
set_option hygiene false in
local macro_rules | `(tactic| walk_at "h1") => `(tactic| with_reducible refine int_in ?_)
set_option hygiene false in
local macro_rules | `(tactic| walk_at "h1") => `(tactic| with_reducible refine ref_in ?_)
set_option hygiene false in
local macro_rules | `(tactic| walk_at "h1") => `(tactic| with_reducible refine ex_bl ?_)
set_option hygiene false in
local macro_rules | `(tactic| walk_at "h1") => `(tactic| (with_reducible refine as_DX ?_; (first | (with_reducible refine' dx_tup ?dxh ?_; (case dxh => first | with_reducible exact atI_0 | with_reducible exact atI_1 | with_reducible exact atI_2 | with_reducible exact atI_3)) | (with_reducible refine' dx_lst ?dxh ?_; (case dxh => first | with_reducible exact atI_0 | with_reducible exact atI_1 | with_reducible exact atI_2 | with_reducible exact atI_3)) | (with_reducible refine' dx_own ?dxm ?dxh ?_; (case dxm => (repeat (first | with_reducible assumption | with_reducible constructor))); (case dxh => first | with_reducible exact atI_0 | with_reducible exact atI_1 | with_reducible exact atI_2 | with_reducible exact atI_3)))))
set_option hygiene false in
local macro_rules | `(tactic| walk_at "h1") => `(tactic| (with_reducible refine as_DI ?_; (first | (with_reducible refine' di_range1 (by assumption) T.b_range ?_) | (with_reducible refine' di_range2 (by assumption) T.b_range ?_) | (with_reducible refine' di_enumS (by assumption) T.b_enumerate ?_))))
set_option hygiene false in
local macro_rules | `(tactic| walk_at "h1") => `(tactic| (with_reducible refine as_DG ?_; (first | (with_reducible refine' dg_name (hl := ?hl) (by assumption) ?hi ?hs ?_; (case hl => ((repeat (with_reducible constructor)); done)); (case hi => (repeat (with_reducible constructor))); (case hs => (repeat (with_reducible constructor)))) | with_reducible refine dg_sub ?_ | (with_reducible refine' dg_cell (hl := ?hl) (by assumption) Df.fn ?hi ?hs ?_; (case hl => ((repeat (with_reducible constructor)); done)); (case hi => (repeat (with_reducible constructor))); (case hs => (repeat (with_reducible constructor)))) | with_reducible refine dg_tup (by assumption) (by with_unfolding_all rfl) ?_ )))
set_option hygiene false in
local macro_rules | `(tactic| walk_at "h1") => `(tactic| (with_reducible refine as_DCk ?_; (first | fail)))
set_option hygiene false in
local macro_rules | `(tactic| walk_at "h1") => `(tactic| (with_reducible refine as_DKw ?_; (first | fail )))
set_option hygiene false in
local macro_rules | `(tactic| walk_at "h1") => `(tactic| (with_reducible refine as_DC ?_; (first | (with_reducible refine' dc_isinT T hr ?hk ?h1 ?h2 ?_; (case hk => decide); (case h1 => omega); (case h2 => omega)) | (with_reducible refine' dc_isin T hr ?hk ?ht ?_; (case hk => decide); (case ht => (first | assumption | (simp [tyD]; done) | exact tyD_opt _))) | (with_reducible refine' mk_melK T hr ?hk ?hm ?_; (case hk => decide); (case hm => assumption)) | (with_reducible refine' dc_bel T hr ?hk ?ha ?h0 ?h1 ?_; (case hk => decide); (case ha => (repeat (first | with_reducible assumption | with_reducible constructor))); (case h0 => (first | decide | omega)); (case h1 => (first | decide | omega))) | (with_reducible refine' dc_sound T hr ?hk ?hm ?_; (case hk => decide); (case hm => assumption)) | with_reducible refine dc_abs ?_ | with_reducible refine dc_intB ?_ | with_reducible refine dc_len_own (by (repeat (first | with_reducible assumption | with_reducible constructor))) ?_ | with_reducible refine dc_int ?_ | with_reducible refine dc_tuple ?_ | with_reducible refine dc_len_tup ?_ | with_reducible refine dc_len_str (by first | assumption | omega) ?_ | with_reducible refine dc_len_lst ?_ | (with_reducible refine' dc_isi_int ?hty ?_; (case hty => first | assumption | (simp [tyD]; done))) | (with_reducible refine' dc_isi_bl ?hty ?_; (case hty => first | assumption | (simp [tyD]; done))) | (with_reducible refine' dc_isi_str ?hty ?_; (case hty => first | assumption | (simp [tyD]; done))) | (with_reducible refine' dc_isi_tup ?hty ?_; (case hty => first | assumption | (simp [tyD]; done))) | (with_reducible refine' dc_isi_lst ?hty ?_; (case hty => first | assumption | (simp [tyD]; done))))))
set_option hygiene false in
local macro_rules | `(tactic| walk_at "h1") => `(tactic| (with_reducible refine as_DB ?_; (first | (with_reducible refine' db_shift T hr ?hk ?h1 ?h2 ?hm ?hm2 ?_; (case hk => decide); (case h1 => omega); (case h2 => omega); (case hm => assumption); (case hm2 => assumption)) | with_reducible refine db_add ?_ | with_reducible refine db_sub ?_ | with_reducible refine db_lt ?_ | with_reducible refine db_le ?_ | with_reducible refine db_gt ?_ | with_reducible refine db_ge ?_ | with_reducible refine db_eq_int ?_ | with_reducible refine db_ne_int ?_ | with_reducible refine db_eq_str ?_ | with_reducible refine db_ne_str ?_ | with_reducible refine db_isN ?_ | with_reducible refine db_notN ?_ | with_reducible refine db_iadd ?_ | with_reducible refine db_eq_bl ?_ | with_reducible refine db_ne_bl ?_ | with_reducible refine db_in_sign ?_ | with_reducible refine db_notin_sign ?_ | with_reducible refine db_mul (cm_r (by decide) (by decide)) ?_ | with_reducible refine db_fdiv (cdiv_ (by decide) (by decide)) ?_ | with_reducible refine db_mod (by first | decide | omega) ?_ | with_reducible refine db_pow (cpow_ (by decide) (by decide) (by decide)) ?_ | with_reducible refine db_inI .tup ?_ | with_reducible refine db_inI .lst ?_)))
set_option hygiene false in
local macro_rules | `(tactic| walk_at "h1") => `(tactic| (with_reducible refine as_DW ?_; (first | with_reducible refine dw_and ?_ | with_reducible refine dw_or ?_ | with_reducible refine dw_one ?_)))
set_option hygiene false in
local macro_rules | `(tactic| walk_at "h1") => `(tactic| (with_reducible refine as_DT ?_; (first | with_reducible refine dt_cmp ?_ | with_reducible refine dt_lele ?_ | with_reducible refine dt_not ?_ | with_reducible refine dt_w (dw_and ?_) | with_reducible refine dt_w (dw_or ?_) | with_reducible refine dt_val ?_)))
set_option hygiene false in
local macro_rules | `(tactic| walk_at "h1") => `(tactic| (with_reducible refine as_DS ?_; (first | with_reducible refine ds_raise0 (by assumption) T.OutOfRange ?_ | with_reducible refine ds_raise0 (by assumption) T.InvalidNumber ?_ | with_reducible refine ds_raise0 (by assumption) T.TooLong ?_ | with_reducible refine ds_raise0 (by assumption) T.Contradiction ?_ | with_reducible refine ds_raise0 (by assumption) T.UnknownVoice ?_ | with_reducible refine ds_raise0 (by assumption) T.TooManyVoices ?_ | with_reducible refine ds_raise0 (by assumption) T.InvalidName ?_ | with_reducible refine ds_raise0 (by assumption) T.UnknownName ?_ | with_reducible refine ds_ret ?_ | with_reducible refine ds_if ?_ | with_reducible refine ds_expr ?_ | (with_reducible refine' ds_set (hl := ?hl) (by assumption) ?hi ?_; (case hl => ((repeat (with_reducible constructor)); done)); (case hi => (repeat (with_reducible constructor)))) | (with_reducible refine' ds_par2 (hx := ?hx) (hy := ?hy) (by assumption) ?hi ?hj ?hk ?_; (case hx => ((repeat (with_reducible constructor)); done)); (case hy => ((repeat (with_reducible constructor)); done)); (case hi => repeat (with_reducible constructor)); (case hj => repeat (with_reducible constructor)); (case hk => with_unfolding_all rfl)) | (with_reducible refine' ds_aug (hl := ?hl) (by assumption) ?hi ?hd ?_; (case hl => ((repeat (with_reducible constructor)); done)); (case hi => repeat (with_reducible constructor)); (case hd => repeat (with_reducible constructor))) | with_reducible refine ds_fld ?_ | with_reducible refine ds_asg ?_ )))
set_option hygiene false in
local macro_rules | `(tactic| walk_at "h1") => `(tactic| (with_reducible refine as_DSs ?_; (first | with_reducible refine dss_one ?_ | with_reducible refine dss_nil ?_)))
set_option hygiene false in
local macro_rules | `(tactic| walk_at "h1") => `(tactic| (with_reducible refine as_DA ?_; (first | with_reducible refine da_cons ?_ | with_reducible refine da_nil ?_ | with_reducible refine da_star ?_)))
set_option hygiene false in
local macro_rules | `(tactic| walk_at "h1") => `(tactic| (with_reducible refine as_DE ?_; (first | with_reducible refine de_count hr.u65 ?_ | with_reducible refine de_index hr.u65 ?_ | (with_reducible refine' de_callErr T (by assumption) (by assumption) (by assumption) (by assumption) hr ?ha ?_; (case ha => (repeat (first | with_reducible exact At.head | with_reducible assumption | with_reducible apply At.tail)))) | with_reducible refine de_pop ?_ | with_reducible refine de_sliceT (a := .Name "_law_voice" _) ?_ | (with_reducible refine de_wgetA (o := .Name "LENGTHS" _) ?_) | (with_reducible refine as_name ?_; (first | (with_reducible refine' de_name (by assumption) ?hi ?hd ?_; (case hi => (repeat (with_reducible constructor))); (case hd => (repeat (with_reducible constructor)))) | with_reducible refine de_cint (by assumption) T.v_MAX_NUMBER ?_ | with_reducible refine de_cstr (by assumption) T.v_DIGITS ?_ | with_reducible refine de_cstr (by assumption) T.v_REST ?_ | with_reducible refine de_cint (by assumption) T.v_MAX_SHIFT ?_ | with_reducible refine de_cint (by assumption) T.v_MAX_VOICES ?_ | with_reducible refine de_cint (by assumption) T.v_MAX_BEATS ?_ | with_reducible refine de_cstr (by assumption) T.v_ENTER ?_ | with_reducible refine de_cstr (by assumption) T.v_LEAVE ?_ | with_reducible refine de_cstr (by assumption) T.v_SING ?_ | with_reducible refine de_cstr (by assumption) T.v_UNDO ?_ | with_reducible refine de_cstr (by assumption) T.v_REDO ?_ | with_reducible refine de_bltn (T := "bool") (by assumption) T.b_bool boot_bool ?_ | with_reducible refine de_bltn (T := "int") (by assumption) T.b_int boot_int ?_ | with_reducible refine de_bltn (T := "list") (by assumption) T.b_list boot_list ?_ | with_reducible refine de_bltn (T := "str") (by assumption) T.b_str boot_str ?_ | with_reducible refine de_bltn (T := "tuple") (by assumption) T.b_tuple boot_tuple ?_)) | (with_reducible refine as_call ?_; (first | with_reducible refine de_append ?_ | with_reducible refine de_join ?_ | with_reducible refine de_split ?_ | with_reducible refine de_extend ?_ | with_reducible refine de_call (by assumption) T.is_int_in.g T.is_int_in.k ?_ | with_reducible refine de_call (by assumption) T.is_note.g T.is_note.k ?_ | with_reducible refine de_call (by assumption) T.Melody.g T.Melody.k ?_ | with_reducible refine de_callS (by assumption) T.Melody.g T.Melody.k ?_ | with_reducible refine de_call (by assumption) T.melody_of.g T.melody_of.k ?_ | with_reducible refine de_call (by assumption) T.is_number.g T.is_number.k ?_ | with_reducible refine de_call (by assumption) T.check_clashing.g T.check_clashing.k ?_ | with_reducible refine de_call (by assumption) T.do_clash.g T.do_clash.k ?_ | with_reducible refine de_call (by assumption) T.check_shift.g T.check_shift.k ?_ | with_reducible refine de_call (by assumption) T.is_operation.g T.is_operation.k ?_ | with_reducible refine de_call (by assumption) T.Choir.g T.Choir.k ?_ | with_reducible refine de_callS (by assumption) T.Choir.g T.Choir.k ?_ | with_reducible refine de_call (by assumption) T.law_random.g T.law_random.k ?_ | with_reducible refine de_call (by assumption) T.law_below.g T.law_below.k ?_ | with_reducible refine de_call (by assumption) T.law_notes.g T.law_notes.k ?_ | with_reducible refine de_call (by assumption) T.law_new.g T.law_new.k ?_ | with_reducible refine de_call (by assumption) T.law_words.g T.law_words.k ?_ | with_reducible refine de_call (by assumption) T.law_melody.g T.law_melody.k ?_ | with_reducible refine de_call (by assumption) T.law_fits.g T.law_fits.k ?_ | with_reducible refine de_call (by assumption) T.law_shifted.g T.law_shifted.k ?_ | with_reducible refine de_call (by assumption) T.law_row.g T.law_row.k ?_ | with_reducible refine de_call (by assumption) T.law_sounds.g T.law_sounds.k ?_ | with_reducible refine de_call (by assumption) T.law_is_clash.g T.law_is_clash.k ?_ | with_reducible refine de_call (by assumption) T.law_pairs.g T.law_pairs.k ?_ | with_reducible refine de_call (by assumption) T.law_worked_on.g T.law_worked_on.k ?_ | with_reducible refine de_call (by assumption) T.law_worked.g T.law_worked.k ?_ | with_reducible refine de_call (by assumption) T.law_equal.g T.law_equal.k ?_ | with_reducible refine de_call (by assumption) T.law_operation.g T.law_operation.k ?_ | with_reducible refine de_call (by assumption) T.law_error_of.g T.law_error_of.k ?_ | with_reducible refine de_call (by assumption) T.law_stands.g T.law_stands.k ?_ | with_reducible refine de_call (by assumption) T.law.g T.law.k ?_ | with_reducible refine de_callB (id := "abs") (by assumption) T.b_abs boot_abs ?_ | with_reducible refine de_callB (id := "all") (by assumption) T.b_all boot_all ?_ | with_reducible refine de_callB (id := "any") (by assumption) T.b_any boot_any ?_ | with_reducible refine de_callT (T := "bool") (by assumption) T.b_bool boot_bool ?_ | with_reducible refine de_callT (T := "int") (by assumption) T.b_int boot_int ?_ | with_reducible refine de_callB (id := "isinstance") (by assumption) T.b_isinstance boot_isinstance ?_ | with_reducible refine de_callB (id := "len") (by assumption) T.b_len boot_len ?_ | with_reducible refine de_callT (T := "list") (by assumption) T.b_list boot_list ?_ | with_reducible refine de_callB (id := "sorted") (by assumption) T.b_sorted boot_sorted ?_ | with_reducible refine de_callT (T := "str") (by assumption) T.b_str boot_str ?_ | with_reducible refine de_callT (T := "tuple") (by assumption) T.b_tuple boot_tuple ?_ | with_reducible refine de_cmeth T.Melody.rd T.Melody_parse.c ?_ | with_reducible refine de_meth ?_ | with_reducible refine de_meth0 ?_)) | (with_reducible refine as_con ?_; (first | with_reducible refine de_int ?_ | with_reducible refine de_str ?_ | with_reducible refine de_non ?_ | with_reducible refine de_bl ?_)) | with_reducible refine de_bin ?_ | with_reducible refine de_cmp ?_ | with_reducible refine de_lele ?_ | with_reducible refine de_if ?_ | with_reducible refine de_ix ?_ (by with_unfolding_all (intro _ _; rfl)) (by with_unfolding_all (intro _ _; rfl)) | with_reducible refine de_tup ?_ | with_reducible refine de_and ?_ | with_reducible refine de_or ?_ | with_reducible refine de_one ?_ | with_reducible refine de_not ?_ | with_reducible refine de_lst ?_ | with_reducible refine de_neg ?_ | (with_reducible refine de_sliceL ?_) | (with_reducible refine as_attr ?_; (first | with_reducible refine de_fldG T.InvalidRound.cl T.n_InvalidRound_part ?_ | with_reducible refine de_fldG T.TextFault.cl T.n_TextFault_word ?_ | with_reducible refine de_cconst (by assumption) T.Melody T.v_Melody_MAX_NOTES ?_ | with_reducible refine de_cconst (by assumption) T.Melody T.v_Melody_MAX_BEATS ?_ | with_reducible refine de_cconst (by assumption) T.Melody T.v_Melody_MAX_PITCH ?_ | with_reducible refine de_fldG T.Melody.cl T.n_Melody_given ?_ | with_reducible refine de_fldG T.Melody.cl T.n_Melody_row ?_ | with_reducible refine de_fldG T.Choir.cl T.n_Choir_melody ?_ | with_reducible refine de_fldG T.Choir.cl T.n_Choir_clashing ?_ | with_reducible refine de_fldG T.Choir.cl T.n_Choir_now ?_ | with_reducible refine de_fldG T.Choir.cl T.n_Choir_past ?_ | with_reducible refine de_fldG T.Choir.cl T.n_Choir_undone ?_ | with_reducible refine de_fldG T.Choir.cl T.n_Choir_saved ?_ | with_reducible refine de_propS ?_)))))
set_option hygiene false in
local macro_rules | `(tactic| walk_at "h1") => `(tactic| (with_reducible exact REST))
set_option hygiene false in
local macro_rules | `(tactic| walk_at "st_is_int_in") => `(tactic| (with_reducible refine as_DI ?_; (first | (with_reducible refine di_seq ?_))))
set_option hygiene false in
local macro_rules | `(tactic| walk_at "st_is_int_in") => `(tactic| walk_at "g1")
set_option hygiene false in
local macro_rules | `(tactic| walk_at "st_is_int_in") => `(tactic| (with_reducible refine own_out ?_))
set_option hygiene false in
local macro_rules | `(tactic| walk_at "st_is_int_in") => `(tactic| (with_reducible refine as_NL ?_; (first | (with_reducible refine nl_fz ?_))))
set_option hygiene false in
local macro_rules | `(tactic| walk_at "st_is_int_in") => `(tactic| (with_reducible refine as_DS ?_; (first | (with_reducible refine' ds_setCD (by assumption) (by assumption) ?hi ?_ ?hl; (case hl => ((repeat (with_reducible constructor)); done)); (case hi => (repeat (with_reducible constructor)))) | (with_reducible refine ds_forL (by assumption) Df.po ?_))))
set_option hygiene false in
local macro_rules | `(tactic| walk_at "go_is_int_in") => `(tactic| (repeat (walk_at "st_is_int_in")))
set_option hygiene false in
local macro_rules | `(tactic| walk_at "st_is_note") => `(tactic| (with_reducible refine as_DI ?_; (first | (with_reducible refine di_seq ?_))))
set_option hygiene false in
local macro_rules | `(tactic| walk_at "st_is_note") => `(tactic| walk_at "g1")
set_option hygiene false in
local macro_rules | `(tactic| walk_at "st_is_note") => `(tactic| (with_reducible refine own_out ?_))
set_option hygiene false in
local macro_rules | `(tactic| walk_at "st_is_note") => `(tactic| (with_reducible refine as_NL ?_; (first | (with_reducible refine nl_fz ?_))))
set_option hygiene false in
local macro_rules | `(tactic| walk_at "st_is_note") => `(tactic| (with_reducible refine as_DS ?_; (first | (with_reducible refine' ds_setCD (by assumption) (by assumption) ?hi ?_ ?hl; (case hl => ((repeat (with_reducible constructor)); done)); (case hi => (repeat (with_reducible constructor)))) | (with_reducible refine ds_forL (by assumption) Df.po ?_))))
set_option hygiene false in
local macro_rules | `(tactic| walk_at "go_is_note") => `(tactic| (repeat (walk_at "st_is_note")))
section
variable {P : Program} {w : World} {K : PySem.W.Frag} {mg : Str → Option Value} {base : Heap} {a : Adr}
def spIsIn : DSp := fun ds O E Q => ∃ d lo hi, ds = [d, .int lo, .int hi] ∧ tyD d ≠ "" ∧ Q (.bl (isIn d lo hi)) O
theorem ok_is_int_in (T : Txt K mg a) : DFn P w K mg base 1 a.f_is_int_in spIsIn := by
  refine T.is_int_in.ok sc_is_int_in (fun ds O E Q h => by obtain ⟨_, _, _, e, _⟩ := h; rw [e]; rfl) ?_
  intro X I S0 Df hr ds O E Q hsp; obtain ⟨rfl, rfl, rfl, rfl, rfl, pa⟩ := I; have S : Sc X _ c_is_int_in := S0; clear S0
  obtain ⟨d, lo, hi, rfl, hd, q⟩ := hsp
  show DSs X _ [some d, some (.int lo), some (.int hi)] O _ _
  refine dss_cons ?_
  walk_at "go"
  refine ⟨fun hk => ?_, fun hk => ?_⟩
  · walk_at "go"
    refine ⟨fun hk2 => ?_, fun hk2 => ?_⟩
    · obtain ⟨i, rfl⟩ : ∃ i, d = .int i := by
        cases d <;> simp [isIntD, isBlD] at hk hk2 ⊢
      walk_at "go"
      refine ⟨fun h => ?_, fun h => ?_⟩
      · walk_at "go"
        have e : isIn (.int i) lo hi = decide (i ≤ hi) := by simp [isIn, h]
        rw [← e]; exact q
      · have e : isIn (.int i) lo hi = false := by simp [isIn, h]
        rw [← e]; exact q
    · have e : isIn d lo hi = false := by cases d <;> first | rfl | (simp [isBlD] at hk2)
      rw [← e]; exact q
  · have e : isIn d lo hi = false := by cases d <;> first | rfl | (simp [isIntD] at hk)
    rw [← e]; exact q
section
variable {X : Cx} {δ : DEnv} {O : Own} {E : XD → Own → Prop} {Q : D → Own → Prop}
theorem dc_isin {k : Nat} {d : D} {lo hi : Int} (T : Txt X.K X.mg a) (hr : Room k X.A) (hk : 1 ≤ k) (h : tyD d ≠ "") (q : Q (.bl (isIn d lo hi)) O) : DC X (.ref a.f_is_int_in) [d, .int lo, .int hi] δ O E Q := dc_fn (ok_is_int_in T) (hr.mono hk) ⟨d, lo, hi, rfl, h, q⟩
theorem dc_isinT {k : Nat} {i lo hi : Int} (T : Txt X.K X.mg a) (hr : Room k X.A) (hk : 1 ≤ k) (h1 : lo ≤ i) (h2 : i ≤ hi) (q : Q (.bl true) O) : DC X (.ref a.f_is_int_in) [.int i, .int lo, .int hi] δ O E Q :=
  dc_isin T hr hk (by simp [tyD]) (by rw [isIn_int, decide_eq_true ⟨h1, h2⟩]; exact q)
end
end
section
variable {P : Program} {w : World} {K : PySem.W.Frag} {mg : Str → Option Value} {base : Heap} {a : Adr}
def isNoteD : D → Bool
  | .tup [p, b] => (isNon p || isIn p 0 127) && isIn b 1 16
  | _ => false
def tyAll (d : D) : Prop := ∀ xs, d = .tup xs → ∀ x ∈ xs, tyD x ≠ ""
def spIsNote : DSp := fun ds O E Q => ∃ d, ds = [d] ∧ tyD d ≠ "" ∧ tyAll d ∧ Q (.bl (isNoteD d)) O
theorem ok_is_note (T : Txt K mg a) : DFn P w K mg base 2 a.f_is_note spIsNote := by
  refine T.is_note.ok sc_is_note (fun ds O E Q h => by obtain ⟨_, e, _⟩ := h; rw [e]; rfl) ?_
  intro X I S0 Df hr ds O E Q hsp; obtain ⟨rfl, rfl, rfl, rfl, rfl, pa⟩ := I; have S : Sc X _ c_is_note := S0; clear S0
  obtain ⟨d, rfl, hd, ha, q⟩ := hsp
  show DSs X _ [some d, none, none] O _ _
  refine dss_cons ?_
  walk_at "go"
  refine ⟨fun hk => ?_, fun hk => ?_⟩
  · obtain ⟨xs, rfl⟩ : ∃ xs, d = .tup xs := by cases d <;> simp [isTupD] at hk ⊢
    walk_at "go"
    refine ⟨fun h2 => ?_, fun h2 => ?_⟩
    · have e : isNoteD (.tup xs) = false := by
        match xs, h2 with
        | [], _ => rfl
        | [_], _ => rfl
        | [_, _], h2 => simp at h2
        | _ :: _ :: _ :: _, _ => rfl
      walk_at "go"
      rw [← e]; exact q
    · obtain ⟨p, b, rfl⟩ : ∃ p b, xs = [p, b] := by
        match xs, h2 with
        | [p, b], _ => exact ⟨p, b, rfl⟩
        | [], h2 => simp at h2
        | [_], h2 => simp at h2
        | _ :: _ :: _ :: _, h2 => simp at h2; omega
      have hp : tyD p ≠ "" := ha _ rfl p (by simp)
      have hb : tyD b ≠ "" := ha _ rfl b (by simp)
      walk_at "go"
      refine ⟨fun h4 => ?_, fun h4 => ?_⟩
      · walk_at "go"
        refine dc_fn (ok_is_int_in T) (hr.mono (by decide)) ⟨b, 1, 16, rfl, hb, ?_⟩
        have e : isNoteD (.tup [p, b]) = isIn b 1 16 := by rw [isNoteD, show DL.isNon p = true from h4]; rfl
        rw [← e]; exact q
      · walk_at "go"
        refine dc_fn (ok_is_int_in T) (hr.mono (by decide)) ⟨p, 0, 127, rfl, hp, ?_⟩
        refine ⟨_, rfl, fun h5 => ?_, fun h5 => ?_⟩
        · walk_at "go"
          refine dc_fn (ok_is_int_in T) (hr.mono (by decide)) ⟨b, 1, 16, rfl, hb, ?_⟩
          have e : isNoteD (.tup [p, b]) = isIn b 1 16 := by rw [isNoteD, h5]; simp
          rw [← e]; exact q
        · have e : isNoteD (.tup [p, b]) = false := by rw [isNoteD, h5, show isNon p = false from h4]; rfl
          rw [← e]; exact q
  · have e : isNoteD d = false := by cases d <;> first | rfl | (simp [isTupD] at hk)
    walk_at "go"
    rw [← e]; exact q
end
set_option hygiene false in
local macro_rules | `(tactic| walk_at "st_Melody_init") => `(tactic| (with_reducible refine as_DI ?_; (first | (with_reducible refine di_seq ?_))))
set_option hygiene false in
local macro_rules | `(tactic| walk_at "st_Melody_init") => `(tactic| walk_at "g1")
set_option hygiene false in
local macro_rules | `(tactic| walk_at "st_Melody_init") => `(tactic| (with_reducible refine own_out ?_))
set_option hygiene false in
local macro_rules | `(tactic| walk_at "st_Melody_init") => `(tactic| (with_reducible refine as_NL ?_; (first | (with_reducible refine nl_fz ?_))))
set_option hygiene false in
local macro_rules | `(tactic| walk_at "st_Melody_init") => `(tactic| (with_reducible refine as_DS ?_; (first | (with_reducible refine' ds_setCD (by assumption) (by assumption) ?hi ?_ ?hl; (case hl => ((repeat (with_reducible constructor)); done)); (case hi => (repeat (with_reducible constructor)))) | (with_reducible refine ds_forL (by assumption) Df.po ?_))))
set_option hygiene false in
local macro_rules | `(tactic| walk_at "go_Melody_init") => `(tactic| (repeat (walk_at "st_Melody_init")))
section
variable {P : Program} {w : World} {K : PySem.W.Frag} {mg : Str → Option Value} {base : Heap} {a : Adr}
theorem isNote_ok {n : Note} (h : okNote n = true) : isNoteD (dNote n) = true := by
  obtain ⟨p, b⟩ := n
  cases p with
  | none => simp [okNote, isNoteD, dNote, dOpt, DL.isNon, isIn] at h ⊢; exact h
  | some p => simp [okNote, isNoteD, dNote, dOpt, DL.isNon, isIn] at h ⊢; exact h
theorem tyAll_note (n : Note) : tyAll (dNote n) := by
  intro xs e x hx
  injection e with e
  subst e
  simp at hx
  rcases hx with rfl | rfl
  · exact tyD_opt _
  · simp [tyD]
def spInit (C : Addr) : DSp := fun ds O E Q => ∃ s ns O', ds = [.ref s, .tup (ns.map dNote)] ∧ Mel ns ∧ O = (s, .ins C []) :: O' ∧ Q .non ((s, .ins C (melFs ns)) :: O')
theorem ok_Melody_init (T : Txt K mg a) : DFn P w K mg base 4 a.f_Melody_init (starSp 1 (spInit a.C_Melody)) := by
  refine T.Melody_init.ok sc_Melody_init ?_
  intro X I S0 Df hr ds O E Q hsp; obtain ⟨rfl, rfl, rfl, rfl, rfl, pa⟩ := I; have S : Sc X _ c_Melody_init := S0; clear S0
  obtain ⟨s, ns, O', rfl, hm, rfl, q⟩ := hsp
  show DSs X _ [some (.ref s), some (.tup (ns.map dNote)), none, none, none, none, none, none] _ _ _
  refine dss_cons ?_
  refine ds_for S Df.po (di_enumT S T.b_enumerate ?_)
  walk_at "go"
  refine ⟨_, rfl, fun i δ' O1 => (∃ x y, δ' = [some (.ref s), some (.tup (ns.map dNote)), x, y, none, none, none, none]) ∧ O1 = (s, .ins a.C_Melody []) :: O', ⟨⟨_, _, rfl⟩, rfl⟩, ?_, ?_⟩
  · rintro i d δ' O1 hd ⟨⟨x, y, rfl⟩, rfl⟩
    obtain ⟨z, hz, rfl⟩ := enumD_get hd
    obtain ⟨n, hn, rfl⟩ : ∃ n, ns[i]? = some n ∧ z = dNote n := by
      rw [List.getElem?_map] at hz
      cases h : ns[i]? with
      | none => rw [h] at hz; simp at hz
      | some n => rw [h] at hz; simp at hz; exact ⟨n, rfl, hz.symm⟩
    have hi : i < 32 := by have := (List.getElem?_eq_some_iff.1 hn).1; have := hm.le; omega
    walk_at "go"
    refine ⟨fun h1 => ?_, fun h1 => absurd (of_decide_eq_true h1) (by omega)⟩
    walk_at "go"
    refine dc_fn (ok_is_note T) (hr.mono (by decide)) ⟨dNote n, rfl, by simp [dNote, tyD], tyAll_note n, ?_⟩
    rw [isNote_ok (hm.ok n (List.mem_of_getElem? hn))]
    walk_at "go"
    exact ⟨⟨_, _, rfl⟩, rfl⟩
  · rintro δ' O1 ⟨⟨x, y, rfl⟩, rfl⟩
    walk_at "go"
    refine db_eqP hr (okN_notes ns) (okN_tup (n := 0) fun _ h => nomatch h) (noBl_notes ns) rfl fun b hb => ?_
    have hb' : b = false := by
      cases b with
      | false => rfl
      | true =>
        have h1 := hb.1 rfl
        have h2 := hm.pos
        simp at h1
        rw [h1] at h2
        simp at h2
    subst hb'
    walk_at "go"
    refine ⟨_, _, _, _, rfl, .head, T.Melody.cl, T.n_Melody_given, by decide, .head, ?_⟩
    walk_at "go"
    refine nl_own fun r => ?_
    walk_at "go"
    refine ds_for S Df.po (di_enumT S T.b_enumerate ?_)
    walk_at "go"
    refine ⟨_, rfl, fun i δ' O1 => (∃ x1 x2 x3, δ' = [some (.ref s), some (.tup (ns.map dNote)), x, y, some (.ref r), x1, x2, x3]) ∧ O1 = (r, .lst (dRow (rowOf (ns.take i)))) :: (s, .ins a.C_Melody [("given", .tup (ns.map dNote))]) :: O', ⟨⟨_, _, _, rfl⟩, rfl⟩, ?_, ?_⟩
    · rintro i d δ' O1 hd ⟨⟨x1, x2, x3, rfl⟩, rfl⟩
      obtain ⟨z, hz, rfl⟩ := enumD_get hd
      obtain ⟨n, hn, rfl⟩ : ∃ n, ns[i]? = some n ∧ z = dNote n := by
        rw [List.getElem?_map] at hz
        cases h : ns[i]? with
        | none => rw [h] at hz; simp at hz
        | some n => rw [h] at hz; simp at hz; exact ⟨n, rfl, hz.symm⟩
      walk_at "go"
      walk_at "go"
      refine nl_fz ?_
      walk_at "go"
      have hb := okNote_le (hm.ok n (List.mem_of_getElem? hn))
      refine db_rep (by omega) (by omega) (by simp; omega) (nl_fz ?_)
      refine ⟨_, .head, _, _, rfl, ?_, .head, ?_⟩
      · have h1 := row_take_le hm i
        simp
        omega
      walk_at "go"
      refine ⟨⟨_, _, _, rfl⟩, ?_⟩
      rw [row_next hn]
    · rintro δ' O1 ⟨⟨x1, x2, x3, rfl⟩, rfl⟩
      refine' dss_fz _ ?gm ?gd ?gf ?_; (case gm => (repeat (first | with_reducible exact At.head | with_reducible assumption | with_reducible apply At.tail))); (case gd => (repeat (first | with_reducible exact Del.head | with_reducible apply Del.tail))); (case gf => (repeat (first | with_reducible exact Fz.nil | with_reducible apply Fz.swap | with_reducible apply Fz.keep)))
      walk_at "go"
      refine ⟨_, _, _, _, rfl, .head, T.Melody.cl, T.n_Melody_row, by simp, .head, ?_⟩
      rw [enumD_length, List.length_map, List.take_length]
      exact q
end
set_option hygiene false in
local macro_rules | `(tactic| walk_at "st_is_number") => `(tactic| walk_at "g1")
set_option hygiene false in
local macro_rules | `(tactic| walk_at "st_is_number") => `(tactic| (with_reducible refine own_out ?_))
set_option hygiene false in
local macro_rules | `(tactic| walk_at "st_is_number") => `(tactic| (with_reducible refine as_NL ?_; (first | (with_reducible refine nl_fz ?_))))
set_option hygiene false in
local macro_rules | `(tactic| walk_at "st_is_number") => `(tactic| (with_reducible refine as_DE ?_; (first | (with_reducible refine de_lcXc [("digit", 2)] ⟨.function, [(".0", .local), ("digit", .local), ("DIGITS", .globalImplicit)], false, false, []⟩ (by assumption) ?_))))
set_option hygiene false in
local macro_rules | `(tactic| walk_at "st_is_number") => `(tactic| (with_reducible refine as_DS ?_; (first | (with_reducible refine' ds_setLcXc (hl := ?hl) [("digit", 2)] ⟨.function, [(".0", .local), ("digit", .local), ("DIGITS", .globalImplicit)], false, false, []⟩ (by assumption) ?hi ?_; (case hl => ((repeat (with_reducible constructor)); done)); (case hi => (repeat (with_reducible constructor)))) | (with_reducible refine' ds_setCD (by assumption) (by assumption) ?hi ?_ ?hl; (case hl => ((repeat (with_reducible constructor)); done)); (case hi => (repeat (with_reducible constructor)))) | (with_reducible refine ds_forL (by assumption) Df.po ?_))))
set_option hygiene false in
local macro_rules | `(tactic| walk_at "go_is_number") => `(tactic| (repeat (walk_at "st_is_number")))
section
variable {P : Program} {w : World} {K : PySem.W.Frag} {mg : Str → Option Value} {base : Heap} {a : Adr}
def isDig (c : Nat) : Bool := decide (c ∈ ("0123456789" : Str).cps.toList)
def isNum (z : Str) (m : Int) : Bool := decide (1 ≤ (z.length : Int) ∧ (z.length : Int) ≤ m) && z.cps.toList.all isDig && (decide (z.length = 1) || decide (z.cps.toList[0]? ≠ some 48))
def spIsNum : DSp := fun ds O E Q => ∃ z m, ds = [.str z, .int m] ∧ z.length ≤ 100000 ∧ Q (.bl (isNum z m)) O
theorem ok_is_number (T : Txt K mg a) : DFn P w K mg base 1 a.f_is_number spIsNum := by
  refine T.is_number.ok sc_is_number (fun ds O E Q h => by obtain ⟨_, _, e, _⟩ := h; rw [e]; rfl) ?_
  intro X I S0 Df hr ds O E Q hsp; obtain ⟨rfl, rfl, rfl, rfl, rfl, pa⟩ := I; have S : Sc X _ c_is_number := S0; clear S0
  obtain ⟨z, m, rfl, hz, q⟩ := hsp
  show DSs X _ [some (.str z), some (.int m), none] O _ _
  refine dss_cons ?_
  have e1 : (z.length : Int) = ((z.cps.toList.length : Nat) : Int) := rfl
  refine ds_if (DT.via (k := !(decide (1 ≤ (z.length : Int) ∧ (z.length : Int) ≤ m) && z.cps.toList.all isDig)) (O1 := O) ⟨fun h => ?_, fun h => ?_⟩ ?_)
  · walk_at "go"
    have e : isNum z m = false := by unfold isNum; rw [Bool.not_eq_true'] at h; rw [h]; rfl
    rw [← e]; exact q
  · rw [Bool.not_eq_false'] at h
    walk_at "go"
    refine ⟨fun h2 => ?_, fun h2 => ?_⟩
    · have e : isNum z m = true := by
        have h2' : (z.length : Int) = 1 := of_decide_eq_true h2
        unfold isNum
        rw [h, decide_eq_true (show z.length = 1 by omega)]
        rfl
      rw [← e]; exact q
    · walk_at "go"
      have hp : 1 ≤ z.length := by simp at h; omega
      obtain ⟨c, r, hcr⟩ : ∃ c r, z.cps.toList = c :: r := by
        cases hh : z.cps.toList with
        | nil => rw [hh] at e1; simp at e1; omega
        | cons c r => exact ⟨c, r, rfl⟩
      refine dx_str (c := c) (by omega) (by rw [hcr]; exact atI_nat (j := 0) rfl) ?_
      walk_at "go"
      have e : isNum z m = !decide ((⟨#[c]⟩ : Str) = "0") := by
        have h2' : ¬ (z.length : Int) = 1 := of_decide_eq_false h2
        unfold isNum
        rw [h, decide_eq_false (show ¬ z.length = 1 by omega), hcr]
        have ec : (decide ((⟨#[c]⟩ : Str) = "0")) = decide (c = 48) := by
          refine decide_eq_decide.2 ⟨fun z => ?_, fun z => by rw [z]; rfl⟩
          have z2 : (#[c] : Array Nat) = #[48] := congrArg Str.cps z
          simpa using z2
        rw [ec]
        simp
      rw [← e]; exact q
  · walk_at "go"
    refine ⟨fun h1 => ?_, fun h1 => ?_⟩
    · walk_at "go"
      refine ⟨fun h2 => ?_, fun h2 => ?_⟩
      · walk_at "go"
        refine de_lcX [("digit", 2)] S (di_str ?_)
        walk_at "go"
        refine ⟨Nat, z.cps.toList, fun c => .str ⟨#[c]⟩, fun c => [.bl (!isDig c)], rfl, hz, fun c hc => ?_, ?_⟩
        · intro X2 B2; have T := (show Txt X2.K X2.mg a from by rw [B2.K, B2.mg]; assumption); have S2 := B2.sc; have hr := B2.room (by assumption)
          walk_at "go"
          intro X2 B2; have T := (show Txt X2.K X2.mg a from by rw [B2.K, B2.mg]; assumption); have S2 := B2.sc; have hr := B2.room (by assumption)
          walk_at "go"
          intro X2 B2; have T := (show Txt X2.K X2.mg a from by rw [B2.K, B2.mg]; assumption); have S2 := B2.sc; have hr := B2.room (by assumption)
          walk_at "go"
          exact ⟨rfl, rfl⟩
        · rw [fm_map]
          refine nl_fz ?_
          walk_at "go"
          have e3 : (z.cps.toList.map fun c => D.bl !isDig c) = (z.cps.toList.map fun c => !isDig c).map D.bl := by rw [List.map_map]; rfl
          rw [e3]
          refine dc_any S.calm ?_
          refine ⟨_, rfl, ?_, rfl⟩
          have h2' : (z.length : Int) ≤ m := by simp at h2; exact h2
          rw [decide_eq_true (show 1 ≤ (z.length : Int) ∧ (z.length : Int) ≤ m from ⟨h1, h2'⟩), List.any_map, Bool.true_and, List.all_eq_not_any_not, Bool.not_not]
          rfl
      · walk_at "go"
        refine ⟨?_, rfl⟩
        have h2' : ¬ (z.length : Int) ≤ m := by simp at h2; omega
        rw [decide_eq_false (fun h => h2' h.2)]
        rfl
    · walk_at "go"
      refine ⟨?_, rfl⟩
      rw [decide_eq_false (fun h => h1 h.1)]
      rfl
end
set_option hygiene false in
local macro_rules | `(tactic| walk_at "st_Melody_parse") => `(tactic| (with_reducible refine as_DI ?_; (first | (with_reducible refine di_seq ?_))))
set_option hygiene false in
local macro_rules | `(tactic| walk_at "st_Melody_parse") => `(tactic| walk_at "g1")
set_option hygiene false in
local macro_rules | `(tactic| walk_at "st_Melody_parse") => `(tactic| (with_reducible refine own_out ?_))
set_option hygiene false in
local macro_rules | `(tactic| walk_at "st_Melody_parse") => `(tactic| (with_reducible refine as_NL ?_; (first | (with_reducible refine nl_fz ?_))))
set_option hygiene false in
local macro_rules | `(tactic| walk_at "st_Melody_parse") => `(tactic| (with_reducible refine as_DS ?_; (first | (with_reducible refine' ds_setCD (by assumption) (by assumption) ?hi ?_ ?hl; (case hl => ((repeat (with_reducible constructor)); done)); (case hi => (repeat (with_reducible constructor)))) | (with_reducible refine ds_forL (by assumption) Df.po ?_))))
set_option hygiene false in
local macro_rules | `(tactic| walk_at "go_Melody_parse") => `(tactic| (repeat (walk_at "st_Melody_parse")))
section
variable {X : Cx} {a : Adr} {δ : DEnv} {O : Own} {E : XD → Own → Prop} {Q : D → Own → Prop}
theorem mk_mel (T : Txt X.K X.mg a) (hr : Room 5 X.A) {ns : List Note} (hm : Mel ns) (q : Q (dMel a.C_Melody ns) O) : DC X (.ref a.C_Melody) (ns.map dNote) δ O E Q :=
  dc_make (T.Melody.make T.Melody_init.mt) (ok_Melody_init T) hr fun s => ⟨[.ref s], ns.map dNote, rfl, rfl, by have := hm.le; rw [List.length_map]; omega, s, ns, O, rfl, hm, rfl, rfl, .inl ⟨_, _, rfl, q⟩⟩
theorem mk_melK {k : Nat} (T : Txt X.K X.mg a) (hr : Room k X.A) (hk : 5 ≤ k) {ns : List Note} (hm : Mel ns) (q : Q (dMel a.C_Melody ns) O) : DC X (.ref a.C_Melody) (ns.map dNote) δ O E Q := mk_mel T (hr.mono hk) hm q
end
theorem isDig_eq (c : Nat) : isDig c = isDigN c := by
  have e : ("0123456789" : Str).cps.toList = [48, 49, 50, 51, 52, 53, 54, 55, 56, 57] := by decide +kernel
  unfold isDig isDigN
  rw [e]
  refine decide_eq_decide.2 ⟨fun h => ?_, fun h => ?_⟩
  · simp at h; omega
  · simp; omega
theorem isNum_eq (z : Str) (m : Int) : isNum z m = isNumL z.cps.toList m := by
  unfold isNum isNumL
  rw [show isDig = isDigN from funext isDig_eq]
  rfl
theorem isNum_p {i : Int} (h0 : 0 ≤ i) (h1 : i ≤ 127) : isNum (numT i) 3 = true := by
  obtain ⟨n, rfl⟩ := Int.eq_ofNat_of_zero_le h0
  rw [isNum_eq, numT_tl]
  exact (num3 n (by omega)).1
theorem isNum_b {i : Int} (h0 : 1 ≤ i) (h1 : i ≤ 16) : isNum (numT i) 2 = true := by
  obtain ⟨n, rfl⟩ := Int.eq_ofNat_of_zero_le (show 0 ≤ i by omega)
  rw [isNum_eq, numT_tl]
  exact (num2 n (by omega)).1
theorem numT_ne {i : Int} (h0 : 0 ≤ i) (h1 : i ≤ 127) : numT i ≠ "-" := fun e => by
  obtain ⟨n, rfl⟩ := Int.eq_ofNat_of_zero_le h0
  have e1 : (numT (n : Int)).cps.toList = [45] := by rw [e]; decide
  rw [numT_tl] at e1
  exact (num3 n (by omega)).2.2 e1
section
variable {P : Program} {w : World} {K : PySem.W.Frag} {mg : Str → Option Value} {base : Heap} {a : Adr}
def spParse (C : Addr) : DSp := fun ds O E Q => ∃ ns, ds = [.ref C, .str (textOf ns)] ∧ Mel ns ∧ Q (dMel C ns) O
theorem ok_Melody_parse (T : Txt K mg a) : DFn P w K mg base 6 a.f_Melody_parse (spParse a.C_Melody) := by
  refine T.Melody_parse.ok sc_Melody_parse (fun ds O E Q h => by obtain ⟨_, e, _⟩ := h; rw [e]; rfl) ?_
  intro X I S0 Df hr ds O E Q hsp; obtain ⟨rfl, rfl, rfl, rfl, rfl, pa⟩ := I; have S : Sc X _ c_Melody_parse := S0; clear S0
  obtain ⟨ns, rfl, hm, q⟩ := hsp
  show DSs X _ [some (.ref a.C_Melody), some (.str (textOf ns)), none, none, none, none] O _ _
  refine dss_cons ?_
  walk_at "go"
  refine nl_own fun f => ?_
  walk_at "go"
  refine ds_for S Df.po (di_enum S T.b_enumerate ?_)
  walk_at "go"
  have hl := text_len hm.ok
  have h32 := hm.le
  have hne : ns ≠ [] := fun e => by have := hm.pos; rw [e] at this; simp at this
  refine ⟨by decide, by omega, ?_⟩
  rw [text_split hm.ok hne]
  refine nl_fz ?_
  walk_at "go"
  refine ⟨_, rfl, fun i δ' O1 => (∃ x y z, δ' = [some (.ref a.C_Melody), some (.str (textOf ns)), some (.ref f), x, y, z]) ∧ O1 = (f, .lst ((ns.take i).map dNote)) :: O, ⟨⟨_, _, _, rfl⟩, rfl⟩, ?_, ?_⟩
  · rintro i d δ' O1 hd ⟨⟨x, y, z, rfl⟩, rfl⟩
    obtain ⟨w, hw, rfl⟩ := enumD_get hd
    obtain ⟨w', hw', rfl⟩ := map_get hw
    obtain ⟨n, hn, rfl⟩ := map_get hw'
    have hk := hm.ok n (List.mem_of_getElem? hn)
    have hb := okNote_le hk
    walk_at "go"
    have hwl := word_len hk
    refine ⟨by decide, by omega, ?_⟩
    rw [word_split hk, List.map_cons, List.map_cons, List.map_nil]
    refine nl_fz ?_
    have l1 := headT_len (ok_p hk)
    have l2 := numT_len (i := n.2) (by omega) (by omega)
    walk_at "go"
    refine dc_fn (ok_is_number T) (hr.mono (by decide)) ⟨numT n.2, 2, rfl, by omega, ?_⟩
    rw [isNum_b hb.1 hb.2]
    have e1 : (ns.take (i + 1)).map dNote = (ns.take i).map dNote ++ [dNote n] := by rw [List.take_add_one, hn]; simp
    have l3 : ((ns.take i).map dNote).length ≤ 32 := by rw [List.length_map, List.length_take]; omega
    have fin : ∀ b : Int, b = n.2 → PySem.intText? (numT n.2) = some b := fun b e => by rw [e]; exact numT_int (by omega) (by omega)
    obtain ⟨p, b⟩ := n
    cases p with
    | none =>
      walk_at "go"
      refine dc_int_str (n := b) (fin b rfl) (by simp only at l2; omega) ?_
      walk_at "go"
      exact ⟨_, .head, _, by omega, .head, ⟨_, _, _, rfl⟩, by rw [e1]; rfl⟩
    | some p =>
      have hp := ok_p hk p rfl
      have e2 : decide (headT (some p) = "-") = false := decide_eq_false (numT_ne hp.1 hp.2)
      walk_at "go"
      rw [e2]
      walk_at "go"
      refine dc_fn (ok_is_number T) (hr.mono (by decide)) ⟨numT p, 3, rfl, by simp only [headT] at l1; omega, ?_⟩
      rw [isNum_p hp.1 hp.2]
      walk_at "go"
      rw [e2]
      walk_at "go"
      refine dc_int_str (n := p) (numT_int hp.1 (by omega)) (by simp only [headT] at l1 ⊢; omega) ?_
      walk_at "go"
      refine dc_int_str (n := b) (fin b rfl) (by simp only at l2; omega) ?_
      walk_at "go"
      exact ⟨_, .head, _, by omega, .head, ⟨_, _, _, rfl⟩, by rw [e1]; rfl⟩
  · rintro δ' O1 ⟨⟨x, y, z, rfl⟩, rfl⟩
    rw [enumD_length, List.length_map, List.length_map, List.take_length]
    refine' dss_fz _ ?gm ?gd ?gf ?_; (case gm => (repeat (first | with_reducible exact At.head | with_reducible assumption | with_reducible apply At.tail))); (case gd => (repeat (first | with_reducible exact Del.head | with_reducible apply Del.tail))); (case gf => (repeat (first | with_reducible exact Fz.nil | with_reducible apply Fz.swap | with_reducible apply Fz.keep)))
    walk_at "go"
    have hk := T.Melody.k
    (refine' de_callVS (by assumption) ?hi ?hd (by assumption) ?_; (case hi => repeat (with_reducible constructor)); (case hd => repeat (with_reducible constructor)))
    walk_at "go"
    exact ⟨_, .inr rfl, mk_mel T hr hm q⟩
end
set_option hygiene false in
local macro_rules | `(tactic| walk_at "st_law_random") => `(tactic| (with_reducible refine as_DI ?_; (first | (with_reducible refine di_seq ?_))))
set_option hygiene false in
local macro_rules | `(tactic| walk_at "st_law_random") => `(tactic| walk_at "g1")
set_option hygiene false in
local macro_rules | `(tactic| walk_at "st_law_random") => `(tactic| (with_reducible refine own_out ?_))
set_option hygiene false in
local macro_rules | `(tactic| walk_at "st_law_random") => `(tactic| (with_reducible refine as_NL ?_; (first | (with_reducible refine nl_fz ?_))))
set_option hygiene false in
local macro_rules | `(tactic| walk_at "st_law_random") => `(tactic| (with_reducible refine as_DE ?_; (first | (with_reducible refine de_lcXc [("_law_cell", 3)] ⟨.function, [(".0", .local), ("_law_cell", .local)], false, false, []⟩ (by assumption) ?_))))
set_option hygiene false in
local macro_rules | `(tactic| walk_at "st_law_random") => `(tactic| (with_reducible refine as_DS ?_; (first | (with_reducible refine' ds_setLcXc (hl := ?hl) [("_law_cell", 3)] ⟨.function, [(".0", .local), ("_law_cell", .local)], false, false, []⟩ (by assumption) ?hi ?_; (case hl => ((repeat (with_reducible constructor)); done)); (case hi => (repeat (with_reducible constructor)))) | (with_reducible refine' ds_setCD (by assumption) (by assumption) ?hi ?_ ?hl; (case hl => ((repeat (with_reducible constructor)); done)); (case hi => (repeat (with_reducible constructor)))) | (with_reducible refine ds_forL (by assumption) Df.po ?_))))
set_option hygiene false in
local macro_rules | `(tactic| walk_at "go_law_random") => `(tactic| (repeat (walk_at "st_law_random")))
set_option hygiene false in
local macro_rules | `(tactic| walk_at "st_law_below") => `(tactic| (with_reducible refine as_DI ?_; (first | (with_reducible refine di_seq ?_))))
set_option hygiene false in
local macro_rules | `(tactic| walk_at "st_law_below") => `(tactic| walk_at "g1")
set_option hygiene false in
local macro_rules | `(tactic| walk_at "st_law_below") => `(tactic| (with_reducible refine own_out ?_))
set_option hygiene false in
local macro_rules | `(tactic| walk_at "st_law_below") => `(tactic| (with_reducible refine as_NL ?_; (first | (with_reducible refine nl_fz ?_))))
set_option hygiene false in
local macro_rules | `(tactic| walk_at "st_law_below") => `(tactic| (with_reducible refine as_DS ?_; (first | (with_reducible refine' ds_setCD (by assumption) (by assumption) ?hi ?_ ?hl; (case hl => ((repeat (with_reducible constructor)); done)); (case hi => (repeat (with_reducible constructor)))) | (with_reducible refine ds_forL (by assumption) Df.po ?_))))
set_option hygiene false in
local macro_rules | `(tactic| walk_at "go_law_below") => `(tactic| (repeat (walk_at "st_law_below")))
section
variable {P : Program} {w : World} {K : PySem.W.Frag} {mg : Str → Option Value} {base : Heap} {a : Adr}
def seedOf (ns : List Int) (s : Int) : Int := ns.foldl (fun s c => (s * 31 + (if c < 0 then -c else c)) % 2147483647) s
def rndL (ns : List Int) (s : Int) : List Int := [seedOf ns s, 0] ++ ns.filter fun c => decide (10 ^ 18 ≤ c)
def spRandom : DSp := fun ds O E Q => ∃ ns s, ds = [.fz (ns.map D.int), .int s] ∧ ns.length ≤ 63 ∧ ∀ r, Q (.ref r) ((r, .lst ((rndL ns s).map D.int)) :: O)
theorem ok_law_random (T : Txt K mg a) : DFn P w K mg base 1 a.f_law_random spRandom := by
  refine T.law_random.ok sc_law_random (fun ds O E Q h => by obtain ⟨_, _, e, _⟩ := h; rw [e]; rfl) ?_
  intro X I S0 Df hr ds O E Q hsp; obtain ⟨rfl, rfl, rfl, rfl, rfl, pa⟩ := I; have S : Sc X _ c_law_random := S0; clear S0
  obtain ⟨ns, s, rfl, hl, q⟩ := hsp
  show DSs X _ [some (.fz (ns.map D.int)), some (.int s), none, none] O _ _
  refine dss_cons ?_
  walk_at "go"
  refine ds_for S Df.po (di_list ?_)
  walk_at "go"
  refine ⟨_, .inr rfl, fun i δ' O1 => (∃ x, δ' = [some (.fz (ns.map D.int)), some (.int s), some (.int (seedOf (ns.take i) s)), x]) ∧ O1 = O, ⟨⟨_, rfl⟩, rfl⟩, ?_, ?_⟩
  · rintro i d δ' O1 hd ⟨⟨x, rfl⟩, rfl⟩
    obtain ⟨c, hc, rfl⟩ := map_get hd
    walk_at "go"
    refine ⟨⟨some (.int c), ?_⟩, rfl⟩
    rw [show seedOf (ns.take (i + 1)) s = (seedOf (ns.take i) s * 31 + (if c < 0 then -c else c)) % 2147483647 by rw [List.take_add_one, hc]; simp [seedOf]]
  · rintro δ' O1 ⟨⟨x, rfl⟩, rfl⟩
    rw [List.length_map, List.take_length]
    walk_at "go"
    refine nl_fz ?_
    refine de_lcX [("_law_cell", 3)] S (di_list ?_)
    walk_at "go"
    refine ⟨_, .inr rfl, ?_⟩
    walk_at "go"
    refine ⟨Int, ns, D.int, fun c => if decide (10 ^ 18 ≤ c) then [.int c] else [], rfl, by omega, fun c hc => ?_, ?_⟩
    · intro X2 B2; have T := (show Txt X2.K X2.mg a from by rw [B2.K, B2.mg]; assumption); have S2 := B2.sc; have hr := B2.room (by assumption)
      walk_at "go"
      intro X2 B2; have T := (show Txt X2.K X2.mg a from by rw [B2.K, B2.mg]; assumption); have S2 := B2.sc; have hr := B2.room (by assumption)
      walk_at "go"
      refine ⟨fun h => ?_, fun h => ?_⟩
      · intro X2 B2; have T := (show Txt X2.K X2.mg a from by rw [B2.K, B2.mg]; assumption); have S2 := B2.sc; have hr := B2.room (by assumption)
        walk_at "go"
        refine ⟨rfl, ?_⟩
        exact if_pos h
      · refine ⟨rfl, ?_⟩
        exact if_neg (by rw [show decide ((10:Int) ^ 18 ≤ c) = false from h]; exact Bool.false_ne_true)
    · rw [fm_fil]
      refine nl_fz ?_
      refine db_cat (by have := List.length_filter_le (fun c : Int => decide (10 ^ 18 ≤ c)) ns; rw [List.length_map, List.length_cons, List.length_cons, List.length_nil]; omega) (nl_own fun r => ?_)
      have e : [D.int (seedOf ns s), D.int 0] ++ List.map D.int (ns.filter fun c => decide (10 ^ 18 ≤ c)) = (rndL ns s).map D.int := by simp [rndL]
      rw [e]
      exact q r
end
section
variable {P : Program} {w : World} {K : PySem.W.Frag} {mg : Str → Option Value} {base : Heap} {a : Adr}
def below2 (x y : Int) (l : List Int) (m : Int) : Int × List Int := if 0 < y then (y % m, x :: y / m :: l) else ((x * 48271 + 11) % 2147483647 / 64 % m, (x * 48271 + 11) % 2147483647 :: y :: l)
/-- the next number, from the cell's numbers: the result, and the numbers left -/
def belowL : List Int → Int → Int × List Int
  | x :: y :: z :: l, m => if y = 0 then below2 x z l m else below2 x y (z :: l) m
  | [x, y], m => below2 x y [] m
  | l, _ => (0, l)
def spBelow : DSp := fun ds O E Q => ∃ r l m, ds = [.ref r, .int m] ∧ 0 < m ∧ m < 1073741824 ∧ Src l ∧ At r (.lst (l.map D.int)) O ∧ ∃ O', Put r (.lst ((belowL l m).2.map D.int)) O O' ∧ Q (.int (belowL l m).1) O'
theorem ok_law_below (T : Txt K mg a) : DFn P w K mg base 1 a.f_law_below spBelow := by
  refine T.law_below.ok sc_law_below (fun ds O E Q h => by obtain ⟨_, _, _, e, _⟩ := h; rw [e]; rfl) ?_
  intro X I S0 Df hr ds O E Q hsp; obtain ⟨rfl, rfl, rfl, rfl, rfl, pa⟩ := I; have S : Sc X _ c_law_below := S0; clear S0
  obtain ⟨r, l, m, rfl, h0, h1, hs, hm, O', hp, q⟩ := hsp
  show DSs X _ [some (.ref r), some (.int m), none] O _ _
  obtain ⟨x, y, l', rfl⟩ : ∃ x y l', l = x :: y :: l' := by
    match l, hs.two with
    | x :: y :: l', _ => exact ⟨x, y, l', rfl⟩
  have hl := hs.le
  simp only [List.length_cons] at hl
  rw [List.map_cons, List.map_cons] at hm
  refine dss_via (fun δ1 O1 => δ1 = [some (.ref r), some (.int m), none] ∧ ∃ y1 l1, At r (.lst (.int x :: .int y1 :: l1.map D.int)) O1 ∧ Put r (.lst ((belowL (x :: y :: l') m).2.map D.int)) O1 O' ∧ belowL (x :: y :: l') m = below2 x y1 l1 m) ?_ ?_
  · walk_at "go"
    refine ⟨fun h2 => ?_, fun h2 => ?_⟩
    · have h2 := of_decide_eq_true h2
      walk_at "go"
      refine ⟨fun h3 => ?_, fun h3 => ?_⟩
      · have h3 := of_decide_eq_true h3
        obtain ⟨z, l2, rfl⟩ : ∃ z l2, l' = z :: l2 := by
          cases l' with
          | nil => simp at h3
          | cons z l2 => exact ⟨z, l2, rfl⟩
        obtain ⟨O2, p1, p2⟩ := hp.mid (.lst ((.int x :: .int y :: .int z :: l2.map D.int).eraseIdx 2))
        obtain ⟨O3, p3, p4⟩ := p2.mid (.lst (.int x :: .int z :: l2.map D.int))
        walk_at "go"
        refine de_popAt ?_
        walk_at "go"
        walk_at "go"
        refine ⟨_, hm, 2, _, O2, rfl, rfl, by simp at hl ⊢; omega, p1, ?_⟩
        walk_at "go"
        refine ⟨1, _, O3, rfl, p1.at', by simp, p3, ?_⟩
        refine ⟨rfl, z, l2, p3.at', p4, ?_⟩
        rw [belowL, if_pos h2]
      · have h3 := of_decide_eq_false h3
        walk_at "go"
        refine ⟨rfl, y, l', hm, hp, ?_⟩
        cases l' with
        | nil => rfl
        | cons z l2 => simp at h3; omega
    · have h2 := of_decide_eq_false h2
      walk_at "go"
      refine ⟨rfl, y, l', hm, hp, ?_⟩
      cases l' with
      | nil => rfl
      | cons z l2 => rw [belowL, if_neg h2]
  · rintro δ1 O1 ⟨rfl, y1, l1, hm, hp, e⟩
    rw [e] at hp q
    walk_at "go"
    refine ⟨fun h2 => ?_, fun h2 => ?_⟩
    · have h2 := of_decide_eq_true h2
      rw [below2, if_pos h2] at hp q
      walk_at "go"
      refine db_fdiv ⟨h0, h1⟩ ?_
      walk_at "go"
      refine ⟨1, _, _, rfl, hm, by simp, hp, ?_⟩
      walk_at "go"
      exact q
    · have h2 := of_decide_eq_false h2
      rw [below2, if_neg h2] at hp q
      walk_at "go"
      refine ⟨0, _, _, rfl, hm, by simp, hp, ?_⟩
      have hm := hp.at'
      rw [List.map_cons, List.map_cons] at hm
      walk_at "go"
      exact q
theorem below2_ok {x y : Int} {l : List Int} {m : Int} (h0 : 0 < m) : 0 ≤ (below2 x y l m).1 ∧ (below2 x y l m).1 < m ∧ (below2 x y l m).2.length = l.length + 2 := by
  unfold below2
  split
  · exact ⟨Int.emod_nonneg _ (by omega), Int.emod_lt_of_pos _ h0, rfl⟩
  · exact ⟨Int.emod_nonneg _ (by omega), Int.emod_lt_of_pos _ h0, rfl⟩
theorem below_ok {l : List Int} {m : Int} (hs : Src l) (h0 : 0 < m) : 0 ≤ (belowL l m).1 ∧ (belowL l m).1 < m ∧ Src (belowL l m).2 := by
  have h1 := hs.two
  have h2 := hs.le
  match l, h1, h2 with
  | [x, y], _, _ =>
    have h := below2_ok (x := x) (y := y) (l := []) h0
    exact ⟨h.1, h.2.1, by rw [belowL, h.2.2]; simp, by rw [belowL, h.2.2]; simp⟩
  | x :: y :: z :: l, _, h2 =>
    simp only [List.length_cons] at h2
    rw [belowL]
    split
    · have h := below2_ok (x := x) (y := z) (l := l) h0
      exact ⟨h.1, h.2.1, by rw [h.2.2]; omega, by rw [h.2.2]; omega⟩
    · have h := below2_ok (x := x) (y := y) (l := z :: l) h0
      exact ⟨h.1, h.2.1, by rw [h.2.2]; simp, by rw [h.2.2]; simp; omega⟩
/-- a number from 0 to m - 1, whatever it is -/
def spBel : DSp := fun ds O E Q => ∃ r m, ds = [.ref r, .int m] ∧ 0 < m ∧ m < 1073741824 ∧ At r .src O ∧ ∀ v, 0 ≤ v → v < m → Q (.int v) O
theorem ok_bel (T : Txt K mg a) : DFn P w K mg base 1 a.f_law_below spBel := DFn.view (ok_law_below T) fun ds O E Q ⟨r, m, e, h0, h1, ha, q⟩ G H sta => by
  obtain ⟨_, o, ho, rc⟩ := sta.at_ ha
  cases o with
  | lst vs =>
    obtain ⟨l, hl, rfl⟩ := rc
    have b := below_ok hl h0
    have hat : At r (.lst (l.map D.int)) (setC r (.lst (l.map D.int)) O) := setC_at ha
    obtain ⟨O', hp⟩ := hat.put (.lst ((belowL l m).2.map D.int))
    refine ⟨setC r (.lst (l.map D.int)) O, E, fun d O2 => d = .int (belowL l m).1 ∧ O2 = O', sta.recell fun o2 h2 => ?_, setC_keys, ⟨r, l, m, e, h0, h1, hl, hat, O', hp, rfl, rfl⟩, fun x G' H' O2 s2 hE => ⟨O2, s2, rfl, hE⟩, fun d G' H' O2 s2 ⟨ed, eO⟩ => ?_⟩
    · rw [ho] at h2
      cases h2
      exact repL_map (fun _ => .int _) _
    · subst ed eO
      have eq : setC r .src O2 = O := by rw [setC_put hp, setC_set, setC_id ha sta.nd]
      obtain ⟨_, o3, ho3, rc3⟩ := s2.at_ hp.at'
      refine ⟨O, ?_, ?_, q _ b.1 b.2.1⟩
      · have s3 := s2.recell (r := r) (c := .src) fun o4 h4 => by
          rw [ho3] at h4
          cases h4
          cases o3 with
          | lst ws => exact ⟨_, b.2.2, repL_int rc3⟩
          | _ => exact rc3.elim
        rw [eq] at s3
        exact s3
      · rw [← eq, setC_keys]
  | _ => exact rc.elim
theorem rnd_src {ns : List Int} {s : Int} (h : ns.length ≤ 63) : Src (rndL ns s) := by
  have := List.length_filter_le (fun c : Int => decide (10 ^ 18 ≤ c)) ns
  constructor
  · simp [rndL]
  · simp [rndL] at this ⊢; omega
def spRandomS : DSp := fun ds O E Q => ∃ (ns : List Int) (s : Int), ds = [.fz (ns.map D.int), .int s] ∧ ns.length ≤ 63 ∧ ∀ r, Q (.ref r) ((r, .src) :: O)
theorem ok_random (T : Txt K mg a) : DFn P w K mg base 1 a.f_law_random spRandomS := DFn.view (ok_law_random T) fun ds O E Q ⟨ns, s, e, hl, q⟩ G H sta =>
  ⟨O, E, fun d O2 => ∃ r, d = .ref r ∧ O2 = (r, .lst ((rndL ns s).map D.int)) :: O, sta, rfl, ⟨ns, s, e, hl, fun r => ⟨r, rfl, rfl⟩⟩, fun x G' H' O2 s2 hE => ⟨O2, s2, rfl, hE⟩, fun d G' H' O2 s2 ⟨r, ed, eO⟩ => by
    subst ed eO
    refine ⟨(r, .src) :: O, ?_, rfl, q r⟩
    obtain ⟨_, o3, ho3, rc3⟩ := s2.own r _ List.mem_cons_self
    have s3 := s2.recell (r := r) (c := .src) fun o4 h4 => by
      rw [ho3] at h4
      cases h4
      cases o3 with
      | lst ws => exact ⟨_, rnd_src hl, repL_int rc3⟩
      | _ => exact rc3.elim
    have eq : setC r .src ((r, .lst ((rndL ns s).map D.int)) :: O) = (r, .src) :: O := by
      have nd := s2.nd
      rw [List.map_cons, List.nodup_cons] at nd
      unfold setC
      rw [List.map_cons, if_pos rfl]
      congr 1
      conv => rhs; rw [← List.map_id O]
      refine List.map_congr_left fun p hp => ?_
      rw [if_neg]
      · rfl
      · intro z
        exact nd.1 (by rw [← z]; exact own_mem (c := p.2) hp)
    rw [eq] at s3
    exact s3⟩
section
variable {X : Cx} {δ : DEnv} {O : Own} {E : XD → Own → Prop} {Q : D → Own → Prop}
theorem dc_bel {k : Nat} {r : Addr} {m : Int} (T : Txt X.K X.mg a) (hr : Room k X.A) (hk : 1 ≤ k) (ha : At r .src O) (h0 : 0 < m) (h1 : m < 1073741824) (q : ∀ v, 0 ≤ v → v < m → Q (.int v) O) : DC X (.ref a.f_law_below) [.ref r, .int m] δ O E Q :=
  dc_fn (ok_bel T) (hr.mono hk) ⟨r, m, rfl, h0, h1, ha, q⟩
end
end
set_option hygiene false in
local macro_rules | `(tactic| walk_at "st_law_notes") => `(tactic| (with_reducible refine as_DI ?_; (first | (with_reducible refine di_seq ?_))))
set_option hygiene false in
local macro_rules | `(tactic| walk_at "st_law_notes") => `(tactic| walk_at "g1")
set_option hygiene false in
local macro_rules | `(tactic| walk_at "st_law_notes") => `(tactic| (with_reducible refine own_out ?_))
set_option hygiene false in
local macro_rules | `(tactic| walk_at "st_law_notes") => `(tactic| (with_reducible refine as_NL ?_; (first | (with_reducible refine nl_fzc ?_) )))
set_option hygiene false in
local macro_rules | `(tactic| walk_at "st_law_notes") => `(tactic| (with_reducible refine as_DS ?_; (first | (with_reducible refine' ds_setCD (by assumption) (by assumption) ?hi ?_ ?hl; (case hl => ((repeat (with_reducible constructor)); done)); (case hi => (repeat (with_reducible constructor)))) | (with_reducible refine ds_forL (by assumption) Df.po ?_))))
set_option hygiene false in
local macro_rules | `(tactic| walk_at "go_law_notes") => `(tactic| (repeat (walk_at "st_law_notes")))
section
variable {P : Program} {w : World} {K : PySem.W.Frag} {mg : Str → Option Value} {base : Heap} {a : Adr}
/-- random notes: some melody, at most m long -/
def spNotes : DSp := fun ds O E Q => ∃ r m, ds = [.ref r, .int m] ∧ 1 ≤ m ∧ m ≤ 32 ∧ At r .src O ∧ ∀ ns, Mel ns → (ns.length : Int) ≤ m → Q (.lst (ns.map dNote)) O
theorem at_in {xs : List Int} {i : Int} {Q : Int → Prop} (h0 : 0 ≤ i) (h1 : i < xs.length) (q : ∀ x ∈ xs, Q x) : ∃ x, atI (xs.map D.int) i = some (.int x) ∧ Q x := by
  obtain ⟨n, rfl⟩ := Int.eq_ofNat_of_zero_le h0
  have hn : n < xs.length := by omega
  exact ⟨xs[n], atI_nat (by rw [List.getElem?_map, List.getElem?_eq_getElem hn]; rfl), q _ (List.getElem_mem hn)⟩
theorem ok_law_notes (T : Txt K mg a) : DFn P w K mg base 3 a.f_law_notes spNotes := by
  refine T.law_notes.ok sc_law_notes (fun ds O E Q h => by obtain ⟨_, _, e, _⟩ := h; rw [e]; rfl) ?_
  intro X I S0 Df hr ds O E Q hsp; obtain ⟨rfl, rfl, rfl, rfl, rfl, pa⟩ := I; have S : Sc X _ c_law_notes := S0; clear S0
  obtain ⟨r, m, rfl, h0, h1, ha, q⟩ := hsp
  show DSs X _ [some (.ref r), some (.int m), none, none, none, none, none] _ _ _
  refine dss_cons ?_
  walk_at "go_law_notes"
  intro v v0 v1
  obtain ⟨low, e1, b1, b2⟩ := at_in (xs := [0, 50, 60, 100]) (Q := fun x => 0 ≤ x ∧ x ≤ 100) v0 (by simpa using v1) (by decide)
  refine dx_lst e1 ?_
  walk_at "go_law_notes"
  intro v v0 v1
  obtain ⟨span, e2, b3, b4⟩ := at_in (xs := [5, 13, 28]) (Q := fun x => 1 ≤ x ∧ x ≤ 28) v0 (by simpa using v1) (by decide)
  refine dx_lst e2 ?_
  walk_at "go_law_notes"
  intro v v0 v1
  obtain ⟨lon, e3, b5, b6⟩ := at_in (xs := [1, 3, 16]) (Q := fun x => 1 ≤ x ∧ x ≤ 16) v0 (by simpa using v1) (by decide)
  refine dx_lst e3 ?_
  walk_at "go_law_notes"
  refine nl_own fun f => ?_
  walk_at "go_law_notes"
  intro n n0 n1
  walk_at "go_law_notes"
  refine ⟨fun i δ' O1 => (∃ x, δ' = [some (.ref r), some (.int m), some (.int low), some (.int span), some (.int lon), some (.ref f), x]) ∧ ∃ ns, (ns.length = i ∧ (∀ n ∈ ns, okNote n = true)) ∧ O1 = (f, .lst (ns.map dNote)) :: O, ⟨⟨_, rfl⟩, [], ⟨rfl, fun _ h => nomatch h⟩, rfl⟩, ?_, ?_⟩
  · rintro i d δ' O1 hd ⟨⟨x, rfl⟩, ns, ⟨hi, hn⟩, rfl⟩
    have hd' : i < (1 + n).toNat := by have := (List.getElem?_eq_some_iff.1 hd).1; rwa [dInts_length] at this
    have ok2 : ∀ (p : Option Int) (b : Int), okNote (p, b) = true → ∀ n ∈ ns ++ [(p, b)], okNote n = true := fun p b h n hm => by
      rcases List.mem_append.1 hm with h2 | h2
      · exact hn n h2
      · rw [List.mem_singleton.1 h2]
        exact h
    walk_at "go_law_notes"
    intro v v0 v1
    walk_at "go_law_notes"
    refine br_d (fun h => ?_) (fun h => ?_)
    · walk_at "go_law_notes"
      intro u u0 u1
      walk_at "go_law_notes"
      exact lessd ⟨⟨_, rfl⟩, ns ++ [(none, 1 + u)], ⟨by simp; omega, ok2 _ _ (by simp [okNote]; omega)⟩, by simp [dOpt]⟩
    · walk_at "go_law_notes"
      intro w w0 w1
      walk_at "go_law_notes"
      intro u u0 u1
      walk_at "go_law_notes"
      exact lessd ⟨⟨_, rfl⟩, ns ++ [(some (low + w), 1 + u)], ⟨by simp; omega, ok2 _ _ (by simp [okNote]; omega)⟩, by simp [dOpt]⟩
  · rintro δ' O1 ⟨⟨x, rfl⟩, ns, ⟨hi, hn⟩, rfl⟩
    rw [dInts_length] at hi
    refine' dss_fz _ ?gm ?gd ?gf ?_; (case gm => (repeat (first | with_reducible exact At.head | with_reducible assumption | with_reducible apply At.tail))); (case gd => (repeat (first | with_reducible exact Del.head | with_reducible apply Del.tail))); (case gf => (repeat (first | with_reducible exact Fz.nil | with_reducible apply Fz.swap | with_reducible apply Fz.keep)))
    walk_at "go_law_notes"
    exact q ns ⟨hn, by omega, by omega⟩ (by omega)
end
set_option hygiene false in
local macro_rules | `(tactic| walk_at "st_law_words") => `(tactic| (with_reducible refine as_DI ?_; (first | (with_reducible refine di_seq ?_))))
set_option hygiene false in
local macro_rules | `(tactic| walk_at "st_law_words") => `(tactic| walk_at "g1")
set_option hygiene false in
local macro_rules | `(tactic| walk_at "st_law_words") => `(tactic| (with_reducible refine own_out ?_))
set_option hygiene false in
local macro_rules | `(tactic| walk_at "st_law_words") => `(tactic| (with_reducible refine as_NL ?_; (first | (with_reducible refine nl_fz ?_))))
set_option hygiene false in
local macro_rules | `(tactic| walk_at "st_law_words") => `(tactic| (with_reducible refine as_DE ?_; (first | (with_reducible refine de_lcXc [("_law_pitch", 1), ("_law_beats", 2)] ⟨.function, [(".0", .local), ("_law_pitch", .local), ("_law_beats", .local), ("str", .globalImplicit)], false, false, []⟩ (by assumption) ?_))))
set_option hygiene false in
local macro_rules | `(tactic| walk_at "st_law_words") => `(tactic| (with_reducible refine as_DS ?_; (first | (with_reducible refine' ds_setLcXc (hl := ?hl) [("_law_pitch", 1), ("_law_beats", 2)] ⟨.function, [(".0", .local), ("_law_pitch", .local), ("_law_beats", .local), ("str", .globalImplicit)], false, false, []⟩ (by assumption) ?hi ?_; (case hl => ((repeat (with_reducible constructor)); done)); (case hi => (repeat (with_reducible constructor)))) | (with_reducible refine' ds_setCD (by assumption) (by assumption) ?hi ?_ ?hl; (case hl => ((repeat (with_reducible constructor)); done)); (case hi => (repeat (with_reducible constructor)))) | (with_reducible refine ds_forL (by assumption) Df.po ?_))))
set_option hygiene false in
local macro_rules | `(tactic| walk_at "go_law_words") => `(tactic| (repeat (walk_at "st_law_words")))
set_option hygiene false in
local macro_rules | `(tactic| walk_at "st_law_melody") => `(tactic| (with_reducible refine as_DI ?_; (first | (with_reducible refine di_seq ?_))))
set_option hygiene false in
local macro_rules | `(tactic| walk_at "st_law_melody") => `(tactic| walk_at "g1")
set_option hygiene false in
local macro_rules | `(tactic| walk_at "st_law_melody") => `(tactic| (with_reducible refine own_out ?_))
set_option hygiene false in
local macro_rules | `(tactic| walk_at "st_law_melody") => `(tactic| (with_reducible refine as_NL ?_; (first | (with_reducible refine nl_fz ?_))))
set_option hygiene false in
local macro_rules | `(tactic| walk_at "st_law_melody") => `(tactic| (with_reducible refine as_DS ?_; (first | (with_reducible refine' ds_setCD (by assumption) (by assumption) ?hi ?_ ?hl; (case hl => ((repeat (with_reducible constructor)); done)); (case hi => (repeat (with_reducible constructor)))) | (with_reducible refine ds_forL (by assumption) Df.po ?_))))
set_option hygiene false in
local macro_rules | `(tactic| walk_at "go_law_melody") => `(tactic| (repeat (walk_at "st_law_melody")))
section
variable {P : Program} {w : World} {K : PySem.W.Frag} {mg : Str → Option Value} {base : Heap} {a : Adr}
def spWords : DSp := fun ds O E Q => ∃ ns, ds = [.lst (ns.map dNote)] ∧ Mel ns ∧ Q (.str (textOf ns)) O
theorem ok_law_words (T : Txt K mg a) : DFn P w K mg base 1 a.f_law_words spWords := by
  refine T.law_words.ok sc_law_words (fun ds O E Q h => by obtain ⟨_, e, _⟩ := h; rw [e]; rfl) ?_
  intro X I S0 Df hr ds O E Q hsp; obtain ⟨rfl, rfl, rfl, rfl, rfl, pa⟩ := I; have S : Sc X _ c_law_words := S0; clear S0
  obtain ⟨ns, rfl, hm, q⟩ := hsp
  show DSs X _ [some (.lst (ns.map dNote)), none, none] O _ _
  refine dss_cons ?_
  walk_at "go"
  refine de_lcX [("_law_pitch", 1), ("_law_beats", 2)] S (di_list ?_)
  walk_at "go"
  refine ⟨_, .inl rfl, ?_⟩
  walk_at "go"
  have h32 := hm.le
  refine ⟨Note, ns, dNote, fun n => [.str (wordOf n)], rfl, by omega, fun n hn => ?_, ?_⟩
  · have hk := hm.ok n hn
    have hb := okNote_le hk
    have l1 := headT_len (ok_p hk)
    have l2 := numT_len (i := n.2) (by omega) (by omega)
    obtain ⟨p, b⟩ := n
    have e0 : ("/" : Str).length = 1 := by decide
    have e1 : ("-" : Str).length = 1 := by decide
    cases p with
    | none =>
      intro X2 B2; have T := (show Txt X2.K X2.mg a from by rw [B2.K, B2.mg]; assumption); have S2 := B2.sc; have hr := B2.room (by assumption)
      walk_at "go"
      intro X2 B2; have T := (show Txt X2.K X2.mg a from by rw [B2.K, B2.mg]; assumption); have S2 := B2.sc; have hr := B2.room (by assumption)
      walk_at "go"
      intro X2 B2; have T := (show Txt X2.K X2.mg a from by rw [B2.K, B2.mg]; assumption); have S2 := B2.sc; have hr := B2.room (by assumption)
      walk_at "go"
      refine db_catS (by decide) ?_
      walk_at "go"
      refine dc_str_int (log_small (by omega) (by omega)) ?_
      walk_at "go"
      refine db_catS (by rw [len_app, e0, e1]; simp only [numT] at l2; omega) ?_
      exact ⟨rfl, rfl⟩
    | some p =>
      have hp := ok_p hk p rfl
      intro X2 B2; have T := (show Txt X2.K X2.mg a from by rw [B2.K, B2.mg]; assumption); have S2 := B2.sc; have hr := B2.room (by assumption)
      walk_at "go"
      intro X2 B2; have T := (show Txt X2.K X2.mg a from by rw [B2.K, B2.mg]; assumption); have S2 := B2.sc; have hr := B2.room (by assumption)
      walk_at "go"
      intro X2 B2; have T := (show Txt X2.K X2.mg a from by rw [B2.K, B2.mg]; assumption); have S2 := B2.sc; have hr := B2.room (by assumption)
      walk_at "go"
      refine dc_str_int (log_small (by omega) (by omega)) ?_
      walk_at "go"
      refine db_catS (by rw [e0]; simp only [headT, numT] at l1; omega) ?_
      walk_at "go"
      refine dc_str_int (log_small (by omega) (by omega)) ?_
      walk_at "go"
      refine db_catS (by rw [len_app, e0]; simp only [headT, numT] at l1 l2; omega) ?_
      exact ⟨rfl, rfl⟩
  · rw [fm_map]
    refine nl_fz ?_
    walk_at "go"
    refine ⟨ns.map wordOf, by rw [List.map_map]; rfl, ?_, ?_⟩
    · have h := text_len hm.ok
      have hs : ((ns.map wordOf).map (·.length)).sum ≤ 7 * ns.length := words_sum hm.ok
      have e0 : (" " : Str).length = 1 := by decide
      rw [e0, List.length_map]
      omega
    · exact q
def spMelody (C : Addr) : DSp := fun ds O E Q => ∃ ns, ds = [.lst (ns.map dNote)] ∧ Mel ns ∧ Q (dMel C ns) O
theorem ok_law_melody (T : Txt K mg a) : DFn P w K mg base 7 a.f_law_melody (spMelody a.C_Melody) := by
  refine T.law_melody.ok sc_law_melody (fun ds O E Q h => by obtain ⟨_, e, _⟩ := h; rw [e]; rfl) ?_
  intro X I S0 Df hr ds O E Q hsp; obtain ⟨rfl, rfl, rfl, rfl, rfl, pa⟩ := I; have S : Sc X _ c_law_melody := S0; clear S0
  obtain ⟨ns, rfl, hm, q⟩ := hsp
  show DSs X _ [some (.lst (ns.map dNote))] O _ _
  refine dss_cons ?_
  walk_at "go"
  refine de_cmeth T.Melody.rd T.Melody_parse.c (de_glob (v := .ref a.C_Melody) (by assumption) T.Melody.g rfl (fun _ => .ref _) ⟨rfl, ?_⟩)
  walk_at "go"
  refine dc_fn (ok_law_words T) (hr.mono (by decide)) ⟨ns, rfl, hm, ?_⟩
  walk_at "go"
  refine dk_fn (ok_Melody_parse T) (hr.mono (by decide)) ⟨ns, rfl, hm, ?_⟩
  exact q
end
set_option hygiene false in
local macro_rules | `(tactic| walk_at "st_law_equal") => `(tactic| (with_reducible refine as_DI ?_; (first | (with_reducible refine di_seq ?_))))
set_option hygiene false in
local macro_rules | `(tactic| walk_at "st_law_equal") => `(tactic| walk_at "g1")
set_option hygiene false in
local macro_rules | `(tactic| walk_at "st_law_equal") => `(tactic| (with_reducible refine own_out ?_))
set_option hygiene false in
local macro_rules | `(tactic| walk_at "st_law_equal") => `(tactic| (with_reducible refine as_NL ?_; (first | (with_reducible refine nl_fz ?_))))
set_option hygiene false in
local macro_rules | `(tactic| walk_at "st_law_equal") => `(tactic| (with_reducible refine as_DE ?_; (first | (with_reducible refine de_lcXc [("_law_k", 2)] ⟨.function, [(".0", .local), ("_law_k", .local), ("_law_equal", .globalImplicit), ("_law_actual", .cell), ("_law_expected", .cell)], false, false, []⟩ (by assumption) ?_))))
set_option hygiene false in
local macro_rules | `(tactic| walk_at "st_law_equal") => `(tactic| (with_reducible refine as_DS ?_; (first | (with_reducible refine' ds_setLcXc (hl := ?hl) [("_law_k", 2)] ⟨.function, [(".0", .local), ("_law_k", .local), ("_law_equal", .globalImplicit), ("_law_actual", .cell), ("_law_expected", .cell)], false, false, []⟩ (by assumption) ?hi ?_; (case hl => ((repeat (with_reducible constructor)); done)); (case hi => (repeat (with_reducible constructor)))) | (with_reducible refine' ds_setCD (by assumption) (by assumption) ?hi ?_ ?hl; (case hl => ((repeat (with_reducible constructor)); done)); (case hi => (repeat (with_reducible constructor)))) | (with_reducible refine ds_forL (by assumption) Df.po ?_))))
set_option hygiene false in
local macro_rules | `(tactic| walk_at "go_law_equal") => `(tactic| (repeat (walk_at "st_law_equal")))
section
variable {P : Program} {w : World} {K : PySem.W.Frag} {mg : Str → Option Value} {base : Heap} {a : Adr}
mutual
def shortD : D → Bool
  | .tup ds => decide (ds.length ≤ 100000) && shortDs ds
  | .lst ds => decide (ds.length ≤ 100000) && shortDs ds
  | _ => true
def shortDs : List D → Bool
  | [] => true
  | d :: ds => shortD d && shortDs ds
end
structure Eqd (n : Nat) (p : D) : Prop where
  pl : plainD p = true
  dp : depthD p ≤ n
  sh : shortD p = true
theorem kit_int {p : D} (h : plainD p = true) : kitB (tyD p) "int" = some (isIntD p) := by cases p <;> first | rfl | (simp [plainD] at h)
theorem kit_bl {p : D} (h : plainD p = true) : kitB (tyD p) "bool" = some (isBlD p) := by cases p <;> first | rfl | (simp [plainD] at h)
theorem kit_str {p : D} (h : plainD p = true) : kitB (tyD p) "str" = some (isStrD p) := by cases p <;> first | rfl | (simp [plainD] at h)
theorem kit_tup {p : D} (h : plainD p = true) : kitB (tyD p) "tuple" = some (isTupD p) := by cases p <;> first | rfl | (simp [plainD] at h)
theorem kit_lst {p : D} (h : plainD p = true) : kitB (tyD p) "list" = some (isLstD p) := by cases p <;> first | rfl | (simp [plainD] at h)
def spEq (n : Nat) : DSp := fun ds O E Q => ∃ d e p q, ds = [d, e] ∧ View O d p ∧ View O e q ∧ Eqd n p ∧ Eqd n q ∧ ∀ b, (b = true ↔ p = q) → Q (.bl b) O
theorem view_non {O : Own} {d p : D} (v : View O d p) : DL.isNon d = DL.isNon p := by cases v <;> rfl
theorem non_iff {p : D} : DL.isNon p = true ↔ p = .non := by cases p <;> simp [DL.isNon]
theorem shortDs_at : ∀ {ds : List D} {i : Nat} {x : D}, shortDs ds = true → ds[i]? = some x → shortD x = true
  | [], _, _, _, h => by simp at h
  | d :: ds, 0, x, hs, h => by simp at h; subst h; simp [shortDs] at hs; exact hs.1
  | d :: ds, i + 1, x, hs, h => by simp at h; simp [shortDs] at hs; exact shortDs_at hs.2 h
theorem plainDs_at : ∀ {ds : List D} {i : Nat} {x : D}, plainDs ds = true → ds[i]? = some x → plainD x = true
  | [], _, _, _, h => by simp at h
  | d :: ds, 0, x, hs, h => by simp at h; subst h; simp [plainDs] at hs; exact hs.1
  | d :: ds, i + 1, x, hs, h => by simp at h; simp [plainDs] at hs; exact plainDs_at hs.2 h
theorem depthDs_at : ∀ {ds : List D} {i : Nat} {x : D}, ds[i]? = some x → depthD x ≤ depthDs ds
  | [], _, _, h => by simp at h
  | d :: ds, 0, x, h => by simp at h; subst h; simp only [depthDs]; exact Nat.le_max_left _ _
  | d :: ds, i + 1, x, h => by simp at h; simp only [depthDs]; exact Nat.le_trans (depthDs_at h) (Nat.le_max_right _ _)
theorem Eqd.item {n : Nat} {p x : D} {i : Nat} (h : Eqd n p) (hx : (itemsD p)[i]? = some x) : ∃ m, n = m + 1 ∧ Eqd m x := by
  have h1 := h.pl
  have h2 := h.dp
  have h3 := h.sh
  cases p with
  | tup ds =>
    simp only [itemsD] at hx
    simp only [depthD] at h2
    simp only [shortD, Bool.and_eq_true] at h3
    exact ⟨n - 1, by omega, plainDs_at h1 hx, by have := depthDs_at hx; omega, shortDs_at h3.2 hx⟩
  | lst ds =>
    simp only [itemsD] at hx
    simp only [depthD] at h2
    simp only [shortD, Bool.and_eq_true] at h3
    exact ⟨n - 1, by omega, plainDs_at h1 hx, by have := depthDs_at hx; omega, shortDs_at h3.2 hx⟩
  | _ => simp [itemsD] at hx
theorem same_of {p q : D} (hp : plainD p = true) (hq : plainD q = true) (hs : isTupD q = true ∨ isLstD q = true) (h4 : isTupD q = isTupD p) (h5 : isLstD q = isLstD p) (hi : itemsD p = itemsD q) : p = q := by
  cases q <;> cases p <;> simp_all [isTupD, isLstD, itemsD, plainD]
theorem eq_leaf (T : Txt K mg a) (n : Nat) (hn : n ≤ 60) (ih : ∀ m, m < n → DFn P w K mg base (1 + m) a.f_law_equal (spEq m)) : DFn P w K mg base (1 + n) a.f_law_equal (spEq n) := by
  rw [Nat.add_comm]
  refine T.law_equal.ok sc_law_equal (fun ds O E Q h => by obtain ⟨_, _, _, _, e, _⟩ := h; rw [e]; rfl) ?_
  intro X I S0 Df hr ds O E Q hsp; obtain ⟨rfl, rfl, rfl, rfl, rfl, pa⟩ := I; have S : Sc X _ c_law_equal := S0; clear S0
  obtain ⟨d, e, p, q, rfl, vd, ve, hp, hq, k⟩ := hsp
  show DSs X _ [some d, some e, none] O _ _
  refine dss_cons ?_
  have ok64 : ∀ {x}, Eqd n x → okD x := fun h => okD_of h.pl (by have := h.dp; omega)
  walk_at "go"
  refine ⟨fun h => ?_, fun h0 => ?_⟩
  · rw [view_non ve, non_iff] at h
    subst h
    walk_at "go"
    exact k _ (by rw [view_non vd]; exact non_iff)
  rw [view_non ve] at h0
  walk_at "go"
  refine dc_isiV ve (kit_bl hq.pl) ?_
  walk_at "go"
  refine ⟨fun h => ?_, fun h1 => ?_⟩
  · obtain ⟨c, rfl⟩ : ∃ c, q = .bl c := by cases q <;> simp [isBlD] at h ⊢
    walk_at "go"
    refine dc_isiV vd (kit_bl hp.pl) ?_
    walk_at "go"
    refine ⟨fun h2 => ?_, fun h2 => ?_⟩
    · obtain ⟨c2, rfl⟩ : ∃ c, p = .bl c := by cases p <;> simp [isBlD] at h2 ⊢
      walk_at "go"
      refine db_eqV hr vd ve (ok64 hp) (ok64 hq) ?_
      exact k _ (by simp [toP, PyData.eqv])
    · exact k false ⟨fun z => (nomatch z), fun z => by rw [z] at h2; cases h2⟩
  walk_at "go"
  refine dc_isiV ve (kit_int hq.pl) ?_
  walk_at "go"
  refine ⟨fun h => ?_, fun h2 => ?_⟩
  · obtain ⟨c, rfl⟩ : ∃ c, q = .int c := by cases q <;> simp [isBlD, isIntD] at h h1 ⊢
    walk_at "go"
    refine dc_isiV vd (kit_int hp.pl) ?_
    walk_at "go"
    refine ⟨fun h3 => ?_, fun h3 => ?_⟩
    · walk_at "go"
      refine dc_isiV vd (kit_bl hp.pl) ?_
      walk_at "go"
      refine ⟨fun h4 => ?_, fun h4 => ?_⟩
      · obtain ⟨c2, rfl⟩ : ∃ c, p = .int c := by cases p <;> simp [isBlD, isIntD] at h3 h4 ⊢
        walk_at "go"
        refine db_eqV hr vd ve (ok64 hp) (ok64 hq) ?_
        exact k _ (by simp [toP, PyData.eqv])
      · exact k false ⟨fun z => (nomatch z), fun z => by rw [z] at h4; cases h4⟩
    · exact k false ⟨fun z => (nomatch z), fun z => by rw [z] at h3; cases h3⟩
  walk_at "go"
  refine dc_isiV ve (kit_str hq.pl) ?_
  walk_at "go"
  refine ⟨fun h => ?_, fun h3 => ?_⟩
  · obtain ⟨c, rfl⟩ : ∃ c, q = .str c := by cases q <;> simp [isStrD] at h ⊢
    walk_at "go"
    refine dc_isiV vd (kit_str hp.pl) ?_
    walk_at "go"
    refine ⟨fun h3 => ?_, fun h3 => ?_⟩
    · obtain ⟨c2, rfl⟩ : ∃ c, p = .str c := by cases p <;> simp [isStrD] at h3 ⊢
      walk_at "go"
      refine db_eqV hr vd ve (ok64 hp) (ok64 hq) ?_
      exact k _ (by simp [toP, PyData.eqv])
    · exact k false ⟨fun z => (nomatch z), fun z => by rw [z] at h3; cases h3⟩
  walk_at "go"
  refine dc_isiV ve (kit_tup hq.pl) ?_
  walk_at "go"
  refine dc_isiV vd (kit_tup hp.pl) ?_
  walk_at "go"
  refine ⟨fun h => ?_, fun h4 => ?_⟩
  · walk_at "go"
    exact k false ⟨fun z => (nomatch z), fun z => by rw [z] at h; simp at h⟩
  walk_at "go"
  refine dc_isiV ve (kit_lst hq.pl) ?_
  walk_at "go"
  refine dc_isiV vd (kit_lst hp.pl) ?_
  walk_at "go"
  refine ⟨fun h => ?_, fun h5 => ?_⟩
  · walk_at "go"
    exact k false ⟨fun z => (nomatch z), fun z => by rw [z] at h; simp at h⟩
  have hsq : isTupD q = true ∨ isLstD q = true := by
    have := hq.pl
    cases q <;> simp_all [isTupD, isLstD, DL.isNon, isBlD, isIntD, isStrD, plainD]
  have hsp : isTupD p = true ∨ isLstD p = true := by
    simp only [Bool.not_eq_false', decide_eq_true_eq] at h4 h5
    rw [← h4, ← h5]
    exact hsq
  walk_at "go"
  refine dc_lenV vd hsp ?_
  walk_at "go"
  refine dc_lenV ve hsq ?_
  walk_at "go"
  refine ⟨fun h => ?_, fun h6 => ?_⟩
  · walk_at "go"
    exact k false ⟨fun z => (nomatch z), fun z => by rw [z] at h; simp at h⟩
  have hlen : (itemsD p).length = (itemsD q).length := by
    simp only [Bool.not_eq_false', decide_eq_true_eq] at h6
    omega
  have hz : (itemsD q).length ≤ 100000 := by
    have := hq.sh
    cases q <;> simp_all [itemsD, shortD]
  walk_at "go"
  refine de_lcXc [("_law_k", 2)] ⟨.function, [(".0", .local), ("_law_k", .local), ("_law_equal", .globalImplicit), ("_law_actual", .cell), ("_law_expected", .cell)], false, false, []⟩ S (di_range1 S T.b_range ?_)
  walk_at "go"
  refine dc_lenV ve hsq ?_
  walk_at "go"
  refine ⟨_, rfl, by omega, by omega, ?_⟩
  walk_at "go"
  refine ⟨Nat, List.range (itemsD q).length, fun i => D.int ((0 : Int) + (i : Nat)), fun i => [.bl (@decide ((itemsD p)[i]? = (itemsD q)[i]?) (Classical.propDecidable _))], by simp [dInts], by rw [List.length_range]; exact hz, fun i hi => ?_, ?_⟩
  · have hi := List.mem_range.1 hi
    intro X2 B2; have T := (show Txt X2.K X2.mg a from by rw [B2.K, B2.mg]; assumption); have S2 := B2.sc; have hr := B2.room (by assumption)
    walk_at "go"
    intro X2 B2; have T := (show Txt X2.K X2.mg a from by rw [B2.K, B2.mg]; assumption); have S2 := B2.sc; have hr := B2.room (by assumption)
    walk_at "go"
    intro X2 B2; have T := (show Txt X2.K X2.mg a from by rw [B2.K, B2.mg]; assumption); have S2 := B2.sc; have hr := B2.room (by assumption)
    walk_at "go"
    obtain ⟨y, hy⟩ : ∃ y, (itemsD q)[i]? = some y := ⟨_, List.getElem?_eq_getElem hi⟩
    obtain ⟨x, hx⟩ : ∃ x, (itemsD p)[i]? = some x := ⟨_, List.getElem?_eq_getElem (by omega)⟩
    obtain ⟨m, hm, ey⟩ := Eqd.item hq hy
    obtain ⟨m', hm', ex⟩ := Eqd.item hp hx
    have em : m' = m := by omega
    subst em
    have z0 : (0 : Int) + (i : Nat) = ((i : Nat) : Int) := by omega
    rw [z0]
    refine dx_V vd hx fun d1 v1 => ?_
    walk_at "go"
    refine dx_V ve hy fun e1 v2 => ?_
    walk_at "go"
    refine dc_fn (B2.fn (ih m' (by omega))) (hr.mono (by omega)) ⟨d1, e1, x, y, rfl, v1, v2, ex, ey, fun b hb => ⟨rfl, ?_⟩⟩
    rw [hx, hy]
    have e2 : b = @decide (some x = some y) (Classical.propDecidable _) := by
      by_cases hxy : x = y
      · rw [hb.2 hxy]; exact (@decide_eq_true _ (Classical.propDecidable _) (by rw [hxy])).symm
      · have : b = false := by cases b with | false => rfl | true => exact absurd (hb.1 rfl) hxy
        rw [this]; exact (@decide_eq_false _ (Classical.propDecidable _) (fun h => hxy (Option.some.inj h))).symm
    rw [e2]
  · rw [fm_map]
    refine nl_fz ?_
    walk_at "go"
    have e3 : (List.range (itemsD q).length).map (fun i => D.bl (@decide ((itemsD p)[i]? = (itemsD q)[i]?) (Classical.propDecidable _))) = ((List.range (itemsD q).length).map fun i => @decide ((itemsD p)[i]? = (itemsD q)[i]?) (Classical.propDecidable _)).map D.bl := by rw [List.map_map]; rfl
    rw [e3]
    refine dc_all S.calm (k _ ?_)
    rw [List.all_map, List.all_eq_true]
    constructor
    · intro h
      have hit : itemsD p = itemsD q := by
        refine List.ext_getElem? fun i => ?_
        by_cases hi : i < (itemsD q).length
        · have := h i (List.mem_range.2 hi)
          simp only [Function.comp, id] at this
          exact @of_decide_eq_true _ (Classical.propDecidable _) this
        · rw [List.getElem?_eq_none (by omega), List.getElem?_eq_none (by omega)]
      simp only [Bool.not_eq_false', decide_eq_true_eq] at h4 h5
      exact same_of hp.pl hq.pl hsq h4 h5 hit
    · intro h i _
      rw [h]
      simp
theorem ok_law_equal (T : Txt K mg a) : ∀ n, n ≤ 60 → DFn P w K mg base (1 + n) a.f_law_equal (spEq n) := by
  intro n
  induction n using Nat.strongRecOn with
  | ind n ih => exact fun hn => eq_leaf T n hn fun m hm => ih m hm (by omega)
end
set_option hygiene false in
local macro_rules | `(tactic| walk_at "st_Melody_sound") => `(tactic| (with_reducible refine as_DI ?_; (first | (with_reducible refine di_seq ?_))))
set_option hygiene false in
local macro_rules | `(tactic| walk_at "st_Melody_sound") => `(tactic| walk_at "g1")
set_option hygiene false in
local macro_rules | `(tactic| walk_at "st_Melody_sound") => `(tactic| (with_reducible refine own_out ?_))
set_option hygiene false in
local macro_rules | `(tactic| walk_at "st_Melody_sound") => `(tactic| (with_reducible refine as_NL ?_; (first | (with_reducible refine nl_fz ?_))))
set_option hygiene false in
local macro_rules | `(tactic| walk_at "st_Melody_sound") => `(tactic| (with_reducible refine as_DS ?_; (first | (with_reducible refine' ds_setCD (by assumption) (by assumption) ?hi ?_ ?hl; (case hl => ((repeat (with_reducible constructor)); done)); (case hi => (repeat (with_reducible constructor)))) | (with_reducible refine ds_forL (by assumption) Df.po ?_))))
set_option hygiene false in
local macro_rules | `(tactic| walk_at "go_Melody_sound") => `(tactic| (repeat (walk_at "st_Melody_sound")))
set_option hygiene false in
local macro_rules | `(tactic| walk_at "st_Melody_len") => `(tactic| (with_reducible refine as_DI ?_; (first | (with_reducible refine di_seq ?_))))
set_option hygiene false in
local macro_rules | `(tactic| walk_at "st_Melody_len") => `(tactic| walk_at "g1")
set_option hygiene false in
local macro_rules | `(tactic| walk_at "st_Melody_len") => `(tactic| (with_reducible refine own_out ?_))
set_option hygiene false in
local macro_rules | `(tactic| walk_at "st_Melody_len") => `(tactic| (with_reducible refine as_NL ?_; (first | (with_reducible refine nl_fz ?_))))
set_option hygiene false in
local macro_rules | `(tactic| walk_at "st_Melody_len") => `(tactic| (with_reducible refine as_DS ?_; (first | (with_reducible refine' ds_setCD (by assumption) (by assumption) ?hi ?_ ?hl; (case hl => ((repeat (with_reducible constructor)); done)); (case hi => (repeat (with_reducible constructor)))) | (with_reducible refine ds_forL (by assumption) Df.po ?_))))
set_option hygiene false in
local macro_rules | `(tactic| walk_at "go_Melody_len") => `(tactic| (repeat (walk_at "st_Melody_len")))
set_option hygiene false in
local macro_rules | `(tactic| walk_at "st_melody_of") => `(tactic| (with_reducible refine as_DI ?_; (first | (with_reducible refine di_seq ?_))))
set_option hygiene false in
local macro_rules | `(tactic| walk_at "st_melody_of") => `(tactic| walk_at "g1")
set_option hygiene false in
local macro_rules | `(tactic| walk_at "st_melody_of") => `(tactic| (with_reducible refine own_out ?_))
set_option hygiene false in
local macro_rules | `(tactic| walk_at "st_melody_of") => `(tactic| (with_reducible refine as_NL ?_; (first | (with_reducible refine nl_fz ?_))))
set_option hygiene false in
local macro_rules | `(tactic| walk_at "st_melody_of") => `(tactic| (with_reducible refine as_DS ?_; (first | (with_reducible refine' ds_setCD (by assumption) (by assumption) ?hi ?_ ?hl; (case hl => ((repeat (with_reducible constructor)); done)); (case hi => (repeat (with_reducible constructor)))) | (with_reducible refine ds_forL (by assumption) Df.po ?_))))
set_option hygiene false in
local macro_rules | `(tactic| walk_at "go_melody_of") => `(tactic| (repeat (walk_at "st_melody_of")))
set_option hygiene false in
local macro_rules | `(tactic| walk_at "st_Melody_rshift") => `(tactic| (with_reducible refine as_DI ?_; (first | (with_reducible refine di_seq ?_))))
set_option hygiene false in
local macro_rules | `(tactic| walk_at "st_Melody_rshift") => `(tactic| walk_at "g1")
set_option hygiene false in
local macro_rules | `(tactic| walk_at "st_Melody_rshift") => `(tactic| (with_reducible refine own_out ?_))
set_option hygiene false in
local macro_rules | `(tactic| walk_at "st_Melody_rshift") => `(tactic| (with_reducible refine as_NL ?_; (first | (with_reducible refine nl_fz ?_))))
set_option hygiene false in
local macro_rules | `(tactic| walk_at "st_Melody_rshift") => `(tactic| (with_reducible refine as_DE ?_; (first | (with_reducible refine de_lcXc [("pitch", 3), ("beats", 4)] ⟨.function, [(".0", .local), ("pitch", .local), ("beats", .local), ("int", .globalImplicit), ("steps", .cell)], false, false, []⟩ (by assumption) ?_))))
set_option hygiene false in
local macro_rules | `(tactic| walk_at "st_Melody_rshift") => `(tactic| (with_reducible refine as_DS ?_; (first | (with_reducible refine' ds_setLcXc (hl := ?hl) [("pitch", 3), ("beats", 4)] ⟨.function, [(".0", .local), ("pitch", .local), ("beats", .local), ("int", .globalImplicit), ("steps", .cell)], false, false, []⟩ (by assumption) ?hi ?_; (case hl => ((repeat (with_reducible constructor)); done)); (case hi => (repeat (with_reducible constructor)))) | (with_reducible refine' ds_setCD (by assumption) (by assumption) ?hi ?_ ?hl; (case hl => ((repeat (with_reducible constructor)); done)); (case hi => (repeat (with_reducible constructor)))) | (with_reducible refine ds_forL (by assumption) Df.po ?_))))
set_option hygiene false in
local macro_rules | `(tactic| walk_at "go_Melody_rshift") => `(tactic| (repeat (walk_at "st_Melody_rshift")))
section
variable {P : Program} {w : World} {K : PySem.W.Frag} {mg : Str → Option Value} {base : Heap} {a : Adr}
theorem dRow_length (r : List (Option Int × Nat)) : (dRow r).length = r.length := by simp [dRow]
def spSound (C : Addr) : DSp := fun ds O E Q => ∃ ns b, ds = [dMel C ns, .int b] ∧ Mel ns ∧ Q (dOpt (soundAt ns b)) O
theorem ok_Melody_sound (T : Txt K mg a) : DFn P w K mg base 1 a.f_Melody_sound (spSound a.C_Melody) := by
  refine T.Melody_sound.ok sc_Melody_sound (fun ds O E Q h => by obtain ⟨_, _, e, _⟩ := h; rw [e]; rfl) ?_
  intro X I S0 Df hr ds O E Q hsp; obtain ⟨rfl, rfl, rfl, rfl, rfl, pa⟩ := I; have S : Sc X _ c_Melody_sound := S0; clear S0
  obtain ⟨ns, b, rfl, hm, q⟩ := hsp
  have hl := hm.row_len
  have h0 := Int.emod_nonneg b (show ((rowOf ns).length : Int) ≠ 0 by omega)
  have h1 := Int.emod_lt_of_pos b (show (0 : Int) < (rowOf ns).length by omega)
  show DSs X _ [some (dMel a.C_Melody ns), some (.int b)] O _ _
  refine dss_cons ?_
  walk_at "go_Melody_sound"
  refine db_mod (by rw [dRow_length]; omega) ?_
  rw [dRow_length]
  obtain ⟨k, hk⟩ := Int.eq_ofNat_of_zero_le h0
  obtain ⟨x, hx⟩ : ∃ x, (rowOf ns)[k]? = some x := ⟨_, List.getElem?_eq_getElem (by omega)⟩
  have e : soundAt ns b = x.1 := by
    unfold soundAt
    rw [rowP_length, hk, ← rowOf_fst, List.getElem?_map]
    simp [hx]
  rw [hk]
  refine dx_lst (d := .tup [dOpt x.1, .int (x.2 : Nat)]) (atI_nat (by unfold dRow; rw [List.getElem?_map, hx]; rfl)) ?_
  walk_at "go_Melody_sound"
  rw [← e]
  exact q
def spMelodyOf (C : Addr) : DSp := fun ds O E Q => ∃ ns, ds = [.lst (ns.map dNote)] ∧ Mel ns ∧ Q (dMel C ns) O
theorem ok_melody_of (T : Txt K mg a) : DFn P w K mg base 6 a.f_melody_of (spMelodyOf a.C_Melody) := by
  refine T.melody_of.ok sc_melody_of (fun ds O E Q h => by obtain ⟨_, e, _⟩ := h; rw [e]; rfl) ?_
  intro X I S0 Df hr ds O E Q hsp; obtain ⟨rfl, rfl, rfl, rfl, rfl, pa⟩ := I; have S : Sc X _ c_melody_of := S0; clear S0
  obtain ⟨ns, rfl, hm, q⟩ := hsp
  show DSs X _ [some (.lst (ns.map dNote)), none, none] O _ _
  refine dss_cons ?_
  walk_at "go_melody_of"
  refine ⟨fun i δ' O1 => (∃ x y, δ' = [some (.lst (ns.map dNote)), x, y]) ∧ O1 = O, ⟨⟨_, _, rfl⟩, rfl⟩, ?_, ?_⟩
  · rintro i d δ' O1 hd ⟨⟨x, y, rfl⟩, rfl⟩
    obtain ⟨n, hn, rfl⟩ := map_get hd
    have hk := ok_p (hm.ok n (List.mem_of_getElem? hn))
    obtain ⟨p, b⟩ := n
    cases p with
    | none =>
      walk_at "go_melody_of"
      exact lessd ⟨⟨_, _, rfl⟩, rfl⟩
    | some p =>
      have := hk p rfl
      walk_at "go_melody_of"
      refine ⟨fun h => ?_, fun h => absurd (show (0:Int) ≤ p by omega) h⟩
      walk_at "go_melody_of"
      refine br_nd (fun h => by omega) fun h => ?_
      walk_at "go_melody_of"
      exact lessd ⟨⟨_, _, rfl⟩, rfl⟩
  · rintro δ' O1 ⟨⟨x, y, rfl⟩, rfl⟩
    walk_at "go_melody_of"
    exact q
def spShift (C : Addr) : DSp := fun ds O E Q => ∃ ns k, ds = [dMel C ns, .int k] ∧ -127 ≤ k ∧ k ≤ 127 ∧ Mel ns ∧ Mel (shiftN k ns) ∧ Q (dMel C (shiftN k ns)) O
theorem ok_Melody_rshift (T : Txt K mg a) : DFn P w K mg base 8 a.f_Melody_rshift (spShift a.C_Melody) := by
  refine T.Melody_rshift.ok sc_Melody_rshift (fun ds O E Q h => by obtain ⟨_, _, e, _⟩ := h; rw [e]; rfl) ?_
  intro X I S0 Df hr ds O E Q hsp; obtain ⟨rfl, rfl, rfl, rfl, rfl, pa⟩ := I; have S : Sc X _ c_Melody_rshift := S0; clear S0
  obtain ⟨ns, k, rfl, h1, h2, hm, hm2, q⟩ := hsp
  show DSs X _ [some (dMel a.C_Melody ns), some (.int k), none, none, none] O _ _
  refine dss_cons ?_
  have h32 := hm.le
  walk_at "go_Melody_rshift"
  refine ⟨Note, ns, dNote, fun n => [dNote (n.1.map (· + k), n.2)], rfl, by omega, fun n hn => ?_, ?_⟩
  · obtain ⟨p, b⟩ := n
    cases p with
    | none => walk_at "go_Melody_rshift"
    | some p => walk_at "go_Melody_rshift"
  · rw [fm_map, show ns.map (fun n => dNote (n.1.map (· + k), n.2)) = (shiftN k ns).map dNote by rw [shiftN, List.map_map]; rfl]
    walk_at "go_Melody_rshift"
    refine dc_fn (ok_melody_of T) (hr.mono (by decide)) ⟨_, rfl, hm2, q⟩
section
variable {X : Cx} {δ : DEnv} {O : Own} {E : XD → Own → Prop} {Q : D → Own → Prop}
theorem dc_sound {k : Nat} {ns : List Note} {b : Int} (T : Txt X.K X.mg a) (hr : Room k X.A) (hk : 1 ≤ k) (hm : Mel ns) (q : Q (dOpt (soundAt ns b)) O) : DC X (.ref a.f_Melody_sound) [dMel a.C_Melody ns, .int b] δ O E Q := dc_fn (ok_Melody_sound T) (hr.mono hk) ⟨ns, b, rfl, hm, q⟩
theorem db_shift {k : Nat} {ns : List Note} {i : Int} (T : Txt X.K X.mg a) (hr : Room k X.A) (hk : 8 ≤ k) (h1 : -127 ≤ i) (h2 : i ≤ 127) (hm : Mel ns) (hm2 : Mel (shiftN i ns)) (q : Q (dMel a.C_Melody (shiftN i ns)) O) : DB X (binaryOp .RShift) (dMel a.C_Melody ns) (.int i) δ O E Q := by
  exact db_ownI (C := a.C_Melody) (f := a.f_Melody_rshift) (rb := true) .fz (by simp [tyD]) T.o_Melody_rshift (ok_Melody_rshift T) (hr.mono hk) fs_int_rshift T.sb_Melody_int (ns_type _ _) tl_int_rshift ⟨ns, i, rfl, h1, h2, hm, hm2, q⟩
end
end
set_option hygiene false in
local macro_rules | `(tactic| walk_at "st_check_clashing") => `(tactic| (with_reducible refine as_DI ?_; (first | (with_reducible refine di_seq ?_))))
set_option hygiene false in
local macro_rules | `(tactic| walk_at "st_check_clashing") => `(tactic| walk_at "g1")
set_option hygiene false in
local macro_rules | `(tactic| walk_at "st_check_clashing") => `(tactic| (with_reducible refine own_out ?_))
set_option hygiene false in
local macro_rules | `(tactic| walk_at "st_check_clashing") => `(tactic| (with_reducible refine as_NL ?_; (first | (with_reducible refine nl_fz ?_))))
set_option hygiene false in
local macro_rules | `(tactic| walk_at "st_check_clashing") => `(tactic| (with_reducible refine as_DS ?_; (first | (with_reducible refine' ds_setCD (by assumption) (by assumption) ?hi ?_ ?hl; (case hl => ((repeat (with_reducible constructor)); done)); (case hi => (repeat (with_reducible constructor)))) | (with_reducible refine ds_forL (by assumption) Df.po ?_))))
set_option hygiene false in
local macro_rules | `(tactic| walk_at "go_check_clashing") => `(tactic| (repeat (walk_at "st_check_clashing")))
set_option hygiene false in
local macro_rules | `(tactic| walk_at "st_do_clash") => `(tactic| (with_reducible refine as_DI ?_; (first | (with_reducible refine di_seq ?_))))
set_option hygiene false in
local macro_rules | `(tactic| walk_at "st_do_clash") => `(tactic| walk_at "g1")
set_option hygiene false in
local macro_rules | `(tactic| walk_at "st_do_clash") => `(tactic| (with_reducible refine own_out ?_))
set_option hygiene false in
local macro_rules | `(tactic| walk_at "st_do_clash") => `(tactic| (with_reducible refine as_NL ?_; (first | (with_reducible refine nl_fz ?_))))
set_option hygiene false in
local macro_rules | `(tactic| walk_at "st_do_clash") => `(tactic| (with_reducible refine as_DS ?_; (first | (with_reducible refine' ds_setCD (by assumption) (by assumption) ?hi ?_ ?hl; (case hl => ((repeat (with_reducible constructor)); done)); (case hi => (repeat (with_reducible constructor)))) | (with_reducible refine ds_forL (by assumption) Df.po ?_))))
set_option hygiene false in
local macro_rules | `(tactic| walk_at "go_do_clash") => `(tactic| (repeat (walk_at "st_do_clash")))
section
variable {P : Program} {w : World} {K : PySem.W.Frag} {mg : Str → Option Value} {base : Heap} {a : Adr}
def spChk : DSp := fun ds O E Q => ∃ is, ds = [.tup (is.map D.int)] ∧ Sharp is ∧ Q .non O
theorem ok_check_clashing (T : Txt K mg a) : DFn P w K mg base 2 a.f_check_clashing spChk := by
  refine T.check_clashing.ok sc_check_clashing (fun ds O E Q h => by obtain ⟨_, e, _⟩ := h; rw [e]; rfl) ?_
  intro X I S0 Df hr ds O E Q hsp; obtain ⟨rfl, rfl, rfl, rfl, rfl, pa⟩ := I; have S : Sc X _ c_check_clashing := S0; clear S0
  obtain ⟨is, rfl, hs, q⟩ := hsp
  show DSs X _ [some (.tup (is.map D.int)), none, none] O _ _
  refine dss_cons ?_
  walk_at "go_check_clashing"
  refine ⟨fun i δ' O1 => (∃ x y, δ' = [some (.tup (is.map D.int)), x, y]) ∧ O1 = O, ⟨⟨_, _, rfl⟩, rfl⟩, ?_, ?_⟩
  · rintro i d δ' O1 hd ⟨⟨x, y, rfl⟩, rfl⟩
    obtain ⟨w, hw, rfl⟩ := enumD_get hd
    obtain ⟨n, hn, rfl⟩ := map_get hw
    obtain ⟨h1, h2⟩ := hs.rng n (List.mem_of_getElem? hn)
    walk_at "go_check_clashing"
    cases i with
    | zero =>
      refine br_d (fun h => absurd h (by decide)) (fun _ => ?_)
      walk_at "go_check_clashing"
      exact lessd ⟨⟨_, _, rfl⟩, rfl⟩
    | succ j =>
      have hj : j < is.length := by have := (List.getElem?_eq_some_iff.1 hn).1; omega
      obtain ⟨m, hm⟩ : ∃ m, is[j]? = some m := ⟨_, List.getElem?_eq_getElem hj⟩
      have hlt : m < n := by
        obtain ⟨a1, b1⟩ := List.getElem?_eq_some_iff.1 hm
        obtain ⟨a2, b2⟩ := List.getElem?_eq_some_iff.1 hn
        rw [← b1, ← b2]
        exact List.pairwise_iff_getElem.1 hs.asc j (j + 1) _ _ (by omega)
      refine br_d (fun _ => ?_) (fun h => by omega)
      walk_at "go_check_clashing"
      refine dx_tup (d := .int m) (by rw [show ((j + 1 : Nat) : Int) - 1 = (j : Nat) by omega]; exact atI_nat (by rw [List.getElem?_map, hm]; rfl)) ?_
      walk_at "go_check_clashing"
      refine br_d (fun h => by omega) (fun _ => ?_)
      walk_at "go_check_clashing"
      exact lessd ⟨⟨_, _, rfl⟩, rfl⟩
  · rintro δ' O1 ⟨⟨x, y, rfl⟩, rfl⟩
    walk_at "go_check_clashing"
    exact q
def spClash : DSp := fun ds O E Q => ∃ x y sharp, ds = [dOpt x, dOpt y, .tup (sharp.map D.int)] ∧ Q (.bl (clashP sharp x y)) O
theorem ok_do_clash (T : Txt K mg a) : DFn P w K mg base 1 a.f_do_clash spClash := by
  refine T.do_clash.ok sc_do_clash (fun ds O E Q h => by obtain ⟨_, _, _, e, _⟩ := h; rw [e]; rfl) ?_
  intro X I S0 Df hr ds O E Q hsp; obtain ⟨rfl, rfl, rfl, rfl, rfl, pa⟩ := I; have S : Sc X _ c_do_clash := S0; clear S0
  obtain ⟨x, y, sharp, rfl, q⟩ := hsp
  show DSs X _ [some (dOpt x), some (dOpt y), some (.tup (sharp.map D.int))] O _ _
  refine dss_cons ?_
  cases x with
  | none =>
    walk_at "go_do_clash"
    exact q
  | some x =>
    cases y with
    | none =>
      walk_at "go_do_clash"
      exact q
    | some y =>
      walk_at "go_do_clash"
      exact q
end
set_option hygiene false in
local macro_rules | `(tactic| walk_at "st_law_fits") => `(tactic| (with_reducible refine as_DI ?_; (first | (with_reducible refine di_seq ?_))))
set_option hygiene false in
local macro_rules | `(tactic| walk_at "st_law_fits") => `(tactic| walk_at "g1")
set_option hygiene false in
local macro_rules | `(tactic| walk_at "st_law_fits") => `(tactic| (with_reducible refine own_out ?_))
set_option hygiene false in
local macro_rules | `(tactic| walk_at "st_law_fits") => `(tactic| (with_reducible refine as_NL ?_; (first | (with_reducible refine nl_fz ?_))))
set_option hygiene false in
local macro_rules | `(tactic| walk_at "st_law_fits") => `(tactic| (with_reducible refine as_DE ?_; (first | (with_reducible refine de_lcXc [("_law_pitch", 1), ("_law_beats", 2)] ⟨.function, [(".0", .local), ("_law_pitch", .local), ("_law_beats", .local)], false, false, []⟩ (by assumption) ?_))))
set_option hygiene false in
local macro_rules | `(tactic| walk_at "st_law_fits") => `(tactic| (with_reducible refine as_DS ?_; (first | (with_reducible refine' ds_setLcXc (hl := ?hl) [("_law_pitch", 1), ("_law_beats", 2)] ⟨.function, [(".0", .local), ("_law_pitch", .local), ("_law_beats", .local)], false, false, []⟩ (by assumption) ?hi ?_; (case hl => ((repeat (with_reducible constructor)); done)); (case hi => (repeat (with_reducible constructor)))) | (with_reducible refine' ds_setCD (by assumption) (by assumption) ?hi ?_ ?hl; (case hl => ((repeat (with_reducible constructor)); done)); (case hi => (repeat (with_reducible constructor)))) | (with_reducible refine ds_forL (by assumption) Df.po ?_))))
set_option hygiene false in
local macro_rules | `(tactic| walk_at "go_law_fits") => `(tactic| (repeat (walk_at "st_law_fits")))
set_option hygiene false in
local macro_rules | `(tactic| walk_at "st_law_shifted") => `(tactic| (with_reducible refine as_DI ?_; (first | (with_reducible refine di_seq ?_))))
set_option hygiene false in
local macro_rules | `(tactic| walk_at "st_law_shifted") => `(tactic| walk_at "g1")
set_option hygiene false in
local macro_rules | `(tactic| walk_at "st_law_shifted") => `(tactic| (with_reducible refine own_out ?_))
set_option hygiene false in
local macro_rules | `(tactic| walk_at "st_law_shifted") => `(tactic| (with_reducible refine as_NL ?_; (first | (with_reducible refine nl_fz ?_))))
set_option hygiene false in
local macro_rules | `(tactic| walk_at "st_law_shifted") => `(tactic| (with_reducible refine as_DE ?_; (first | (with_reducible refine de_lcXc [("_law_pitch", 2), ("_law_beats", 3)] ⟨.function, [(".0", .local), ("_law_pitch", .local), ("_law_beats", .local), ("_law_steps", .cell)], false, false, []⟩ (by assumption) ?_))))
set_option hygiene false in
local macro_rules | `(tactic| walk_at "st_law_shifted") => `(tactic| (with_reducible refine as_DS ?_; (first | (with_reducible refine' ds_setLcXc (hl := ?hl) [("_law_pitch", 2), ("_law_beats", 3)] ⟨.function, [(".0", .local), ("_law_pitch", .local), ("_law_beats", .local), ("_law_steps", .cell)], false, false, []⟩ (by assumption) ?hi ?_; (case hl => ((repeat (with_reducible constructor)); done)); (case hi => (repeat (with_reducible constructor)))) | (with_reducible refine' ds_setCD (by assumption) (by assumption) ?hi ?_ ?hl; (case hl => ((repeat (with_reducible constructor)); done)); (case hi => (repeat (with_reducible constructor)))) | (with_reducible refine ds_forL (by assumption) Df.po ?_))))
set_option hygiene false in
local macro_rules | `(tactic| walk_at "go_law_shifted") => `(tactic| (repeat (walk_at "st_law_shifted")))
section
variable {P : Program} {w : World} {K : PySem.W.Frag} {mg : Str → Option Value} {base : Heap} {a : Adr}
def spFits : DSp := fun ds O E Q => ∃ ns : List Note, ds = [.lst (ns.map dNote)] ∧ ns.length ≤ 100000 ∧ Q (.bl (inRange ns)) O
theorem fits_nil : ∀ ns : List Note, (ns.flatMap fun n => if inRange [n] = true then ([] : List D) else [dOpt n.1]).isEmpty = inRange ns
  | [] => rfl
  | n :: ns => by
    have ih := fits_nil ns
    rw [List.flatMap_cons]
    by_cases h : inRange [n] = true
    · rw [if_pos h, List.nil_append, ih]
      unfold inRange at h ⊢
      rw [List.all_cons] at h ⊢
      simp at h
      simp [h]
    · rw [if_neg h]
      have h2 : inRange (n :: ns) = false := by
        unfold inRange at h ⊢
        rw [List.all_cons] at h ⊢
        simp at h
        simp [h]
      rw [h2]
      rfl
theorem fits_ok (ns : List Note) : okD (.lst (ns.flatMap fun n => if inRange [n] = true then ([] : List D) else [dOpt n.1])) := by
  refine (okD_ltup (n := 0) (fun d h => ?_) (fun d h => ?_) (by decide)).2
  · obtain ⟨n, _, h2⟩ := List.mem_flatMap.1 h
    split at h2
    · exact nomatch h2
    · rw [List.mem_singleton.1 h2]; exact (plain_dOpt _).1
  · obtain ⟨n, _, h2⟩ := List.mem_flatMap.1 h
    split at h2
    · exact nomatch h2
    · rw [List.mem_singleton.1 h2, (plain_dOpt _).2]; exact Nat.le_refl _
theorem ok_law_fits (T : Txt K mg a) : DFn P w K mg base 1 a.f_law_fits spFits := by
  refine T.law_fits.ok sc_law_fits (fun ds O E Q h => by obtain ⟨_, e, _⟩ := h; rw [e]; rfl) ?_
  intro X I S0 Df hr ds O E Q hsp; obtain ⟨rfl, rfl, rfl, rfl, rfl, pa⟩ := I; have S : Sc X _ c_law_fits := S0; clear S0
  obtain ⟨ns, rfl, hl, q⟩ := hsp
  show DSs X _ [some (.lst (ns.map dNote)), none, none] O _ _
  refine dss_cons ?_
  walk_at "go_law_fits"
  refine ⟨Note, ns, dNote, fun n => if inRange [n] then [] else [dOpt n.1], rfl, by omega, fun n hn => ?_, ?_⟩
  · obtain ⟨p, b⟩ := n
    cases p with
    | none =>
      walk_at "go_law_fits"
    | some p =>
      walk_at "go_law_fits"
      refine ⟨fun h => ?_, fun h => ?_⟩
      · walk_at "go_law_fits"
        refine br_nd (fun h2 => ?_) (fun h2 => ?_)
        · walk_at "go_law_fits"
          exact ⟨rfl, if_neg (by simp [inRange]; omega)⟩
        · exact ⟨rfl, if_pos (by simp [inRange]; omega)⟩
      · walk_at "go_law_fits"
        exact ⟨rfl, if_neg (by simp [inRange]; omega)⟩
  · walk_at "go_law_fits"
    refine db_eqNil hr (view_plain _ (fits_ok ns).1) (fits_ok ns) ?_
    rw [fits_nil]
    exact q
def spShifted : DSp := fun ds O E Q => ∃ (ns : List Note) (k : Int), ds = [.lst (ns.map dNote), .int k] ∧ ns.length ≤ 100000 ∧ Q (.lst ((shiftN k ns).map dNote)) O
theorem ok_law_shifted (T : Txt K mg a) : DFn P w K mg base 1 a.f_law_shifted spShifted := by
  refine T.law_shifted.ok sc_law_shifted (fun ds O E Q h => by obtain ⟨_, _, e, _⟩ := h; rw [e]; rfl) ?_
  intro X I S0 Df hr ds O E Q hsp; obtain ⟨rfl, rfl, rfl, rfl, rfl, pa⟩ := I; have S : Sc X _ c_law_shifted := S0; clear S0
  obtain ⟨ns, k, rfl, hl, q⟩ := hsp
  show DSs X _ [some (.lst (ns.map dNote)), some (.int k), none, none] O _ _
  refine dss_cons ?_
  walk_at "go_law_shifted"
  refine ⟨Note, ns, dNote, fun n => [dNote (n.1.map (· + k), n.2)], rfl, by omega, fun n hn => ?_, ?_⟩
  · obtain ⟨p, b⟩ := n
    cases p with
    | none =>
      walk_at "go_law_shifted"
    | some p =>
      walk_at "go_law_shifted"
  · rw [fm_map]
    walk_at "go_law_shifted"
    rw [show ns.map (fun n => dNote (n.1.map (· + k), n.2)) = (shiftN k ns).map dNote by unfold shiftN; rw [List.map_map]; rfl]
    exact q
end
set_option hygiene false in
local macro_rules | `(tactic| walk_at "st_law_row") => `(tactic| (with_reducible refine as_DI ?_; (first | (with_reducible refine di_seq ?_))))
set_option hygiene false in
local macro_rules | `(tactic| walk_at "st_law_row") => `(tactic| walk_at "g1")
set_option hygiene false in
local macro_rules | `(tactic| walk_at "st_law_row") => `(tactic| (with_reducible refine own_out ?_))
set_option hygiene false in
local macro_rules | `(tactic| walk_at "st_law_row") => `(tactic| (with_reducible refine as_NL ?_; (first | (with_reducible refine nl_fz ?_))))
set_option hygiene false in
local macro_rules | `(tactic| walk_at "st_law_row") => `(tactic| (with_reducible refine as_DS ?_; (first | (with_reducible refine' ds_setCD (by assumption) (by assumption) ?hi ?_ ?hl; (case hl => ((repeat (with_reducible constructor)); done)); (case hi => (repeat (with_reducible constructor)))) | (with_reducible refine ds_forL (by assumption) Df.po ?_))))
set_option hygiene false in
local macro_rules | `(tactic| walk_at "go_law_row") => `(tactic| (repeat (walk_at "st_law_row")))
set_option hygiene false in
local macro_rules | `(tactic| walk_at "st_law_is_clash") => `(tactic| (with_reducible refine as_DI ?_; (first | (with_reducible refine di_seq ?_))))
set_option hygiene false in
local macro_rules | `(tactic| walk_at "st_law_is_clash") => `(tactic| walk_at "g1")
set_option hygiene false in
local macro_rules | `(tactic| walk_at "st_law_is_clash") => `(tactic| (with_reducible refine own_out ?_))
set_option hygiene false in
local macro_rules | `(tactic| walk_at "st_law_is_clash") => `(tactic| (with_reducible refine as_NL ?_; (first | (with_reducible refine nl_fz ?_))))
set_option hygiene false in
local macro_rules | `(tactic| walk_at "st_law_is_clash") => `(tactic| (with_reducible refine as_DS ?_; (first | (with_reducible refine' ds_setCD (by assumption) (by assumption) ?hi ?_ ?hl; (case hl => ((repeat (with_reducible constructor)); done)); (case hi => (repeat (with_reducible constructor)))) | (with_reducible refine ds_forL (by assumption) Df.po ?_))))
set_option hygiene false in
local macro_rules | `(tactic| walk_at "go_law_is_clash") => `(tactic| (repeat (walk_at "st_law_is_clash")))
set_option hygiene false in
local macro_rules | `(tactic| walk_at "st_law_pairs") => `(tactic| (with_reducible refine as_DI ?_; (first | (with_reducible refine di_seq ?_))))
set_option hygiene false in
local macro_rules | `(tactic| walk_at "st_law_pairs") => `(tactic| walk_at "g1")
set_option hygiene false in
local macro_rules | `(tactic| walk_at "st_law_pairs") => `(tactic| (with_reducible refine own_out ?_))
set_option hygiene false in
local macro_rules | `(tactic| walk_at "st_law_pairs") => `(tactic| (with_reducible refine as_NL ?_; (first | (with_reducible refine nl_fz ?_))))
set_option hygiene false in
local macro_rules | `(tactic| walk_at "st_law_pairs") => `(tactic| (with_reducible refine as_DE ?_; (first | (with_reducible refine de_lcXc [("_law_k", 5)] ⟨.function, [(".0", .local), ("_law_k", .local), ("_law_is_clash", .globalImplicit), ("_law_one", .cell), ("_law_sharp", .cell), ("_law_sounds_here", .cell)], false, false, []⟩ (by assumption) ?_) | (with_reducible refine de_lcXc [("_law_k", 5)] ⟨.function, [(".0", .local), ("_law_k", .local), ("_law_one", .cell)], false, false, []⟩ (by assumption) ?_))))
set_option hygiene false in
local macro_rules | `(tactic| walk_at "st_law_pairs") => `(tactic| (with_reducible refine as_DS ?_; (first | (with_reducible refine' ds_setLcXc (hl := ?hl) [("_law_k", 5)] ⟨.function, [(".0", .local), ("_law_k", .local), ("_law_is_clash", .globalImplicit), ("_law_one", .cell), ("_law_sharp", .cell), ("_law_sounds_here", .cell)], false, false, []⟩ (by assumption) ?hi ?_; (case hl => ((repeat (with_reducible constructor)); done)); (case hi => (repeat (with_reducible constructor)))) | (with_reducible refine' ds_setLcXc (hl := ?hl) [("_law_k", 5)] ⟨.function, [(".0", .local), ("_law_k", .local), ("_law_one", .cell)], false, false, []⟩ (by assumption) ?hi ?_; (case hl => ((repeat (with_reducible constructor)); done)); (case hi => (repeat (with_reducible constructor)))) | (with_reducible refine' ds_setCD (by assumption) (by assumption) ?hi ?_ ?hl; (case hl => ((repeat (with_reducible constructor)); done)); (case hi => (repeat (with_reducible constructor)))) | (with_reducible refine ds_forL (by assumption) Df.po ?_))))
set_option hygiene false in
local macro_rules | `(tactic| walk_at "go_law_pairs") => `(tactic| (repeat (walk_at "st_law_pairs")))
set_option hygiene false in
local macro_rules | `(tactic| walk_at "st_law_sounds") => `(tactic| (with_reducible refine as_DI ?_; (first | (with_reducible refine di_seq ?_))))
set_option hygiene false in
local macro_rules | `(tactic| walk_at "st_law_sounds") => `(tactic| walk_at "g1")
set_option hygiene false in
local macro_rules | `(tactic| walk_at "st_law_sounds") => `(tactic| (with_reducible refine own_out ?_))
set_option hygiene false in
local macro_rules | `(tactic| walk_at "st_law_sounds") => `(tactic| (with_reducible refine as_NL ?_; (first | (with_reducible refine nl_fzc ?_) )))
set_option hygiene false in
local macro_rules | `(tactic| walk_at "st_law_sounds") => `(tactic| (with_reducible refine as_DS ?_; (first | (with_reducible refine' ds_setCD (by assumption) (by assumption) ?hi ?_ ?hl; (case hl => ((repeat (with_reducible constructor)); done)); (case hi => (repeat (with_reducible constructor)))) | (with_reducible refine ds_forL (by assumption) Df.po ?_))))
set_option hygiene false in
local macro_rules | `(tactic| walk_at "go_law_sounds") => `(tactic| (repeat (walk_at "st_law_sounds")))
section
variable {P : Program} {w : World} {K : PySem.W.Frag} {mg : Str → Option Value} {base : Heap} {a : Adr}
def spRow : DSp := fun ds O E Q => ∃ ns : List Note, ds = [.lst (ns.map dNote)] ∧ Mel ns ∧ Q (.lst (dSnd (rowP ns))) O
theorem ok_law_row (T : Txt K mg a) : DFn P w K mg base 1 a.f_law_row spRow := by
  refine T.law_row.ok sc_law_row (fun ds O E Q h => by obtain ⟨_, e, _⟩ := h; rw [e]; rfl) ?_
  intro X I S0 Df hr ds O E Q hsp; obtain ⟨rfl, rfl, rfl, rfl, rfl, pa⟩ := I; have S : Sc X _ c_law_row := S0; clear S0
  obtain ⟨ns, rfl, hm, q⟩ := hsp
  show DSs X _ [some (.lst (ns.map dNote)), none, none, none] O _ _
  refine dss_cons ?_
  walk_at "go_law_row"
  refine ⟨fun i δ' O1 => (∃ x y, δ' = [some (.lst (ns.map dNote)), some (.lst (dSnd (rowP (ns.take i)))), x, y]) ∧ O1 = O, ⟨⟨_, _, rfl⟩, rfl⟩, ?_, ?_⟩
  · rintro i d δ' O1 hd ⟨⟨x, y, rfl⟩, rfl⟩
    obtain ⟨n, hn, rfl⟩ := map_get hd
    have hk := okNote_iff.1 (hm.ok n (List.mem_of_getElem? hn))
    have e : rowP (ns.take (i + 1)) = rowP (ns.take i) ++ List.replicate n.2.toNat n.1 := by
      rw [List.take_add_one, hn, rowP_append]; simp [rowP]
    have hl : (rowP ns).length = (rowP (ns.take (i + 1))).length + (rowP (ns.drop (i + 1))).length := by
      rw [← List.length_append, ← rowP_append, List.take_append_drop]
    have hz := hm.rowP_len
    rw [e, List.length_append, List.length_replicate] at hl
    walk_at "go_law_row"
    refine db_rep (by omega) (by omega) (by simp; omega) ?_
    walk_at "go_law_row"
    have e3 : (List.replicate n.2.toNat [dOpt n.1]).flatten = dSnd (List.replicate n.2.toNat n.1) := by simp
    rw [e3]
    refine db_cat (by simp; omega) ?_
    walk_at "go_law_row"
    exact lessd ⟨⟨some (dOpt n.1), some (.int n.2), by rw [e]; simp⟩, rfl⟩
  · rintro δ' O1 ⟨⟨x, y, rfl⟩, rfl⟩
    rw [List.length_map, List.take_length]
    walk_at "go_law_row"
    exact q
theorem clash_gt {sharp : List Int} {x y : Int} (h : y < x) : clashP sharp (some x) (some y) = decide ((x - y) % 12 ∈ sharp) := by
  show decide ((if x - y < 0 then -(x - y) else x - y) % 12 ∈ sharp) = _
  rw [if_neg (by omega)]
theorem clash_le {sharp : List Int} {x y : Int} (h : x ≤ y) : clashP sharp (some x) (some y) = decide ((y - x) % 12 ∈ sharp) := by
  show decide ((if x - y < 0 then -(x - y) else x - y) % 12 ∈ sharp) = _
  rw [show (if x - y < 0 then -(x - y) else x - y) = y - x by split <;> omega]
def spIsClash : DSp := fun ds O E Q => ∃ (x y : Option Int) (sharp : List Int), ds = [dOpt x, dOpt y, .tup (sharp.map D.int)] ∧ Q (.bl (clashP sharp x y)) O
theorem ok_law_is_clash (T : Txt K mg a) : DFn P w K mg base 1 a.f_law_is_clash spIsClash := by
  refine T.law_is_clash.ok sc_law_is_clash (fun ds O E Q h => by obtain ⟨_, _, _, e, _⟩ := h; rw [e]; rfl) ?_
  intro X I S0 Df hr ds O E Q hsp; obtain ⟨rfl, rfl, rfl, rfl, rfl, pa⟩ := I; have S : Sc X _ c_law_is_clash := S0; clear S0
  obtain ⟨x, y, sharp, rfl, q⟩ := hsp
  show DSs X _ [some (dOpt x), some (dOpt y), some (.tup (sharp.map D.int))] O _ _
  cases x with
  | none =>
    refine dss_cons ?_
    walk_at "go_law_is_clash"
    exact q
  | some x =>
    cases y with
    | none =>
      refine dss_cons ?_
      walk_at "go_law_is_clash"
      exact q
    | some y =>
      refine dss_cons ?_
      walk_at "go_law_is_clash"
      refine br_d (fun h => ?_) (fun h => ?_)
      · walk_at "go_law_is_clash"
        rw [clash_gt h] at q
        exact q
      · walk_at "go_law_is_clash"
        rw [clash_le (by omega)] at q
        exact q
theorem dInts_range' {a n : Nat} {m : Int} (h : m.toNat = n) : dInts ((a : Int) + 1) m.toNat = (List.range' (a + 1) n).map fun k : Nat => D.int (k : Nat) := by
  rw [h, List.range'_eq_map_range, List.map_map]
  unfold dInts
  refine List.map_congr_left fun k _ => ?_
  show D.int _ = D.int _
  congr 1
/-- the pairs that clash -/
def spLPairs : DSp := fun ds O E Q => ∃ (row : List (Option Int)) (sharp : List Int), ds = [.lst (dSnd row), .tup (sharp.map D.int)] ∧ row.length ≤ 8 ∧ Q (.lst ((pairsOf sharp row).map dPair)) O
theorem ok_law_pairs (T : Txt K mg a) : DFn P w K mg base 2 a.f_law_pairs spLPairs := by
  refine T.law_pairs.ok sc_law_pairs (fun ds O E Q h => by obtain ⟨_, _, e, _⟩ := h; rw [e]; rfl) ?_
  intro X I S0 Df hr ds O E Q hsp; obtain ⟨rfl, rfl, rfl, rfl, rfl, pa⟩ := I; have S : Sc X _ c_law_pairs := S0; clear S0
  obtain ⟨row, sharp, rfl, h8, q⟩ := hsp
  have hl : (dSnd row).length = row.length := List.length_map ..
  have get : ∀ k : Nat, k < row.length → (dSnd row)[k]? = some (dOpt (row[k]?.getD none)) := fun k hk => by
    rw [List.getElem?_map, List.getElem?_eq_getElem (by omega)]; rfl
  show DSs X _ [some (.lst (dSnd row)), some (.tup (sharp.map D.int)), none, none, none, none] O _ _
  refine dss_cons ?_
  walk_at "go_law_pairs"
  refine ⟨fun i δ' O1 => (∃ x y, δ' = [some (.lst (dSnd row)), some (.tup (sharp.map D.int)), some (.lst ((pairsTo sharp row i).map dPair)), x, y, none]) ∧ O1 = O, ⟨⟨_, _, rfl⟩, rfl⟩, ?_, ?_⟩
  · rintro i d δ' O1 hd ⟨⟨x, y, rfl⟩, rfl⟩
    obtain ⟨rfl, hi⟩ := dInts_get hd
    rw [hl] at hi
    have hi : i < row.length := by omega
    have ei : (0 : Int) + (i : Nat) = ((i : Nat) : Int) := by omega
    rw [ei]
    walk_at "go_law_pairs"
    refine ⟨Nat, List.range' (i + 1) (row.length - (i + 1)), fun k => D.int (k : Nat), fun k => if clashI sharp row i k then [D.int (k : Nat)] else [], dInts_range' (by rw [hl]; omega), by simp; omega, fun k hk => ?_, ?_⟩
    · obtain ⟨hk1, hk2⟩ := List.mem_range'_1.1 hk
      walk_at "go_law_pairs"
      refine dx_lst (atI_nat (get i hi)) ?_
      walk_at "go_law_pairs"
      refine dx_lst (atI_nat (get k (by omega))) ?_
      walk_at "go_law_pairs"
      refine dc_fn (ok_law_is_clash T) (hr.mono (by decide)) ⟨_, _, sharp, rfl, ?_⟩
      have ec : clashP sharp (row[i]?.getD none) (row[k]?.getD none) = clashI sharp row i k := rfl
      rw [ec]
      refine ⟨_, rfl, fun hc => ?_, fun hc => ?_⟩
      · walk_at "go_law_pairs"
        exact ⟨rfl, if_pos hc⟩
      · exact ⟨rfl, if_neg (by rw [hc]; exact Bool.false_ne_true)⟩
    · rw [fm_fil]
      walk_at "go_law_pairs"
      have hlf : ((List.range' (i + 1) (row.length - (i + 1))).filter (clashI sharp row i)).length ≤ row.length := by
        have h3 := List.length_filter_le (clashI sharp row i) (List.range' (i + 1) (row.length - (i + 1)))
        rw [List.length_range'] at h3
        omega
      have hlp : ((pairsTo sharp row i).map dPair).length ≤ 64 := by
        have h2 := pairsTo_len sharp row i
        have h3 : i * row.length ≤ 8 * 8 := Nat.mul_le_mul (by omega) (by omega)
        rw [List.length_map]
        omega
      refine ⟨Nat, (List.range' (i + 1) (row.length - (i + 1))).filter (clashI sharp row i), fun k => D.int (k : Nat), fun k => [dPair (i, k)], rfl, by omega, fun k hk => ?_, ?_⟩
      · walk_at "go_law_pairs"
      · rw [fm_map]
        walk_at "go_law_pairs"
        refine db_cat (by rw [List.length_map (as := List.filter _ _)]; omega) ?_
        walk_at "go_law_pairs"
        have ef : (pairsTo sharp row (i + 1)).map dPair = (pairsTo sharp row i).map dPair ++ ((List.range' (i + 1) (row.length - (i + 1))).filter (clashI sharp row i)).map (fun k => dPair (i, k)) := by
          rw [pairsTo_succ, List.map_append]
          unfold pairsFrom
          rw [List.map_map]
          rfl
        rw [← ef]
        exact lessd ⟨⟨_, _, rfl⟩, rfl⟩
  · rintro δ' O1 ⟨⟨x, y, rfl⟩, rfl⟩
    rw [dInts_length, hl, show ((row.length : Nat) : Int).toNat = row.length by omega, pairsTo_all]
    walk_at "go_law_pairs"
    exact q
def spLSounds : DSp := fun ds O E Q => ∃ (ns : List Note) (vs : List Voice) (b : Int), ds = [.lst (ns.map dNote), .lst (vs.map dVoice), .int b] ∧ Mel ns ∧ vs.length ≤ 8 ∧ Q (.lst (dSnd (soundsR ns vs b))) O
theorem ok_law_sounds (T : Txt K mg a) : DFn P w K mg base 2 a.f_law_sounds spLSounds := by
  refine T.law_sounds.ok sc_law_sounds (fun ds O E Q h => by obtain ⟨_, _, _, e, _⟩ := h; rw [e]; rfl) ?_
  intro X I S0 Df hr ds O E Q hsp; obtain ⟨rfl, rfl, rfl, rfl, rfl, pa⟩ := I; have S : Sc X _ c_law_sounds := S0; clear S0
  obtain ⟨ns, vs, b, rfl, hm, h8, q⟩ := hsp
  have hz := hm.rowP_len
  show DSs X _ [some (.lst (ns.map dNote)), some (.lst (vs.map dVoice)), some (.int b), none, none, none, none, none] O _ _
  refine dss_cons ?_
  walk_at "go_law_sounds"
  refine dc_fn (ok_law_row T) (hr.mono (by decide)) ⟨ns, rfl, hm, ?_⟩
  walk_at "go_law_sounds"
  refine nl_own fun f => ?_
  walk_at "go_law_sounds"
  refine ⟨fun i δ' O1 => (∃ x y z, δ' = [some (.lst (ns.map dNote)), some (.lst (vs.map dVoice)), some (.int b), some (.lst (dSnd (rowP ns))), some (.ref f), x, y, z]) ∧ O1 = (f, .lst (dSnd (soundsR ns (vs.take i) b))) :: O, ⟨⟨_, _, _, rfl⟩, rfl⟩, ?_, ?_⟩
  · rintro i d δ' O1 hd ⟨⟨x, y, z, rfl⟩, rfl⟩
    obtain ⟨v, hv, rfl⟩ := map_get hd
    have hi := (List.getElem?_eq_some_iff.1 hv).1
    have e2 : dSnd (soundsR ns (vs.take (i + 1)) b) = dSnd (soundsR ns (vs.take i) b) ++ [dOpt (if v.1 ≤ b then (soundAt ns (b - v.1)).map (· + v.2) else none)] := by
      rw [List.take_add_one, hv]; simp [soundsR]
    have hl : (dSnd (soundsR ns (vs.take i) b)).length < 100000 := by rw [List.length_map, soundsR_length, List.length_take]; omega
    have hlr : (dSnd (rowP ns)).length = (rowP ns).length := List.length_map ..
    walk_at "go_law_sounds"
    refine br_d (fun h => ?_) (fun h => ?_)
    · rw [if_pos h] at e2
      walk_at "go_law_sounds"
      have hm0 := Int.emod_nonneg (b - v.1) (show ((rowP ns).length : Int) ≠ 0 by omega)
      have hm1 := Int.emod_lt_of_pos (b - v.1) (show (0 : Int) < (rowP ns).length by omega)
      have hat : atI (dSnd (rowP ns)) ((b - v.1) % (rowP ns).length) = some (dOpt (soundAt ns (b - v.1))) := by
        unfold soundAt
        generalize (b - v.1) % ((rowP ns).length : Int) = j at *
        obtain ⟨n, rfl⟩ := Int.eq_ofNat_of_zero_le hm0
        refine atI_nat ?_
        rw [List.getElem?_map, List.getElem?_eq_getElem (by omega)]
        simp [List.getElem?_eq_getElem (show n < (rowP ns).length by omega)]
      rw [hlr]
      refine dx_lst hat ?_
      cases hso : soundAt ns (b - v.1) with
      | none =>
        walk_at "go_law_sounds"
        exact lessd ⟨⟨_, _, _, rfl⟩, by rw [e2, hso]; rfl⟩
      | some p =>
        walk_at "go_law_sounds"
        exact lessd ⟨⟨_, _, _, rfl⟩, by rw [e2, hso]; rfl⟩
    · rw [if_neg h] at e2
      walk_at "go_law_sounds"
      exact lessd ⟨⟨_, _, _, rfl⟩, by rw [e2]; rfl⟩
  · rintro δ' O1 ⟨⟨x, y, z, rfl⟩, rfl⟩
    refine' dss_fz _ ?gm ?gd ?gf ?_; (case gm => (repeat (first | with_reducible exact At.head | with_reducible assumption | with_reducible apply At.tail))); (case gd => (repeat (first | with_reducible exact Del.head | with_reducible apply Del.tail))); (case gf => (repeat (first | with_reducible exact Fz.nil | with_reducible apply Fz.swap | with_reducible apply Fz.keep)))
    walk_at "go_law_sounds"
    rw [List.length_map, List.take_length]
    exact q
end
section
variable {P : Program} {w : World} {K : PySem.W.Frag} {mg : Str → Option Value} {base : Heap} {a : Adr}
/-- the clashes from a beat on, so many beats -/
def clashesR (ns : List Note) (vs : List Voice) (sharp : List Int) (a : Int) (n : Nat) : List D := (List.range n).flatMap fun i : Nat => (pairsAt ns vs sharp (a + (i : Nat))).map fun p => D.tup [.int (a + (i : Nat)), .int (p.1 : Nat), .int (p.2 : Nat)]
theorem clashesR_succ {ns : List Note} {vs : List Voice} {sharp : List Int} {a : Int} {n : Nat} : clashesR ns vs sharp a (n + 1) = clashesR ns vs sharp a n ++ (pairsAt ns vs sharp (a + (n : Nat))).map fun p => D.tup [.int (a + (n : Nat)), .int (p.1 : Nat), .int (p.2 : Nat)] := by
  unfold clashesR
  rw [List.range_succ, List.flatMap_append]
  simp
end
section
variable {P : Program} {w : World} {K : PySem.W.Frag} {mg : Str → Option Value} {base : Heap} {a : Adr}
theorem shortDs_all : ∀ {ds : List D}, (∀ d ∈ ds, shortD d = true) → shortDs ds = true
  | [], _ => rfl
  | d :: ds, h => by rw [shortDs, h d List.mem_cons_self, shortDs_all fun e he => h e (List.mem_cons_of_mem _ he)]; rfl
theorem eqd_lst {n : Nat} {ds : List D} (h : ∀ d ∈ ds, Eqd n d) (hl : ds.length ≤ 100000) : Eqd (n + 1) (.lst ds) :=
  ⟨plainDs_all fun d hd => (h d hd).pl, by simp only [depthD]; have := depthDs_all (n := n) fun d hd => (h d hd).dp; omega, by simp only [shortD, Bool.and_eq_true, decide_eq_true_eq]; exact ⟨hl, shortDs_all fun d hd => (h d hd).sh⟩⟩
theorem eqd_int {n : Nat} (i : Int) : Eqd n (.int i) := ⟨rfl, by simp [depthD], rfl⟩
theorem Eqd.mono {n m : Nat} {d : D} (h : Eqd n d) (hn : n ≤ m) : Eqd m d := ⟨h.pl, Nat.le_trans h.dp hn, h.sh⟩
section
variable {X : Cx} {δ : DEnv} {O : Own} {E : XD → Own → Prop} {Q : D → Own → Prop}
theorem dc_eqv {k n : Nat} {d e p : D} (T : Txt X.K X.mg a) (hr : Room k X.A) (hk : 1 + n ≤ k) (hn : n ≤ 60) (h : Eqd n p) (v : View O d p) (w : View O e p) (q : Q (.bl true) O) : DC X (.ref a.f_law_equal) [d, e] δ O E Q :=
  dc_fn (ok_law_equal T n hn) (hr.mono hk) ⟨d, e, p, p, rfl, v, w, h, h, fun b hb => by rw [hb.2 rfl]; exact q⟩
theorem dc_eqs {k n : Nat} {p : D} (T : Txt X.K X.mg a) (hr : Room k X.A) (hk : 1 + n ≤ k) (hn : n ≤ 60) (h : Eqd n p) (q : Q (.bl true) O) : DC X (.ref a.f_law_equal) [p, p] δ O E Q :=
  dc_eqv T hr hk hn h (view_plain _ h.pl) (view_plain _ h.pl) q
end
end
set_option hygiene false in
local macro_rules | `(tactic| walk_at "st_check_shift") => `(tactic| (with_reducible refine as_DI ?_; (first | (with_reducible refine di_seq ?_))))
set_option hygiene false in
local macro_rules | `(tactic| walk_at "st_check_shift") => `(tactic| walk_at "g1")
set_option hygiene false in
local macro_rules | `(tactic| walk_at "st_check_shift") => `(tactic| (with_reducible refine own_out ?_))
set_option hygiene false in
local macro_rules | `(tactic| walk_at "st_check_shift") => `(tactic| (with_reducible refine as_NL ?_; (first | (with_reducible refine nl_fz ?_))))
set_option hygiene false in
local macro_rules | `(tactic| walk_at "st_check_shift") => `(tactic| (with_reducible refine as_DS ?_; (first | (with_reducible refine' ds_setCD (by assumption) (by assumption) ?hi ?_ ?hl; (case hl => ((repeat (with_reducible constructor)); done)); (case hi => (repeat (with_reducible constructor)))) | (with_reducible refine ds_forL (by assumption) Df.po ?_))))
set_option hygiene false in
local macro_rules | `(tactic| walk_at "go_check_shift") => `(tactic| (repeat (walk_at "st_check_shift")))
section
variable {P : Program} {w : World} {K : PySem.W.Frag} {mg : Str → Option Value} {base : Heap} {a : Adr}
def spCheckShift : DSp := fun ds O E Q => ∃ k : Int, ds = [.int k] ∧ -24 ≤ k ∧ k ≤ 24 ∧ Q .non O
theorem ok_check_shift (T : Txt K mg a) : DFn P w K mg base 2 a.f_check_shift spCheckShift := by
  refine T.check_shift.ok sc_check_shift (fun ds O E Q h => by obtain ⟨_, e, _⟩ := h; rw [e]; rfl) ?_
  intro X I S0 Df hr ds O E Q hsp; obtain ⟨rfl, rfl, rfl, rfl, rfl, pa⟩ := I; have S : Sc X _ c_check_shift := S0; clear S0
  obtain ⟨k, rfl, h1, h2, q⟩ := hsp
  show DSs X _ [some (.int k)] O _ _
  refine dss_cons ?_
  walk_at "go_check_shift"
  exact q
/-- the first place of the least number -/
def IsMinIx (W : List Int) (j : Nat) : Prop := ∃ m, W[j]? = some m ∧ (∀ y ∈ W, m ≤ y) ∧ ∀ i : Nat, i < j → W[i]? ≠ some m
theorem IsMinIx.uniq {W : List Int} {i j : Nat} (h1 : IsMinIx W i) (h2 : IsMinIx W j) : i = j := by
  obtain ⟨m, a1, b1, c1⟩ := h1
  obtain ⟨m2, a2, b2, c2⟩ := h2
  have e : m = m2 := by
    have := b1 m2 (List.mem_of_getElem? a2)
    have := b2 m (List.mem_of_getElem? a1)
    omega
  subst e
  rcases Nat.lt_trichotomy i j with l | l | l
  · exact absurd a1 (c2 i l)
  · exact l
  · exact absurd a2 (c1 j l)
end
section
variable {P : Program} {w : World} {K : PySem.W.Frag} {mg : Str → Option Value} {base : Heap} {a : Adr}
def erC (a : Adr) : Er → Addr
  | .melody _ => a.C_InvalidMelody
  | .round _ _ => a.C_InvalidRound
  | .range => a.C_OutOfRange
  | .number => a.C_InvalidNumber
  | .long => a.C_TooLong
  | .text _ => a.C_TextFault
  | .code _ => a.C_InvalidCode
  | .contra => a.C_Contradiction
  | .voice => a.C_UnknownVoice
  | .many => a.C_TooManyVoices
  | .name => a.C_InvalidName
  | .unknown => a.C_UnknownName
  | .op _ => a.C_InvalidOperation
def xdA (a : Adr) (e : Er) : XD := ⟨erC a e, e.fs⟩
def erN : Er → Str
  | .melody _ => "melody"
  | .round _ _ => "round"
  | .range => "range"
  | .number => "number"
  | .long => "long"
  | .text _ => "text"
  | .code _ => "code"
  | .contra => "contradiction"
  | .voice => "voice"
  | .many => "many"
  | .name => "name"
  | .unknown => "unknown"
  | .op _ => "operation"
abbrev erCs (a : Adr) : List Addr := [a.C_InvalidMelody, a.C_InvalidRound, a.C_OutOfRange, a.C_InvalidNumber, a.C_TooLong, a.C_TextFault, a.C_InvalidCode, a.C_Contradiction, a.C_UnknownVoice, a.C_TooManyVoices, a.C_InvalidName, a.C_UnknownName, a.C_InvalidOperation]
theorem er_ix (e : Er) : e.ix < 13 := by cases e <;> simp [Er.ix]
theorem er_get (a : Adr) (e : Er) : (erCs a).getD e.ix 0 = erC a e := by cases e <;> rfl
theorem er_mem (a : Adr) (e : Er) : erC a e ∈ erCs a := by cases e <;> simp [erC, erCs]
theorem er_kit (T : Txt K mg a) (e : Er) {j : Nat} {C : Addr} (hj : j < 13) (hC : (erCs a).getD j 0 = C) : PySem.W.kitOne K (.ref (xdA a e).C) (.ref C) = some (decide (e.ix = j)) := by
  have h := errTab_at T.errt (er_ix e) hj
  rw [show ([a.C_InvalidMelody, a.C_InvalidRound, a.C_OutOfRange, a.C_InvalidNumber, a.C_TooLong, a.C_TextFault, a.C_InvalidCode, a.C_Contradiction, a.C_UnknownVoice, a.C_TooManyVoices, a.C_InvalidName, a.C_UnknownName, a.C_InvalidOperation] : List Addr) = erCs a from rfl, er_get, hC] at h
  exact h
theorem er_cls (T : Txt K mg a) (e : Er) : ErrC K (xdA a e).C a.C_CanonError := errCls_at T.errc T.eg2 T.eg3 (er_mem a e)
section
variable {Z : Cx} {N : List Str} {sc : Scope} {e : Er} {y : D} {δ : DEnv} {O : Own} {E : XD → Own → Prop} {Q : D → Own → Prop}
theorem is_j {j : Nat} {C : Addr} (T : Txt Z.K Z.mg a) (Su : Suit Z N sc Z.K Z.mg (xdA a e) y) (hj : j < 13) (hC : (erCs a).getD j 0 = C) (q : Q (.bl (decide (e.ix = j))) O) : DC Z (.builtin "isinstance") [y, .ref C] δ O E Q := dc_isE Su (er_cls T e).r (.inl ⟨C, rfl, rfl⟩) (er_kit T e hj hC) q
theorem is_ve (T : Txt Z.K Z.mg a) (Su : Suit Z N sc Z.K Z.mg (xdA a e) y) (q : Q (.bl true) O) : DC Z (.builtin "isinstance") [y, .ty "ValueError"] δ O E Q := dc_isE Su (er_cls T e).r (.inr ⟨"ValueError", rfl, rfl⟩) (er_cls T e).ve q
theorem is_InvalidMelody (T : Txt Z.K Z.mg a) (Su : Suit Z N sc Z.K Z.mg (xdA a e) y) (q : Q (.bl (decide (e.ix = 0))) O) : DC Z (.builtin "isinstance") [y, .ref a.C_InvalidMelody] δ O E Q := is_j T Su (by decide) rfl q
theorem is_InvalidRound (T : Txt Z.K Z.mg a) (Su : Suit Z N sc Z.K Z.mg (xdA a e) y) (q : Q (.bl (decide (e.ix = 1))) O) : DC Z (.builtin "isinstance") [y, .ref a.C_InvalidRound] δ O E Q := is_j T Su (by decide) rfl q
theorem is_OutOfRange (T : Txt Z.K Z.mg a) (Su : Suit Z N sc Z.K Z.mg (xdA a e) y) (q : Q (.bl (decide (e.ix = 2))) O) : DC Z (.builtin "isinstance") [y, .ref a.C_OutOfRange] δ O E Q := is_j T Su (by decide) rfl q
theorem is_InvalidNumber (T : Txt Z.K Z.mg a) (Su : Suit Z N sc Z.K Z.mg (xdA a e) y) (q : Q (.bl (decide (e.ix = 3))) O) : DC Z (.builtin "isinstance") [y, .ref a.C_InvalidNumber] δ O E Q := is_j T Su (by decide) rfl q
theorem is_TooLong (T : Txt Z.K Z.mg a) (Su : Suit Z N sc Z.K Z.mg (xdA a e) y) (q : Q (.bl (decide (e.ix = 4))) O) : DC Z (.builtin "isinstance") [y, .ref a.C_TooLong] δ O E Q := is_j T Su (by decide) rfl q
theorem is_TextFault (T : Txt Z.K Z.mg a) (Su : Suit Z N sc Z.K Z.mg (xdA a e) y) (q : Q (.bl (decide (e.ix = 5))) O) : DC Z (.builtin "isinstance") [y, .ref a.C_TextFault] δ O E Q := is_j T Su (by decide) rfl q
theorem is_InvalidCode (T : Txt Z.K Z.mg a) (Su : Suit Z N sc Z.K Z.mg (xdA a e) y) (q : Q (.bl (decide (e.ix = 6))) O) : DC Z (.builtin "isinstance") [y, .ref a.C_InvalidCode] δ O E Q := is_j T Su (by decide) rfl q
theorem is_Contradiction (T : Txt Z.K Z.mg a) (Su : Suit Z N sc Z.K Z.mg (xdA a e) y) (q : Q (.bl (decide (e.ix = 7))) O) : DC Z (.builtin "isinstance") [y, .ref a.C_Contradiction] δ O E Q := is_j T Su (by decide) rfl q
theorem is_UnknownVoice (T : Txt Z.K Z.mg a) (Su : Suit Z N sc Z.K Z.mg (xdA a e) y) (q : Q (.bl (decide (e.ix = 8))) O) : DC Z (.builtin "isinstance") [y, .ref a.C_UnknownVoice] δ O E Q := is_j T Su (by decide) rfl q
theorem is_TooManyVoices (T : Txt Z.K Z.mg a) (Su : Suit Z N sc Z.K Z.mg (xdA a e) y) (q : Q (.bl (decide (e.ix = 9))) O) : DC Z (.builtin "isinstance") [y, .ref a.C_TooManyVoices] δ O E Q := is_j T Su (by decide) rfl q
theorem is_InvalidName (T : Txt Z.K Z.mg a) (Su : Suit Z N sc Z.K Z.mg (xdA a e) y) (q : Q (.bl (decide (e.ix = 10))) O) : DC Z (.builtin "isinstance") [y, .ref a.C_InvalidName] δ O E Q := is_j T Su (by decide) rfl q
theorem is_UnknownName (T : Txt Z.K Z.mg a) (Su : Suit Z N sc Z.K Z.mg (xdA a e) y) (q : Q (.bl (decide (e.ix = 11))) O) : DC Z (.builtin "isinstance") [y, .ref a.C_UnknownName] δ O E Q := is_j T Su (by decide) rfl q
theorem is_InvalidOperation (T : Txt Z.K Z.mg a) (Su : Suit Z N sc Z.K Z.mg (xdA a e) y) (q : Q (.bl (decide (e.ix = 12))) O) : DC Z (.builtin "isinstance") [y, .ref a.C_InvalidOperation] δ O E Q := is_j T Su (by decide) rfl q
end
def SameD (y d : D) (R : Prop) : Prop := d = y ∧ R
theorem same_in {y : D} {R : Prop} (h : R) : SameD y y R := ⟨rfl, h⟩
section
variable {Z : Cx} {N : List Str} {sc : Scope} {e : Expr} {i : Int} {q0 : Str} {y : D} {δ : DEnv} {O : Own} {E : XD → Own → Prop} {Q : D → Own → Prop} {pos : Pos}
theorem xf_InvalidMelody_index (T : Txt Z.K Z.mg a) (Su : Suit Z N sc Z.K Z.mg (xdA a (.melody i)) y) (h : DE Z e δ O E fun d O1 => SameD y d (Q (.int i) O1)) (hb : attributeBase e "index" Z.env (eval e Z.env) = eval e Z.env := by with_unfolding_all rfl) : DE Z (.Attribute e "index" pos) δ O E Q := de_xfld Su (er_cls T (.melody i)).r T.n_InvalidMelody_index (M.imp h fun d O1 q => ⟨q.1, rfl, q.2⟩) hb
theorem xf_InvalidRound_part (T : Txt Z.K Z.mg a) (Su : Suit Z N sc Z.K Z.mg (xdA a (.round q0 i)) y) (h : DE Z e δ O E fun d O1 => SameD y d (Q (.str q0) O1)) (hb : attributeBase e "part" Z.env (eval e Z.env) = eval e Z.env := by with_unfolding_all rfl) : DE Z (.Attribute e "part" pos) δ O E Q := de_xfld Su (er_cls T (.round q0 i)).r T.n_InvalidRound_part (M.imp h fun d O1 q => ⟨q.1, rfl, q.2⟩) hb
theorem xf_InvalidRound_index (T : Txt Z.K Z.mg a) (Su : Suit Z N sc Z.K Z.mg (xdA a (.round q0 i)) y) (h : DE Z e δ O E fun d O1 => SameD y d (Q (.int i) O1)) (hb : attributeBase e "index" Z.env (eval e Z.env) = eval e Z.env := by with_unfolding_all rfl) : DE Z (.Attribute e "index" pos) δ O E Q := de_xfld Su (er_cls T (.round q0 i)).r T.n_InvalidRound_index (M.imp h fun d O1 q => ⟨q.1, rfl, q.2⟩) hb
theorem xf_TextFault_word (T : Txt Z.K Z.mg a) (Su : Suit Z N sc Z.K Z.mg (xdA a (.text i)) y) (h : DE Z e δ O E fun d O1 => SameD y d (Q (.int i) O1)) (hb : attributeBase e "word" Z.env (eval e Z.env) = eval e Z.env := by with_unfolding_all rfl) : DE Z (.Attribute e "word" pos) δ O E Q := de_xfld Su (er_cls T (.text i)).r T.n_TextFault_word (M.imp h fun d O1 q => ⟨q.1, rfl, q.2⟩) hb
theorem xf_InvalidCode_place (T : Txt Z.K Z.mg a) (Su : Suit Z N sc Z.K Z.mg (xdA a (.code i)) y) (h : DE Z e δ O E fun d O1 => SameD y d (Q (.int i) O1)) (hb : attributeBase e "place" Z.env (eval e Z.env) = eval e Z.env := by with_unfolding_all rfl) : DE Z (.Attribute e "place" pos) δ O E Q := de_xfld Su (er_cls T (.code i)).r T.n_InvalidCode_place (M.imp h fun d O1 q => ⟨q.1, rfl, q.2⟩) hb
theorem xf_InvalidOperation_place (T : Txt Z.K Z.mg a) (Su : Suit Z N sc Z.K Z.mg (xdA a (.op i)) y) (h : DE Z e δ O E fun d O1 => SameD y d (Q (.int i) O1)) (hb : attributeBase e "place" Z.env (eval e Z.env) = eval e Z.env := by with_unfolding_all rfl) : DE Z (.Attribute e "place" pos) δ O E Q := de_xfld Su (er_cls T (.op i)).r T.n_InvalidOperation_place (M.imp h fun d O1 q => ⟨q.1, rfl, q.2⟩) hb
end
set_option hygiene false in
local macro_rules | `(tactic| walk_at "gz") => `(tactic| (repeat (first
  | (with_reducible refine as_name ?_; (first | (with_reducible refine' de_nameZ Su ?hi ?hd ?_; (case hi => (repeat (with_reducible constructor))); (case hd => (repeat (with_reducible constructor)))) | with_reducible refine de_globZ Su T.InvalidMelody.g ?_ | with_reducible refine de_globZ Su T.InvalidRound.g ?_ | with_reducible refine de_globZ Su T.OutOfRange.g ?_ | with_reducible refine de_globZ Su T.InvalidNumber.g ?_ | with_reducible refine de_globZ Su T.TooLong.g ?_ | with_reducible refine de_globZ Su T.TextFault.g ?_ | with_reducible refine de_globZ Su T.InvalidCode.g ?_ | with_reducible refine de_globZ Su T.Contradiction.g ?_ | with_reducible refine de_globZ Su T.UnknownVoice.g ?_ | with_reducible refine de_globZ Su T.TooManyVoices.g ?_ | with_reducible refine de_globZ Su T.InvalidName.g ?_ | with_reducible refine de_globZ Su T.UnknownName.g ?_ | with_reducible refine de_globZ Su T.InvalidOperation.g ?_ | with_reducible refine de_bltnZ (T := "ValueError") Su T.bv_ValueError PyProof.Rows.Boot.«ValueError» ?_))
  | (with_reducible refine as_call ?_; (first | with_reducible refine de_callBZ (id := "isinstance") Su T.b_isinstance boot_isinstance ?_))
  | (with_reducible refine as_DS ?_; (first | (with_reducible refine' ds_setZ (hl := ?hl) Su ?hi ?_; (case hl => ((repeat (with_reducible constructor)); done)); (case hi => (repeat (with_reducible constructor))))))
  | (with_reducible refine as_DC ?_; (first | with_reducible refine is_InvalidMelody T Su ?_ | with_reducible refine is_InvalidRound T Su ?_ | with_reducible refine is_OutOfRange T Su ?_ | with_reducible refine is_InvalidNumber T Su ?_ | with_reducible refine is_TooLong T Su ?_ | with_reducible refine is_TextFault T Su ?_ | with_reducible refine is_InvalidCode T Su ?_ | with_reducible refine is_Contradiction T Su ?_ | with_reducible refine is_UnknownVoice T Su ?_ | with_reducible refine is_TooManyVoices T Su ?_ | with_reducible refine is_InvalidName T Su ?_ | with_reducible refine is_UnknownName T Su ?_ | with_reducible refine is_InvalidOperation T Su ?_ | with_reducible refine is_ve T Su ?_))
  | (with_reducible refine as_attr ?_; (first | with_reducible refine xf_InvalidMelody_index T Su ?_ | with_reducible refine xf_InvalidRound_part T Su ?_ | with_reducible refine xf_InvalidRound_index T Su ?_ | with_reducible refine xf_TextFault_word T Su ?_ | with_reducible refine xf_InvalidCode_place T Su ?_ | with_reducible refine xf_InvalidOperation_place T Su ?_))
  | (with_reducible refine same_in ?_)
  | (with_reducible refine nl_fz ?_)
  | (with_reducible refine de_count Su.un ?_)
  | (with_reducible refine de_index Su.un ?_)
  | (with_reducible refine db_cat (by simp) ?_)
  | ((with_reducible refine' db_inD Su.un ?h1 ?h2 ?_); (case h1 => exact er_ok _); (case h2 => exact er_ok2))
  | (dsimp only [List.cons_append, List.nil_append])
  | walk_at "g1")))
abbrev erKs (e : Er) : List D := [.bl (decide (e.ix = 0)), .bl (decide (e.ix = 1)), .bl (decide (e.ix = 2)), .bl (decide (e.ix = 3)), .bl (decide (e.ix = 4)), .bl (decide (e.ix = 5)), .bl (decide (e.ix = 6)), .bl (decide (e.ix = 7)), .bl (decide (e.ix = 8)), .bl (decide (e.ix = 9)), .bl (decide (e.ix = 10)), .bl (decide (e.ix = 11)), .bl (decide (e.ix = 12))]
theorem er_cnt (e : Er) : (erKs e).countP (fun z => PyData.eqv (toP z) (toP (.bl true))) = 1 := by cases e <;> rfl
theorem er_at (e : Er) : (erKs e)[e.ix]? = some (.bl true) := by cases e <;> rfl
theorem er_bef (e : Er) (m : Nat) (z' : D) (hm : m < e.ix) (hz : (erKs e)[m]? = some z') : PyData.eqv (toP z') (toP (.bl true)) = false := by
  have hk : erKs e = (List.range 13).map fun j => D.bl (decide (e.ix = j)) := rfl
  rw [hk, List.getElem?_map] at hz
  cases h : (List.range 13)[m]? with
  | none => rw [h] at hz; cases hz
  | some j =>
    rw [h] at hz
    obtain ⟨h1, h2⟩ := List.getElem?_eq_some_iff.mp h
    rw [List.getElem_range] at h2
    cases hz
    have hn : ¬ (e.ix = j) := by omega
    show PyData.eqv (toP (.bl (decide (e.ix = j)))) (toP (.bl true)) = false
    rw [decide_eq_false hn]
    rfl
theorem er_strs : ∀ x ∈ (["melody", "round", "range", "number", "long", "text", "code", "contradiction", "voice", "many", "name", "unknown", "operation"] : List Str), plainD (.str x) = true := by decide +kernel
theorem er_ok (e : Er) : okD (.str (erN e)) := okD_of (er_strs _ (by cases e <;> simp [erN])) (Nat.zero_le _)
theorem er_ok2 : okD (.lst [.str "code", .str "operation"]) := okD_of (by decide +kernel) (by decide)
/-- what the caught error is told as -/
theorem gives_err {X : Cx} (T : Txt X.K X.mg a) (hu : X.A.units + 100 < cLine) (cdg : Value) (q : Str) : LamX.GivesTo X ["_law_call", "e", "_law_kinds", "_law_names", "_law_name"] "_law_error_of" (defScope s_law_error_of) a.f_law_error_of cdg (defBody s_law_error_of) "_law_call" q (TTd X.K (xdA a)) := by
  refine gives_of (n := "e") (CE := a.C_CanonError) sc_law_error_of.nd sc_law_error_of.nm hu (fun _ => rfl) (by (repeat (with_reducible constructor))) (show Nk ("e" : Str) .local c_law_error_of.names by (repeat (with_reducible constructor))) (show Nk ("CanonError" : Str) .globalImplicit c_law_error_of.names by (repeat (with_reducible constructor))) T.CanonError.g (fun e => (er_cls T e).ex) fun Z e y Su0 O Q q => ?_
  have eK := Su0.K
  have eM := Su0.mg
  have T : Txt Z.K Z.mg a := by rw [eK, eM]; exact T
  have Su : Suit Z ["_law_call", "e", "_law_kinds", "_law_names", "_law_name"] c_law_error_of Z.K Z.mg (xdA a e) y := by rw [eK, eM]; exact Su0
  clear Su0 eK eM
  show DSs Z _ [none, some y, none, none, none] _ _ _
  refine dss_cons ?_
  walk_at "gz"
  refine ⟨_, .fz, ?_⟩
  walk_at "gz"
  refine ⟨_, _, view_plain _ rfl, view_plain _ rfl, okD_of rfl (Nat.le_of_ble_eq_true rfl), okD_of rfl (by decide), ?_⟩
  rw [er_cnt e]
  walk_at "gz"
  refine ⟨_, .fz, ?_⟩
  walk_at "gz"
  refine ⟨erKs e, .bl true, e.ix, .bl true, view_plain _ rfl, view_plain _ rfl, okD_of rfl (Nat.le_of_ble_eq_true rfl), okD_of rfl (by decide), er_at e, rfl, er_bef e, ?_⟩
  refine dx_lst (d := .str (erN e)) (by cases e <;> rfl) ?_
  walk_at "gz"
  generalize erKs e = ks
  cases e <;> walk_at "gz" <;> try exact q
section
variable {X : Cx} {N : List Str} {sc scope : Scope} {δ : DEnv} {O : Own} {E : XD → Own → Prop} {Q : D → Own → Prop} {cA PA : Addr} {params : Arguments} {body : Expr} {p lp pos : Pos}
theorem de_callErr (T : Txt X.K X.mg a) (S : Sc X N sc) (TB : LamX.TabB X.base X.mg cA PA) (ec : X.env.code = .ref cA) (eq : X.env.qual ++ "<lambda>" = lamQ) (hr : Room 29 X.A) (ha : At PA (.tab lamQ) O) (h : ∀ X2, LBlk X X2 N scope 27 → DE X2 body δ O (fun x O' => ∃ e : Er, x = xdA a e ∧ Q e.d O') fun _ O' => Q .non O')
    (hL : LamX.lamSB sc scope = true := by decide +kernel) (hn : nmOk scope = true := by decide +kernel) (nd : defaultsOf params X.env = ([], []) := by with_unfolding_all rfl)
    (bd : ∀ (q : Str) (cl : List (Str × Addr)) (pm cv ctv : Value), bindArgs (PySem.W.kla_fn "<lambda>" q params body scope cl pm cv ctv) ⟨[], []⟩ = pure [] := by intros; with_unfolding_all rfl) (hg : Nk ("_law_error_of" : Str) .globalImplicit sc.names := by (repeat (with_reducible constructor))) :
    DE X (.Call (.Name "_law_error_of" p) [.Lambda params body scope lp] [] pos) δ O E Q :=
  de_errof (xd := xdA a) (k := 27) S T.law_error_of sc_law_error_of rfl (show LkV "_law_call" c_law_error_of.names by (repeat (with_reducible constructor))) (fun cdg q => gives_err T (by have := hr.un; omega) cdg q) TB ec eq hr ha h hL hn nd bd hg
end
end
set_option hygiene false in
local macro_rules | `(tactic| walk_at "st_melody_of") => `(tactic| (with_reducible refine as_DI ?_; (first | (with_reducible refine di_seq ?_))))
set_option hygiene false in
local macro_rules | `(tactic| walk_at "st_melody_of") => `(tactic| walk_at "g1")
set_option hygiene false in
local macro_rules | `(tactic| walk_at "st_melody_of") => `(tactic| (with_reducible refine own_out ?_))
set_option hygiene false in
local macro_rules | `(tactic| walk_at "st_melody_of") => `(tactic| (with_reducible refine as_NL ?_; (first | (with_reducible refine nl_fz ?_))))
set_option hygiene false in
local macro_rules | `(tactic| walk_at "st_melody_of") => `(tactic| (with_reducible refine as_DS ?_; (first | (with_reducible refine' ds_setCD (by assumption) (by assumption) ?hi ?_ ?hl; (case hl => ((repeat (with_reducible constructor)); done)); (case hi => (repeat (with_reducible constructor)))) | (with_reducible refine ds_forL (by assumption) Df.po ?_))))
set_option hygiene false in
local macro_rules | `(tactic| walk_at "go_melody_of") => `(tactic| (repeat (walk_at "st_melody_of")))
set_option hygiene false in
local macro_rules | `(tactic| walk_at "st_Melody_rshift") => `(tactic| (with_reducible refine as_DI ?_; (first | (with_reducible refine di_seq ?_))))
set_option hygiene false in
local macro_rules | `(tactic| walk_at "st_Melody_rshift") => `(tactic| walk_at "g1")
set_option hygiene false in
local macro_rules | `(tactic| walk_at "st_Melody_rshift") => `(tactic| (with_reducible refine own_out ?_))
set_option hygiene false in
local macro_rules | `(tactic| walk_at "st_Melody_rshift") => `(tactic| (with_reducible refine as_NL ?_; (first | (with_reducible refine nl_fz ?_))))
set_option hygiene false in
local macro_rules | `(tactic| walk_at "st_Melody_rshift") => `(tactic| (with_reducible refine as_DE ?_; (first | (with_reducible refine de_lcXc [("pitch", 3), ("beats", 4)] ⟨.function, [(".0", .local), ("pitch", .local), ("beats", .local), ("int", .globalImplicit), ("steps", .cell)], false, false, []⟩ (by assumption) ?_))))
set_option hygiene false in
local macro_rules | `(tactic| walk_at "st_Melody_rshift") => `(tactic| (with_reducible refine as_DS ?_; (first | (with_reducible refine' ds_setLcXc (hl := ?hl) [("pitch", 3), ("beats", 4)] ⟨.function, [(".0", .local), ("pitch", .local), ("beats", .local), ("int", .globalImplicit), ("steps", .cell)], false, false, []⟩ (by assumption) ?hi ?_; (case hl => ((repeat (with_reducible constructor)); done)); (case hi => (repeat (with_reducible constructor)))) | (with_reducible refine' ds_setCD (by assumption) (by assumption) ?hi ?_ ?hl; (case hl => ((repeat (with_reducible constructor)); done)); (case hi => (repeat (with_reducible constructor)))) | (with_reducible refine ds_forL (by assumption) Df.po ?_))))
set_option hygiene false in
local macro_rules | `(tactic| walk_at "go_Melody_rshift") => `(tactic| (repeat (walk_at "st_Melody_rshift")))
set_option hygiene false in
local macro_rules | `(tactic| walk_at "st_Melody_neg") => `(tactic| (with_reducible refine as_DI ?_; (first | (with_reducible refine di_seq ?_))))
set_option hygiene false in
local macro_rules | `(tactic| walk_at "st_Melody_neg") => `(tactic| walk_at "g1")
set_option hygiene false in
local macro_rules | `(tactic| walk_at "st_Melody_neg") => `(tactic| (with_reducible refine own_out ?_))
set_option hygiene false in
local macro_rules | `(tactic| walk_at "st_Melody_neg") => `(tactic| (with_reducible refine as_NL ?_; (first | (with_reducible refine nl_fz ?_))))
set_option hygiene false in
local macro_rules | `(tactic| walk_at "st_Melody_neg") => `(tactic| (with_reducible refine as_DE ?_; (first | (with_reducible refine de_lcXc [("pitch", 3), ("beats", 4)] ⟨.function, [(".0", .local), ("pitch", .local), ("beats", .local), ("int", .globalImplicit)], false, false, []⟩ (by assumption) ?_) | (with_reducible refine de_lcXc [("pitch", 3), ("beats", 4)] ⟨.function, [(".0", .local), ("pitch", .local), ("beats", .local), ("int", .globalImplicit), ("first", .cell)], false, false, []⟩ (by assumption) ?_))))
set_option hygiene false in
local macro_rules | `(tactic| walk_at "st_Melody_neg") => `(tactic| (with_reducible refine as_DS ?_; (first | (with_reducible refine' ds_setLcXc (hl := ?hl) [("pitch", 3), ("beats", 4)] ⟨.function, [(".0", .local), ("pitch", .local), ("beats", .local), ("int", .globalImplicit)], false, false, []⟩ (by assumption) ?hi ?_; (case hl => ((repeat (with_reducible constructor)); done)); (case hi => (repeat (with_reducible constructor)))) | (with_reducible refine' ds_setLcXc (hl := ?hl) [("pitch", 3), ("beats", 4)] ⟨.function, [(".0", .local), ("pitch", .local), ("beats", .local), ("int", .globalImplicit), ("first", .cell)], false, false, []⟩ (by assumption) ?hi ?_; (case hl => ((repeat (with_reducible constructor)); done)); (case hi => (repeat (with_reducible constructor)))) | (with_reducible refine' ds_setCD (by assumption) (by assumption) ?hi ?_ ?hl; (case hl => ((repeat (with_reducible constructor)); done)); (case hi => (repeat (with_reducible constructor)))) | (with_reducible refine ds_forL (by assumption) Df.po ?_))))
set_option hygiene false in
local macro_rules | `(tactic| walk_at "go_Melody_neg") => `(tactic| (repeat (walk_at "st_Melody_neg")))
section
variable {P : Program} {w : World} {K : PySem.W.Frag} {mg : Str → Option Value} {base : Heap} {a : Adr}
def inR (p : Option Int) : Bool := match p with | none => true | some x => decide (0 ≤ x ∧ x ≤ 127)
def allR (ns : List Note) : Bool := ns.all fun n => inR n.1
/-- beats are right, pitches may not be -/
structure MelB (ns : List Note) : Prop where
  bt : ∀ n ∈ ns, 1 ≤ n.2 ∧ n.2 ≤ 16
  pos : 1 ≤ ns.length
  le : ns.length ≤ 32
theorem MelB.mel {ns : List Note} (h : MelB ns) (r : allR ns = true) : Mel ns := ⟨fun n hn => by
  have h1 := h.bt n hn
  have h2 := List.all_eq_true.1 r n hn
  obtain ⟨p, b⟩ := n
  cases p with
  | none => simp [okNote]; omega
  | some p => simp [inR] at h2; simp [okNote]; omega, h.pos, h.le⟩
def spMelE (a : Adr) : DSp := fun ds O E Q => ∃ ns, ds = [.lst (ns.map dNote)] ∧ MelB ns ∧ (allR ns = true → Mel ns → Q (dMel a.C_Melody ns) O) ∧ (allR ns = false → E (xdA a .range) O)
theorem ok_melody_ofE (T : Txt K mg a) : DFn P w K mg base 6 a.f_melody_of (spMelE a) := by
  refine T.melody_of.ok sc_melody_of (fun ds O E Q h => by obtain ⟨_, e, _⟩ := h; rw [e]; rfl) ?_
  intro X I S0 Df hr ds O E Q hsp; obtain ⟨rfl, rfl, rfl, rfl, rfl, pa⟩ := I; have S : Sc X _ c_melody_of := S0; clear S0
  obtain ⟨ns, rfl, hm, q, qe⟩ := hsp
  show DSs X _ [some (.lst (ns.map dNote)), none, none] O _ _
  have h32 := hm.le
  refine dss_cons ?_
  walk_at "go_melody_of"
  refine ⟨fun i δ' O1 => (∃ x y, δ' = [some (.lst (ns.map dNote)), x, y]) ∧ O1 = O ∧ ∀ n ∈ ns.take i, inR n.1 = true, ⟨⟨_, _, rfl⟩, rfl, fun n hn => (nomatch hn)⟩, ?_, ?_⟩
  · rintro i d δ' O1 hd ⟨⟨x, y, rfl⟩, rfl, hin⟩
    obtain ⟨n, hn, rfl⟩ := map_get hd
    have et : ns.take (i + 1) = ns.take i ++ [n] := by rw [List.take_add_one, hn]; rfl
    have hnext : inR n.1 = true → ∀ m ∈ ns.take (i + 1), inR m.1 = true := fun h m hm2 => by
      rw [et] at hm2
      rcases List.mem_append.1 hm2 with h2 | h2
      · exact hin m h2
      · rw [List.mem_singleton.1 h2]; exact h
    have hbad : inR n.1 = false → allR ns = false := fun h => by
      cases h2 : allR ns with
      | false => rfl
      | true => rw [List.all_eq_true.1 h2 n (List.mem_of_getElem? hn)] at h; cases h
    obtain ⟨p, b⟩ := n
    cases p with
    | none =>
      walk_at "go_melody_of"
      exact lessd ⟨⟨_, _, rfl⟩, rfl, hnext rfl⟩
    | some p =>
      walk_at "go_melody_of"
      refine ⟨fun h0 => ?_, fun h0 => ?_⟩
      · walk_at "go_melody_of"
        refine br_nd (fun h1 => ?_) fun h1 => ?_
        · walk_at "go_melody_of"
          exact qe (hbad (by simp [inR]; omega))
        · walk_at "go_melody_of"
          exact lessd ⟨⟨_, _, rfl⟩, rfl, hnext (by simp [inR]; omega)⟩
      · walk_at "go_melody_of"
        exact qe (hbad (by simp [inR]; omega))
  · rintro δ' O1 ⟨⟨x, y, rfl⟩, rfl, hin⟩
    rw [List.length_map, List.take_length] at hin
    have hR : allR ns = true := List.all_eq_true.2 hin
    have hm3 := hm.mel hR
    walk_at "go_melody_of"
    exact q hR hm3
theorem shift_melB {ns : List Note} {k : Int} (h : Mel ns) : MelB (shiftN k ns) := ⟨fun n hn => by
  obtain ⟨m, hm, rfl⟩ := List.mem_map.1 hn
  have := okNote_le (h.ok m hm)
  exact ⟨by omega, by omega⟩, by have := h.pos; simp [shiftN]; omega, by have := h.le; simp [shiftN]; omega⟩
def spShiftE (a : Adr) : DSp := fun ds O E Q => ∃ ns k, ds = [dMel a.C_Melody ns, .int k] ∧ -127 ≤ k ∧ k ≤ 127 ∧ Mel ns ∧ (inRange (shiftN k ns) = true → Mel (shiftN k ns) → Q (dMel a.C_Melody (shiftN k ns)) O) ∧ (inRange (shiftN k ns) = false → E (xdA a .range) O)
theorem ok_rshiftE (T : Txt K mg a) : DFn P w K mg base 8 a.f_Melody_rshift (spShiftE a) := by
  refine T.Melody_rshift.ok sc_Melody_rshift (fun ds O E Q h => by obtain ⟨_, _, e, _⟩ := h; rw [e]; rfl) ?_
  intro X I S0 Df hr ds O E Q hsp; obtain ⟨rfl, rfl, rfl, rfl, rfl, pa⟩ := I; have S : Sc X _ c_Melody_rshift := S0; clear S0
  obtain ⟨ns, k, rfl, h1, h2, hm, q, qe⟩ := hsp
  show DSs X _ [some (dMel a.C_Melody ns), some (.int k), none, none, none] O _ _
  refine dss_cons ?_
  have h32 := hm.le
  walk_at "go_Melody_rshift"
  refine ⟨Note, ns, dNote, fun n => [dNote (n.1.map (· + k), n.2)], rfl, by omega, fun n hn => ?_, ?_⟩
  · obtain ⟨p, b⟩ := n
    cases p with
    | none => walk_at "go_Melody_rshift"
    | some p => walk_at "go_Melody_rshift"
  · rw [fm_map, show ns.map (fun n => dNote (n.1.map (· + k), n.2)) = (shiftN k ns).map dNote by rw [shiftN, List.map_map]; rfl]
    walk_at "go_Melody_rshift"
    refine dc_fn (ok_melody_ofE T) (hr.mono (by decide)) ⟨_, rfl, shift_melB hm, q, qe⟩
section
variable {X : Cx} {δ : DEnv} {O : Own} {E : XD → Own → Prop} {Q : D → Own → Prop} {pos p : Pos}
theorem db_shiftE {k : Nat} {ns : List Note} {i : Int} (T : Txt X.K X.mg a) (hr : Room k X.A) (hk : 8 ≤ k) (h1 : -127 ≤ i) (h2 : i ≤ 127) (hm : Mel ns) (q : inRange (shiftN i ns) = true → Mel (shiftN i ns) → Q (dMel a.C_Melody (shiftN i ns)) O) (qe : inRange (shiftN i ns) = false → E (xdA a .range) O) : DB X (binaryOp .RShift) (dMel a.C_Melody ns) (.int i) δ O E Q := by
  exact db_ownI (C := a.C_Melody) (f := a.f_Melody_rshift) (rb := true) .fz (by simp [tyD]) T.o_Melody_rshift (ok_rshiftE T) (hr.mono hk) fs_int_rshift T.sb_Melody_int (ns_type _ _) tl_int_rshift ⟨ns, i, rfl, h1, h2, hm, q, qe⟩
end
end
set_option hygiene false in
local macro_rules | `(tactic| walk_at "st_Melody_eq") => `(tactic| (with_reducible refine as_DI ?_; (first | (with_reducible refine di_seq ?_))))
set_option hygiene false in
local macro_rules | `(tactic| walk_at "st_Melody_eq") => `(tactic| walk_at "g1")
set_option hygiene false in
local macro_rules | `(tactic| walk_at "st_Melody_eq") => `(tactic| (with_reducible refine own_out ?_))
set_option hygiene false in
local macro_rules | `(tactic| walk_at "st_Melody_eq") => `(tactic| (with_reducible refine as_NL ?_; (first | (with_reducible refine nl_fz ?_))))
set_option hygiene false in
local macro_rules | `(tactic| walk_at "st_Melody_eq") => `(tactic| (with_reducible refine as_DS ?_; (first | (with_reducible refine' ds_setCD (by assumption) (by assumption) ?hi ?_ ?hl; (case hl => ((repeat (with_reducible constructor)); done)); (case hi => (repeat (with_reducible constructor)))) | (with_reducible refine ds_forL (by assumption) Df.po ?_))))
set_option hygiene false in
local macro_rules | `(tactic| walk_at "go_Melody_eq") => `(tactic| (repeat (walk_at "st_Melody_eq")))
set_option hygiene false in
local macro_rules | `(tactic| walk_at "st_Choir_init") => `(tactic| (with_reducible refine as_DI ?_; (first | (with_reducible refine di_seq ?_))))
set_option hygiene false in
local macro_rules | `(tactic| walk_at "st_Choir_init") => `(tactic| walk_at "g1")
set_option hygiene false in
local macro_rules | `(tactic| walk_at "st_Choir_init") => `(tactic| (with_reducible refine own_out ?_))
set_option hygiene false in
local macro_rules | `(tactic| walk_at "st_Choir_init") => `(tactic| (with_reducible refine as_NL ?_; (first | fail )))
set_option hygiene false in
local macro_rules | `(tactic| walk_at "st_Choir_init") => `(tactic| (with_reducible refine as_DS ?_; (first | (with_reducible refine' ds_setCD (by assumption) (by assumption) ?hi ?_ ?hl; (case hl => ((repeat (with_reducible constructor)); done)); (case hi => (repeat (with_reducible constructor)))) | (with_reducible refine ds_forL (by assumption) Df.po ?_))))
set_option hygiene false in
local macro_rules | `(tactic| walk_at "go_Choir_init") => `(tactic| (repeat (walk_at "st_Choir_init")))
set_option hygiene false in
local macro_rules | `(tactic| walk_at "st_Choir_record") => `(tactic| (with_reducible refine as_DI ?_; (first | (with_reducible refine di_seq ?_))))
set_option hygiene false in
local macro_rules | `(tactic| walk_at "st_Choir_record") => `(tactic| walk_at "g1")
set_option hygiene false in
local macro_rules | `(tactic| walk_at "st_Choir_record") => `(tactic| (with_reducible refine own_out ?_))
set_option hygiene false in
local macro_rules | `(tactic| walk_at "st_Choir_record") => `(tactic| (with_reducible refine as_NL ?_; (first | fail )))
set_option hygiene false in
local macro_rules | `(tactic| walk_at "st_Choir_record") => `(tactic| (with_reducible refine as_DS ?_; (first | (with_reducible refine' ds_setCD (by assumption) (by assumption) ?hi ?_ ?hl; (case hl => ((repeat (with_reducible constructor)); done)); (case hi => (repeat (with_reducible constructor)))) | (with_reducible refine ds_forL (by assumption) Df.po ?_))))
set_option hygiene false in
local macro_rules | `(tactic| walk_at "go_Choir_record") => `(tactic| (repeat (walk_at "st_Choir_record")))
set_option hygiene false in
local macro_rules | `(tactic| walk_at "st_Choir_enter") => `(tactic| (with_reducible refine as_DI ?_; (first | (with_reducible refine di_seq ?_))))
set_option hygiene false in
local macro_rules | `(tactic| walk_at "st_Choir_enter") => `(tactic| walk_at "g1")
set_option hygiene false in
local macro_rules | `(tactic| walk_at "st_Choir_enter") => `(tactic| (with_reducible refine own_out ?_))
set_option hygiene false in
local macro_rules | `(tactic| walk_at "st_Choir_enter") => `(tactic| (with_reducible refine as_NL ?_; (first | fail )))
set_option hygiene false in
local macro_rules | `(tactic| walk_at "st_Choir_enter") => `(tactic| (with_reducible refine as_DS ?_; (first | (with_reducible refine' ds_setCD (by assumption) (by assumption) ?hi ?_ ?hl; (case hl => ((repeat (with_reducible constructor)); done)); (case hi => (repeat (with_reducible constructor)))) | (with_reducible refine ds_forL (by assumption) Df.po ?_))))
set_option hygiene false in
local macro_rules | `(tactic| walk_at "go_Choir_enter") => `(tactic| (repeat (walk_at "st_Choir_enter")))
set_option hygiene false in
local macro_rules | `(tactic| walk_at "st_Choir_undo") => `(tactic| (with_reducible refine as_DI ?_; (first | (with_reducible refine di_seq ?_))))
set_option hygiene false in
local macro_rules | `(tactic| walk_at "st_Choir_undo") => `(tactic| walk_at "g1")
set_option hygiene false in
local macro_rules | `(tactic| walk_at "st_Choir_undo") => `(tactic| (with_reducible refine own_out ?_))
set_option hygiene false in
local macro_rules | `(tactic| walk_at "st_Choir_undo") => `(tactic| (with_reducible refine as_NL ?_; (first | fail )))
set_option hygiene false in
local macro_rules | `(tactic| walk_at "st_Choir_undo") => `(tactic| (with_reducible refine as_DS ?_; (first | (with_reducible refine' ds_setCD (by assumption) (by assumption) ?hi ?_ ?hl; (case hl => ((repeat (with_reducible constructor)); done)); (case hi => (repeat (with_reducible constructor)))) | (with_reducible refine ds_forL (by assumption) Df.po ?_))))
set_option hygiene false in
local macro_rules | `(tactic| walk_at "go_Choir_undo") => `(tactic| (repeat (walk_at "st_Choir_undo")))
set_option hygiene false in
local macro_rules | `(tactic| walk_at "st_Choir_redo") => `(tactic| (with_reducible refine as_DI ?_; (first | (with_reducible refine di_seq ?_))))
set_option hygiene false in
local macro_rules | `(tactic| walk_at "st_Choir_redo") => `(tactic| walk_at "g1")
set_option hygiene false in
local macro_rules | `(tactic| walk_at "st_Choir_redo") => `(tactic| (with_reducible refine own_out ?_))
set_option hygiene false in
local macro_rules | `(tactic| walk_at "st_Choir_redo") => `(tactic| (with_reducible refine as_NL ?_; (first | fail )))
set_option hygiene false in
local macro_rules | `(tactic| walk_at "st_Choir_redo") => `(tactic| (with_reducible refine as_DS ?_; (first | (with_reducible refine' ds_setCD (by assumption) (by assumption) ?hi ?_ ?hl; (case hl => ((repeat (with_reducible constructor)); done)); (case hi => (repeat (with_reducible constructor)))) | (with_reducible refine ds_forL (by assumption) Df.po ?_))))
set_option hygiene false in
local macro_rules | `(tactic| walk_at "go_Choir_redo") => `(tactic| (repeat (walk_at "st_Choir_redo")))
set_option hygiene false in
local macro_rules | `(tactic| walk_at "st_Choir_leave") => `(tactic| (with_reducible refine as_DI ?_; (first | (with_reducible refine di_seq ?_))))
set_option hygiene false in
local macro_rules | `(tactic| walk_at "st_Choir_leave") => `(tactic| walk_at "g1")
set_option hygiene false in
local macro_rules | `(tactic| walk_at "st_Choir_leave") => `(tactic| (with_reducible refine own_out ?_))
set_option hygiene false in
local macro_rules | `(tactic| walk_at "st_Choir_leave") => `(tactic| (with_reducible refine as_NL ?_; (first | (with_reducible refine nl_fz ?_))))
set_option hygiene false in
local macro_rules | `(tactic| walk_at "st_Choir_leave") => `(tactic| (with_reducible refine as_DE ?_; (first | (with_reducible refine de_lcXc [("voice", 8)] ⟨.function, [(".0", .local), ("voice", .local), ("is_int_in", .globalImplicit), ("number", .cell)], false, false, []⟩ (by assumption) ?_) | (with_reducible refine de_lcXc [("voice", 8)] ⟨.function, [(".0", .local), ("voice", .local), ("number", .cell)], false, false, []⟩ (by assumption) ?_))))
set_option hygiene false in
local macro_rules | `(tactic| walk_at "st_Choir_leave") => `(tactic| (with_reducible refine as_DS ?_; (first | (with_reducible refine' ds_setLcXc (hl := ?hl) [("voice", 8)] ⟨.function, [(".0", .local), ("voice", .local), ("is_int_in", .globalImplicit), ("number", .cell)], false, false, []⟩ (by assumption) ?hi ?_; (case hl => ((repeat (with_reducible constructor)); done)); (case hi => (repeat (with_reducible constructor)))) | (with_reducible refine' ds_setLcXc (hl := ?hl) [("voice", 8)] ⟨.function, [(".0", .local), ("voice", .local), ("number", .cell)], false, false, []⟩ (by assumption) ?hi ?_; (case hl => ((repeat (with_reducible constructor)); done)); (case hi => (repeat (with_reducible constructor)))) | (with_reducible refine' ds_setCD (by assumption) (by assumption) ?hi ?_ ?hl; (case hl => ((repeat (with_reducible constructor)); done)); (case hi => (repeat (with_reducible constructor)))) | (with_reducible refine ds_forL (by assumption) Df.po ?_))))
set_option hygiene false in
local macro_rules | `(tactic| walk_at "go_Choir_leave") => `(tactic| (repeat (walk_at "st_Choir_leave")))
set_option hygiene false in
local macro_rules | `(tactic| walk_at "st_Choir_sing") => `(tactic| (with_reducible refine as_DI ?_; (first | (with_reducible refine di_seq ?_))))
set_option hygiene false in
local macro_rules | `(tactic| walk_at "st_Choir_sing") => `(tactic| walk_at "g1")
set_option hygiene false in
local macro_rules | `(tactic| walk_at "st_Choir_sing") => `(tactic| (with_reducible refine own_out ?_))
set_option hygiene false in
local macro_rules | `(tactic| walk_at "st_Choir_sing") => `(tactic| (with_reducible refine as_NL ?_; (first | (with_reducible refine nl_fz ?_))))
set_option hygiene false in
local macro_rules | `(tactic| walk_at "st_Choir_sing") => `(tactic| (with_reducible refine as_DE ?_; (first | (with_reducible refine de_lcXc [("voice", 11), ("start", 12), ("part", 13)] ⟨.function, [(".0", .local), ("voice", .local), ("start", .local), ("part", .local), ("turn", .cell)], false, false, []⟩ (by assumption) ?_) | (with_reducible refine de_lcXc [("other", 14)] ⟨.function, [(".0", .local), ("other", .local), ("do_clash", .globalImplicit), ("pitch", .cell), ("self", .cell)], false, false, []⟩ (by assumption) ?_))))
set_option hygiene false in
local macro_rules | `(tactic| walk_at "st_Choir_sing") => `(tactic| (with_reducible refine as_DS ?_; (first | (with_reducible refine' ds_setLcXc (hl := ?hl) [("voice", 11), ("start", 12), ("part", 13)] ⟨.function, [(".0", .local), ("voice", .local), ("start", .local), ("part", .local), ("turn", .cell)], false, false, []⟩ (by assumption) ?hi ?_; (case hl => ((repeat (with_reducible constructor)); done)); (case hi => (repeat (with_reducible constructor)))) | (with_reducible refine' ds_setLcXc (hl := ?hl) [("other", 14)] ⟨.function, [(".0", .local), ("other", .local), ("do_clash", .globalImplicit), ("pitch", .cell), ("self", .cell)], false, false, []⟩ (by assumption) ?hi ?_; (case hl => ((repeat (with_reducible constructor)); done)); (case hi => (repeat (with_reducible constructor)))) | (with_reducible refine' ds_setCD (by assumption) (by assumption) ?hi ?_ ?hl; (case hl => ((repeat (with_reducible constructor)); done)); (case hi => (repeat (with_reducible constructor)))) | (with_reducible refine ds_forL (by assumption) Df.po ?_))))
set_option hygiene false in
local macro_rules | `(tactic| walk_at "go_Choir_sing") => `(tactic| (repeat (walk_at "st_Choir_sing")))
set_option hygiene false in
local macro_rules | `(tactic| walk_at "st_Choir_passed") => `(tactic| (with_reducible refine as_DI ?_; (first | (with_reducible refine di_seq ?_))))
set_option hygiene false in
local macro_rules | `(tactic| walk_at "st_Choir_passed") => `(tactic| walk_at "g1")
set_option hygiene false in
local macro_rules | `(tactic| walk_at "st_Choir_passed") => `(tactic| (with_reducible refine own_out ?_))
set_option hygiene false in
local macro_rules | `(tactic| walk_at "st_Choir_passed") => `(tactic| (with_reducible refine as_NL ?_; (first | (with_reducible refine nl_fz ?_))))
set_option hygiene false in
local macro_rules | `(tactic| walk_at "st_Choir_passed") => `(tactic| (with_reducible refine as_DS ?_; (first | (with_reducible refine' ds_setCD (by assumption) (by assumption) ?hi ?_ ?hl; (case hl => ((repeat (with_reducible constructor)); done)); (case hi => (repeat (with_reducible constructor)))) | (with_reducible refine ds_forL (by assumption) Df.po ?_))))
set_option hygiene false in
local macro_rules | `(tactic| walk_at "go_Choir_passed") => `(tactic| (repeat (walk_at "st_Choir_passed")))
set_option hygiene false in
local macro_rules | `(tactic| walk_at "st_Choir_clash_count") => `(tactic| (with_reducible refine as_DI ?_; (first | (with_reducible refine di_seq ?_))))
set_option hygiene false in
local macro_rules | `(tactic| walk_at "st_Choir_clash_count") => `(tactic| walk_at "g1")
set_option hygiene false in
local macro_rules | `(tactic| walk_at "st_Choir_clash_count") => `(tactic| (with_reducible refine own_out ?_))
set_option hygiene false in
local macro_rules | `(tactic| walk_at "st_Choir_clash_count") => `(tactic| (with_reducible refine as_NL ?_; (first | (with_reducible refine nl_fz ?_))))
set_option hygiene false in
local macro_rules | `(tactic| walk_at "st_Choir_clash_count") => `(tactic| (with_reducible refine as_DS ?_; (first | (with_reducible refine' ds_setCD (by assumption) (by assumption) ?hi ?_ ?hl; (case hl => ((repeat (with_reducible constructor)); done)); (case hi => (repeat (with_reducible constructor)))) | (with_reducible refine ds_forL (by assumption) Df.po ?_))))
set_option hygiene false in
local macro_rules | `(tactic| walk_at "go_Choir_clash_count") => `(tactic| (repeat (walk_at "st_Choir_clash_count")))
set_option hygiene false in
local macro_rules | `(tactic| walk_at "st_Choir_singers") => `(tactic| (with_reducible refine as_DI ?_; (first | (with_reducible refine di_seq ?_))))
set_option hygiene false in
local macro_rules | `(tactic| walk_at "st_Choir_singers") => `(tactic| walk_at "g1")
set_option hygiene false in
local macro_rules | `(tactic| walk_at "st_Choir_singers") => `(tactic| (with_reducible refine own_out ?_))
set_option hygiene false in
local macro_rules | `(tactic| walk_at "st_Choir_singers") => `(tactic| (with_reducible refine as_NL ?_; (first | (with_reducible refine nl_fz ?_))))
set_option hygiene false in
local macro_rules | `(tactic| walk_at "st_Choir_singers") => `(tactic| (with_reducible refine as_DE ?_; (first | (with_reducible refine de_lcXc [("voice", 1)] ⟨.function, [(".0", .local), ("voice", .local)], false, false, []⟩ (by assumption) ?_))))
set_option hygiene false in
local macro_rules | `(tactic| walk_at "st_Choir_singers") => `(tactic| (with_reducible refine as_DS ?_; (first | (with_reducible refine' ds_setLcXc (hl := ?hl) [("voice", 1)] ⟨.function, [(".0", .local), ("voice", .local)], false, false, []⟩ (by assumption) ?hi ?_; (case hl => ((repeat (with_reducible constructor)); done)); (case hi => (repeat (with_reducible constructor)))) | (with_reducible refine' ds_setCD (by assumption) (by assumption) ?hi ?_ ?hl; (case hl => ((repeat (with_reducible constructor)); done)); (case hi => (repeat (with_reducible constructor)))) | (with_reducible refine ds_forL (by assumption) Df.po ?_))))
set_option hygiene false in
local macro_rules | `(tactic| walk_at "go_Choir_singers") => `(tactic| (repeat (walk_at "st_Choir_singers")))
set_option hygiene false in
local macro_rules | `(tactic| walk_at "st_Choir_operations") => `(tactic| (with_reducible refine as_DI ?_; (first | (with_reducible refine di_seq ?_))))
set_option hygiene false in
local macro_rules | `(tactic| walk_at "st_Choir_operations") => `(tactic| walk_at "g1")
set_option hygiene false in
local macro_rules | `(tactic| walk_at "st_Choir_operations") => `(tactic| (with_reducible refine own_out ?_))
set_option hygiene false in
local macro_rules | `(tactic| walk_at "st_Choir_operations") => `(tactic| (with_reducible refine as_NL ?_; (first | (with_reducible refine nl_fz ?_))))
set_option hygiene false in
local macro_rules | `(tactic| walk_at "st_Choir_operations") => `(tactic| (with_reducible refine as_DE ?_; (first | (with_reducible refine de_lcXc [("entry", 1)] ⟨.function, [(".0", .local), ("entry", .local)], false, false, []⟩ (by assumption) ?_))))
set_option hygiene false in
local macro_rules | `(tactic| walk_at "st_Choir_operations") => `(tactic| (with_reducible refine as_DS ?_; (first | (with_reducible refine' ds_setLcXc (hl := ?hl) [("entry", 1)] ⟨.function, [(".0", .local), ("entry", .local)], false, false, []⟩ (by assumption) ?hi ?_; (case hl => ((repeat (with_reducible constructor)); done)); (case hi => (repeat (with_reducible constructor)))) | (with_reducible refine' ds_setCD (by assumption) (by assumption) ?hi ?_ ?hl; (case hl => ((repeat (with_reducible constructor)); done)); (case hi => (repeat (with_reducible constructor)))) | (with_reducible refine ds_forL (by assumption) Df.po ?_))))
set_option hygiene false in
local macro_rules | `(tactic| walk_at "go_Choir_operations") => `(tactic| (repeat (walk_at "st_Choir_operations")))
section
variable {P : Program} {w : World} {K : PySem.W.Frag} {mg : Str → Option Value} {base : Heap} {a : Adr}
/-- a voice of a choir; a choir's state; an operation with the states around it -/
structure Vc where
  num : Int
  start : Int
  sh : Int
structure CSt where
  beat : Int
  vs : List Vc
  nxt : Int
  cnt : Int
structure COp where
  w : Str
  st : CSt
  st' : CSt
structure Ch where
  st : CSt
  past : List COp
  undone : List COp
abbrev dVc (M : Addr) (ns : List Note) (v : Vc) : D := .tup [.int v.num, .int v.start, dMel M (shiftN v.sh ns)]
abbrev dCSt (M : Addr) (ns : List Note) (s : CSt) : D := .tup [.int s.beat, .tup (s.vs.map (dVc M ns)), .int s.nxt, .int s.cnt]
abbrev dCOp (M : Addr) (ns : List Note) (o : COp) : D := .tup [.str o.w, dCSt M ns o.st, dCSt M ns o.st']
abbrev chFs (M : Addr) (ns : List Note) (sharp : List Int) (st : CSt) (pa un sv : Addr) : List (Str × D) := [("melody", dMel M ns), ("clashing", .tup (sharp.map D.int)), ("now", dCSt M ns st), ("past", .ref pa), ("undone", .ref un), ("saved", .ref sv)]
abbrev chO (C M : Addr) (ns : List Note) (sharp : List Int) (c pa un sv : Addr) (h : Ch) (kvs : List (Key × D)) (O : Own) : Own := (sv, .dK kvs) :: (un, .lst (h.undone.map (dCOp M ns))) :: (pa, .lst (h.past.map (dCOp M ns))) :: (c, .ins C (chFs M ns sharp h.st pa un sv)) :: O
def spChInit (C M : Addr) : DSp := fun ds O E Q => ∃ c ns sharp O', ds = [.ref c, dMel M ns, .tup (sharp.map D.int)] ∧ Sharp sharp ∧ O = (c, .ins C []) :: O' ∧ ∀ pa un sv, Q .non (chO C M ns sharp c pa un sv ⟨⟨0, [], 0, 0⟩, [], []⟩ [] O')
theorem bok_Choir_init (T : Txt K mg a) : BodyOk P w K mg base 3 ["self", "melody", "clashing"] s_Choir_init (spChInit a.C_Choir a.C_Melody) := by
  intro X I S0 Df hr ds O E Q hsp; obtain ⟨rfl, rfl, rfl, rfl, rfl, pa⟩ := I; have S : Sc X _ c_Choir_init := S0; clear S0
  obtain ⟨c, ns, sharp, O', rfl, hS, rfl, q⟩ := hsp
  show DSs X _ [some (.ref c), some (dMel a.C_Melody ns), some (.tup (sharp.map D.int))] _ _ _
  refine dss_cons ?_
  walk_at "go_Choir_init"
  refine dc_fn (ok_check_clashing T) (hr.mono (by decide)) ⟨sharp, rfl, hS, ?_⟩
  walk_at "go_Choir_init"
  refine nl_own fun pa => ?_
  walk_at "go_Choir_init"
  refine nl_own fun un => ?_
  walk_at "go_Choir_init"
  refine de_dnew fun sv => ?_
  walk_at "go_Choir_init"
  exact q pa un sv
theorem ok_Choir_init0 (T : Txt K mg a) : DFn P w K mg base 4 a.f_Choir_init (fun ds O E Q => ds.length = 2 ∧ spChInit a.C_Choir a.C_Melody (ds ++ [.tup [.int 1, .int 2, .int 6, .int 10, .int 11]]) O E Q) := T.Choir_init.ok0 sc_Choir_init (bok_Choir_init T)
/-- an operation in effect -/
def Ch.act (h : Ch) (w : Str) (st : CSt) : Ch := ⟨st, h.past ++ [⟨w, h.st, st⟩], []⟩
def CSt.enter (s : CSt) (sh : Int) : CSt := ⟨s.beat, s.vs ++ [⟨s.nxt, s.beat, sh⟩], s.nxt + 1, s.cnt⟩
def CSt.leave (s : CSt) (n : Int) : CSt := ⟨s.beat, s.vs.filter fun v => decide (v.num ≠ n), s.nxt, s.cnt⟩
def Ch.undo (h : Ch) : Ch := match h.past.getLast? with
  | none => h
  | some o => ⟨o.st, h.past.dropLast, h.undone ++ [o]⟩
def Ch.redo (h : Ch) : Ch := match h.undone.getLast? with
  | none => h
  | some o => ⟨o.st', h.past ++ [o], h.undone.dropLast⟩
def spChRecord (C M : Addr) : DSp := fun ds O E Q => ∃ c pa un sv ns sharp h kvs O' w st, ds = [.ref c, .str w, dCSt M ns st] ∧ h.past.length ≤ 50000 ∧ O = chO C M ns sharp c pa un sv h kvs O' ∧ ∀ un', Q .non (chO C M ns sharp c pa un' sv (h.act w st) kvs O')
theorem ok_Choir_record (T : Txt K mg a) : DFn P w K mg base 1 a.f_Choir_record (spChRecord a.C_Choir a.C_Melody) := by
  refine T.Choir_record.ok sc_Choir_record (fun ds O E Q h => by obtain ⟨_, _, _, _, _, _, _, _, _, _, _, e, _⟩ := h; rw [e]; rfl) ?_
  intro X I S0 Df hr ds O E Q hsp; obtain ⟨rfl, rfl, rfl, rfl, rfl, pa⟩ := I; have S : Sc X _ c_Choir_record := S0; clear S0
  obtain ⟨c, pa, un, sv, ns, sharp, h, kvs, O', w, st, rfl, hl, rfl, q⟩ := hsp
  obtain ⟨s0, past, undone⟩ := h
  have hl : past.length ≤ 50000 := hl
  have hlm : (past.map (dCOp a.C_Melody ns)).length < 100000 := by rw [List.length_map]; omega
  refine DSs.lessQ ?_
  show DSs X _ [some (.ref c), some (.str w), some (dCSt a.C_Melody ns st)] ((sv, .dK kvs) :: (un, .lst (undone.map (dCOp a.C_Melody ns))) :: (pa, .lst (past.map (dCOp a.C_Melody ns))) :: (c, .ins a.C_Choir (chFs a.C_Melody ns sharp s0 pa un sv)) :: O') _ _
  refine dss_cons ?_
  walk_at "go_Choir_record"
  refine nl_own fun un' => ?_
  walk_at "go_Choir_record"
  have q2 : Q .non ((sv, .dK kvs) :: (un', .lst []) :: (pa, .lst (past.map (dCOp a.C_Melody ns) ++ [dCOp a.C_Melody ns ⟨w, s0, st⟩])) :: (c, .ins a.C_Choir (chFs a.C_Melody ns sharp st pa un' sv)) :: O') := by simpa only [Ch.act, chO, List.map_append, List.map_cons, List.map_nil] using q un'
  exact lessQ q2 (.swap _ _ _) (.cons₂ _ (.cons₂ _ (.cons _ (.refl _))))
def spChEnter (C M : Addr) : DSp := fun ds O E Q => ∃ c pa un sv ns sharp h kvs O' sh, ds = [.ref c, .int sh] ∧ Mel ns ∧ Mel (shiftN sh ns) ∧ -24 ≤ sh ∧ sh ≤ 24 ∧ h.past.length ≤ 50000 ∧ h.st.vs.length < 8 ∧ O = chO C M ns sharp c pa un sv h kvs O' ∧ ∀ un', Q (.int h.st.nxt) (chO C M ns sharp c pa un' sv (h.act "enter" (h.st.enter sh)) kvs O')
theorem ok_Choir_enter (T : Txt K mg a) : DFn P w K mg base 9 a.f_Choir_enter (spChEnter a.C_Choir a.C_Melody) := by
  refine T.Choir_enter.ok sc_Choir_enter (fun ds O E Q h => by obtain ⟨_, _, _, _, _, _, _, _, _, _, e, _⟩ := h; rw [e]; rfl) ?_
  intro X I S0 Df hr ds O E Q hsp; obtain ⟨rfl, rfl, rfl, rfl, rfl, pa⟩ := I; have S : Sc X _ c_Choir_enter := S0; clear S0
  obtain ⟨c, pa, un, sv, ns, sharp, h, kvs, O', sh, rfl, hm, hm2, h0, h1, hl, h8, rfl, q⟩ := hsp
  obtain ⟨⟨beat, vs, nxt, cnt⟩, past, undone⟩ := h
  have h8 : vs.length < 8 := h8
  have hv : (vs.map (dVc a.C_Melody ns)).length < 8 := by rw [List.length_map]; exact h8
  show DSs X _ [some (.ref c), some (.int sh), none, none, none, none, none] ((sv, .dK kvs) :: (un, .lst (undone.map (dCOp a.C_Melody ns))) :: (pa, .lst (past.map (dCOp a.C_Melody ns))) :: (c, .ins a.C_Choir (chFs a.C_Melody ns sharp ⟨beat, vs, nxt, cnt⟩ pa un sv)) :: O') _ _
  refine dss_cons ?_
  walk_at "go_Choir_enter"
  refine dc_fn (ok_check_shift T) (hr.mono (by decide)) ⟨sh, rfl, h0, h1, ?_⟩
  walk_at "go_Choir_enter"
  refine br_d (fun h => absurd h (by omega)) (fun _ => ?_)
  walk_at "go_Choir_enter"
  refine ⟨by simp; omega, ?_⟩
  walk_at "go_Choir_enter"
  refine dc_fn (ok_Choir_record T) (hr.mono (by decide)) ⟨c, pa, un, sv, ns, sharp, ⟨⟨beat, vs, nxt, cnt⟩, past, undone⟩, kvs, O', "enter", CSt.enter ⟨beat, vs, nxt, cnt⟩ sh, by simp [CSt.enter], hl, rfl, fun un' => ?_⟩
  walk_at "go_Choir_enter"
  exact q un'
def spChUndo (C M : Addr) : DSp := fun ds O E Q => ∃ c pa un sv ns sharp h kvs O', ds = [.ref c] ∧ h.past.length ≤ 50000 ∧ h.undone.length ≤ 50000 ∧ O = chO C M ns sharp c pa un sv h kvs O' ∧ Q (.bl (!h.past.isEmpty)) (chO C M ns sharp c pa un sv h.undo kvs O')
theorem ok_Choir_undo (T : Txt K mg a) : DFn P w K mg base 1 a.f_Choir_undo (spChUndo a.C_Choir a.C_Melody) := by
  refine T.Choir_undo.ok sc_Choir_undo (fun ds O E Q h => by obtain ⟨_, _, _, _, _, _, _, _, _, e, _⟩ := h; rw [e]; rfl) ?_
  intro X I S0 Df hr ds O E Q hsp; obtain ⟨rfl, rfl, rfl, rfl, rfl, pa⟩ := I; have S : Sc X _ c_Choir_undo := S0; clear S0
  obtain ⟨c, pa, un, sv, ns, sharp, h, kvs, O', rfl, hl, hl2, rfl, q⟩ := hsp
  obtain ⟨s0, past, undone⟩ := h
  have hl : past.length ≤ 50000 := hl
  have hl2 : undone.length ≤ 50000 := hl2
  have hlm : (undone.map (dCOp a.C_Melody ns)).length < 100000 := by rw [List.length_map]; omega
  show DSs X _ [some (.ref c), none] ((sv, .dK kvs) :: (un, .lst (undone.map (dCOp a.C_Melody ns))) :: (pa, .lst (past.map (dCOp a.C_Melody ns))) :: (c, .ins a.C_Choir (chFs a.C_Melody ns sharp s0 pa un sv)) :: O') _ _
  refine dss_cons ?_
  walk_at "go_Choir_undo"
  refine .inl ?_
  refine db_eqE hr (by (repeat (first | with_reducible assumption | with_reducible constructor))) ?_
  walk_at "go_Choir_undo"
  rcases List.eq_nil_or_concat past with rfl | ⟨past, o, rfl⟩
  · walk_at "go_Choir_undo"
    exact q
  rw [List.concat_eq_append, List.map_append]
  refine ⟨fun h => by simp at h, fun _ => ?_⟩
  walk_at "go_Choir_undo"
  refine ⟨pa, _, rfl, .tail (.tail .head), dCOp a.C_Melody ns o, (sv, .dK kvs) :: (un, .lst (undone.map (dCOp a.C_Melody ns))) :: (pa, .lst (past.map (dCOp a.C_Melody ns))) :: (c, .ins a.C_Choir (chFs a.C_Melody ns sharp s0 pa un sv)) :: O', by simp, by rw [List.map_cons, List.map_nil, List.dropLast_concat]; exact .tail (.tail .head), ?_⟩
  walk_at "go_Choir_undo"
  have q2 : Q (.bl true) ((sv, .dK kvs) :: (un, .lst (undone.map (dCOp a.C_Melody ns) ++ [dCOp a.C_Melody ns o])) :: (pa, .lst (past.map (dCOp a.C_Melody ns))) :: (c, .ins a.C_Choir (chFs a.C_Melody ns sharp o.st pa un sv)) :: O') := by
    have e1 : (Ch.undo ⟨s0, past.concat o, undone⟩) = ⟨o.st, past, undone ++ [o]⟩ := by simp [Ch.undo]
    rw [e1] at q
    simpa only [chO, List.map_append, List.map_cons, List.map_nil, List.concat_eq_append, show (!(past ++ [o]).isEmpty) = true by simp] using q
  exact q2
def spChRedo (C M : Addr) : DSp := fun ds O E Q => ∃ c pa un sv ns sharp h kvs O', ds = [.ref c] ∧ h.past.length ≤ 50000 ∧ h.undone.length ≤ 50000 ∧ O = chO C M ns sharp c pa un sv h kvs O' ∧ Q (.bl (!h.undone.isEmpty)) (chO C M ns sharp c pa un sv h.redo kvs O')
theorem ok_Choir_redo (T : Txt K mg a) : DFn P w K mg base 1 a.f_Choir_redo (spChRedo a.C_Choir a.C_Melody) := by
  refine T.Choir_redo.ok sc_Choir_redo (fun ds O E Q h => by obtain ⟨_, _, _, _, _, _, _, _, _, e, _⟩ := h; rw [e]; rfl) ?_
  intro X I S0 Df hr ds O E Q hsp; obtain ⟨rfl, rfl, rfl, rfl, rfl, pa⟩ := I; have S : Sc X _ c_Choir_redo := S0; clear S0
  obtain ⟨c, pa, un, sv, ns, sharp, h, kvs, O', rfl, hl, hl2, rfl, q⟩ := hsp
  obtain ⟨s0, past, undone⟩ := h
  have hl : past.length ≤ 50000 := hl
  have hl2 : undone.length ≤ 50000 := hl2
  have hlm : (past.map (dCOp a.C_Melody ns)).length < 100000 := by rw [List.length_map]; omega
  show DSs X _ [some (.ref c), none] ((sv, .dK kvs) :: (un, .lst (undone.map (dCOp a.C_Melody ns))) :: (pa, .lst (past.map (dCOp a.C_Melody ns))) :: (c, .ins a.C_Choir (chFs a.C_Melody ns sharp s0 pa un sv)) :: O') _ _
  refine dss_cons ?_
  walk_at "go_Choir_redo"
  refine .inl ?_
  refine db_eqE hr (by (repeat (first | with_reducible assumption | with_reducible constructor))) ?_
  walk_at "go_Choir_redo"
  rcases List.eq_nil_or_concat undone with rfl | ⟨undone, o, rfl⟩
  · walk_at "go_Choir_redo"
    exact q
  rw [List.concat_eq_append, List.map_append]
  refine ⟨fun h => by simp at h, fun _ => ?_⟩
  walk_at "go_Choir_redo"
  refine ⟨un, _, rfl, .tail .head, dCOp a.C_Melody ns o, (sv, .dK kvs) :: (un, .lst (undone.map (dCOp a.C_Melody ns))) :: (pa, .lst (past.map (dCOp a.C_Melody ns))) :: (c, .ins a.C_Choir (chFs a.C_Melody ns sharp s0 pa un sv)) :: O', by simp, by rw [List.map_cons, List.map_nil, List.dropLast_concat]; exact .tail .head, ?_⟩
  walk_at "go_Choir_redo"
  have q2 : Q (.bl true) ((sv, .dK kvs) :: (un, .lst (undone.map (dCOp a.C_Melody ns))) :: (pa, .lst (past.map (dCOp a.C_Melody ns) ++ [dCOp a.C_Melody ns o])) :: (c, .ins a.C_Choir (chFs a.C_Melody ns sharp o.st' pa un sv)) :: O') := by
    have e1 : (Ch.redo ⟨s0, past, undone.concat o⟩) = ⟨o.st', past ++ [o], undone⟩ := by simp [Ch.redo]
    rw [e1] at q
    simpa only [chO, List.map_append, List.map_cons, List.map_nil, List.concat_eq_append, show (!(undone ++ [o]).isEmpty) = true by simp] using q
  exact q2
def spChLeave (C M : Addr) : DSp := fun ds O E Q => ∃ c pa un sv ns sharp h kvs O' n v vs', ds = [.ref c, .int n] ∧ h.past.length ≤ 50000 ∧ h.st.vs.length ≤ 8 ∧ (h.st.vs.filter fun v => decide (v.num = n)) = v :: vs' ∧ O = chO C M ns sharp c pa un sv h kvs O' ∧ ∀ un', Q (.int (h.st.beat - v.start)) (chO C M ns sharp c pa un' sv (h.act "leave" (h.st.leave n)) kvs O')
theorem ok_Choir_leave (T : Txt K mg a) : DFn P w K mg base 3 a.f_Choir_leave (spChLeave a.C_Choir a.C_Melody) := by
  refine T.Choir_leave.ok sc_Choir_leave (fun ds O E Q h => by obtain ⟨_, _, _, _, _, _, _, _, _, _, _, _, e, _⟩ := h; rw [e]; rfl) ?_
  intro X I S0 Df hr ds O E Q hsp; obtain ⟨rfl, rfl, rfl, rfl, rfl, pa⟩ := I; have S : Sc X _ c_Choir_leave := S0; clear S0
  obtain ⟨c, pa, un, sv, ns, sharp, h, kvs, O', n, v, vs', rfl, hl, h8, hf, rfl, q⟩ := hsp
  obtain ⟨⟨beat, vs, nxt, cnt⟩, past, undone⟩ := h
  have h8 : vs.length ≤ 8 := h8
  show DSs X _ [some (.ref c), some (.int n), none, none, none, none, none, none, none] ((sv, .dK kvs) :: (un, .lst (undone.map (dCOp a.C_Melody ns))) :: (pa, .lst (past.map (dCOp a.C_Melody ns))) :: (c, .ins a.C_Choir (chFs a.C_Melody ns sharp ⟨beat, vs, nxt, cnt⟩ pa un sv)) :: O') _ _
  refine dss_cons ?_
  walk_at "go_Choir_leave"
  refine ⟨Vc, vs, dVc a.C_Melody ns, fun v => if decide (v.num = n) then [dVc a.C_Melody ns v] else [], rfl, by omega, fun v hv => ?_, ?_⟩
  · walk_at "go_Choir_leave"
    rw [isIn_int, show decide (v.num ≤ n ∧ n ≤ v.num) = decide (v.num = n) from decide_eq_decide.2 (by omega)]
    (first | with_reducible refine br_d (fun h => ?_) (fun h => ?_) | with_reducible refine rb_d (fun h => ?_) (fun h => ?_) | with_reducible refine br_nd (fun h => ?_) (fun h => ?_) | with_reducible refine rb_nd (fun h => ?_) (fun h => ?_))
    · walk_at "go_Choir_leave"
      exact ⟨rfl, if_pos (decide_eq_true h)⟩
    · walk_at "go_Choir_leave"
      exact ⟨rfl, if_neg (by simpa using h)⟩
  rw [fm_fil, hf]
  walk_at "go_Choir_leave"
  refine db_eqLE hr ?_
  walk_at "go_Choir_leave"
  refine ⟨Vc, vs, dVc a.C_Melody ns, fun v => if (!decide (v.num = n)) then [dVc a.C_Melody ns v] else [], rfl, by omega, fun v hv => ?_, ?_⟩
  · walk_at "go_Choir_leave"
    (first | with_reducible refine br_d (fun h => ?_) (fun h => ?_) | with_reducible refine rb_d (fun h => ?_) (fun h => ?_) | with_reducible refine br_nd (fun h => ?_) (fun h => ?_) | with_reducible refine rb_nd (fun h => ?_) (fun h => ?_))
    · walk_at "go_Choir_leave"
      exact ⟨rfl, by simp [h]⟩
    · walk_at "go_Choir_leave"
      exact ⟨rfl, by simp [h]⟩
  rw [fm_fil]
  walk_at "go_Choir_leave"
  refine dc_fn (ok_Choir_record T) (hr.mono (by decide)) ⟨c, pa, un, sv, ns, sharp, ⟨⟨beat, vs, nxt, cnt⟩, past, undone⟩, kvs, O', "leave", CSt.leave ⟨beat, vs, nxt, cnt⟩ n, by simp [CSt.leave], hl, rfl, fun un' => ?_⟩
  walk_at "go_Choir_leave"
  refine dx_lst atI_0 ?_
  walk_at "go_Choir_leave"
  exact q un'
/-- what the voices of a choir sing; the clashes of a row -/
def rowC (ns : List Note) (vs : List Vc) (t : Int) : List (Option Int) := vs.map fun v => soundAt (shiftN v.sh ns) (t - v.start)
def cntAt (sharp : List Int) (row : List (Option Int)) (i : Nat) : Nat := ((row.drop (i + 1)).filter fun o => clashP sharp (row[i]?.getD none) o).length
def cntTo (sharp : List Int) (row : List (Option Int)) (i : Nat) : Nat := ((List.range i).map fun i => cntAt sharp row i).sum
def cntRow (sharp : List Int) (row : List (Option Int)) : Nat := cntTo sharp row row.length
def sungTo (ns : List Note) (sharp : List Int) (vs : List Vc) (b : Int) (k : Nat) : Nat := ((List.range k).map fun i : Nat => cntRow sharp (rowC ns vs (b + (i : Nat)))).sum
theorem cntTo_succ {sharp : List Int} {row : List (Option Int)} {i : Nat} : cntTo sharp row (i + 1) = cntTo sharp row i + cntAt sharp row i := by
  unfold cntTo; rw [List.range_succ, List.map_append, List.sum_append]; simp
theorem sungTo_succ {ns : List Note} {sharp : List Int} {vs : List Vc} {b : Int} {k : Nat} : sungTo ns sharp vs b (k + 1) = sungTo ns sharp vs b k + cntRow sharp (rowC ns vs (b + (k : Nat))) := by
  unfold sungTo; rw [List.range_succ, List.map_append, List.sum_append]; simp
def CSt.sing (s : CSt) (ns : List Note) (sharp : List Int) (n : Int) : CSt := ⟨s.beat + n, s.vs, s.nxt, s.cnt + (sungTo ns sharp s.vs s.beat n.toNat : Nat)⟩
def spChSing (C M : Addr) : DSp := fun ds O E Q => ∃ c pa un sv ns sharp h kvs O' n, ds = [.ref c, .int n] ∧ (∀ v ∈ h.st.vs, Mel (shiftN v.sh ns)) ∧ 0 ≤ n ∧ n ≤ 500 ∧ -(2 ^ 61) ≤ h.st.beat ∧ h.st.beat ≤ 2 ^ 61 ∧ h.past.length ≤ 50000 ∧ h.st.vs.length ≤ 8 ∧ O = chO C M ns sharp c pa un sv h kvs O' ∧ ∀ un', Q (.int (sungTo ns sharp h.st.vs h.st.beat n.toNat : Nat)) (chO C M ns sharp c pa un' sv (h.act "sing" (h.st.sing ns sharp n)) kvs O')
theorem ok_Choir_sing (T : Txt K mg a) : DFn P w K mg base 3 a.f_Choir_sing (spChSing a.C_Choir a.C_Melody) := by
  refine T.Choir_sing.ok sc_Choir_sing (fun ds O E Q h => by obtain ⟨_, _, _, _, _, _, _, _, _, _, e, _⟩ := h; rw [e]; rfl) ?_
  intro X I S0 Df hr ds O E Q hsp; obtain ⟨rfl, rfl, rfl, rfl, rfl, pa⟩ := I; have S : Sc X _ c_Choir_sing := S0; clear S0
  obtain ⟨c, pa, un, sv, ns, sharp, h, kvs, O', n, rfl, hm, n0, n1, b0, b1, hl, h8, rfl, q⟩ := hsp
  obtain ⟨⟨beat, vs, nxt, cnt⟩, past, undone⟩ := h
  have hm : ∀ v ∈ vs, Mel (shiftN v.sh ns) := hm
  have h8 : vs.length ≤ 8 := h8
  have b0 : -(2 ^ 61) ≤ beat := b0
  have b1 : beat ≤ 2 ^ 61 := b1
  show DSs X _ [some (.ref c), some (.int n), none, none, none, none, none, none, none, none, none, none, none, none, none] ((sv, .dK kvs) :: (un, .lst (undone.map (dCOp a.C_Melody ns))) :: (pa, .lst (past.map (dCOp a.C_Melody ns))) :: (c, .ins a.C_Choir (chFs a.C_Melody ns sharp ⟨beat, vs, nxt, cnt⟩ pa un sv)) :: O') _ _
  refine dss_cons ?_
  walk_at "go_Choir_sing"
  have e0 : (beat + n - beat).toNat = n.toNat := by omega
  rw [e0]
  refine ⟨fun i δ' O1 => (∃ x7 x8 x9 x10, δ' = [some (.ref c), some (.int n), some (.int beat), some (.tup (vs.map (dVc a.C_Melody ns))), some (.int nxt), some (.int cnt), some (.int (sungTo ns sharp vs beat i : Nat)), x7, x8, x9, x10, none, none, none, none]) ∧ O1 = ((sv, .dK kvs) :: (un, .lst (undone.map (dCOp a.C_Melody ns))) :: (pa, .lst (past.map (dCOp a.C_Melody ns))) :: (c, .ins a.C_Choir (chFs a.C_Melody ns sharp ⟨beat, vs, nxt, cnt⟩ pa un sv)) :: O'), ⟨⟨_, _, _, _, rfl⟩, rfl⟩, ?_, ?_⟩
  · rintro i d δ' O1 hd ⟨⟨x7, x8, x9, x10, rfl⟩, rfl⟩
    obtain ⟨rfl, hi⟩ := dInts_get hd
    walk_at "go_Choir_sing"
    refine ⟨Vc, vs, dVc a.C_Melody ns, fun v => [dOpt (soundAt (shiftN v.sh ns) (beat + (i : Nat) - v.start))], rfl, by omega, fun v hv => ?_, ?_⟩
    · have hmv := hm v hv
      walk_at "go_Choir_sing"
    rw [fm_map]
    walk_at "go_Choir_sing"
    rw [show vs.map (fun v => dOpt (soundAt (shiftN v.sh ns) (beat + (i : Nat) - v.start))) = dSnd (rowC ns vs (beat + (i : Nat))) by simp [rowC]]
    have hrl : (rowC ns vs (beat + (i : Nat))).length = vs.length := by simp [rowC]
    generalize hrow : rowC ns vs (beat + (i : Nat)) = row at *
    refine ⟨fun j δ' O1 => (∃ x9 x10, δ' = [some (.ref c), some (.int n), some (.int beat), some (.tup (vs.map (dVc a.C_Melody ns))), some (.int nxt), some (.int cnt), some (.int (sungTo ns sharp vs beat i + cntTo sharp row j : Nat)), some (.int (beat + (i : Nat))), some (.lst (dSnd row)), x9, x10, none, none, none, none]) ∧ O1 = ((sv, .dK kvs) :: (un, .lst (undone.map (dCOp a.C_Melody ns))) :: (pa, .lst (past.map (dCOp a.C_Melody ns))) :: (c, .ins a.C_Choir (chFs a.C_Melody ns sharp ⟨beat, vs, nxt, cnt⟩ pa un sv)) :: O'), ⟨⟨_, _, rfl⟩, rfl⟩, ?_, ?_⟩
    · rintro j d δ' O1 hd ⟨⟨x9, x10, rfl⟩, rfl⟩
      obtain ⟨x, hx, rfl⟩ := enumD_get hd
      obtain ⟨o, ho, rfl⟩ := map_get hx
      walk_at "go_Choir_sing"
      rw [cut_from (by omega), show ((j : Int) + 1).toNat = j + 1 by omega, ← List.map_drop]
      walk_at "go_Choir_sing"
      refine ⟨Option Int, row.drop (j + 1), dOpt, fun p => if clashP sharp o p then [dOpt p] else [], rfl, by simp; omega, fun p hp => ?_, ?_⟩
      · walk_at "go_Choir_sing"
        refine dc_fn (ok_do_clash T) (hr.mono (by decide)) ⟨o, p, sharp, rfl, ?_⟩
        refine ex_bl ?_
        cases hc : clashP sharp o p with
        | true => walk_at "go_Choir_sing"
        | false => walk_at "go_Choir_sing"
      rw [fm_fil]
      walk_at "go_Choir_sing"
      have e5 : (cntAt sharp row j : Int) = (((row.drop (j + 1)).filter (clashP sharp o)).map dOpt).length := by rw [List.length_map]; unfold cntAt; rw [ho]; rfl
      have e6 : ((sungTo ns sharp vs beat i + cntTo sharp row j : Nat) : Int) + ((((row.drop (j + 1)).filter (clashP sharp o)).map dOpt).length : Nat) = ((sungTo ns sharp vs beat i + cntTo sharp row (j + 1) : Nat) : Int) := by rw [cntTo_succ]; omega
      rw [e6]
      exact lessd ⟨⟨_, _, rfl⟩, rfl⟩
    · rintro δ' O1 ⟨⟨x9, x10, rfl⟩, rfl⟩
      walk_at "go_Choir_sing"
      have e7 : sungTo ns sharp vs beat i + cntTo sharp row (enumD (dSnd row)).length = sungTo ns sharp vs beat (i + 1) := by rw [enumD_length, List.length_map, sungTo_succ, hrow]; rfl
      rw [e7]
      exact lessd ⟨⟨_, _, _, _, rfl⟩, rfl⟩
  rintro δ' O1 ⟨⟨x7, x8, x9, x10, rfl⟩, rfl⟩
  walk_at "go_Choir_sing"
  refine dc_fn (ok_Choir_record T) (hr.mono (by decide)) ⟨c, pa, un, sv, ns, sharp, ⟨⟨beat, vs, nxt, cnt⟩, past, undone⟩, kvs, O', "sing", CSt.sing ⟨beat, vs, nxt, cnt⟩ ns sharp n, by simp [CSt.sing, dInts_length], hl, rfl, fun un' => ?_⟩
  walk_at "go_Choir_sing"
  rw [dInts_length]
  exact q un'
/-- what may be read of a choir -/
def spChGet (C M : Addr) (f : Ch → D) : DSp := fun ds O E Q => ∃ c pa un sv ns sharp h kvs O', ds = [.ref c] ∧ h.past.length ≤ 50000 ∧ h.st.vs.length ≤ 8 ∧ O = chO C M ns sharp c pa un sv h kvs O' ∧ Q (f h) O
theorem ok_Choir_passed (T : Txt K mg a) : DFn P w K mg base 1 a.f_Choir_passed (spChGet a.C_Choir a.C_Melody fun h => .int h.st.beat) := by
  refine T.Choir_passed.ok sc_Choir_passed (fun ds O E Q h => by obtain ⟨_, _, _, _, _, _, _, _, _, e, _⟩ := h; rw [e]; rfl) ?_
  intro X I S0 Df hr ds O E Q hsp; obtain ⟨rfl, rfl, rfl, rfl, rfl, pa⟩ := I; have S : Sc X _ c_Choir_passed := S0; clear S0
  obtain ⟨c, pa, un, sv, ns, sharp, h, kvs, O', rfl, hl, h8, rfl, q⟩ := hsp
  obtain ⟨⟨beat, vs, nxt, cnt⟩, past, undone⟩ := h
  show DSs X _ [some (.ref c)] ((sv, .dK kvs) :: (un, .lst (undone.map (dCOp a.C_Melody ns))) :: (pa, .lst (past.map (dCOp a.C_Melody ns))) :: (c, .ins a.C_Choir (chFs a.C_Melody ns sharp ⟨beat, vs, nxt, cnt⟩ pa un sv)) :: O') _ _
  refine dss_cons ?_
  walk_at "go_Choir_passed"
  exact q
theorem ok_Choir_clash_count (T : Txt K mg a) : DFn P w K mg base 1 a.f_Choir_clash_count (spChGet a.C_Choir a.C_Melody fun h => .int h.st.cnt) := by
  refine T.Choir_clash_count.ok sc_Choir_clash_count (fun ds O E Q h => by obtain ⟨_, _, _, _, _, _, _, _, _, e, _⟩ := h; rw [e]; rfl) ?_
  intro X I S0 Df hr ds O E Q hsp; obtain ⟨rfl, rfl, rfl, rfl, rfl, pa⟩ := I; have S : Sc X _ c_Choir_clash_count := S0; clear S0
  obtain ⟨c, pa, un, sv, ns, sharp, h, kvs, O', rfl, hl, h8, rfl, q⟩ := hsp
  obtain ⟨⟨beat, vs, nxt, cnt⟩, past, undone⟩ := h
  show DSs X _ [some (.ref c)] ((sv, .dK kvs) :: (un, .lst (undone.map (dCOp a.C_Melody ns))) :: (pa, .lst (past.map (dCOp a.C_Melody ns))) :: (c, .ins a.C_Choir (chFs a.C_Melody ns sharp ⟨beat, vs, nxt, cnt⟩ pa un sv)) :: O') _ _
  refine dss_cons ?_
  walk_at "go_Choir_clash_count"
  exact q
theorem ok_Choir_singers (T : Txt K mg a) : DFn P w K mg base 1 a.f_Choir_singers (spChGet a.C_Choir a.C_Melody fun h => .lst (h.st.vs.map fun v => .int v.num)) := by
  refine T.Choir_singers.ok sc_Choir_singers (fun ds O E Q h => by obtain ⟨_, _, _, _, _, _, _, _, _, e, _⟩ := h; rw [e]; rfl) ?_
  intro X I S0 Df hr ds O E Q hsp; obtain ⟨rfl, rfl, rfl, rfl, rfl, pa⟩ := I; have S : Sc X _ c_Choir_singers := S0; clear S0
  obtain ⟨c, pa, un, sv, ns, sharp, h, kvs, O', rfl, hl, h8, rfl, q⟩ := hsp
  obtain ⟨⟨beat, vs, nxt, cnt⟩, past, undone⟩ := h
  have h8 : vs.length ≤ 8 := h8
  show DSs X _ [some (.ref c), none] ((sv, .dK kvs) :: (un, .lst (undone.map (dCOp a.C_Melody ns))) :: (pa, .lst (past.map (dCOp a.C_Melody ns))) :: (c, .ins a.C_Choir (chFs a.C_Melody ns sharp ⟨beat, vs, nxt, cnt⟩ pa un sv)) :: O') _ _
  refine dss_cons ?_
  walk_at "go_Choir_singers"
  refine ⟨Vc, vs, dVc a.C_Melody ns, fun v => [.int v.num], rfl, by omega, fun v hv => ?_, ?_⟩
  · walk_at "go_Choir_singers"
  rw [fm_map]
  walk_at "go_Choir_singers"
  exact q
theorem ok_Choir_operations (T : Txt K mg a) : DFn P w K mg base 1 a.f_Choir_operations (spChGet a.C_Choir a.C_Melody fun h => .lst (h.past.map fun o => .str o.w)) := by
  refine T.Choir_operations.ok sc_Choir_operations (fun ds O E Q h => by obtain ⟨_, _, _, _, _, _, _, _, _, e, _⟩ := h; rw [e]; rfl) ?_
  intro X I S0 Df hr ds O E Q hsp; obtain ⟨rfl, rfl, rfl, rfl, rfl, pa⟩ := I; have S : Sc X _ c_Choir_operations := S0; clear S0
  obtain ⟨c, pa, un, sv, ns, sharp, h, kvs, O', rfl, hl, h8, rfl, q⟩ := hsp
  obtain ⟨⟨beat, vs, nxt, cnt⟩, past, undone⟩ := h
  have hl : past.length ≤ 50000 := hl
  show DSs X _ [some (.ref c), none] ((sv, .dK kvs) :: (un, .lst (undone.map (dCOp a.C_Melody ns))) :: (pa, .lst (past.map (dCOp a.C_Melody ns))) :: (c, .ins a.C_Choir (chFs a.C_Melody ns sharp ⟨beat, vs, nxt, cnt⟩ pa un sv)) :: O') _ _
  refine dss_one ?_
  refine ds_ret ?_
  refine de_lcXO [("entry", 1)] ⟨.function, [(".0", .local), ("entry", .local)], false, false, []⟩ S ?_
  walk_at "go_Choir_operations"
  refine ⟨pa, _, rfl, (by (repeat (first | with_reducible assumption | with_reducible constructor))), ?_⟩
  walk_at "go_Choir_operations"
  refine ⟨COp, past, dCOp a.C_Melody ns, fun o => [.str o.w], rfl, by omega, fun o ho => ?_, ?_⟩
  · walk_at "go_Choir_operations"
  rw [fm_map]
  walk_at "go_Choir_operations"
  exact q
section
variable {X : Cx} {O : Own} {Q : D → Own → Prop}
theorem pr_passed {k : Nat} {c pa un sv : Addr} {ns : List Note} {sharp : List Int} {h : Ch} {kvs : List (Key × D)} (T : Txt X.K X.mg a) (hr : Room k X.A) (hk : 2 ≤ k) (hl : h.past.length ≤ 50000) (h8 : h.st.vs.length ≤ 8) (q : Q (.int h.st.beat) (chO a.C_Choir a.C_Melody ns sharp c pa un sv h kvs O)) :
    ∃ C fs pr g k sp, IsIns (.ref c) (chO a.C_Choir a.C_Melody ns sharp c pa un sv h kvs O) C fs ∧ Cls X.K C ∧ PropOf X.K C "passed" pr g ∧ DFn X.prog X.w X.K X.mg X.base k g sp ∧ Room (k + 1) X.A ∧ sp [.ref c] (chO a.C_Choir a.C_Melody ns sharp c pa un sv h kvs O) noE Q :=
  ⟨_, _, _, _, _, _, .own (.tail (.tail (.tail .head))), T.Choir.cl, T.Choir_passed.p, ok_Choir_passed T, hr.mono hk, c, pa, un, sv, ns, sharp, h, kvs, O, rfl, hl, h8, rfl, q⟩
theorem pr_clash_count {k : Nat} {c pa un sv : Addr} {ns : List Note} {sharp : List Int} {h : Ch} {kvs : List (Key × D)} (T : Txt X.K X.mg a) (hr : Room k X.A) (hk : 2 ≤ k) (hl : h.past.length ≤ 50000) (h8 : h.st.vs.length ≤ 8) (q : Q (.int h.st.cnt) (chO a.C_Choir a.C_Melody ns sharp c pa un sv h kvs O)) :
    ∃ C fs pr g k sp, IsIns (.ref c) (chO a.C_Choir a.C_Melody ns sharp c pa un sv h kvs O) C fs ∧ Cls X.K C ∧ PropOf X.K C "clash_count" pr g ∧ DFn X.prog X.w X.K X.mg X.base k g sp ∧ Room (k + 1) X.A ∧ sp [.ref c] (chO a.C_Choir a.C_Melody ns sharp c pa un sv h kvs O) noE Q :=
  ⟨_, _, _, _, _, _, .own (.tail (.tail (.tail .head))), T.Choir.cl, T.Choir_clash_count.p, ok_Choir_clash_count T, hr.mono hk, c, pa, un, sv, ns, sharp, h, kvs, O, rfl, hl, h8, rfl, q⟩
theorem pr_singers {k : Nat} {c pa un sv : Addr} {ns : List Note} {sharp : List Int} {h : Ch} {kvs : List (Key × D)} (T : Txt X.K X.mg a) (hr : Room k X.A) (hk : 2 ≤ k) (hl : h.past.length ≤ 50000) (h8 : h.st.vs.length ≤ 8) (q : Q (.lst (h.st.vs.map fun v => .int v.num)) (chO a.C_Choir a.C_Melody ns sharp c pa un sv h kvs O)) :
    ∃ C fs pr g k sp, IsIns (.ref c) (chO a.C_Choir a.C_Melody ns sharp c pa un sv h kvs O) C fs ∧ Cls X.K C ∧ PropOf X.K C "singers" pr g ∧ DFn X.prog X.w X.K X.mg X.base k g sp ∧ Room (k + 1) X.A ∧ sp [.ref c] (chO a.C_Choir a.C_Melody ns sharp c pa un sv h kvs O) noE Q :=
  ⟨_, _, _, _, _, _, .own (.tail (.tail (.tail .head))), T.Choir.cl, T.Choir_singers.p, ok_Choir_singers T, hr.mono hk, c, pa, un, sv, ns, sharp, h, kvs, O, rfl, hl, h8, rfl, q⟩
theorem pr_operations {k : Nat} {c pa un sv : Addr} {ns : List Note} {sharp : List Int} {h : Ch} {kvs : List (Key × D)} (T : Txt X.K X.mg a) (hr : Room k X.A) (hk : 2 ≤ k) (hl : h.past.length ≤ 50000) (h8 : h.st.vs.length ≤ 8) (q : Q (.lst (h.past.map fun o => .str o.w)) (chO a.C_Choir a.C_Melody ns sharp c pa un sv h kvs O)) :
    ∃ C fs pr g k sp, IsIns (.ref c) (chO a.C_Choir a.C_Melody ns sharp c pa un sv h kvs O) C fs ∧ Cls X.K C ∧ PropOf X.K C "operations" pr g ∧ DFn X.prog X.w X.K X.mg X.base k g sp ∧ Room (k + 1) X.A ∧ sp [.ref c] (chO a.C_Choir a.C_Melody ns sharp c pa un sv h kvs O) noE Q :=
  ⟨_, _, _, _, _, _, .own (.tail (.tail (.tail .head))), T.Choir.cl, T.Choir_operations.p, ok_Choir_operations T, hr.mono hk, c, pa, un, sv, ns, sharp, h, kvs, O, rfl, hl, h8, rfl, q⟩
end
end
section
theorem from_drop (row : List (Option Int)) (i : Nat) : (List.range' (i + 1) (row.length - (i + 1))).map (fun j => row[j]?.getD none) = row.drop (i + 1) := by
  refine List.ext_getElem (by simp) fun n h1 h2 => ?_
  have h3 : i + 1 + n < row.length := by simp at h2; omega
  rw [List.getElem_map, List.getElem_range', List.getElem_drop]
  simp [List.getElem?_eq_getElem h3]
theorem pairsFrom_cnt (sharp : List Int) (row : List (Option Int)) (i : Nat) : (pairsFrom sharp row i (row.length - (i + 1))).length = cntAt sharp row i := by
  unfold cntAt pairsFrom
  rw [← from_drop, List.filter_map, List.length_map, List.length_map]
  rfl
theorem pairsTo_cnt (sharp : List Int) (row : List (Option Int)) : ∀ i : Nat, (pairsTo sharp row i).length = cntTo sharp row i
  | 0 => rfl
  | i + 1 => by rw [pairsTo_succ, List.length_append, pairsTo_cnt, pairsFrom_cnt, cntTo_succ]
theorem pairsOf_cnt (sharp : List Int) (row : List (Option Int)) : (pairsOf sharp row).length = cntRow sharp row := pairsTo_cnt sharp row row.length
theorem cntTo_congr {sharp : List Int} {row row2 : List (Option Int)} : ∀ {n : Nat}, (∀ i, i < n → cntAt sharp row i = cntAt sharp row2 i) → cntTo sharp row n = cntTo sharp row2 n
  | 0, _ => rfl
  | n + 1, h => by rw [cntTo_succ, cntTo_succ, cntTo_congr fun i hi => h i (by omega), h n (by omega)]
theorem cntRow_none (sharp : List Int) (row : List (Option Int)) : cntRow sharp (row ++ [none]) = cntRow sharp row := by
  have e : ∀ i, i < row.length → cntAt sharp (row ++ [none]) i = cntAt sharp row i := fun i hi => by
    unfold cntAt
    rw [List.getElem?_append_left hi, List.drop_append_of_le_length (by omega), List.filter_append]
    have : clashP sharp (row[i]?.getD none) none = false := by cases row[i]?.getD none <;> rfl
    simp [this]
  unfold cntRow
  rw [List.length_append, List.length_singleton, cntTo_succ, cntTo_congr e]
  have : cntAt sharp (row ++ [none]) row.length = 0 := by unfold cntAt; simp
  omega
/-- the voices of a choir that has the voices of a round -/
def vcs (vs : List Voice) : List Vc := (List.range vs.length).map fun i => ⟨(i : Nat), (vs[i]?.getD (0, 0)).1, (vs[i]?.getD (0, 0)).2⟩
theorem vcs_snoc (vs : List Voice) (v : Voice) : vcs (vs ++ [v]) = vcs vs ++ [⟨(vs.length : Nat), v.1, v.2⟩] := by
  unfold vcs
  rw [List.length_append, List.length_singleton, List.range_succ, List.map_append]
  congr 1
  · refine List.map_congr_left fun i hi => ?_
    rw [List.getElem?_append_left (List.mem_range.1 hi)]
  · simp
theorem rowC_cong (ns : List Note) (t : Int) (l : List Vc) (vs : List Voice) (h : l.map (fun v => (v.start, v.sh)) = vs) (hb : ∀ v ∈ vs, v.1 ≤ t) : rowC ns l t = soundsR ns vs t := by
  subst h
  unfold rowC soundsR
  rw [List.map_map]
  refine List.map_congr_left fun v hv => ?_
  have := hb (v.start, v.sh) (List.mem_map.2 ⟨v, hv, rfl⟩)
  show _ = if v.start ≤ t then _ else _
  rw [if_pos this, soundAt_shift]
theorem vcs_proj (vs : List Voice) : (vcs vs).map (fun v => (v.start, v.sh)) = vs := by
  refine List.ext_getElem (by simp [vcs]) fun n h1 h2 => ?_
  simp [vcs, List.getElem?_eq_getElem h2]
/-- what a choir counts is what a round counts -/
theorem sung_round {ns : List Note} {sharp : List Int} {l : List Vc} {vs : List Voice} (hl : l.map (fun v => (v.start, v.sh)) = vs) {b : Nat} (hb : ∀ v ∈ vs, v.1 ≤ (b : Nat)) : ∀ k : Nat, ((sungTo ns sharp l (b : Nat) k : Nat) : Int) = DL.upTo (fun i => cntR ns vs sharp (b + i)) k
  | 0 => rfl
  | k + 1 => by
    rw [sungTo_succ, Int.natCast_add, sung_round hl hb k]
    show _ = DL.upTo (fun i => cntR ns vs sharp (b + i)) k + cntR ns vs sharp (b + k)
    congr 1
    unfold cntR pairsAt
    rw [pairsOf_cnt, rowC_cong ns _ l vs hl (fun v hv => by have := hb v hv; omega)]
    rfl
theorem clashes_len {ns : List Note} {sharp : List Int} {vs : List Voice} {b : Nat} : ∀ k : Nat, ((clashesR ns vs sharp (b : Nat) k).length : Int) = DL.upTo (fun i => cntR ns vs sharp (b + i)) k
  | 0 => rfl
  | k + 1 => by
    rw [clashesR_succ, List.length_append, List.length_map, Int.natCast_add, clashes_len k]
    rfl
/-- a voice that begins later changes nothing before -/
theorem cntR_later {ns : List Note} {sharp : List Int} {vs : List Voice} {v : Voice} {b : Nat} (h : (b : Int) < v.1) : cntR ns (vs ++ [v]) sharp b = cntR ns vs sharp b := by
  unfold cntR pairsAt
  rw [pairsOf_cnt, pairsOf_cnt]
  have : soundsR ns (vs ++ [v]) (b : Nat) = soundsR ns vs (b : Nat) ++ [none] := by
    unfold soundsR
    rw [List.map_append, List.map_singleton, if_neg (by omega)]
  rw [this, cntRow_none]
/-- the operations in effect lead from one state to another -/
inductive Chn (s0 : CSt) : List COp → CSt → Prop
  | nil : Chn s0 [] s0
  | snoc {p : List COp} {s s' : CSt} {w : Str} : Chn s0 p s → Chn s0 (p ++ [⟨w, s, s'⟩]) s'
theorem Chn.act {s0 : CSt} {h : Ch} (c : Chn s0 h.past h.st) (w : Str) (s' : CSt) : Chn s0 (h.act w s').past (h.act w s').st := .snoc c
/-- so many operations are undone -/
theorem Chn.undo {s0 s : CSt} {p : List COp} {o : COp} (c : Chn s0 (p ++ [o]) s) : Chn s0 p o.st ∧ o.st' = s := by
  generalize hq : p ++ [o] = q at c
  cases c with
  | nil => simp at hq
  | snoc c =>
    obtain ⟨rfl, e⟩ := List.append_inj' hq rfl
    injection e with e
    subst e
    exact ⟨c, rfl⟩
theorem undo_snoc (s : CSt) (p u : List COp) (o : COp) : (Ch.mk s (p ++ [o]) u).undo = ⟨o.st, p, u ++ [o]⟩ := by simp [Ch.undo]
theorem redo_snoc (s : CSt) (p u : List COp) (o : COp) : (Ch.mk s p (u ++ [o])).redo = ⟨o.st', p ++ [o], u⟩ := by simp [Ch.redo]
abbrev sh0 : List Int := [1, 2, 6, 10, 11]
/-- a choir beside its round -/
structure LI (ms : List Note) (h : Ch) (vs : List Voice) (i : Nat) : Prop where
  len : vs.length = i
  hv : h.st.vs = vcs vs
  nxt : h.st.nxt = (i : Nat)
  b0 : 0 ≤ h.st.beat
  b1 : h.st.beat ≤ 60 * (i : Int)
  vr : ∀ v ∈ vs, (0 ≤ v.1 ∧ v.1 ≤ h.st.beat) ∧ (-24 ≤ v.2 ∧ v.2 ≤ 24) ∧ Mel (shiftN v.2 ms)
  pl : h.past.length = 2 * i
  un : h.undone = []
  ch : Chn ⟨0, [], 0, 0⟩ h.past h.st
  cnt : h.st.cnt = DL.upTo (cntR ms vs sh0) h.st.beat.toNat
theorem LI.start (ms : List Note) : LI ms ⟨⟨0, [], 0, 0⟩, [], []⟩ [] 0 :=
  ⟨rfl, rfl, rfl, by decide, by decide, fun v hv => (nomatch hv), rfl, rfl, .nil, rfl⟩
theorem LI.sung {ms : List Note} {h : Ch} {vs : List Voice} {i : Nat} (I : LI ms h vs i) {sh n : Int} : ((sungTo ms sh0 (h.st.vs ++ [⟨h.st.nxt, h.st.beat, sh⟩]) h.st.beat n.toNat : Nat) : Int) = ((clashesR ms (vs ++ [(h.st.beat, sh)]) sh0 h.st.beat n.toNat).length : Int) := by
  obtain ⟨b, hb⟩ := Int.eq_ofNat_of_zero_le I.b0
  have e : (h.st.vs ++ [(⟨h.st.nxt, h.st.beat, sh⟩ : Vc)]).map (fun v => (v.start, v.sh)) = vs ++ [(h.st.beat, sh)] := by rw [I.hv, List.map_append, vcs_proj]; rfl
  rw [hb] at e ⊢
  rw [sung_round e, clashes_len]
  intro v hv
  rcases List.mem_append.1 hv with hv | hv
  · have := (I.vr v hv).1.2; omega
  · rw [List.mem_singleton.1 hv]; exact Int.le_refl _
theorem LI.next {ms : List Note} {h : Ch} {vs : List Voice} {i : Nat} (I : LI ms h vs i) {sh n : Int} (s0 : -24 ≤ sh) (s1 : sh ≤ 24) (hm2 : Mel (shiftN sh ms)) (n0 : 0 ≤ n) (n1 : n < 60) : LI ms ((h.act "enter" (h.st.enter sh)).act "sing" ((h.st.enter sh).sing ms sh0 n)) (vs ++ [(h.st.beat, sh)]) (i + 1) := by
  have b0 := I.b0
  have b1 := I.b1
  refine ⟨by simp [I.len], ?_, ?_, ?_, ?_, fun v hv => ?_, ?_, rfl, (I.ch.act _ _).act _ _, ?_⟩
  · show h.st.vs ++ [_] = _
    rw [vcs_snoc, I.hv, I.nxt, I.len]
  · show h.st.nxt + 1 = _
    rw [I.nxt]; omega
  · show 0 ≤ h.st.beat + n
    omega
  · show h.st.beat + n ≤ _
    omega
  · show (0 ≤ v.1 ∧ v.1 ≤ h.st.beat + n) ∧ _
    rcases List.mem_append.1 hv with hv | hv
    · obtain ⟨⟨h1, h2⟩, h3, h4⟩ := I.vr v hv
      exact ⟨⟨h1, by omega⟩, h3, h4⟩
    · rw [List.mem_singleton.1 hv]
      exact ⟨⟨b0, show h.st.beat ≤ h.st.beat + n by omega⟩, ⟨s0, s1⟩, hm2⟩
  · show ((h.past ++ [_]) ++ [_]).length = _
    have := I.pl
    simp
    omega
  · show h.st.cnt + ((sungTo ms sh0 (h.st.vs ++ [_]) h.st.beat n.toNat : Nat) : Int) = DL.upTo _ (h.st.beat + n).toNat
    rw [I.sung, I.cnt]
    obtain ⟨b, hb⟩ := Int.eq_ofNat_of_zero_le b0
    obtain ⟨m, hm⟩ := Int.eq_ofNat_of_zero_le n0
    rw [hb, hm, clashes_len, show ((b : Int) + (m : Int)).toNat = b + m by omega, Int.toNat_natCast, Int.toNat_natCast, DL.upTo_add]
    congr 1
    refine DL.upTo_congr fun j hj => ?_
    rw [cntR_later]
    show (j : Int) < (b : Int)
    omega
/-- so many operations are undone -/
structure UI (s0 : CSt) (ps : List COp) (i : Nat) (h : Ch) : Prop where
  sp : ∃ back, h.past ++ back = ps ∧ back.length = i ∧ h.undone = back.reverse
  ch : Chn s0 h.past h.st
theorem UI.next {s0 : CSt} {ps : List COp} {i : Nat} {h : Ch} (I : UI s0 ps i h) (hi : i < ps.length) : h.past ≠ [] ∧ UI s0 ps (i + 1) h.undo := by
  obtain ⟨⟨back, e1, e2, e3⟩, ch⟩ := I
  obtain ⟨s, p, u⟩ := h
  have e1 : p ++ back = ps := e1
  have e3 : u = back.reverse := e3
  rcases List.eq_nil_or_concat p with rfl | ⟨p, o, rfl⟩
  · rw [List.nil_append] at e1; subst e1; omega
  · rw [List.concat_eq_append] at e1 ch ⊢
    obtain ⟨c1, c2⟩ := Chn.undo (show Chn s0 (p ++ [o]) s from ch)
    refine ⟨by simp, ?_⟩
    rw [undo_snoc]
    exact ⟨⟨o :: back, by rw [← e1, List.append_assoc]; rfl, by simp [e2], by show u ++ [o] = _; rw [show u = back.reverse from e3]; simp⟩, c1⟩
theorem UI.last {s0 : CSt} {ps : List COp} {h : Ch} (I : UI s0 ps ps.length h) : h.past = [] ∧ h.undone = ps.reverse ∧ h.st = s0 := by
  obtain ⟨⟨back, e1, e2, e3⟩, ch⟩ := I
  have h0 : h.past = [] := by
    have := congrArg List.length e1
    rw [List.length_append] at this
    exact List.eq_nil_of_length_eq_zero (by omega)
  rw [h0] at e1 ch
  refine ⟨h0, by rw [e3]; rw [List.nil_append] at e1; rw [e1], ?_⟩
  generalize hq : h.st = q at ch
  generalize hz : ([] : List COp) = z at ch
  cases ch with
  | nil => rfl
  | snoc c => simp at hz
/-- so many are done again -/
def stAt (s0 : CSt) (ps : List COp) : Nat → CSt
  | 0 => s0
  | j + 1 => (ps[j]?.map (·.st')).getD s0
structure RI (s0 : CSt) (ps : List COp) (j : Nat) (h : Ch) : Prop where
  pa : h.past = ps.take j
  un : h.undone = (ps.drop j).reverse
  st : h.st = stAt s0 ps j
theorem RI.start {s0 : CSt} {ps : List COp} {h : Ch} (I : UI s0 ps ps.length h) : RI s0 ps 0 h := by
  obtain ⟨a, b, c⟩ := I.last
  exact ⟨by rw [a]; simp, by rw [b]; simp, c⟩
theorem RI.next {s0 : CSt} {ps : List COp} {j : Nat} {h : Ch} (I : RI s0 ps j h) (hj : j < ps.length) : h.undone ≠ [] ∧ RI s0 ps (j + 1) h.redo := by
  have a := I.pa
  have b := I.un
  clear I
  obtain ⟨s, p, u⟩ := h
  have a : p = ps.take j := a
  have b : u = (ps.drop j).reverse := b
  rw [List.drop_eq_getElem_cons hj, List.reverse_cons] at b
  rw [a, b]
  refine ⟨by simp, ?_⟩
  rw [redo_snoc]
  exact ⟨by rw [List.take_add_one, List.getElem?_eq_getElem hj]; rfl, rfl, by simp [stAt, List.getElem?_eq_getElem hj]⟩
theorem Chn.last {s0 s : CSt} {ps : List COp} (c : Chn s0 ps s) : s = stAt s0 ps ps.length := by
  cases c with
  | nil => rfl
  | @snoc p s1 s' w c => simp [stAt]
end
set_option hygiene false in
local macro_rules | `(tactic| walk_at "st_law_operation") => `(tactic| (with_reducible refine as_DI ?_; (first | (with_reducible refine di_seq ?_))))
set_option hygiene false in
local macro_rules | `(tactic| walk_at "st_law_operation") => `(tactic| walk_at "g1")
set_option hygiene false in
local macro_rules | `(tactic| walk_at "st_law_operation") => `(tactic| (with_reducible refine own_out ?_))
set_option hygiene false in
local macro_rules | `(tactic| walk_at "st_law_operation") => `(tactic| (with_reducible refine as_NL ?_; (first | (with_reducible refine nl_fz ?_))))
set_option hygiene false in
local macro_rules | `(tactic| walk_at "st_law_operation") => `(tactic| (with_reducible refine as_DS ?_; (first | (with_reducible refine' ds_setCD (by assumption) (by assumption) ?hi ?_ ?hl; (case hl => ((repeat (with_reducible constructor)); done)); (case hi => (repeat (with_reducible constructor)))) | (with_reducible refine ds_forL (by assumption) Df.po ?_))))
set_option hygiene false in
local macro_rules | `(tactic| walk_at "go_law_operation") => `(tactic| (repeat (walk_at "st_law_operation")))
set_option hygiene false in
local macro_rules | `(tactic| walk_at "st_law_worked_on") => `(tactic| (with_reducible refine as_DI ?_; (first | (with_reducible refine di_seq ?_))))
set_option hygiene false in
local macro_rules | `(tactic| walk_at "st_law_worked_on") => `(tactic| walk_at "g1")
set_option hygiene false in
local macro_rules | `(tactic| walk_at "st_law_worked_on") => `(tactic| (with_reducible refine own_out ?_))
set_option hygiene false in
local macro_rules | `(tactic| walk_at "st_law_worked_on") => `(tactic| (with_reducible refine as_NL ?_; (first | (with_reducible refine nl_fz ?_))))
set_option hygiene false in
local macro_rules | `(tactic| walk_at "st_law_worked_on") => `(tactic| (with_reducible refine as_DE ?_; (first | (with_reducible refine de_lcXc [("_law_voice", 13)] ⟨.function, [(".0", .local), ("_law_voice", .local), ("_law_value", .cell)], false, false, []⟩ (by assumption) ?_) | (with_reducible refine de_lcXc [("_law_voice", 13)] ⟨.function, [(".0", .local), ("_law_voice", .local)], false, false, []⟩ (by assumption) ?_))))
set_option hygiene false in
local macro_rules | `(tactic| walk_at "st_law_worked_on") => `(tactic| (with_reducible refine as_DS ?_; (first | (with_reducible refine' ds_setLcXc (hl := ?hl) [("_law_voice", 13)] ⟨.function, [(".0", .local), ("_law_voice", .local), ("_law_value", .cell)], false, false, []⟩ (by assumption) ?hi ?_; (case hl => ((repeat (with_reducible constructor)); done)); (case hi => (repeat (with_reducible constructor)))) | (with_reducible refine' ds_setLcXc (hl := ?hl) [("_law_voice", 13)] ⟨.function, [(".0", .local), ("_law_voice", .local)], false, false, []⟩ (by assumption) ?hi ?_; (case hl => ((repeat (with_reducible constructor)); done)); (case hi => (repeat (with_reducible constructor)))) | (with_reducible refine' ds_setCD (by assumption) (by assumption) ?hi ?_ ?hl; (case hl => ((repeat (with_reducible constructor)); done)); (case hi => (repeat (with_reducible constructor)))) | (with_reducible refine ds_forL (by assumption) Df.po ?_))))
set_option hygiene false in
local macro_rules | `(tactic| walk_at "go_law_worked_on") => `(tactic| (repeat (walk_at "st_law_worked_on")))
section
variable {P : Program} {w : World} {K : PySem.W.Frag} {mg : Str → Option Value} {base : Heap} {a : Adr}
inductive Opn
  | enter (sh : Int) | leave (n : Int) | sing (b : Int) | undo | redo
abbrev dOpn : Opn → D
  | .enter sh => .tup [.str "enter", .int sh]
  | .leave n => .tup [.str "leave", .int n]
  | .sing b => .tup [.str "sing", .int b]
  | .undo => .tup [.str "undo"]
  | .redo => .tup [.str "redo"]
def okOpn : Opn → Prop
  | .enter sh => -24 ≤ sh ∧ sh ≤ 25
  | .leave n => 0 ≤ n ∧ n ≤ 10000
  | .sing b => 0 ≤ b ∧ b ≤ 501
  | _ => True
def spLOperation : DSp := fun ds O E Q => ∃ r m, ds = [.ref r, .int m] ∧ 0 ≤ m ∧ m ≤ 10000 ∧ At r .src O ∧ ∀ op, okOpn op → Q (dOpn op) O
theorem ok_law_operation (T : Txt K mg a) : DFn P w K mg base 2 a.f_law_operation spLOperation := by
  refine T.law_operation.ok sc_law_operation (fun ds O E Q h => by obtain ⟨_, _, e, _⟩ := h; rw [e]; rfl) ?_
  intro X I S0 Df hr ds O E Q hsp; obtain ⟨rfl, rfl, rfl, rfl, rfl, pa⟩ := I; have S : Sc X _ c_law_operation := S0; clear S0
  obtain ⟨r, m, rfl, m0, m1, ha, q⟩ := hsp
  show DSs X _ [some (.ref r), some (.int m), none] O _ _
  refine dss_cons ?_
  walk_at "go_law_operation"
  intro kd k0 k1
  walk_at "go_law_operation"
  refine br_d (fun h => ?_) (fun h => ?_)
  · walk_at "go_law_operation"
    intro v v0 v1
    walk_at "go_law_operation"
    intro u u0 u1
    obtain ⟨j, e1, j0, j1⟩ := at_in (xs := [0, 0, 0, 1, 1, 2, 3]) (Q := fun x => 0 ≤ x ∧ x ≤ 3) u0 (by simpa using u1) (by decide)
    refine dx_lst e1 ?_
    obtain ⟨sh, e2, b1, b2⟩ := at_in (xs := [v - 4, 0, 24, 25]) (Q := fun x => -24 ≤ x ∧ x ≤ 25) j0 (by simp; omega) (by simp; omega)
    refine dx_lst e2 ?_
    walk_at "go_law_operation"
    exact q (.enter sh) ⟨b1, b2⟩
  walk_at "go_law_operation"
  refine br_d (fun h2 => ?_) (fun h2 => ?_)
  · walk_at "go_law_operation"
    intro v v0 v1
    walk_at "go_law_operation"
    exact q (.leave v) ⟨v0, by omega⟩
  walk_at "go_law_operation"
  refine br_d (fun h3 => ?_) (fun h3 => ?_)
  · walk_at "go_law_operation"
    intro v v0 v1
    walk_at "go_law_operation"
    intro t t0 t1
    walk_at "go_law_operation"
    intro u u0 u1
    obtain ⟨j, e1, j0, j1⟩ := at_in (xs := [0, 0, 0, 1, 1, 2]) (Q := fun x => 0 ≤ x ∧ x ≤ 2) u0 (by simpa using u1) (by decide)
    refine dx_lst e1 ?_
    obtain ⟨b, e2, b1, b2⟩ := at_in (xs := [v, t, 501]) (Q := fun x => 0 ≤ x ∧ x ≤ 501) j0 (by simp; omega) (by simp; omega)
    refine dx_lst e2 ?_
    walk_at "go_law_operation"
    exact q (.sing b) ⟨b1, b2⟩
  walk_at "go_law_operation"
  rcases (show kd = 8 ∨ kd = 9 ∨ kd = 10 ∨ kd = 11 by omega) with rfl | rfl | rfl | rfl
  · refine dx_lst (show atI _ _ = some (D.str "undo") from rfl) ?_
    walk_at "go_law_operation"
    exact q .undo trivial
  · refine dx_lst (show atI _ _ = some (D.str "undo") from rfl) ?_
    walk_at "go_law_operation"
    exact q .undo trivial
  · refine dx_lst (show atI _ _ = some (D.str "redo") from rfl) ?_
    walk_at "go_law_operation"
    exact q .redo trivial
  · refine dx_lst (show atI _ _ = some (D.str "redo") from rfl) ?_
    walk_at "go_law_operation"
    exact q .redo trivial
/-- what an operation does to a state: an error, or its result and the new state -/
inductive On
  | bad (e : Er) | good (v : Int) (s : CSt)
def onR (ms : List Note) (s : CSt) : Opn → On
  | .enter sh => if -24 ≤ sh ∧ sh ≤ 24 then (if inRange (shiftN sh ms) = true then (if 7 < s.vs.length then .bad .many else .good s.nxt (s.enter sh)) else .bad .range) else .bad .number
  | .leave n => match s.vs.filter fun v => decide (v.num = n) with
    | [] => .bad .voice
    | v :: _ => .good (s.beat - v.start) (s.leave n)
  | .sing b => if 500 < b then .bad .number else .good (sungTo ms sh0 s.vs s.beat b.toNat : Nat) (s.sing ms sh0 b)
  | _ => .bad .voice
def erNm : Er → Str
  | .number => "number" | .range => "range" | .many => "many" | _ => "voice"
abbrev lVc (v : Vc) : D := .tup [.int v.num, .int v.start, .int v.sh]
abbrev lSt (s : CSt) : D := .tup [.int s.beat, .lst (s.vs.map lVc), .int s.nxt, .int s.cnt]
abbrev lPa (o : COp) : D := .tup [.str o.w, lSt o.st]
abbrev lUn (o : COp) : D := .tup [lPa o, lSt o.st']
abbrev dW (ms : List Note) (h : Ch) : D := .lst [.lst (ms.map dNote), lSt h.st, .lst (h.past.map lPa), .lst (h.undone.map lUn)]
def dOn (s : CSt) : On → D
  | .bad e => .tup [.str (erNm e), .int 0, lSt s]
  | .good v s' => .tup [.str "", .int v, lSt s']
def isOn : Opn → Prop
  | .undo => False
  | .redo => False
  | _ => True
/-- a state that a law may meet -/
structure OkS (ms : List Note) (n : Nat) (s : CSt) : Prop where
  v8 : s.vs.length ≤ 8
  b0 : 0 ≤ s.beat
  b1 : s.beat ≤ 500 * n
  x0 : 0 ≤ s.nxt
  x1 : s.nxt ≤ n
  vr : ∀ v ∈ s.vs, v.start ≤ s.beat ∧ Mel (shiftN v.sh ms)
def spWorkedOn : DSp := fun ds O E Q => ∃ ms s n op, ds = [.lst (ms.map dNote), lSt s, dOpn op] ∧ Mel ms ∧ OkS ms n s ∧ n ≤ 5000 ∧ okOpn op ∧ isOn op ∧ Q (dOn s (onR ms s op)) O
theorem ok_law_worked_on (T : Txt K mg a) : DFn P w K mg base 4 a.f_law_worked_on spWorkedOn := by
  refine T.law_worked_on.ok sc_law_worked_on (fun ds O E Q h => by obtain ⟨_, _, _, _, e, _⟩ := h; rw [e]; rfl) ?_
  intro X I S0 Df hr ds O E Q hsp; obtain ⟨rfl, rfl, rfl, rfl, rfl, pa⟩ := I; have S : Sc X _ c_law_worked_on := S0; clear S0
  obtain ⟨ms, s, n, op, rfl, hm, hs, hn, ho, hi, q⟩ := hsp
  have h8 := hs.v8
  have h32 := hm.le
  cases op with
  | undo => exact hi.elim
  | redo => exact hi.elim
  | enter sh =>
    show DSs X _ [some (.lst (ms.map dNote)), some (lSt s), some (.tup [.str "enter", .int sh]), none, none, none, none, none, none, none, none, none, none, none] O _ _
    refine dss_cons ?_
    walk_at "go_law_worked_on"
    refine ⟨fun h => ?_, fun h => ?_⟩
    · have h : (0:Int) - 24 ≤ sh := by simpa using h
      walk_at "go_law_worked_on"
      refine br_nd (fun h2 => ?_) (fun h2 => ?_)
      · walk_at "go_law_worked_on"
        rw [show onR ms s (.enter sh) = .bad .number from if_neg (by omega)] at q
        exact q
      · walk_at "go_law_worked_on"
        refine dc_fn (ok_law_shifted T) (hr.mono (by decide)) ⟨ms, sh, rfl, by omega, ?_⟩
        walk_at "go_law_worked_on"
        refine dc_fn (ok_law_fits T) (hr.mono (by decide)) ⟨shiftN sh ms, rfl, by rw [shiftN_length]; omega, ?_⟩
        have e1 : onR ms s (.enter sh) = _ := if_pos (by omega)
        rw [e1] at q
        cases hR : inRange (shiftN sh ms) with
        | false =>
          walk_at "go_law_worked_on"
          rw [if_neg (by rw [hR]; decide)] at q
          exact q
        | true =>
          rw [if_pos hR] at q
          walk_at "go_law_worked_on"
          refine br_d (fun h3 => ?_) (fun h3 => ?_)
          · walk_at "go_law_worked_on"
            rw [List.length_map] at h3
            rw [if_pos (by omega)] at q
            exact q
          · walk_at "go_law_worked_on"
            rw [List.length_map] at h3
            rw [if_neg (by omega)] at q
            have q : Q (.tup [.str "", .int s.nxt, lSt (s.enter sh)]) O := q
            refine db_cat (by simp; omega) ?_
            walk_at "go_law_worked_on"
            simpa only [lSt, CSt.enter, List.map_append, List.map_cons, List.map_nil] using q
    · walk_at "go_law_worked_on"
      have h : ¬ (0:Int) - 24 ≤ sh := by simpa using h
      rw [show onR ms s (.enter sh) = .bad .number from if_neg (by omega)] at q
      exact q
  | leave k =>
    show DSs X _ [some (.lst (ms.map dNote)), some (lSt s), some (.tup [.str "leave", .int k]), none, none, none, none, none, none, none, none, none, none, none] O _ _
    refine dss_cons ?_
    walk_at "go_law_worked_on"
    refine ⟨Vc, s.vs, lVc, fun v => if decide (v.num = k) then [lVc v] else [], rfl, by omega, fun v hv => ?_, ?_⟩
    · walk_at "go_law_worked_on"
      (first | with_reducible refine br_d (fun h => ?_) (fun h => ?_) | with_reducible refine rb_d (fun h => ?_) (fun h => ?_) | with_reducible refine br_nd (fun h => ?_) (fun h => ?_) | with_reducible refine rb_nd (fun h => ?_) (fun h => ?_))
      · walk_at "go_law_worked_on"
        exact ⟨rfl, if_pos (decide_eq_true h)⟩
      · walk_at "go_law_worked_on"
        exact ⟨rfl, if_neg (by simpa using h)⟩
    rw [fm_fil]
    have e1 : onR ms s (.leave k) = match s.vs.filter fun v => decide (v.num = k) with
      | [] => .bad .voice
      | v :: _ => .good (s.beat - v.start) (s.leave k) := rfl
    rw [e1] at q
    cases hf : (s.vs.filter fun v => decide (v.num = k)) with
    | nil =>
      rw [hf] at q
      walk_at "go_law_worked_on"
      refine db_eqLE hr ?_
      walk_at "go_law_worked_on"
      exact q
    | cons v vs' =>
      rw [hf] at q
      walk_at "go_law_worked_on"
      refine db_eqLE hr ?_
      walk_at "go_law_worked_on"
      refine dx_lst atI_0 ?_
      walk_at "go_law_worked_on"
      refine ⟨Vc, s.vs, lVc, fun v => if (!decide (v.num = k)) then [lVc v] else [], rfl, by omega, fun v hv => ?_, ?_⟩
      · walk_at "go_law_worked_on"
        (first | with_reducible refine br_d (fun h => ?_) (fun h => ?_) | with_reducible refine rb_d (fun h => ?_) (fun h => ?_) | with_reducible refine br_nd (fun h => ?_) (fun h => ?_) | with_reducible refine rb_nd (fun h => ?_) (fun h => ?_))
        · walk_at "go_law_worked_on"
          exact ⟨rfl, by simp [h]⟩
        · walk_at "go_law_worked_on"
          exact ⟨rfl, by simp [h]⟩
      rw [fm_fil]
      walk_at "go_law_worked_on"
      have q : Q (.tup [.str "", .int (s.beat - v.start), lSt (s.leave k)]) O := q
      rw [show (s.vs.filter fun v => !decide (v.num = k)) = (s.leave k).vs by simp [CSt.leave]]
      exact q
  | sing b =>
    have hb : 0 ≤ b ∧ b ≤ 501 := ho
    have sb0 := hs.b0
    have sb1 := hs.b1
    show DSs X _ [some (.lst (ms.map dNote)), some (lSt s), some (.tup [.str "sing", .int b]), none, none, none, none, none, none, none, none, none, none, none] O _ _
    refine dss_cons ?_
    walk_at "go_law_worked_on"
    refine br_d (fun h => ?_) (fun h => ?_)
    · walk_at "go_law_worked_on"
      rw [show onR ms s (.sing b) = .bad .number from if_pos h] at q
      exact q
    rw [show onR ms s (.sing b) = .good (sungTo ms sh0 s.vs s.beat b.toNat : Nat) (s.sing ms sh0 b) from if_neg h] at q
    have q : Q (.tup [.str "", .int (sungTo ms sh0 s.vs s.beat b.toNat : Nat), lSt (s.sing ms sh0 b)]) O := q
    walk_at "go_law_worked_on"
    have e0 : (s.beat + b - s.beat).toNat = b.toNat := by omega
    rw [e0]
    refine ⟨fun i δ' O1 => (∃ x11 x12, δ' = [some (.lst (ms.map dNote)), some (lSt s), some (.tup [.str "sing", .int b]), some (.int s.beat), some (.lst (s.vs.map lVc)), some (.int s.nxt), some (.int s.cnt), some (.str "sing"), some (.int b), none, some (.int (sungTo ms sh0 s.vs s.beat i : Nat)), x11, x12, none]) ∧ O1 = O, ⟨⟨_, _, rfl⟩, rfl⟩, ?_, ?_⟩
    · rintro i d δ' O1 hd ⟨⟨x11, x12, rfl⟩, rfl⟩
      obtain ⟨rfl, hi⟩ := dInts_get hd
      walk_at "go_law_worked_on"
      refine ⟨Vc, s.vs, lVc, fun v => [dVoice (v.start, v.sh)], rfl, by omega, fun v hv => ?_, ?_⟩
      · walk_at "go_law_worked_on"
        exact ⟨_, rfl, rfl, rfl⟩
      rw [fm_map, show s.vs.map (fun v => dVoice (v.start, v.sh)) = (s.vs.map fun v => (v.start, v.sh)).map dVoice by rw [List.map_map]; rfl]
      walk_at "go_law_worked_on"
      refine dc_fn (ok_law_sounds T) (hr.mono (by decide)) ⟨ms, s.vs.map fun v => (v.start, v.sh), s.beat + (i : Nat), rfl, hm, by rw [List.length_map]; exact h8, ?_⟩
      walk_at "go_law_worked_on"
      refine dc_fn (ok_law_pairs T) (hr.mono (by decide)) ⟨_, sh0, rfl, by rw [soundsR_length, List.length_map]; exact h8, ?_⟩
      walk_at "go_law_worked_on"
      have e6 : ((sungTo ms sh0 s.vs s.beat i : Nat) : Int) + (((pairsOf sh0 (soundsR ms (s.vs.map fun v => (v.start, v.sh)) (s.beat + (i : Nat)))).map dPair).length : Nat) = ((sungTo ms sh0 s.vs s.beat (i + 1) : Nat) : Int) := by
        rw [sungTo_succ, List.length_map, pairsOf_cnt, rowC_cong ms (s.beat + (i : Nat)) s.vs _ rfl (fun v hv => by obtain ⟨u, hu, rfl⟩ := List.mem_map.1 hv; have := (hs.vr u hu).1; show u.start ≤ _; omega)]
        omega
      rw [e6]
      exact lessd ⟨⟨_, _, rfl⟩, rfl⟩
    · rintro δ' O1 ⟨⟨x11, x12, rfl⟩, rfl⟩
      rw [dInts_length]
      walk_at "go_law_worked_on"
      exact q
end
section
variable {P : Program} {w : World} {K : PySem.W.Frag} {mg : Str → Option Value} {base : Heap} {a : Adr}
/-- what an operation does to a choir -/
inductive Wr
  | bad (e : Er) | good (v : D) (h : Ch)
def onW (h : Ch) (w : Str) : On → Wr
  | .bad e => .bad e
  | .good v s => .good (.int v) (h.act w s)
def workR (ms : List Note) (h : Ch) : Opn → Wr
  | .undo => .good (.bl (!h.past.isEmpty)) h.undo
  | .redo => .good (.bl (!h.undone.isEmpty)) h.redo
  | .enter sh => onW h "enter" (onR ms h.st (.enter sh))
  | .leave n => onW h "leave" (onR ms h.st (.leave n))
  | .sing b => onW h "sing" (onR ms h.st (.sing b))
def dWr (ms : List Note) : Wr → D
  | .bad e => e.d
  | .good v h => .tup [.str "", v, dW ms h]
theorem onR_bad {ms : List Note} {s : CSt} {op : Opn} {e : Er} (h : onR ms s op = .bad e) : e = .number ∨ e = .range ∨ e = .many ∨ e = .voice := by
  cases op with
  | enter sh =>
    simp only [onR] at h
    split at h
    · split at h
      · split at h
        · injection h with h; simp [← h]
        · exact nomatch h
      · injection h with h; simp [← h]
    · injection h with h; simp [← h]
  | leave n =>
    simp only [onR] at h
    split at h
    · injection h with h; simp [← h]
    · exact nomatch h
  | sing b =>
    simp only [onR] at h
    split at h
    · injection h with h; simp [← h]
    · exact nomatch h
  | undo => injection h with h; simp [← h]
  | redo => injection h with h; simp [← h]
theorem OkS.mono {ms : List Note} {n m : Nat} {s : CSt} (h : OkS ms n s) (hn : n ≤ m) : OkS ms m s :=
  ⟨h.v8, h.b0, by have := h.b1; omega, h.x0, by have := h.x1; omega, h.vr⟩
theorem onR_ok {ms : List Note} {n : Nat} {s s' : CSt} {op : Opn} {v : Int} (hm : Mel ms) (ho : okOpn op) (hs : OkS ms n s) (h : onR ms s op = .good v s') : OkS ms (n + 1) s' := by
  obtain ⟨v8, b0, b1, x0, x1, vr⟩ := hs
  cases op with
  | enter sh =>
    simp only [onR] at h
    split at h
    · split at h
      · split at h
        · exact nomatch h
        · rename_i h1 h2 h3
          injection h with _ h
          subst h
          refine ⟨by simp [CSt.enter]; omega, b0, by simp [CSt.enter]; omega, by simp [CSt.enter]; omega, by simp [CSt.enter]; omega, fun v hv => ?_⟩
          rcases List.mem_append.1 hv with hv | hv
          · exact vr v hv
          · rw [List.mem_singleton.1 hv]
            exact ⟨Int.le_refl _, mel_shift hm h2⟩
      · exact nomatch h
    · exact nomatch h
  | leave k =>
    simp only [onR] at h
    split at h
    · exact nomatch h
    · injection h with _ h
      subst h
      exact ⟨Nat.le_trans (List.length_filter_le _ _) v8, b0, by simp [CSt.leave]; omega, x0, by simp [CSt.leave]; omega, fun v hv => vr v (List.mem_filter.1 hv).1⟩
  | sing b =>
    have hb : 0 ≤ b ∧ b ≤ 501 := ho
    simp only [onR] at h
    split at h
    · exact nomatch h
    · rename_i h5
      injection h with _ h
      subst h
      exact ⟨v8, show 0 ≤ s.beat + b by omega, show s.beat + b ≤ _ by omega, x0, show s.nxt ≤ _ by omega, fun v hv => ⟨show v.start ≤ s.beat + b by have := (vr v hv).1; omega, (vr v hv).2⟩⟩
  | undo => exact nomatch h
  | redo => exact nomatch h
inductive Chu : CSt → List COp → Prop
  | nil {s : CSt} : Chu s []
  | snoc {u : List COp} {s s' : CSt} {w : Str} : Chu s' u → Chu s (u ++ [⟨w, s, s'⟩])
theorem Chu.redo {s : CSt} {u : List COp} {o : COp} (c : Chu s (u ++ [o])) : Chu o.st' u ∧ o.st = s := by
  generalize hq : u ++ [o] = q at c
  cases c with
  | nil => simp at hq
  | snoc c =>
    obtain ⟨rfl, e⟩ := List.append_inj' hq rfl
    injection e with e
    subst e
    exact ⟨c, rfl⟩
/-- a choir that a law may meet after n operations -/
structure CI (ms : List Note) (n : Nat) (h : Ch) : Prop where
  st : OkS ms n h.st
  pa : ∀ o ∈ h.past, OkS ms n o.st ∧ OkS ms n o.st'
  un : ∀ o ∈ h.undone, OkS ms n o.st ∧ OkS ms n o.st'
  pl : h.past.length + h.undone.length ≤ n
  cp : ∃ s0, Chn s0 h.past h.st
  cu : Chu h.st h.undone
  wd : ∀ o, o ∈ h.past ∨ o ∈ h.undone → plainD (.str o.w) = true
theorem CI.start (ms : List Note) : CI ms 0 ⟨⟨0, [], 0, 0⟩, [], []⟩ :=
  ⟨⟨Nat.zero_le _, Int.le_refl _, Int.le_refl _, Int.le_refl _, Int.le_refl _, fun _ h => (nomatch h)⟩, fun _ h => (nomatch h), fun _ h => (nomatch h), Nat.le_refl _, ⟨_, .nil⟩, .nil, fun o ho => by simp at ho⟩
theorem CI.mono {ms : List Note} {n m : Nat} {h : Ch} (I : CI ms n h) (hn : n ≤ m) : CI ms m h :=
  ⟨I.st.mono hn, fun o ho => ⟨(I.pa o ho).1.mono hn, (I.pa o ho).2.mono hn⟩, fun o ho => ⟨(I.un o ho).1.mono hn, (I.un o ho).2.mono hn⟩, Nat.le_trans I.pl hn, I.cp, I.cu, I.wd⟩
theorem CI.act {ms : List Note} {n : Nat} {h : Ch} {w : Str} {s : CSt} (I : CI ms n h) (hw : plainD (.str w) = true) (hs : OkS ms (n + 1) s) : CI ms (n + 1) (h.act w s) := by
  refine ⟨hs, fun o ho => ?_, fun _ h => (nomatch h), ?_, ?_, .nil, fun o ho => ?_⟩
  · rcases List.mem_append.1 ho with ho | ho
    · exact ⟨(I.pa o ho).1.mono (by omega), (I.pa o ho).2.mono (by omega)⟩
    · rw [List.mem_singleton.1 ho]
      exact ⟨I.st.mono (by omega), hs⟩
  · have := I.pl
    show (h.past ++ [_]).length + 0 ≤ n + 1
    simp; omega
  · obtain ⟨s0, c⟩ := I.cp
    exact ⟨s0, c.act _ _⟩
  · have ho : o ∈ h.past ++ [⟨w, h.st, s⟩] ∨ o ∈ ([] : List COp) := ho
    rcases ho with ho | ho
    · rcases List.mem_append.1 ho with ho | ho
      · exact I.wd o (.inl ho)
      · rw [List.mem_singleton.1 ho]; exact hw
    · exact nomatch ho
theorem CI.undo {ms : List Note} {n : Nat} {h : Ch} (I : CI ms n h) : CI ms n h.undo := by
  obtain ⟨s, past, undone⟩ := h
  rcases List.eq_nil_or_concat past with rfl | ⟨past, o, rfl⟩
  · exact I
  rw [List.concat_eq_append] at I ⊢
  rw [undo_snoc]
  obtain ⟨st, pa, un, pl, ⟨s0, cp⟩, cu, wd⟩ := I
  obtain ⟨c1, c2⟩ := Chn.undo cp
  have c2 : o.st' = s := c2
  refine ⟨(pa o (by simp)).1, fun x hx => pa x (List.mem_append_left _ hx), fun x hx => ?_, ?_, ⟨s0, c1⟩, ?_, fun x hx => ?_⟩
  · rcases List.mem_append.1 hx with hx | hx
    · exact un x hx
    · rw [List.mem_singleton.1 hx]; exact pa o (by simp)
  · have pl : (past ++ [o]).length + undone.length ≤ n := pl
    show past.length + (undone ++ [o]).length ≤ n
    simp at pl ⊢; omega
  · obtain ⟨w, s1, s2⟩ := o
    have c2 : s2 = s := c2
    subst c2
    exact .snoc cu
  · have hx : x ∈ past ∨ x ∈ undone ++ [o] := hx
    refine wd x ?_
    show x ∈ past ++ [o] ∨ x ∈ undone
    simp at hx ⊢
    rcases hx with h | h | h <;> simp [h]
theorem CI.redo {ms : List Note} {n : Nat} {h : Ch} (I : CI ms n h) : CI ms n h.redo := by
  obtain ⟨s, past, undone⟩ := h
  rcases List.eq_nil_or_concat undone with rfl | ⟨undone, o, rfl⟩
  · exact I
  rw [List.concat_eq_append] at I ⊢
  rw [redo_snoc]
  obtain ⟨st, pa, un, pl, ⟨s0, cp⟩, cu, wd⟩ := I
  obtain ⟨c1, c2⟩ := Chu.redo cu
  have c2 : o.st = s := c2
  refine ⟨(un o (by simp)).2, fun x hx => ?_, fun x hx => un x (List.mem_append_left _ hx), ?_, ⟨s0, ?_⟩, c1, fun x hx => ?_⟩
  · rcases List.mem_append.1 hx with hx | hx
    · exact pa x hx
    · rw [List.mem_singleton.1 hx]; exact un o (by simp)
  · have pl : past.length + (undone ++ [o]).length ≤ n := pl
    show (past ++ [o]).length + undone.length ≤ n
    simp at pl ⊢; omega
  · obtain ⟨w, s1, s2⟩ := o
    have c2 : s1 = s := c2
    subst c2
    exact .snoc cp
  · have hx : x ∈ past ++ [o] ∨ x ∈ undone := hx
    refine wd x ?_
    show x ∈ past ∨ x ∈ undone ++ [o]
    simp at hx ⊢
    rcases hx with (h | h) | h <;> simp [h]
theorem CI.next {ms : List Note} {n : Nat} {h h' : Ch} {op : Opn} {v : D} (I : CI ms n h) (hm : Mel ms) (ho : okOpn op) (hw : workR ms h op = .good v h') : CI ms (n + 1) h' := by
  cases op with
  | undo => injection hw with _ hw; subst hw; exact I.undo.mono (by omega)
  | redo => injection hw with _ hw; subst hw; exact I.redo.mono (by omega)
  | enter sh =>
    simp only [workR] at hw
    cases hr : onR ms h.st (.enter sh) with
    | bad e => rw [hr] at hw; exact nomatch hw
    | good x s => rw [hr] at hw; injection hw with _ hw; subst hw; exact I.act (by decide +kernel) (onR_ok hm ho I.st hr)
  | leave k =>
    simp only [workR] at hw
    cases hr : onR ms h.st (.leave k) with
    | bad e => rw [hr] at hw; exact nomatch hw
    | good x s => rw [hr] at hw; injection hw with _ hw; subst hw; exact I.act (by decide +kernel) (onR_ok hm ho I.st hr)
  | sing b =>
    simp only [workR] at hw
    cases hr : onR ms h.st (.sing b) with
    | bad e => rw [hr] at hw; exact nomatch hw
    | good x s => rw [hr] at hw; injection hw with _ hw; subst hw; exact I.act (by decide +kernel) (onR_ok hm ho I.st hr)
end
set_option hygiene false in
local macro_rules | `(tactic| walk_at "st_law_worked") => `(tactic| (with_reducible refine as_DI ?_; (first | (with_reducible refine di_seq ?_))))
set_option hygiene false in
local macro_rules | `(tactic| walk_at "st_law_worked") => `(tactic| walk_at "g1")
set_option hygiene false in
local macro_rules | `(tactic| walk_at "st_law_worked") => `(tactic| (with_reducible refine own_out ?_))
set_option hygiene false in
local macro_rules | `(tactic| walk_at "st_law_worked") => `(tactic| (with_reducible refine as_NL ?_; (first | (with_reducible refine nl_fz ?_))))
set_option hygiene false in
local macro_rules | `(tactic| walk_at "st_law_worked") => `(tactic| (with_reducible refine as_DS ?_; (first | (with_reducible refine' ds_setCD (by assumption) (by assumption) ?hi ?_ ?hl; (case hl => ((repeat (with_reducible constructor)); done)); (case hi => (repeat (with_reducible constructor)))) | (with_reducible refine ds_forL (by assumption) Df.po ?_))))
set_option hygiene false in
local macro_rules | `(tactic| walk_at "go_law_worked") => `(tactic| (repeat (walk_at "st_law_worked")))
set_option hygiene false in
local macro_rules | `(tactic| walk_at "st_law_stands") => `(tactic| (with_reducible refine as_DI ?_; (first | (with_reducible refine di_seq ?_))))
set_option hygiene false in
local macro_rules | `(tactic| walk_at "st_law_stands") => `(tactic| walk_at "g1")
set_option hygiene false in
local macro_rules | `(tactic| walk_at "st_law_stands") => `(tactic| (with_reducible refine own_out ?_))
set_option hygiene false in
local macro_rules | `(tactic| walk_at "st_law_stands") => `(tactic| (with_reducible refine as_NL ?_; (first | (with_reducible refine nl_fz ?_))))
set_option hygiene false in
local macro_rules | `(tactic| walk_at "st_law_stands") => `(tactic| (with_reducible refine as_DE ?_; (first | (with_reducible refine de_lcXc [("_law_voice", 10)] ⟨.function, [(".0", .local), ("_law_voice", .local)], false, false, []⟩ (by assumption) ?_) | (with_reducible refine de_lcXc [("_law_entry", 11)] ⟨.function, [(".0", .local), ("_law_entry", .local)], false, false, []⟩ (by assumption) ?_))))
set_option hygiene false in
local macro_rules | `(tactic| walk_at "st_law_stands") => `(tactic| (with_reducible refine as_DS ?_; (first | (with_reducible refine' ds_setLcXc (hl := ?hl) [("_law_voice", 10)] ⟨.function, [(".0", .local), ("_law_voice", .local)], false, false, []⟩ (by assumption) ?hi ?_; (case hl => ((repeat (with_reducible constructor)); done)); (case hi => (repeat (with_reducible constructor)))) | (with_reducible refine' ds_setLcXc (hl := ?hl) [("_law_entry", 11)] ⟨.function, [(".0", .local), ("_law_entry", .local)], false, false, []⟩ (by assumption) ?hi ?_; (case hl => ((repeat (with_reducible constructor)); done)); (case hi => (repeat (with_reducible constructor)))) | (with_reducible refine' ds_setCD (by assumption) (by assumption) ?hi ?_ ?hl; (case hl => ((repeat (with_reducible constructor)); done)); (case hi => (repeat (with_reducible constructor)))) | (with_reducible refine ds_forL (by assumption) Df.po ?_))))
set_option hygiene false in
local macro_rules | `(tactic| walk_at "go_law_stands") => `(tactic| (repeat (walk_at "st_law_stands")))
section
variable {P : Program} {w : World} {K : PySem.W.Frag} {mg : Str → Option Value} {base : Heap} {a : Adr}
def spWorked : DSp := fun ds O E Q => ∃ ms h n op, ds = [dW ms h, dOpn op] ∧ Mel ms ∧ CI ms n h ∧ n ≤ 5000 ∧ okOpn op ∧ Q (dWr ms (workR ms h op)) O
theorem bad_d {e : Er} (h : e = .number ∨ e = .range ∨ e = .many ∨ e = .voice) : D.tup [.str (erNm e), .int 0] = e.d ∧ erNm e ≠ "" := by
  rcases h with rfl | rfl | rfl | rfl <;> exact ⟨rfl, by decide⟩
theorem ok_law_worked (T : Txt K mg a) : DFn P w K mg base 5 a.f_law_worked spWorked := by
  refine T.law_worked.ok sc_law_worked (fun ds O E Q h => by obtain ⟨_, _, _, _, e, _⟩ := h; rw [e]; rfl) ?_
  intro X I S0 Df hr ds O E Q hsp; obtain ⟨rfl, rfl, rfl, rfl, rfl, pa⟩ := I; have S : Sc X _ c_law_worked := S0; clear S0
  obtain ⟨ms, h, n, op, rfl, hm, hI, hn, ho, q⟩ := hsp
  obtain ⟨s, past, undone⟩ := h
  have hpl : past.length + undone.length ≤ n := hI.pl
  have hst : OkS ms n s := hI.st
  have ebad : ∀ {w : Str} {op : Opn} {e : Er}, onR ms s op = .bad e → workR ms ⟨s, past, undone⟩ op = onW ⟨s, past, undone⟩ w (onR ms s op) → workR ms ⟨s, past, undone⟩ op = .bad e := fun h1 h2 => by rw [h2, h1]; rfl
  cases op with
  | undo =>
    rcases List.eq_nil_or_concat past with rfl | ⟨past, o, rfl⟩
    · show DSs X _ [some (dW ms ⟨s, [], undone⟩), some (.tup [.str "undo"]), none, none, none, none, none, none, none, none, none] O _ _
      refine dss_cons ?_
      walk_at "go_law_worked"
      refine dg_lst (by assumption) rfl ?_
      walk_at "go_law_worked"
      refine db_eqLE hr ?_
      walk_at "go_law_worked"
      exact q
    · rw [List.concat_eq_append] at *
      have hc : o.st' = s := by
        obtain ⟨s0, c⟩ := hI.cp
        exact (Chn.undo c).2
      have q : Q (.tup [.str "", .bl true, dW ms ⟨o.st, past, undone ++ [o]⟩]) O := by
        rw [show workR ms ⟨s, past ++ [o], undone⟩ .undo = .good (.bl true) ⟨o.st, past, undone ++ [o]⟩ by simp only [workR, undo_snoc]; simp] at q
        exact q
      have eu : lUn o = .tup [lPa o, lSt s] := by rw [← hc]
      have q : Q (.tup [.str "", .bl true, .lst [.lst (ms.map dNote), lSt o.st, .lst (past.map lPa), .lst (undone.map lUn ++ [.tup [lPa o, lSt s]])]]) O := by
        rw [← eu]
        simpa only [dW, List.map_append, List.map_cons, List.map_nil] using q
      have hpl2 : undone.length ≤ 5000 := by omega
      show DSs X _ [some (.lst [.lst (ms.map dNote), lSt s, .lst ((past ++ [o]).map lPa), .lst (undone.map lUn)]), some (.tup [.str "undo"]), none, none, none, none, none, none, none, none, none] O _ _
      rw [List.map_append, List.map_cons, List.map_nil]
      refine dss_cons ?_
      walk_at "go_law_worked"
      refine dg_lst (by assumption) rfl ?_
      walk_at "go_law_worked"
      refine db_eqLE hr ?_
      rw [show (past.map lPa ++ [lPa o]).isEmpty = false by simp]
      walk_at "go_law_worked"
      refine dx_lst (DL.atI_last _ _) ?_
      walk_at "go_law_worked"
      refine dx_lst (DL.atI_last _ _) ?_
      walk_at "go_law_worked"
      refine db_cat (by simp; omega) ?_
      walk_at "go_law_worked"
      rw [cutD_last]
      exact q
  | redo =>
    rcases List.eq_nil_or_concat undone with rfl | ⟨undone, o, rfl⟩
    · show DSs X _ [some (dW ms ⟨s, past, []⟩), some (.tup [.str "redo"]), none, none, none, none, none, none, none, none, none] O _ _
      refine dss_cons ?_
      walk_at "go_law_worked"
      refine dg_lst (by assumption) rfl ?_
      walk_at "go_law_worked"
      refine db_eqLE hr ?_
      walk_at "go_law_worked"
      exact q
    · rw [List.concat_eq_append] at *
      have q : Q (.tup [.str "", .bl true, dW ms ⟨o.st', past ++ [o], undone⟩]) O := by
        rw [show workR ms ⟨s, past, undone ++ [o]⟩ .redo = .good (.bl true) ⟨o.st', past ++ [o], undone⟩ by simp only [workR, redo_snoc]; simp] at q
        exact q
      have q : Q (.tup [.str "", .bl true, .lst [.lst (ms.map dNote), lSt o.st', .lst (past.map lPa ++ [lPa o]), .lst (undone.map lUn)]]) O := by
        simpa only [dW, List.map_append, List.map_cons, List.map_nil] using q
      have hpl2 : past.length ≤ 5000 := by omega
      show DSs X _ [some (.lst [.lst (ms.map dNote), lSt s, .lst (past.map lPa), .lst ((undone ++ [o]).map lUn)]), some (.tup [.str "redo"]), none, none, none, none, none, none, none, none, none] O _ _
      rw [List.map_append, List.map_cons, List.map_nil]
      refine dss_cons ?_
      walk_at "go_law_worked"
      refine dg_lst (by assumption) rfl ?_
      walk_at "go_law_worked"
      refine db_eqLE hr ?_
      rw [show (undone.map lUn ++ [lUn o]).isEmpty = false by simp]
      walk_at "go_law_worked"
      refine dx_lst (DL.atI_last _ _) ?_
      walk_at "go_law_worked"
      refine db_cat (by simp; omega) ?_
      walk_at "go_law_worked"
      rw [cutD_last]
      exact q
  | enter sh =>
    show DSs X _ [some (dW ms ⟨s, past, undone⟩), some (.tup [.str "enter", .int sh]), none, none, none, none, none, none, none, none, none] O _ _
    refine dss_cons ?_
    walk_at "go_law_worked"
    refine dg_lst (by assumption) rfl ?_
    walk_at "go_law_worked"
    refine dc_fn (ok_law_worked_on T) (hr.mono (by decide)) ⟨ms, s, n, .enter sh, rfl, hm, hst, hn, ho, trivial, ?_⟩
    cases hR : onR ms s (.enter sh) with
    | bad e =>
      have hb := bad_d (onR_bad hR)
      rw [show workR ms ⟨s, past, undone⟩ (.enter sh) = .bad e by simp only [workR, hR, onW]] at q
      have q : Q (.tup [.str (erNm e), .int 0]) O := by rw [hb.1]; exact q
      rw [show dOn s (On.bad e) = D.tup [.str (erNm e), .int 0, lSt s] from rfl]
      have hne := hb.2
      generalize erNm e = z at *
      walk_at "go_law_worked"
      refine ⟨fun _ => ?_, fun h => absurd h (by simp [hne])⟩
      walk_at "go_law_worked"
      exact q
    | good x s' =>
      rw [show workR ms ⟨s, past, undone⟩ (.enter sh) = .good (.int x) (Ch.act ⟨s, past, undone⟩ "enter" s') by simp only [workR, hR, onW]] at q
      have q : Q (.tup [.str "", .int x, .lst [.lst (ms.map dNote), lSt s', .lst (past.map lPa ++ [.tup [.str "enter", lSt s]]), .lst []]]) O := by
        simpa only [dWr, Ch.act, dW, lPa, List.map_append, List.map_cons, List.map_nil] using q
      rw [show dOn s (On.good x s') = D.tup [.str "", .int x, lSt s'] from rfl]
      walk_at "go_law_worked"
      refine db_cat (by simp; omega) ?_
      walk_at "go_law_worked"
      exact q
  | leave k =>
    show DSs X _ [some (dW ms ⟨s, past, undone⟩), some (.tup [.str "leave", .int k]), none, none, none, none, none, none, none, none, none] O _ _
    refine dss_cons ?_
    walk_at "go_law_worked"
    refine dg_lst (by assumption) rfl ?_
    walk_at "go_law_worked"
    refine dc_fn (ok_law_worked_on T) (hr.mono (by decide)) ⟨ms, s, n, .leave k, rfl, hm, hst, hn, ho, trivial, ?_⟩
    cases hR : onR ms s (.leave k) with
    | bad e =>
      have hb := bad_d (onR_bad hR)
      rw [show workR ms ⟨s, past, undone⟩ (.leave k) = .bad e by simp only [workR, hR, onW]] at q
      have q : Q (.tup [.str (erNm e), .int 0]) O := by rw [hb.1]; exact q
      rw [show dOn s (On.bad e) = D.tup [.str (erNm e), .int 0, lSt s] from rfl]
      have hne := hb.2
      generalize erNm e = z at *
      walk_at "go_law_worked"
      refine ⟨fun _ => ?_, fun h => absurd h (by simp [hne])⟩
      walk_at "go_law_worked"
      exact q
    | good x s' =>
      rw [show workR ms ⟨s, past, undone⟩ (.leave k) = .good (.int x) (Ch.act ⟨s, past, undone⟩ "leave" s') by simp only [workR, hR, onW]] at q
      have q : Q (.tup [.str "", .int x, .lst [.lst (ms.map dNote), lSt s', .lst (past.map lPa ++ [.tup [.str "leave", lSt s]]), .lst []]]) O := by
        simpa only [dWr, Ch.act, dW, lPa, List.map_append, List.map_cons, List.map_nil] using q
      rw [show dOn s (On.good x s') = D.tup [.str "", .int x, lSt s'] from rfl]
      walk_at "go_law_worked"
      refine db_cat (by simp; omega) ?_
      walk_at "go_law_worked"
      exact q
  | sing b =>
    show DSs X _ [some (dW ms ⟨s, past, undone⟩), some (.tup [.str "sing", .int b]), none, none, none, none, none, none, none, none, none] O _ _
    refine dss_cons ?_
    walk_at "go_law_worked"
    refine dg_lst (by assumption) rfl ?_
    walk_at "go_law_worked"
    refine dc_fn (ok_law_worked_on T) (hr.mono (by decide)) ⟨ms, s, n, .sing b, rfl, hm, hst, hn, ho, trivial, ?_⟩
    cases hR : onR ms s (.sing b) with
    | bad e =>
      have hb := bad_d (onR_bad hR)
      rw [show workR ms ⟨s, past, undone⟩ (.sing b) = .bad e by simp only [workR, hR, onW]] at q
      have q : Q (.tup [.str (erNm e), .int 0]) O := by rw [hb.1]; exact q
      rw [show dOn s (On.bad e) = D.tup [.str (erNm e), .int 0, lSt s] from rfl]
      have hne := hb.2
      generalize erNm e = z at *
      walk_at "go_law_worked"
      refine ⟨fun _ => ?_, fun h => absurd h (by simp [hne])⟩
      walk_at "go_law_worked"
      exact q
    | good x s' =>
      rw [show workR ms ⟨s, past, undone⟩ (.sing b) = .good (.int x) (Ch.act ⟨s, past, undone⟩ "sing" s') by simp only [workR, hR, onW]] at q
      have q : Q (.tup [.str "", .int x, .lst [.lst (ms.map dNote), lSt s', .lst (past.map lPa ++ [.tup [.str "sing", lSt s]]), .lst []]]) O := by
        simpa only [dWr, Ch.act, dW, lPa, List.map_append, List.map_cons, List.map_nil] using q
      rw [show dOn s (On.good x s') = D.tup [.str "", .int x, lSt s'] from rfl]
      walk_at "go_law_worked"
      refine db_cat (by simp; omega) ?_
      walk_at "go_law_worked"
      exact q
theorem eqd_str {n : Nat} (w : Str) (h : plainD (.str w) = true) : Eqd n (.str w) := ⟨h, by simp [depthD], rfl⟩
theorem eqd_bl {n : Nat} (b : Bool) : Eqd n (.bl b) := ⟨rfl, by simp [depthD], rfl⟩
def spStands (C M : Addr) : DSp := fun ds O E Q => ∃ c pa un sv ms h n kvs O', ds = [.ref c, dW ms h] ∧ CI ms n h ∧ n ≤ 5000 ∧ O = chO C M ms sh0 c pa un sv h kvs O' ∧ Q (.bl true) O
theorem ok_law_stands (T : Txt K mg a) : DFn P w K mg base 5 a.f_law_stands (spStands a.C_Choir a.C_Melody) := by
  refine T.law_stands.ok sc_law_stands (fun ds O E Q h => by obtain ⟨_, _, _, _, _, _, _, _, _, e, _⟩ := h; rw [e]; rfl) ?_
  intro X I S0 Df hr ds O E Q hsp; obtain ⟨rfl, rfl, rfl, rfl, rfl, pa⟩ := I; have S : Sc X _ c_law_stands := S0; clear S0
  obtain ⟨c, pa, un, sv, ms, h, n, kvs, O', rfl, hI, hn, rfl, q⟩ := hsp
  obtain ⟨s, past, undone⟩ := h
  have hpl : past.length + undone.length ≤ n := hI.pl
  have h8 : s.vs.length ≤ 8 := hI.st.v8
  show DSs X _ [some (.ref c), some (dW ms ⟨s, past, undone⟩), none, none, none, none, none, none, none, none, none, none] _ _ _
  refine dss_cons ?_
  walk_at "go_law_stands"
  have hl5 : (Ch.mk s past undone).past.length ≤ 50000 := by show past.length ≤ _; omega
  have h85 : (Ch.mk s past undone).st.vs.length ≤ 8 := h8
  refine dg_lst (by assumption) rfl ?_
  walk_at "go_law_stands"
  refine ⟨Vc, s.vs, lVc, fun v => [.int v.num], rfl, by omega, fun v hv => ?_, ?_⟩
  · walk_at "go_law_stands"
  rw [fm_map]
  walk_at "go_law_stands"
  refine ⟨COp, past, lPa, fun o => [.str o.w], rfl, by omega, fun o ho => ?_, ?_⟩
  · walk_at "go_law_stands"
  rw [fm_map]
  walk_at "go_law_stands"
  refine dc_eqs T (n := 2) hr (by decide) (by decide) (eqd_lst (fun d hd => ?_) (by simp)) ?_
  · simp only [List.mem_cons, List.not_mem_nil, or_false] at hd
    rcases hd with rfl | rfl | rfl | rfl
    · exact eqd_int _
    · exact eqd_lst (fun d hd => by obtain ⟨v, _, rfl⟩ := List.mem_map.1 hd; exact eqd_int _) (by simp; omega)
    · exact eqd_int _
    · exact eqd_lst (fun d hd => by obtain ⟨o, ho, rfl⟩ := List.mem_map.1 hd; exact eqd_str _ (hI.wd o (.inl ho))) (by simp; omega)
  walk_at "go_law_stands"
  exact q
end
set_option hygiene false in
local macro_rules | `(tactic| walk_at "st_is_operation") => `(tactic| (with_reducible refine as_DI ?_; (first | (with_reducible refine di_seq ?_))))
set_option hygiene false in
local macro_rules | `(tactic| walk_at "st_is_operation") => `(tactic| walk_at "g1")
set_option hygiene false in
local macro_rules | `(tactic| walk_at "st_is_operation") => `(tactic| (with_reducible refine own_out ?_))
set_option hygiene false in
local macro_rules | `(tactic| walk_at "st_is_operation") => `(tactic| (with_reducible refine as_NL ?_; (first | (with_reducible refine nl_fz ?_))))
set_option hygiene false in
local macro_rules | `(tactic| walk_at "st_is_operation") => `(tactic| (with_reducible refine as_DS ?_; (first | (with_reducible refine' ds_setCD (by assumption) (by assumption) ?hi ?_ ?hl; (case hl => ((repeat (with_reducible constructor)); done)); (case hi => (repeat (with_reducible constructor)))) | (with_reducible refine ds_forL (by assumption) Df.po ?_))))
set_option hygiene false in
local macro_rules | `(tactic| walk_at "go_is_operation") => `(tactic| (repeat (walk_at "st_is_operation")))
set_option hygiene false in
local macro_rules | `(tactic| walk_at "st_Choir_execute") => `(tactic| (with_reducible refine as_DI ?_; (first | (with_reducible refine di_seq ?_))))
set_option hygiene false in
local macro_rules | `(tactic| walk_at "st_Choir_execute") => `(tactic| walk_at "g1")
set_option hygiene false in
local macro_rules | `(tactic| walk_at "st_Choir_execute") => `(tactic| (with_reducible refine own_out ?_))
set_option hygiene false in
local macro_rules | `(tactic| walk_at "st_Choir_execute") => `(tactic| (with_reducible refine as_NL ?_; (first | (with_reducible refine nl_fz ?_))))
set_option hygiene false in
local macro_rules | `(tactic| walk_at "st_Choir_execute") => `(tactic| (with_reducible refine as_DS ?_; (first | (with_reducible refine' ds_setCD (by assumption) (by assumption) ?hi ?_ ?hl; (case hl => ((repeat (with_reducible constructor)); done)); (case hi => (repeat (with_reducible constructor)))) | (with_reducible refine ds_forL (by assumption) Df.po ?_))))
set_option hygiene false in
local macro_rules | `(tactic| walk_at "go_Choir_execute") => `(tactic| (repeat (walk_at "st_Choir_execute")))
section
variable {P : Program} {w : World} {K : PySem.W.Frag} {mg : Str → Option Value} {base : Heap} {a : Adr}
theorem okN_wd {x : Str} (h : plainD (.str x) = true) : okN 0 (.str x) := ⟨h, Nat.le_refl _⟩
theorem okN_opn (op : Opn) : okN 1 (dOpn op) := by
  cases op with
  | enter sh =>
    exact okN_tup (n := 0) fun d hd => by
      rcases List.mem_cons.1 hd with rfl | hd
      · exact okN_wd (by decide +kernel)
      · rw [List.mem_singleton.1 hd]; exact okN_int
  | leave sh =>
    exact okN_tup (n := 0) fun d hd => by
      rcases List.mem_cons.1 hd with rfl | hd
      · exact okN_wd (by decide +kernel)
      · rw [List.mem_singleton.1 hd]; exact okN_int
  | sing sh =>
    exact okN_tup (n := 0) fun d hd => by
      rcases List.mem_cons.1 hd with rfl | hd
      · exact okN_wd (by decide +kernel)
      · rw [List.mem_singleton.1 hd]; exact okN_int
  | undo => exact okN_tup (n := 0) fun d hd => by rw [List.mem_singleton.1 hd]; exact okN_wd (by decide +kernel)
  | redo => exact okN_tup (n := 0) fun d hd => by rw [List.mem_singleton.1 hd]; exact okN_wd (by decide +kernel)
def spIsOp : DSp := fun ds O E Q => ∃ op, ds = [dOpn op] ∧ Q (.bl true) O
theorem ok_is_operation (T : Txt K mg a) (hw : a.wd = w) : DFn P w K mg base 1 a.f_is_operation spIsOp := by
  refine T.is_operation.ok sc_is_operation (fun ds O E Q h => by obtain ⟨_, e, _⟩ := h; rw [e]; rfl) ?_
  intro X I S0 Df hr ds O E Q hsp; obtain ⟨rfl, rfl, rfl, rfl, rfl, pa⟩ := I; have S : Sc X _ c_is_operation := S0; clear S0
  obtain ⟨op, rfl, q⟩ := hsp
  obtain ⟨es, en, KD⟩ := T.kd_LENGTHS
  have KD : KDict X.K X.w a.d_LENGTHS es en := by rw [hw] at KD; exact KD
  have hok := (okN_opn op).ok (by decide)
  cases op with
  | enter sh =>
    show DSs X _ [some (.tup [.str "enter", .int sh])] O _ _
    refine dss_cons ?_
    walk_at "go_is_operation"
    refine db_eqNilT hr hok ?_
    walk_at "go_is_operation"
    refine de_glob (v := .ref a.d_LENGTHS) (by assumption) T.v_LENGTHS rfl (fun _ => .ref _) ?_
    refine ⟨_, es, en, rfl, KD, ?_⟩
    walk_at "go_is_operation"
    obtain ⟨t, ht⟩ := T.kv_LENGTHS_enter
    refine .inl ⟨_, t, ht, ?_⟩
    walk_at "go_is_operation"
    exact q
  | leave k =>
    show DSs X _ [some (.tup [.str "leave", .int k])] O _ _
    refine dss_cons ?_
    walk_at "go_is_operation"
    refine db_eqNilT hr hok ?_
    walk_at "go_is_operation"
    refine de_glob (v := .ref a.d_LENGTHS) (by assumption) T.v_LENGTHS rfl (fun _ => .ref _) ?_
    refine ⟨_, es, en, rfl, KD, ?_⟩
    walk_at "go_is_operation"
    obtain ⟨t, ht⟩ := T.kv_LENGTHS_leave
    refine .inl ⟨_, t, ht, ?_⟩
    walk_at "go_is_operation"
    exact q
  | sing b =>
    show DSs X _ [some (.tup [.str "sing", .int b])] O _ _
    refine dss_cons ?_
    walk_at "go_is_operation"
    refine db_eqNilT hr hok ?_
    walk_at "go_is_operation"
    refine de_glob (v := .ref a.d_LENGTHS) (by assumption) T.v_LENGTHS rfl (fun _ => .ref _) ?_
    refine ⟨_, es, en, rfl, KD, ?_⟩
    walk_at "go_is_operation"
    obtain ⟨t, ht⟩ := T.kv_LENGTHS_sing
    refine .inl ⟨_, t, ht, ?_⟩
    walk_at "go_is_operation"
    exact q
  | undo =>
    show DSs X _ [some (.tup [.str "undo"])] O _ _
    refine dss_cons ?_
    walk_at "go_is_operation"
    refine db_eqNilT hr hok ?_
    walk_at "go_is_operation"
    refine de_glob (v := .ref a.d_LENGTHS) (by assumption) T.v_LENGTHS rfl (fun _ => .ref _) ?_
    refine ⟨_, es, en, rfl, KD, ?_⟩
    walk_at "go_is_operation"
    obtain ⟨t, ht⟩ := T.kv_LENGTHS_undo
    refine .inl ⟨_, t, ht, ?_⟩
    walk_at "go_is_operation"
    exact q
  | redo =>
    show DSs X _ [some (.tup [.str "redo"])] O _ _
    refine dss_cons ?_
    walk_at "go_is_operation"
    refine db_eqNilT hr hok ?_
    walk_at "go_is_operation"
    refine de_glob (v := .ref a.d_LENGTHS) (by assumption) T.v_LENGTHS rfl (fun _ => .ref _) ?_
    refine ⟨_, es, en, rfl, KD, ?_⟩
    walk_at "go_is_operation"
    obtain ⟨t, ht⟩ := T.kv_LENGTHS_redo
    refine .inl ⟨_, t, ht, ?_⟩
    walk_at "go_is_operation"
    exact q
/-- what an operation does, by its method -/
def spExec (a : Adr) : DSp := fun ds O E Q => ∃ c pa un sv ms h n kvs O' op, ds = [.ref c, dOpn op] ∧ Mel ms ∧ CI ms n h ∧ n ≤ 5000 ∧ okOpn op ∧ O = chO a.C_Choir a.C_Melody ms sh0 c pa un sv h kvs O' ∧
  ∃ v h', workR ms h op = .good v h' ∧ ∀ un', Q v (chO a.C_Choir a.C_Melody ms sh0 c pa un' sv h' kvs O')
theorem ok_Choir_execute (T : Txt K mg a) : DFn P w K mg base 10 a.f_Choir_execute (spExec a) := by
  refine T.Choir_execute.ok sc_Choir_execute (fun ds O E Q h => by obtain ⟨_, _, _, _, _, _, _, _, _, _, e, _⟩ := h; rw [e]; rfl) ?_
  intro X I S0 Df hr ds O E Q hsp; obtain ⟨rfl, rfl, rfl, rfl, rfl, pa⟩ := I; have S : Sc X _ c_Choir_execute := S0; clear S0
  obtain ⟨c, pa, un, sv, ms, h, n, kvs, O', op, rfl, hm, hI, hn, ho, rfl, v, h', hw, q⟩ := hsp
  have hpl := hI.pl
  have h8 := hI.st.v8
  cases op with
  | enter sh =>
    show DSs X _ [some (.ref c), some (.tup [.str "enter", .int sh]), none, none, none] _ _ _
    refine dss_cons ?_
    refine ds_match ?_
    (with_reducible refine' de_name (by assumption) ?hi ?hd ?_; (case hi => (repeat (with_reducible constructor))); (case hd => (repeat (with_reducible constructor))))
    refine dmc_pair (by assumption) (by (repeat (with_reducible constructor))) (by (repeat (with_reducible constructor))) (fun _ => ⟨_, by (repeat (with_reducible constructor)), ?_⟩) (fun h => absurd rfl h)
    walk_at "go_Choir_execute"
    by_cases h1 : -24 ≤ sh ∧ sh ≤ 24
    · by_cases h2 : inRange (shiftN sh ms) = true
      · by_cases h3 : 7 < h.st.vs.length
        · simp only [workR, onR, if_pos h1, if_pos h2, if_pos h3, onW] at hw
          exact nomatch hw
        · simp only [workR, onR, if_pos h1, if_pos h2, if_neg h3, onW] at hw
          injection hw with e1 e2
          subst e1 e2
          refine dc_fn (ok_Choir_enter T) (hr.mono (by decide)) ⟨c, pa, un, sv, ms, sh0, h, kvs, O', sh, rfl, hm, mel_shift hm h2, h1.1, h1.2, by omega, by omega, rfl, fun un' => ?_⟩
          walk_at "go_Choir_execute"
          exact q un'
      · simp only [workR, onR, if_pos h1, if_neg h2, onW] at hw
        exact nomatch hw
    · simp only [workR, onR, if_neg h1, onW] at hw
      exact nomatch hw
  | leave k =>
    show DSs X _ [some (.ref c), some (.tup [.str "leave", .int k]), none, none, none] _ _ _
    refine dss_cons ?_
    refine ds_match ?_
    (with_reducible refine' de_name (by assumption) ?hi ?hd ?_; (case hi => (repeat (with_reducible constructor))); (case hd => (repeat (with_reducible constructor))))
    refine dmc_pair (by assumption) (by (repeat (with_reducible constructor))) (by (repeat (with_reducible constructor))) (fun h => absurd h (by decide)) (fun _ => ?_)
    refine dmc_pair (by assumption) (by (repeat (with_reducible constructor))) (by (repeat (with_reducible constructor))) (fun _ => ⟨_, by (repeat (with_reducible constructor)), ?_⟩) (fun h => absurd rfl h)
    walk_at "go_Choir_execute"
    cases hf : (h.st.vs.filter fun v => decide (v.num = k)) with
    | nil =>
      simp only [workR, onR, hf, onW] at hw
      exact nomatch hw
    | cons v0 vs0 =>
      simp only [workR, onR, hf, onW] at hw
      injection hw with e1 e2
      subst e1 e2
      refine dc_fn (ok_Choir_leave T) (hr.mono (by decide)) ⟨c, pa, un, sv, ms, sh0, h, kvs, O', k, v0, vs0, rfl, by omega, h8, hf, rfl, fun un' => ?_⟩
      walk_at "go_Choir_execute"
      exact q un'
  | sing b =>
    show DSs X _ [some (.ref c), some (.tup [.str "sing", .int b]), none, none, none] _ _ _
    refine dss_cons ?_
    refine ds_match ?_
    (with_reducible refine' de_name (by assumption) ?hi ?hd ?_; (case hi => (repeat (with_reducible constructor))); (case hd => (repeat (with_reducible constructor))))
    refine dmc_pair (by assumption) (by (repeat (with_reducible constructor))) (by (repeat (with_reducible constructor))) (fun h => absurd h (by decide)) (fun _ => ?_)
    refine dmc_pair (by assumption) (by (repeat (with_reducible constructor))) (by (repeat (with_reducible constructor))) (fun h => absurd h (by decide)) (fun _ => ?_)
    refine dmc_pair (by assumption) (by (repeat (with_reducible constructor))) (by (repeat (with_reducible constructor))) (fun _ => ⟨_, by (repeat (with_reducible constructor)), ?_⟩) (fun h => absurd rfl h)
    walk_at "go_Choir_execute"
    have hb : 0 ≤ b ∧ b ≤ 501 := ho
    have sb0 := hI.st.b0
    have sb1 := hI.st.b1
    by_cases h5 : 500 < b
    · simp only [workR, onR, if_pos h5, onW] at hw
      exact nomatch hw
    · simp only [workR, onR, if_neg h5, onW] at hw
      injection hw with e1 e2
      subst e1 e2
      refine dc_fn (ok_Choir_sing T) (hr.mono (by decide)) ⟨c, pa, un, sv, ms, sh0, h, kvs, O', b, rfl, fun v hv => (hI.st.vr v hv).2, hb.1, by omega, by omega, by omega, by omega, h8, rfl, fun un' => ?_⟩
      walk_at "go_Choir_execute"
      exact q un'
  | undo =>
    show DSs X _ [some (.ref c), some (.tup [.str "undo"]), none, none, none] _ _ _
    refine dss_cons ?_
    refine ds_match ?_
    (with_reducible refine' de_name (by assumption) ?hi ?hd ?_; (case hi => (repeat (with_reducible constructor))); (case hd => (repeat (with_reducible constructor))))
    refine dmc_miss (by decide) ?_ (by simp)
    refine dmc_miss (by decide) ?_ (by simp)
    refine dmc_miss (by decide) ?_ (by simp)
    refine dmc_word (by assumption) (fun _ => ?_) (fun h => absurd rfl h)
    walk_at "go_Choir_execute"
    injection hw with e1 e2
    subst e1 e2
    refine dc_fn (ok_Choir_undo T) (hr.mono (by decide)) ⟨c, pa, un, sv, ms, sh0, h, kvs, O', rfl, by omega, by omega, rfl, ?_⟩
    walk_at "go_Choir_execute"
    exact q un
  | redo =>
    show DSs X _ [some (.ref c), some (.tup [.str "redo"]), none, none, none] _ _ _
    refine dss_cons ?_
    refine ds_match ?_
    (with_reducible refine' de_name (by assumption) ?hi ?hd ?_; (case hi => (repeat (with_reducible constructor))); (case hd => (repeat (with_reducible constructor))))
    refine dmc_miss (by decide) ?_ (by simp)
    refine dmc_miss (by decide) ?_ (by simp)
    refine dmc_miss (by decide) ?_ (by simp)
    refine dmc_word (by assumption) (fun h => absurd h (by decide)) (fun _ => ?_)
    refine dmc_nil ?_
    walk_at "go_Choir_execute"
    injection hw with e1 e2
    subst e1 e2
    refine dc_fn (ok_Choir_redo T) (hr.mono (by decide)) ⟨c, pa, un, sv, ms, sh0, h, kvs, O', rfl, by omega, by omega, rfl, ?_⟩
    walk_at "go_Choir_execute"
    exact q un
end
section
variable {P : Program} {w : World} {K : PySem.W.Frag} {mg : Str → Option Value} {base : Heap} {a : Adr}
inductive Run (ms : List Note) : Ch → List Opn → List D → Ch → Prop
  | nil {h : Ch} : Run ms h [] [] h
  | cons {h h1 h2 : Ch} {op : Opn} {ops : List Opn} {v : D} {vs : List D} : workR ms h op = .good v h1 → Run ms h1 ops vs h2 → Run ms h (op :: ops) (v :: vs) h2
theorem Run.snoc {ms : List Note} {h h1 h2 : Ch} {op : Opn} {ops : List Opn} {v : D} {vs : List D} (r : Run ms h ops vs h1) (e : workR ms h1 op = .good v h2) : Run ms h (ops ++ [op]) (vs ++ [v]) h2 := by
  induction r with
  | nil => exact .cons e .nil
  | cons e1 _ ih => exact .cons e1 (ih e)
theorem Run.len {ms : List Note} {h h1 : Ch} {ops : List Opn} {vs : List D} (r : Run ms h ops vs h1) : vs.length = ops.length := by
  induction r with
  | nil => rfl
  | cons _ _ ih => rw [List.length_cons, List.length_cons, ih]
theorem Run.split {ms : List Note} {h h2 : Ch} {ops : List Opn} {vs : List D} (r : Run ms h ops vs h2) : ∀ k : Nat, ∃ h1, Run ms h (ops.take k) (vs.take k) h1 ∧ Run ms h1 (ops.drop k) (vs.drop k) h2 := by
  induction r with
  | nil => exact fun k => ⟨_, by simpa using .nil, by simpa using .nil⟩
  | @cons h h1 h2 op ops v vs e r ih =>
    intro k
    cases k with
    | zero => exact ⟨h, .nil, .cons e r⟩
    | succ k =>
      obtain ⟨h3, r1, r2⟩ := ih k
      exact ⟨h3, .cons e r1, r2⟩
theorem Run.ci {ms : List Note} {h h2 : Ch} {ops : List Opn} {vs : List D} (r : Run ms h ops vs h2) (hm : Mel ms) : ∀ {n : Nat}, (∀ op ∈ ops, okOpn op) → CI ms n h → CI ms (n + ops.length) h2 := by
  induction r with
  | nil => exact fun _ I => I
  | @cons h h1 h2 op ops v vs e r ih =>
    intro n ho I
    have := ih (fun o h => ho o (List.mem_cons_of_mem _ h)) (I.next hm (ho op List.mem_cons_self) e)
    rw [List.length_cons, show n + (ops.length + 1) = n + 1 + ops.length by omega]
    exact this
theorem Run.det {ms : List Note} {h h1 h2 : Ch} {ops : List Opn} {vs ws : List D} (r : Run ms h ops vs h1) : Run ms h ops ws h2 → vs = ws ∧ h1 = h2 := by
  induction r generalizing ws with
  | nil => intro r2; cases r2; exact ⟨rfl, rfl⟩
  | cons e _ ih =>
    intro r2
    cases r2 with
    | cons e2 r2 =>
      have := e.symm.trans e2
      injection this with a b
      subst a b
      obtain ⟨a, b⟩ := ih r2
      subst a b
      exact ⟨rfl, rfl⟩
theorem Run.step {ms : List Note} {h h1 h2 : Ch} {ops : List Opn} {vs : List D} {i : Nat} {op : Opn} (r : Run ms h ops vs h1) (ho : ops[i]? = some op) (r2 : Run ms h (ops.take i) (vs.take i) h2) : ∃ v h3, workR ms h2 op = .good v h3 ∧ vs[i]? = some v ∧ Run ms h (ops.take (i + 1)) (vs.take (i + 1)) h3 := by
  obtain ⟨h4, r3, r4⟩ := r.split i
  obtain ⟨_, rfl⟩ := r2.det r3
  have hi := (List.getElem?_eq_some_iff.1 ho).1
  have e : ops.drop i = op :: ops.drop (i + 1) := by
    rw [List.drop_eq_getElem_cons hi]
    rw [List.getElem?_eq_getElem hi] at ho
    injection ho with ho
    rw [ho]
  rw [e] at r4
  generalize hq : vs.drop i = q at r4
  cases r4 with
  | @cons _ h3 _ _ _ v vs' ew r5 =>
    have hv : vs[i]? = some v := by
      have : (vs.drop i)[0]? = some v := by rw [hq]; rfl
      rwa [List.getElem?_drop, Nat.add_zero] at this
    refine ⟨v, h3, ew, hv, ?_⟩
    have := r2.snoc ew
    rwa [show ops.take i ++ [op] = ops.take (i + 1) by rw [List.take_add_one, ho]; rfl, show vs.take i ++ [v] = vs.take (i + 1) by rw [List.take_add_one, hv]; rfl] at this
theorem Run.last {ms : List Note} {h h1 h2 : Ch} {ops : List Opn} {vs : List D} (r : Run ms h ops vs h1) (r2 : Run ms h (ops.take ops.length) (vs.take ops.length) h2) : h2 = h1 := by
  rw [List.take_length, ← r.len, List.take_length] at r2
  exact (r2.det r).2
theorem onW_valR {h h' : Ch} {w : Str} {o : On} {v : D} (hw : onW h w o = .good v h') : ∃ x : Int, v = .int x := by
  cases o with
  | bad e => exact nomatch hw
  | good x s => injection hw with h1 _; exact ⟨x, h1.symm⟩
theorem workR_valR {ms : List Note} {h h' : Ch} {op : Opn} {v : D} (hw : workR ms h op = .good v h') : (∃ b, v = .bl b) ∨ ∃ x, v = .int x := by
  cases op with
  | undo => injection hw with h1 _; exact .inl ⟨_, h1.symm⟩
  | redo => injection hw with h1 _; exact .inl ⟨_, h1.symm⟩
  | enter k => exact .inr (onW_valR hw)
  | leave k => exact .inr (onW_valR hw)
  | sing k => exact .inr (onW_valR hw)
theorem workR_val {ms : List Note} {h h' : Ch} {op : Opn} {v : D} (hw : workR ms h op = .good v h') : Eqd 0 v := by
  rcases workR_valR hw with ⟨b, rfl⟩ | ⟨x, rfl⟩
  · exact eqd_bl _
  · exact eqd_int _
theorem workR_bad {ms : List Note} {h : Ch} {op : Opn} {e : Er} (hw : workR ms h op = .bad e) : e = .number ∨ e = .range ∨ e = .many ∨ e = .voice := by
  cases op with
  | undo => exact nomatch hw
  | redo => exact nomatch hw
  | enter k =>
    simp only [workR] at hw
    cases hr : onR ms h.st (.enter k) with
    | bad e2 => rw [hr] at hw; injection hw with hw; subst hw; exact onR_bad hr
    | good x s => rw [hr] at hw; exact nomatch hw
  | leave k =>
    simp only [workR] at hw
    cases hr : onR ms h.st (.leave k) with
    | bad e2 => rw [hr] at hw; injection hw with hw; subst hw; exact onR_bad hr
    | good x s => rw [hr] at hw; exact nomatch hw
  | sing k =>
    simp only [workR] at hw
    cases hr : onR ms h.st (.sing k) with
    | bad e2 => rw [hr] at hw; injection hw with hw; subst hw; exact onR_bad hr
    | good x s => rw [hr] at hw; exact nomatch hw
theorem undo_Chn {s0 : CSt} {h : Ch} (c : Chn s0 h.past h.st) : Chn s0 h.undo.past h.undo.st := by
  obtain ⟨s, p, u⟩ := h
  rcases List.eq_nil_or_concat p with rfl | ⟨p, o, rfl⟩
  · exact c
  · rw [List.concat_eq_append] at c ⊢
    rw [undo_snoc]
    exact (Chn.undo c).1
theorem Chn.none {s0 s : CSt} {p : List COp} (c : Chn s0 p s) (hp : p = []) : s = s0 := by
  cases c with
  | nil => rfl
  | snoc c => simp at hp
/-- what is in effect leads from the start -/
def Frm (h : Ch) : Prop := Chn ⟨0, [], 0, 0⟩ h.past h.st
theorem Frm.redo {ms : List Note} {n : Nat} {h : Ch} (I : CI ms n h) (f : Frm h) : Frm h.redo := by
  obtain ⟨s, p, u⟩ := h
  rcases List.eq_nil_or_concat u with rfl | ⟨u, o, rfl⟩
  · exact f
  · rw [List.concat_eq_append] at I f ⊢
    rw [redo_snoc]
    obtain ⟨w, s1, s2⟩ := o
    obtain ⟨_, c2⟩ := Chu.redo I.cu
    have c2 : s1 = s := c2
    subst c2
    exact Chn.snoc (show Chn _ p s1 from f)
theorem Frm.next {ms : List Note} {n : Nat} {h h' : Ch} {op : Opn} {v : D} (I : CI ms n h) (f : Frm h) (hw : workR ms h op = .good v h') : Frm h' := by
  have key : ∀ {w : Str} {o : On}, onW h w o = .good v h' → Frm h' := fun {w o} e => by
    cases o with
    | bad e2 => exact nomatch e
    | good x s => injection e with _ e; subst e; exact f.act _ _
  cases op with
  | undo => injection hw with _ hw; subst hw; exact undo_Chn f
  | redo => injection hw with _ hw; subst hw; exact f.redo I
  | enter k => exact key hw
  | leave k => exact key hw
  | sing k => exact key hw
end
set_option hygiene false in
local macro_rules | `(tactic| walk_at "st_check_shift") => `(tactic| (with_reducible refine as_DI ?_; (first | (with_reducible refine di_seq ?_))))
set_option hygiene false in
local macro_rules | `(tactic| walk_at "st_check_shift") => `(tactic| walk_at "g1")
set_option hygiene false in
local macro_rules | `(tactic| walk_at "st_check_shift") => `(tactic| (with_reducible refine own_out ?_))
set_option hygiene false in
local macro_rules | `(tactic| walk_at "st_check_shift") => `(tactic| (with_reducible refine as_NL ?_; (first | (with_reducible refine nl_fz ?_))))
set_option hygiene false in
local macro_rules | `(tactic| walk_at "st_check_shift") => `(tactic| (with_reducible refine as_DS ?_; (first | (with_reducible refine' ds_setCD (by assumption) (by assumption) ?hi ?_ ?hl; (case hl => ((repeat (with_reducible constructor)); done)); (case hi => (repeat (with_reducible constructor)))) | (with_reducible refine ds_forL (by assumption) Df.po ?_))))
set_option hygiene false in
local macro_rules | `(tactic| walk_at "go_check_shift") => `(tactic| (repeat (walk_at "st_check_shift")))
set_option hygiene false in
local macro_rules | `(tactic| walk_at "st_Choir_enter") => `(tactic| (with_reducible refine as_DI ?_; (first | (with_reducible refine di_seq ?_))))
set_option hygiene false in
local macro_rules | `(tactic| walk_at "st_Choir_enter") => `(tactic| walk_at "g1")
set_option hygiene false in
local macro_rules | `(tactic| walk_at "st_Choir_enter") => `(tactic| (with_reducible refine own_out ?_))
set_option hygiene false in
local macro_rules | `(tactic| walk_at "st_Choir_enter") => `(tactic| (with_reducible refine as_NL ?_; (first | fail )))
set_option hygiene false in
local macro_rules | `(tactic| walk_at "st_Choir_enter") => `(tactic| (with_reducible refine as_DS ?_; (first | (with_reducible refine' ds_setCD (by assumption) (by assumption) ?hi ?_ ?hl; (case hl => ((repeat (with_reducible constructor)); done)); (case hi => (repeat (with_reducible constructor)))) | (with_reducible refine ds_forL (by assumption) Df.po ?_))))
set_option hygiene false in
local macro_rules | `(tactic| walk_at "go_Choir_enter") => `(tactic| (repeat (walk_at "st_Choir_enter")))
set_option hygiene false in
local macro_rules | `(tactic| walk_at "st_Choir_leave") => `(tactic| (with_reducible refine as_DI ?_; (first | (with_reducible refine di_seq ?_))))
set_option hygiene false in
local macro_rules | `(tactic| walk_at "st_Choir_leave") => `(tactic| walk_at "g1")
set_option hygiene false in
local macro_rules | `(tactic| walk_at "st_Choir_leave") => `(tactic| (with_reducible refine own_out ?_))
set_option hygiene false in
local macro_rules | `(tactic| walk_at "st_Choir_leave") => `(tactic| (with_reducible refine as_NL ?_; (first | (with_reducible refine nl_fz ?_))))
set_option hygiene false in
local macro_rules | `(tactic| walk_at "st_Choir_leave") => `(tactic| (with_reducible refine as_DE ?_; (first | (with_reducible refine de_lcXc [("voice", 8)] ⟨.function, [(".0", .local), ("voice", .local), ("is_int_in", .globalImplicit), ("number", .cell)], false, false, []⟩ (by assumption) ?_) | (with_reducible refine de_lcXc [("voice", 8)] ⟨.function, [(".0", .local), ("voice", .local), ("number", .cell)], false, false, []⟩ (by assumption) ?_))))
set_option hygiene false in
local macro_rules | `(tactic| walk_at "st_Choir_leave") => `(tactic| (with_reducible refine as_DS ?_; (first | (with_reducible refine' ds_setLcXc (hl := ?hl) [("voice", 8)] ⟨.function, [(".0", .local), ("voice", .local), ("is_int_in", .globalImplicit), ("number", .cell)], false, false, []⟩ (by assumption) ?hi ?_; (case hl => ((repeat (with_reducible constructor)); done)); (case hi => (repeat (with_reducible constructor)))) | (with_reducible refine' ds_setLcXc (hl := ?hl) [("voice", 8)] ⟨.function, [(".0", .local), ("voice", .local), ("number", .cell)], false, false, []⟩ (by assumption) ?hi ?_; (case hl => ((repeat (with_reducible constructor)); done)); (case hi => (repeat (with_reducible constructor)))) | (with_reducible refine' ds_setCD (by assumption) (by assumption) ?hi ?_ ?hl; (case hl => ((repeat (with_reducible constructor)); done)); (case hi => (repeat (with_reducible constructor)))) | (with_reducible refine ds_forL (by assumption) Df.po ?_))))
set_option hygiene false in
local macro_rules | `(tactic| walk_at "go_Choir_leave") => `(tactic| (repeat (walk_at "st_Choir_leave")))
set_option hygiene false in
local macro_rules | `(tactic| walk_at "st_Choir_sing") => `(tactic| (with_reducible refine as_DI ?_; (first | (with_reducible refine di_seq ?_))))
set_option hygiene false in
local macro_rules | `(tactic| walk_at "st_Choir_sing") => `(tactic| walk_at "g1")
set_option hygiene false in
local macro_rules | `(tactic| walk_at "st_Choir_sing") => `(tactic| (with_reducible refine own_out ?_))
set_option hygiene false in
local macro_rules | `(tactic| walk_at "st_Choir_sing") => `(tactic| (with_reducible refine as_NL ?_; (first | (with_reducible refine nl_fz ?_))))
set_option hygiene false in
local macro_rules | `(tactic| walk_at "st_Choir_sing") => `(tactic| (with_reducible refine as_DE ?_; (first | (with_reducible refine de_lcXc [("voice", 11), ("start", 12), ("part", 13)] ⟨.function, [(".0", .local), ("voice", .local), ("start", .local), ("part", .local), ("turn", .cell)], false, false, []⟩ (by assumption) ?_) | (with_reducible refine de_lcXc [("other", 14)] ⟨.function, [(".0", .local), ("other", .local), ("do_clash", .globalImplicit), ("pitch", .cell), ("self", .cell)], false, false, []⟩ (by assumption) ?_))))
set_option hygiene false in
local macro_rules | `(tactic| walk_at "st_Choir_sing") => `(tactic| (with_reducible refine as_DS ?_; (first | (with_reducible refine' ds_setLcXc (hl := ?hl) [("voice", 11), ("start", 12), ("part", 13)] ⟨.function, [(".0", .local), ("voice", .local), ("start", .local), ("part", .local), ("turn", .cell)], false, false, []⟩ (by assumption) ?hi ?_; (case hl => ((repeat (with_reducible constructor)); done)); (case hi => (repeat (with_reducible constructor)))) | (with_reducible refine' ds_setLcXc (hl := ?hl) [("other", 14)] ⟨.function, [(".0", .local), ("other", .local), ("do_clash", .globalImplicit), ("pitch", .cell), ("self", .cell)], false, false, []⟩ (by assumption) ?hi ?_; (case hl => ((repeat (with_reducible constructor)); done)); (case hi => (repeat (with_reducible constructor)))) | (with_reducible refine' ds_setCD (by assumption) (by assumption) ?hi ?_ ?hl; (case hl => ((repeat (with_reducible constructor)); done)); (case hi => (repeat (with_reducible constructor)))) | (with_reducible refine ds_forL (by assumption) Df.po ?_))))
set_option hygiene false in
local macro_rules | `(tactic| walk_at "go_Choir_sing") => `(tactic| (repeat (walk_at "st_Choir_sing")))
section
variable {P : Program} {w : World} {K : PySem.W.Frag} {mg : Str → Option Value} {base : Heap} {a : Adr}
def spCheckShiftE (a : Adr) : DSp := fun ds O E Q => ∃ k : Int, ds = [.int k] ∧ (-24 ≤ k ∧ k ≤ 24 → Q .non O) ∧ (¬ (-24 ≤ k ∧ k ≤ 24) → E (xdA a .number) O)
theorem ok_check_shiftE (T : Txt K mg a) : DFn P w K mg base 2 a.f_check_shift (spCheckShiftE a) := by
  refine T.check_shift.ok sc_check_shift (fun ds O E Q h => by obtain ⟨_, e, _⟩ := h; rw [e]; rfl) ?_
  intro X I S0 Df hr ds O E Q hsp; obtain ⟨rfl, rfl, rfl, rfl, rfl, pa⟩ := I; have S : Sc X _ c_check_shift := S0; clear S0
  obtain ⟨k, rfl, q, qe⟩ := hsp
  show DSs X _ [some (.int k)] O _ _
  refine dss_cons ?_
  walk_at "go_check_shift"
  rw [isIn_int]
  by_cases hk : -24 ≤ k ∧ k ≤ 24
  · rw [decide_eq_true hk]
    walk_at "go_check_shift"
    exact q hk
  · rw [decide_eq_false hk]
    walk_at "go_check_shift"
    exact qe hk
def spChEnterE (a : Adr) : DSp := fun ds O E Q => ∃ c pa un sv ns sharp h kvs O' sh, ds = [.ref c, .int sh] ∧ Mel ns ∧ h.past.length ≤ 50000 ∧ h.st.vs.length ≤ 8 ∧ O = chO a.C_Choir a.C_Melody ns sharp c pa un sv h kvs O' ∧
  (¬ (-24 ≤ sh ∧ sh ≤ 24) → E (xdA a .number) O) ∧ (-24 ≤ sh ∧ sh ≤ 24 → inRange (shiftN sh ns) = false → E (xdA a .range) O) ∧ (-24 ≤ sh ∧ sh ≤ 24 → inRange (shiftN sh ns) = true → h.st.vs.length = 8 → E (xdA a .many) O) ∧
  (-24 ≤ sh ∧ sh ≤ 24 → inRange (shiftN sh ns) = true → Mel (shiftN sh ns) → h.st.vs.length < 8 → ∀ un', Q (.int h.st.nxt) (chO a.C_Choir a.C_Melody ns sharp c pa un' sv (h.act "enter" (h.st.enter sh)) kvs O'))
theorem ok_Choir_enterE (T : Txt K mg a) : DFn P w K mg base 9 a.f_Choir_enter (spChEnterE a) := by
  refine T.Choir_enter.ok sc_Choir_enter (fun ds O E Q h => by obtain ⟨_, _, _, _, _, _, _, _, _, _, e, _⟩ := h; rw [e]; rfl) ?_
  intro X I S0 Df hr ds O E Q hsp; obtain ⟨rfl, rfl, rfl, rfl, rfl, pa⟩ := I; have S : Sc X _ c_Choir_enter := S0; clear S0
  obtain ⟨c, pa, un, sv, ns, sharp, h, kvs, O', sh, rfl, hm, hl, h8, rfl, q1, q2, q3, q4⟩ := hsp
  obtain ⟨⟨beat, vs, nxt, cnt⟩, past, undone⟩ := h
  have h8 : vs.length ≤ 8 := h8
  show DSs X _ [some (.ref c), some (.int sh), none, none, none, none, none] ((sv, .dK kvs) :: (un, .lst (undone.map (dCOp a.C_Melody ns))) :: (pa, .lst (past.map (dCOp a.C_Melody ns))) :: (c, .ins a.C_Choir (chFs a.C_Melody ns sharp ⟨beat, vs, nxt, cnt⟩ pa un sv)) :: O') _ _
  refine dss_cons ?_
  walk_at "go_Choir_enter"
  refine dc_fn (ok_check_shiftE T) (hr.mono (by decide)) ⟨sh, rfl, fun hs => ?_, fun hs => q1 hs⟩
  walk_at "go_Choir_enter"
  refine db_shiftE T hr (by decide) (by omega) (by omega) hm (fun hi hm2 => ?_) (fun hi => q2 hs hi)
  walk_at "go_Choir_enter"
  (first | with_reducible refine br_d (fun h => ?_) (fun h => ?_) | with_reducible refine rb_d (fun h => ?_) (fun h => ?_) | with_reducible refine br_nd (fun h => ?_) (fun h => ?_) | with_reducible refine rb_nd (fun h => ?_) (fun h => ?_))
  · walk_at "go_Choir_enter"
    exact q3 hs hi (by have : ((vs.map (dVc a.C_Melody ns)).length : Int) = 8 := h; rw [List.length_map] at this; show vs.length = 8; omega)
  · have h7 : vs.length < 8 := by
      have : ¬ ((vs.map (dVc a.C_Melody ns)).length : Int) = 8 := h
      rw [List.length_map] at this
      omega
    walk_at "go_Choir_enter"
    refine ⟨by simp; omega, ?_⟩
    walk_at "go_Choir_enter"
    refine dc_fn (ok_Choir_record T) (hr.mono (by decide)) ⟨c, pa, un, sv, ns, sharp, ⟨⟨beat, vs, nxt, cnt⟩, past, undone⟩, kvs, O', "enter", CSt.enter ⟨beat, vs, nxt, cnt⟩ sh, by simp [CSt.enter], hl, rfl, fun un' => ?_⟩
    walk_at "go_Choir_enter"
    exact q4 hs hi hm2 h7 un'
def spChLeaveE (a : Adr) : DSp := fun ds O E Q => ∃ c pa un sv ns sharp h kvs O' n, ds = [.ref c, .int n] ∧ h.past.length ≤ 50000 ∧ h.st.vs.length ≤ 8 ∧ O = chO a.C_Choir a.C_Melody ns sharp c pa un sv h kvs O' ∧
  ((h.st.vs.filter fun v => decide (v.num = n)) = [] → E (xdA a .voice) O) ∧ (∀ v vs', (h.st.vs.filter fun v => decide (v.num = n)) = v :: vs' → ∀ un', Q (.int (h.st.beat - v.start)) (chO a.C_Choir a.C_Melody ns sharp c pa un' sv (h.act "leave" (h.st.leave n)) kvs O'))
theorem ok_Choir_leaveE (T : Txt K mg a) : DFn P w K mg base 3 a.f_Choir_leave (spChLeaveE a) := by
  refine T.Choir_leave.ok sc_Choir_leave (fun ds O E Q h => by obtain ⟨_, _, _, _, _, _, _, _, _, _, e, _⟩ := h; rw [e]; rfl) ?_
  intro X I S0 Df hr ds O E Q hsp; obtain ⟨rfl, rfl, rfl, rfl, rfl, pa⟩ := I; have S : Sc X _ c_Choir_leave := S0; clear S0
  obtain ⟨c, pa, un, sv, ns, sharp, h, kvs, O', n, rfl, hl, h8, rfl, q1, q2⟩ := hsp
  obtain ⟨⟨beat, vs, nxt, cnt⟩, past, undone⟩ := h
  have h8 : vs.length ≤ 8 := h8
  show DSs X _ [some (.ref c), some (.int n), none, none, none, none, none, none, none] ((sv, .dK kvs) :: (un, .lst (undone.map (dCOp a.C_Melody ns))) :: (pa, .lst (past.map (dCOp a.C_Melody ns))) :: (c, .ins a.C_Choir (chFs a.C_Melody ns sharp ⟨beat, vs, nxt, cnt⟩ pa un sv)) :: O') _ _
  refine dss_cons ?_
  walk_at "go_Choir_leave"
  refine ⟨Vc, vs, dVc a.C_Melody ns, fun v => if decide (v.num = n) then [dVc a.C_Melody ns v] else [], rfl, by omega, fun v hv => ?_, ?_⟩
  · walk_at "go_Choir_leave"
    rw [isIn_int, show decide (v.num ≤ n ∧ n ≤ v.num) = decide (v.num = n) from decide_eq_decide.2 (by omega)]
    (first | with_reducible refine br_d (fun h => ?_) (fun h => ?_) | with_reducible refine rb_d (fun h => ?_) (fun h => ?_) | with_reducible refine br_nd (fun h => ?_) (fun h => ?_) | with_reducible refine rb_nd (fun h => ?_) (fun h => ?_))
    · walk_at "go_Choir_leave"
      exact ⟨rfl, if_pos (decide_eq_true h)⟩
    · walk_at "go_Choir_leave"
      exact ⟨rfl, if_neg (by simpa using h)⟩
  rw [fm_fil]
  have q1 : (vs.filter fun v => decide (v.num = n)) = [] → _ := q1
  have q2 : ∀ v vs', (vs.filter fun v => decide (v.num = n)) = v :: vs' → _ := q2
  cases hf : (vs.filter fun v => decide (v.num = n)) with
  | nil =>
    walk_at "go_Choir_leave"
    refine db_eqLE hr ?_
    walk_at "go_Choir_leave"
    exact q1 hf
  | cons v vs' =>
    walk_at "go_Choir_leave"
    refine db_eqLE hr ?_
    walk_at "go_Choir_leave"
    refine ⟨Vc, vs, dVc a.C_Melody ns, fun v => if (!decide (v.num = n)) then [dVc a.C_Melody ns v] else [], rfl, by omega, fun v hv => ?_, ?_⟩
    · walk_at "go_Choir_leave"
      (first | with_reducible refine br_d (fun h => ?_) (fun h => ?_) | with_reducible refine rb_d (fun h => ?_) (fun h => ?_) | with_reducible refine br_nd (fun h => ?_) (fun h => ?_) | with_reducible refine rb_nd (fun h => ?_) (fun h => ?_))
      · walk_at "go_Choir_leave"
        exact ⟨rfl, by simp [h]⟩
      · walk_at "go_Choir_leave"
        exact ⟨rfl, by simp [h]⟩
    rw [fm_fil]
    walk_at "go_Choir_leave"
    refine dc_fn (ok_Choir_record T) (hr.mono (by decide)) ⟨c, pa, un, sv, ns, sharp, ⟨⟨beat, vs, nxt, cnt⟩, past, undone⟩, kvs, O', "leave", CSt.leave ⟨beat, vs, nxt, cnt⟩ n, by simp [CSt.leave], hl, rfl, fun un' => ?_⟩
    walk_at "go_Choir_leave"
    refine dx_lst atI_0 ?_
    walk_at "go_Choir_leave"
    exact q2 v vs' hf un'
/-- singing for too long -/
def spChSingX (a : Adr) : DSp := fun ds O E Q => ∃ c C fs O' n, ds = [.ref c, .int n] ∧ O = O' ∧ At c (.ins C fs) O' ∧ ¬ (0 ≤ n ∧ n ≤ 500) ∧ E (xdA a .number) O
theorem ok_Choir_singX (T : Txt K mg a) : DFn P w K mg base 3 a.f_Choir_sing (spChSingX a) := by
  refine T.Choir_sing.ok sc_Choir_sing (fun ds O E Q h => by obtain ⟨_, _, _, _, _, e, _⟩ := h; rw [e]; rfl) ?_
  intro X I S0 Df hr ds O E Q hsp; obtain ⟨rfl, rfl, rfl, rfl, rfl, pa⟩ := I; have S : Sc X _ c_Choir_sing := S0; clear S0
  obtain ⟨c, C, fs, O', n, rfl, rfl, hat, hn, q⟩ := hsp
  show DSs X _ [some (.ref c), some (.int n), none, none, none, none, none, none, none, none, none, none, none, none, none] O _ _
  refine dss_cons ?_
  walk_at "go_Choir_sing"
  rw [isIn_int, decide_eq_false hn]
  walk_at "go_Choir_sing"
  exact q
end
set_option hygiene false in
local macro_rules | `(tactic| walk_at "st_Choir_execute") => `(tactic| (with_reducible refine as_DI ?_; (first | (with_reducible refine di_seq ?_))))
set_option hygiene false in
local macro_rules | `(tactic| walk_at "st_Choir_execute") => `(tactic| walk_at "g1")
set_option hygiene false in
local macro_rules | `(tactic| walk_at "st_Choir_execute") => `(tactic| (with_reducible refine own_out ?_))
set_option hygiene false in
local macro_rules | `(tactic| walk_at "st_Choir_execute") => `(tactic| (with_reducible refine as_NL ?_; (first | (with_reducible refine nl_fz ?_))))
set_option hygiene false in
local macro_rules | `(tactic| walk_at "st_Choir_execute") => `(tactic| (with_reducible refine as_DS ?_; (first | (with_reducible refine' ds_setCD (by assumption) (by assumption) ?hi ?_ ?hl; (case hl => ((repeat (with_reducible constructor)); done)); (case hi => (repeat (with_reducible constructor)))) | (with_reducible refine ds_forL (by assumption) Df.po ?_))))
set_option hygiene false in
local macro_rules | `(tactic| walk_at "go_Choir_execute") => `(tactic| (repeat (walk_at "st_Choir_execute")))
set_option hygiene false in
local macro_rules | `(tactic| walk_at "lm_Choir_batch") => `(tactic| (first
  | (with_reducible refine de_lcMc [("operation", 3)] ⟨.function, [(".0", .local), ("operation", .local), ("self", .cell)], false, false, []⟩ (by assumption) ?_)))
set_option hygiene false in
local macro_rules | `(tactic| walk_at "sm_Choir_batch") => `(tactic| (first
  | fail ))
set_option hygiene false in
local macro_rules | `(tactic| walk_at "st_Choir_batch") => `(tactic| (with_reducible refine as_DI ?_; (first | (with_reducible refine di_seq ?_))))
set_option hygiene false in
local macro_rules | `(tactic| walk_at "st_Choir_batch") => `(tactic| walk_at "g1")
set_option hygiene false in
local macro_rules | `(tactic| walk_at "st_Choir_batch") => `(tactic| (with_reducible refine own_out ?_))
set_option hygiene false in
local macro_rules | `(tactic| walk_at "st_Choir_batch") => `(tactic| (with_reducible refine as_NL ?_; (first | fail )))
set_option hygiene false in
local macro_rules | `(tactic| walk_at "st_Choir_batch") => `(tactic| (with_reducible refine as_DE ?_; (first | (with_reducible refine de_lcXc [("operation", 3)] ⟨.function, [(".0", .local), ("operation", .local), ("self", .cell)], false, false, []⟩ (by assumption) ?_))))
set_option hygiene false in
local macro_rules | `(tactic| walk_at "st_Choir_batch") => `(tactic| (with_reducible refine as_DS ?_; (first | (with_reducible refine' ds_setLcXc (hl := ?hl) [("operation", 3)] ⟨.function, [(".0", .local), ("operation", .local), ("self", .cell)], false, false, []⟩ (by assumption) ?hi ?_; (case hl => ((repeat (with_reducible constructor)); done)); (case hi => (repeat (with_reducible constructor)))) | (with_reducible refine' ds_setCD (by assumption) (by assumption) ?hi ?_ ?hl; (case hl => ((repeat (with_reducible constructor)); done)); (case hi => (repeat (with_reducible constructor)))) | (with_reducible refine ds_forL (by assumption) Df.po ?_))))
set_option hygiene false in
local macro_rules | `(tactic| walk_at "go_Choir_batch") => `(tactic| (repeat (walk_at "st_Choir_batch")))
set_option hygiene false in
local macro_rules | `(tactic| walk_at "hs_Choir_batch") => `(tactic| (with_reducible refine as_DI ?_; (first | (with_reducible refine di_seq ?_))))
set_option hygiene false in
local macro_rules | `(tactic| walk_at "hs_Choir_batch") => `(tactic| walk_at "h1")
set_option hygiene false in
local macro_rules | `(tactic| walk_at "hs_Choir_batch") => `(tactic| (with_reducible refine own_out ?_))
set_option hygiene false in
local macro_rules | `(tactic| walk_at "hs_Choir_batch") => `(tactic| (with_reducible refine as_NL ?_; (first | fail )))
set_option hygiene false in
local macro_rules | `(tactic| walk_at "hs_Choir_batch") => `(tactic| (with_reducible refine as_DE ?_; (first | (with_reducible refine de_lcXc [("operation", 3)] ⟨.function, [(".0", .local), ("operation", .local), ("self", .cell)], false, false, []⟩ (by assumption) ?_))))
set_option hygiene false in
local macro_rules | `(tactic| walk_at "hs_Choir_batch") => `(tactic| (with_reducible refine as_DS ?_; (first | (with_reducible refine' ds_setLcXc (hl := ?hl) [("operation", 3)] ⟨.function, [(".0", .local), ("operation", .local), ("self", .cell)], false, false, []⟩ (by assumption) ?hi ?_; (case hl => ((repeat (with_reducible constructor)); done)); (case hi => (repeat (with_reducible constructor)))) | (with_reducible refine' ds_setCD (by assumption) (by assumption) ?hi ?_ ?hl; (case hl => ((repeat (with_reducible constructor)); done)); (case hi => (repeat (with_reducible constructor)))) | (with_reducible refine ds_forL (by assumption) Df.po ?_))))
set_option hygiene false in
local macro_rules | `(tactic| walk_at "ho_Choir_batch") => `(tactic| (repeat (walk_at "hs_Choir_batch")))
section
variable {P : Program} {w : World} {K : PySem.W.Frag} {mg : Str → Option Value} {base : Heap} {a : Adr}
def LessEP (E : XD → Own → Prop) (x : XD) (O : Own) : Prop := ∃ O1 O2, O.Perm O1 ∧ O2.Sublist O1 ∧ E x O2
theorem dss_lessEP {X : Cx} {sts : List Stmt} {δ : DEnv} {O : Own} {Q : D → Own → Prop} {E : XD → Own → Prop} {nx : DEnv → Own → Prop} (q : DSs X sts δ O (bkOf Q (LessEP E)) nx) : DSs X sts δ O (bkOf Q E) nx := fun W tk G σ H D r s l =>
  q W tk G σ H D r s ⟨l.nx, l.rt, l.bk, l.ct, fun G' H' O' δ' σ' x c dd st r' xr ⟨O1, O2, h1, h2, e⟩ => l.ex G' H' O2 δ' σ' x c dd ((st.perm h1).less h2) r' xr e⟩
section
variable {X : Cx} {δ : DEnv} {O : Own} {E : XD → DEnv → Own → Prop} {k : DEnv → Own → Prop} {pos : Pos}
/-- a tuple taken apart while an error is handled -/
theorem dg_tupZ {es : List Expr} {k' : Nat} {ds : List D} (hot : L2H.HotC X) (hl : ds.length = es.length) (h : DGs X es ds δ O E k) (hn : (assignEach es X.env).length = es.length := by with_unfolding_all rfl) (hst : (assignEach es X.env).findIdx? (·.1) = none := by with_unfolding_all rfl) : DG X (.Tuple es k' pos) (.tup ds) δ O E k := fun W tk v G σ H Q rd r s hE hk pins s' u I ru => by
  cases rd with
  | @tup _ a vs hq rl =>
    exact (pg_tupH hot pgs_sem hn hst).run pins s' σ H _ u Q I ru ⟨a, vs, rfl, s.sub.seqT hq, by rw [rl.length, hl], h W tk vs G σ H Q rl r s hE hk⟩
end
theorem ds_perm {X : Cx} {st : Stmt} {δ : DEnv} {O O2 : Own} {B : Bk} {nx : DEnv → Own → Prop} (h : O.Perm O2) (q : DS X st δ O2 B nx) : DS X st δ O B nx := fun W tk G σ H D r s l => q W tk G σ H D r (s.perm h) (l.perm h)
def spExecE (a : Adr) : DSp := fun ds O E Q => ∃ c pa un sv ms h n kvs O' op, ds = [.ref c, dOpn op] ∧ Mel ms ∧ CI ms n h ∧ n ≤ 5000 ∧ okOpn op ∧ O = chO a.C_Choir a.C_Melody ms sh0 c pa un sv h kvs O' ∧
  (∀ e, workR ms h op = .bad e → E (xdA a e) O) ∧ (∀ v h' un', workR ms h op = .good v h' → Q v (chO a.C_Choir a.C_Melody ms sh0 c pa un' sv h' kvs O'))
theorem ok_Choir_executeE (T : Txt K mg a) : DFn P w K mg base 10 a.f_Choir_execute (spExecE a) := by
  refine T.Choir_execute.ok sc_Choir_execute (fun ds O E Q h => by obtain ⟨_, _, _, _, _, _, _, _, _, _, e, _⟩ := h; rw [e]; rfl) ?_
  intro X I S0 Df hr ds O E Q hsp; obtain ⟨rfl, rfl, rfl, rfl, rfl, pa⟩ := I; have S : Sc X _ c_Choir_execute := S0; clear S0
  obtain ⟨c, pa, un, sv, ms, h, n, kvs, O', op, rfl, hm, hI, hn, ho, rfl, q1, q2⟩ := hsp
  have hpl := hI.pl
  have h8 := hI.st.v8
  cases op with
  | enter sh =>
    show DSs X _ [some (.ref c), some (.tup [.str "enter", .int sh]), none, none, none] _ _ _
    refine dss_cons ?_
    refine ds_match ?_
    (with_reducible refine' de_name (by assumption) ?hi ?hd ?_; (case hi => (repeat (with_reducible constructor))); (case hd => (repeat (with_reducible constructor))))
    refine dmc_pair (by assumption) (by (repeat (with_reducible constructor))) (by (repeat (with_reducible constructor))) (fun _ => ⟨_, by (repeat (with_reducible constructor)), ?_⟩) (fun h => absurd rfl h)
    walk_at "go_Choir_execute"
    refine dc_fn (ok_Choir_enterE T) (hr.mono (by decide)) ⟨c, pa, un, sv, ms, sh0, h, kvs, O', sh, rfl, hm, by omega, h8, rfl, fun h1 => ?_, fun h1 h2 => ?_, fun h1 h2 h3 => ?_, fun h1 h2 h3 h4 un' => ?_⟩
    · refine q1 .number ?_
      simp only [workR, onR, if_neg h1, onW]
    · refine q1 .range ?_
      simp only [workR, onR, if_pos h1, h2, onW]
      rfl
    · refine q1 .many ?_
      simp only [workR, onR, if_pos h1, if_pos h2, if_pos (show 7 < h.st.vs.length by omega), onW]
    · walk_at "go_Choir_execute"
      refine q2 _ _ _ ?_
      simp only [workR, onR, if_pos h1, if_pos h2, if_neg (show ¬ 7 < h.st.vs.length by omega), onW]
  | leave k =>
    show DSs X _ [some (.ref c), some (.tup [.str "leave", .int k]), none, none, none] _ _ _
    refine dss_cons ?_
    refine ds_match ?_
    (with_reducible refine' de_name (by assumption) ?hi ?hd ?_; (case hi => (repeat (with_reducible constructor))); (case hd => (repeat (with_reducible constructor))))
    refine dmc_pair (by assumption) (by (repeat (with_reducible constructor))) (by (repeat (with_reducible constructor))) (fun h => absurd h (by decide)) (fun _ => ?_)
    refine dmc_pair (by assumption) (by (repeat (with_reducible constructor))) (by (repeat (with_reducible constructor))) (fun _ => ⟨_, by (repeat (with_reducible constructor)), ?_⟩) (fun h => absurd rfl h)
    walk_at "go_Choir_execute"
    refine dc_fn (ok_Choir_leaveE T) (hr.mono (by decide)) ⟨c, pa, un, sv, ms, sh0, h, kvs, O', k, rfl, by omega, h8, rfl, fun h1 => ?_, fun v vs' h1 un' => ?_⟩
    · refine q1 .voice ?_
      simp only [workR, onR, h1, onW]
    · walk_at "go_Choir_execute"
      refine q2 _ _ _ ?_
      simp only [workR, onR, h1, onW]
  | sing b =>
    show DSs X _ [some (.ref c), some (.tup [.str "sing", .int b]), none, none, none] _ _ _
    refine dss_cons ?_
    refine ds_match ?_
    (with_reducible refine' de_name (by assumption) ?hi ?hd ?_; (case hi => (repeat (with_reducible constructor))); (case hd => (repeat (with_reducible constructor))))
    refine dmc_pair (by assumption) (by (repeat (with_reducible constructor))) (by (repeat (with_reducible constructor))) (fun h => absurd h (by decide)) (fun _ => ?_)
    refine dmc_pair (by assumption) (by (repeat (with_reducible constructor))) (by (repeat (with_reducible constructor))) (fun h => absurd h (by decide)) (fun _ => ?_)
    refine dmc_pair (by assumption) (by (repeat (with_reducible constructor))) (by (repeat (with_reducible constructor))) (fun _ => ⟨_, by (repeat (with_reducible constructor)), ?_⟩) (fun h => absurd rfl h)
    walk_at "go_Choir_execute"
    have hb : 0 ≤ b ∧ b ≤ 501 := ho
    have sb0 := hI.st.b0
    have sb1 := hI.st.b1
    by_cases h5 : 500 < b
    · refine dc_fn (ok_Choir_singX T) (hr.mono (by decide)) ⟨c, _, _, _, b, rfl, rfl, .tail (.tail (.tail .head)), by omega, ?_⟩
      refine q1 .number ?_
      simp only [workR, onR, if_pos h5, onW]
    · refine dc_fn (ok_Choir_sing T) (hr.mono (by decide)) ⟨c, pa, un, sv, ms, sh0, h, kvs, O', b, rfl, fun v hv => (hI.st.vr v hv).2, hb.1, by omega, by omega, by omega, by omega, h8, rfl, fun un' => ?_⟩
      walk_at "go_Choir_execute"
      refine q2 _ _ _ ?_
      simp only [workR, onR, if_neg h5, onW]
  | undo =>
    show DSs X _ [some (.ref c), some (.tup [.str "undo"]), none, none, none] _ _ _
    refine dss_cons ?_
    refine ds_match ?_
    (with_reducible refine' de_name (by assumption) ?hi ?hd ?_; (case hi => (repeat (with_reducible constructor))); (case hd => (repeat (with_reducible constructor))))
    refine dmc_miss (by decide) ?_ (by simp)
    refine dmc_miss (by decide) ?_ (by simp)
    refine dmc_miss (by decide) ?_ (by simp)
    refine dmc_word (by assumption) (fun _ => ?_) (fun h => absurd rfl h)
    walk_at "go_Choir_execute"
    refine dc_fn (ok_Choir_undo T) (hr.mono (by decide)) ⟨c, pa, un, sv, ms, sh0, h, kvs, O', rfl, by omega, by omega, rfl, ?_⟩
    walk_at "go_Choir_execute"
    exact q2 _ _ _ rfl
  | redo =>
    show DSs X _ [some (.ref c), some (.tup [.str "redo"]), none, none, none] _ _ _
    refine dss_cons ?_
    refine ds_match ?_
    (with_reducible refine' de_name (by assumption) ?hi ?hd ?_; (case hi => (repeat (with_reducible constructor))); (case hd => (repeat (with_reducible constructor))))
    refine dmc_miss (by decide) ?_ (by simp)
    refine dmc_miss (by decide) ?_ (by simp)
    refine dmc_miss (by decide) ?_ (by simp)
    refine dmc_word (by assumption) (fun h => absurd h (by decide)) (fun _ => ?_)
    refine dmc_nil ?_
    walk_at "go_Choir_execute"
    refine dc_fn (ok_Choir_redo T) (hr.mono (by decide)) ⟨c, pa, un, sv, ms, sh0, h, kvs, O', rfl, by omega, by omega, rfl, ?_⟩
    walk_at "go_Choir_execute"
    exact q2 _ _ _ rfl
/-- the first so many work, the next fails -/
structure Fails (ms : List Note) (h0 : Ch) (ops : List Opn) (j : Nat) (e : Er) : Prop where
  run : ∃ vs h1, Run ms h0 (ops.take j) vs h1 ∧ ∃ op, ops[j]? = some op ∧ workR ms h1 op = .bad e
theorem Fails.at {ms : List Note} {h0 h2 : Ch} {ops : List Opn} {j i : Nat} {e : Er} {ws : List D} {op : Opn} (F : Fails ms h0 ops j e) (hi : i ≤ j) (r : Run ms h0 (ops.take i) ws h2) (ho : ops[i]? = some op) : (i < j ∧ ∃ v h3, workR ms h2 op = .good v h3) ∨ (i = j ∧ workR ms h2 op = .bad e) := by
  obtain ⟨vs, h1, R, op2, ho2, hw⟩ := F.run
  have hj := (List.getElem?_eq_some_iff.1 ho2).1
  rcases Nat.lt_or_eq_of_le hi with hlt | rfl
  · refine .inl ⟨hlt, ?_⟩
    have r1 : Run ms h0 ((ops.take j).take i) (vs.take i) h2 := by
      obtain ⟨h4, r3, _⟩ := R.split i
      have e1 : (ops.take j).take i = ops.take i := by rw [List.take_take, Nat.min_eq_left hi]
      rw [e1] at r3 ⊢
      obtain ⟨a, b⟩ := r.det r3
      rw [b]
      exact r3
    obtain ⟨v, h3, ew, _⟩ := R.step (i := i) (op := op) (by rw [List.getElem?_take_of_lt hlt]; exact ho) r1
    exact ⟨v, h3, ew⟩
  · refine .inr ⟨rfl, ?_⟩
    obtain ⟨_, b⟩ := r.det R
    rw [b]
    rw [ho] at ho2
    injection ho2 with ho2
    rw [ho2]
    exact hw
def spBatchE (a : Adr) : DSp := fun ds O E _ => ∃ c pa un sv ms h0 n kvs O' ops j e, ds = [.ref c, .lst (ops.map dOpn)] ∧ O = chO a.C_Choir a.C_Melody ms sh0 c pa un sv h0 kvs O' ∧ Mel ms ∧ CI ms n h0 ∧ n ≤ 1000 ∧ (∀ op ∈ ops, okOpn op) ∧ ops.length ≤ 1000 ∧ Fails ms h0 ops j e ∧ ∀ pa' un', E (xdA a e) (chO a.C_Choir a.C_Melody ms sh0 c pa' un' sv h0 kvs O')
theorem ok_Choir_batchE (T : Txt K mg a) (hw : a.wd = w) : DFn P w K mg base 12 a.f_Choir_batch (spBatchE a) := by
  refine T.Choir_batch.ok sc_Choir_batch (fun ds O E Q h => by obtain ⟨_, _, _, _, _, _, _, _, _, _, _, _, e, _⟩ := h; rw [e]; rfl) ?_
  intro X I S0 Df hr ds O E Q hsp; obtain ⟨rfl, rfl, rfl, rfl, rfl, pa⟩ := I; have S : Sc X _ c_Choir_batch := S0; clear S0
  have pasA := pa
  obtain ⟨c, pa, un, sv, ms, h0, n, kvs, O', ops, j, e0, rfl, rfl, hm, hI0, hn, ho, hl, hF, q⟩ := hsp
  refine dss_lessEP ?_
  have hjl : j < ops.length := by
    obtain ⟨_, _, _, op, h, _⟩ := hF.run
    exact (List.getElem?_eq_some_iff.1 h).1
  show DSs X _ [some (.ref c), some (.lst (ops.map dOpn)), none, none, none] _ _ _
  refine dss_cons ?_
  walk_at "go_Choir_batch"
  refine ⟨fun i δ' O1 => (∃ x y, δ' = [some (.ref c), some (.lst (ops.map dOpn)), x, y, none]) ∧ O1 = chO a.C_Choir a.C_Melody ms sh0 c pa un sv h0 kvs O', ⟨⟨_, _, rfl⟩, rfl⟩, ?_, ?_⟩
  · rintro i d δ' O1 hd ⟨⟨x, y, rfl⟩, rfl⟩
    obtain ⟨w, hw2, rfl⟩ := enumD_get hd
    obtain ⟨op, hop, rfl⟩ := map_get hw2
    have hi := (List.getElem?_eq_some_iff.1 hop).1
    walk_at "go_Choir_batch"
    refine dc_fn (ok_is_operation T hw) (hr.mono (by decide)) ⟨op, rfl, ?_⟩
    walk_at "go_Choir_batch"
    exact lessd ⟨⟨_, _, rfl⟩, rfl⟩
  · rintro δ' O1 ⟨⟨x, y, rfl⟩, rfl⟩
    walk_at "go_Choir_batch"
    refine dc_list_own (.tail (.tail .head)) (nl_own fun p2 => ?_)
    walk_at "go_Choir_batch"
    refine dc_list_own (.tail (.tail .head)) (nl_own fun u2 => ?_)
    walk_at "ho_Choir_batch"
    have hx := (er_cls T e0).ex
    refine ds_perm (O2 := chO a.C_Choir a.C_Melody ms sh0 c pa un sv h0 kvs ((u2, .lst (List.map (dCOp a.C_Melody ms) h0.undone)) :: (p2, .lst (List.map (dCOp a.C_Melody ms) h0.past)) :: O')) (perm4 (A := [_, _]) (B := [_, _, _, _])) ?_
    obtain ⟨OB, hOB⟩ : ∃ OB : Own, OB = (u2, .lst (List.map (dCOp a.C_Melody ms) h0.undone)) :: (p2, .lst (List.map (dCOp a.C_Melody ms) h0.past)) :: O' := ⟨_, rfl⟩
    rw [← hOB]
    refine ds_tryRe (Pe := fun x' δ' O1 => x' = xdA a e0 ∧ (δ' = [some (.ref c), some (.lst (ops.map dOpn)), x, y, some (D.tup [dCSt a.C_Melody ms h0.st, D.ref p2, D.ref u2])]) ∧ ∃ h2 un2, O1 = chO a.C_Choir a.C_Melody ms sh0 c pa un2 sv h2 kvs (OB)) (by assumption) Df pasA hr.u65 (show Nk ("CanonError" : Str) .globalImplicit c_Choir_batch.names by (repeat (with_reducible constructor))) T.CanonError.g ?_ ?_
    · intro X2 B2 Df; have T := (show Txt X2.K X2.mg a from by rw [B2.K, B2.mg]; assumption); have S2 := B2.sc; have hr := B2.room (by assumption)
      refine dss_one ?_
      refine ds_ret ?_
      refine de_lcEc [("operation", 3)] ⟨.function, [(".0", .local), ("operation", .local), ("self", .cell)], false, false, []⟩ S2 Df ?_
      walk_at "go_Choir_batch"
      refine ⟨fun i acc O1 => ∃ h2 un2 ws, O1 = chO a.C_Choir a.C_Melody ms sh0 c pa un2 sv h2 kvs (OB) ∧ acc = ws ∧ Run ms h0 (ops.take i) ws h2 ∧ i ≤ j, ⟨h0, un, [], rfl, rfl, by rw [List.take_zero]; exact .nil, Nat.zero_le _⟩, by rw [List.length_map]; omega, ?_, ?_⟩
      · rintro i d acc O1 hd ⟨h2, un2, ws, rfl, rfl, hR2, hij⟩ hlen
        obtain ⟨op, hop, rfl⟩ := map_get hd
        have hi := (List.getElem?_eq_some_iff.1 hop).1
        have hop1 := ho op (List.mem_of_getElem? hop)
        have hI : CI ms (n + (ops.take i).length) h2 := hR2.ci hm (fun o h => ho o (List.mem_of_mem_take h)) hI0
        have hI : CI ms (n + i) h2 := hI.mono (by simp; omega)
        walk_at "go_Choir_batch"
        refine dc_fn (ok_Choir_executeE T) (hr.mono (by decide)) ⟨c, pa, un2, sv, ms, h2, n + i, kvs, OB, op, rfl, hm, hI, by omega, hop1, rfl, fun e he => ?_, fun v h' un' hv => ?_⟩
        · rcases hF.at hij hR2 hop with ⟨_, v, h3, e3⟩ | ⟨rfl, e3⟩
          · rw [he] at e3
            exact nomatch e3
          · rw [he] at e3
            injection e3 with e3
            subst e3
            exact ⟨hx, rfl, rfl, h2, un2, rfl⟩
        · rcases hF.at hij hR2 hop with ⟨hlt, _⟩ | ⟨rfl, e3⟩
          · exact ⟨h', un', acc ++ [v], rfl, rfl, by rw [List.take_add_one, hop]; exact hR2.snoc hv, hlt⟩
          · rw [hv] at e3
            exact nomatch e3
      · rintro acc O1 ⟨h2, un2, ws, rfl, rfl, hR2, hij⟩
        rw [List.length_map] at hij
        exact absurd hij (by omega)
    · rintro Z x' y' δ' O1 Su ⟨rfl, rfl, h2, un2, rfl⟩
      have TZ : Txt Z.K Z.mg a := by rw [Su.K, Su.mg]; exact T
      have Su1 := Su.toSuit
      subst hOB
      refine ds_asg ?_ (hw := by with_unfolding_all rfl)
      refine de_nameZ Su1 (by (repeat (with_reducible constructor))) (by (repeat (with_reducible constructor))) ?_
      refine dg_tupZ Su.hot rfl ?_
      refine dgs_cons (dg_fld ?_)
      refine de_nameZ Su1 (by (repeat (with_reducible constructor))) (by (repeat (with_reducible constructor))) ?_
      refine ⟨c, _, _, _, rfl, .tail (.tail (.tail .head)), TZ.Choir.cl, TZ.n_Choir_now, (by show (6 : Nat) < 900; decide), .tail (.tail (.tail .head)), ?_⟩
      refine dgs_cons (dg_fld ?_)
      refine de_nameZ Su1 (by (repeat (with_reducible constructor))) (by (repeat (with_reducible constructor))) ?_
      refine ⟨c, _, _, _, rfl, .tail (.tail (.tail .head)), TZ.Choir.cl, TZ.n_Choir_past, (by show (6 : Nat) < 900; decide), .tail (.tail (.tail .head)), ?_⟩
      refine dgs_cons (dg_fld ?_)
      refine de_nameZ Su1 (by (repeat (with_reducible constructor))) (by (repeat (with_reducible constructor))) ?_
      refine ⟨c, _, _, _, rfl, .tail (.tail (.tail .head)), TZ.Choir.cl, TZ.n_Choir_undone, (by show (6 : Nat) < 900; decide), .tail (.tail (.tail .head)), ?_⟩
      refine dgs_nil ?_
      have z := q p2 u2
      exact ⟨_, _, (perm4 (A := [_]) (B := [_, _])).trans (List.Perm.append_left [_, _, _] (perm4 (A := [_]) (B := [_, _]))), .cons _ (.cons _ (.refl _)), z⟩
end
set_option hygiene false in
local macro_rules | `(tactic| walk_at "lm_Choir_batch") => `(tactic| (first
  | (with_reducible refine de_lcMc [("operation", 3)] ⟨.function, [(".0", .local), ("operation", .local), ("self", .cell)], false, false, []⟩ (by assumption) ?_)))
set_option hygiene false in
local macro_rules | `(tactic| walk_at "sm_Choir_batch") => `(tactic| (first
  | fail ))
set_option hygiene false in
local macro_rules | `(tactic| walk_at "st_Choir_batch") => `(tactic| (with_reducible refine as_DI ?_; (first | (with_reducible refine di_seq ?_))))
set_option hygiene false in
local macro_rules | `(tactic| walk_at "st_Choir_batch") => `(tactic| walk_at "g1")
set_option hygiene false in
local macro_rules | `(tactic| walk_at "st_Choir_batch") => `(tactic| (with_reducible refine own_out ?_))
set_option hygiene false in
local macro_rules | `(tactic| walk_at "st_Choir_batch") => `(tactic| (with_reducible refine as_NL ?_; (first | fail )))
set_option hygiene false in
local macro_rules | `(tactic| walk_at "st_Choir_batch") => `(tactic| (with_reducible refine as_DE ?_; (first | (with_reducible refine de_lcXc [("operation", 3)] ⟨.function, [(".0", .local), ("operation", .local), ("self", .cell)], false, false, []⟩ (by assumption) ?_))))
set_option hygiene false in
local macro_rules | `(tactic| walk_at "st_Choir_batch") => `(tactic| (with_reducible refine as_DS ?_; (first | (with_reducible refine' ds_setLcXc (hl := ?hl) [("operation", 3)] ⟨.function, [(".0", .local), ("operation", .local), ("self", .cell)], false, false, []⟩ (by assumption) ?hi ?_; (case hl => ((repeat (with_reducible constructor)); done)); (case hi => (repeat (with_reducible constructor)))) | (with_reducible refine' ds_setCD (by assumption) (by assumption) ?hi ?_ ?hl; (case hl => ((repeat (with_reducible constructor)); done)); (case hi => (repeat (with_reducible constructor)))) | (with_reducible refine ds_forL (by assumption) Df.po ?_))))
set_option hygiene false in
local macro_rules | `(tactic| walk_at "go_Choir_batch") => `(tactic| (repeat (walk_at "st_Choir_batch")))
section
variable {P : Program} {w : World} {K : PySem.W.Frag} {mg : Str → Option Value} {base : Heap} {a : Adr}
theorem ds_try0B {X : Cx} {N : List Str} {sc : Scope} {δ : DEnv} {O : Own} {pos : Pos} {body : List Stmt} {h0 : ExceptHandler} {hs : List ExceptHandler} {B : Bk} {nx : DEnv → Own → Prop} (S : Sc X N sc) (d : Df X) (h : ∀ X2, Blk X X2 N sc → Df X2 → DSs X2 body δ O { B with ex := fun _ _ _ => False } nx) : DS X (.Try body (h0 :: hs) [] [] pos) δ O B nx := ds_try0 (h X.nox ⟨S.nox, rfl, rfl, rfl, rfl, rfl, rfl⟩ d.nox)
def spBatch (a : Adr) : DSp := fun ds O E Q => ∃ c pa un sv ms h0 n kvs O' ops vs h, ds = [.ref c, .lst (ops.map dOpn)] ∧ O = chO a.C_Choir a.C_Melody ms sh0 c pa un sv h0 kvs O' ∧ Mel ms ∧ CI ms n h0 ∧ n ≤ 1000 ∧ (∀ op ∈ ops, okOpn op) ∧ ops.length ≤ 1000 ∧ Run ms h0 ops vs h ∧ ∀ un', Q (.lst vs) (chO a.C_Choir a.C_Melody ms sh0 c pa un' sv h kvs O')
theorem ok_Choir_batch (T : Txt K mg a) (hw : a.wd = w) : DFn P w K mg base 12 a.f_Choir_batch (spBatch a) := by
  refine T.Choir_batch.ok sc_Choir_batch (fun ds O E Q h => by obtain ⟨_, _, _, _, _, _, _, _, _, _, _, _, e, _⟩ := h; rw [e]; rfl) ?_
  intro X I S0 Df hr ds O E Q hsp; obtain ⟨rfl, rfl, rfl, rfl, rfl, pa⟩ := I; have S : Sc X _ c_Choir_batch := S0; clear S0
  obtain ⟨c, pa, un, sv, ms, h0, n, kvs, O', ops, vs, h, rfl, rfl, hm, hI0, hn, ho, hl, hR, q⟩ := hsp
  show DSs X _ [some (.ref c), some (.lst (ops.map dOpn)), none, none, none] _ _ _
  refine dss_cons ?_
  walk_at "go_Choir_batch"
  refine ⟨fun i δ' O1 => (∃ x y, δ' = [some (.ref c), some (.lst (ops.map dOpn)), x, y, none]) ∧ O1 = chO a.C_Choir a.C_Melody ms sh0 c pa un sv h0 kvs O', ⟨⟨_, _, rfl⟩, rfl⟩, ?_, ?_⟩
  · rintro i d δ' O1 hd ⟨⟨x, y, rfl⟩, rfl⟩
    obtain ⟨w, hw2, rfl⟩ := enumD_get hd
    obtain ⟨op, hop, rfl⟩ := map_get hw2
    have hi := (List.getElem?_eq_some_iff.1 hop).1
    walk_at "go_Choir_batch"
    refine dc_fn (ok_is_operation T hw) (hr.mono (by decide)) ⟨op, rfl, ?_⟩
    walk_at "go_Choir_batch"
    exact lessd ⟨⟨_, _, rfl⟩, rfl⟩
  · rintro δ' O1 ⟨⟨x, y, rfl⟩, rfl⟩
    walk_at "go_Choir_batch"
    refine dc_list_own (.tail (.tail .head)) (nl_fz ?_)
    walk_at "go_Choir_batch"
    refine dc_list_own (.tail .head) (nl_fz ?_)
    walk_at "go_Choir_batch"
    refine ds_try0B (by assumption) Df ?_
    intro X2 B2 Df; have T := (show Txt X2.K X2.mg a from by rw [B2.K, B2.mg]; assumption); have S2 := B2.sc; have hr := B2.room (by assumption)
    refine dss_one ?_
    refine ds_ret ?_
    walk_at "lm_Choir_batch"
    walk_at "go_Choir_batch"
    refine ⟨fun i acc O1 => ∃ h2 un2, O1 = chO a.C_Choir a.C_Melody ms sh0 c pa un2 sv h2 kvs O' ∧ acc = vs.take i ∧ Run ms h0 (ops.take i) (vs.take i) h2, ⟨h0, un, rfl, rfl, by rw [List.take_zero, List.take_zero]; exact .nil⟩, by rw [List.length_map]; omega, ?_, ?_⟩
    · rintro i d acc O1 hd ⟨h2, un2, rfl, rfl, hR2⟩ hlen
      obtain ⟨op, hop, rfl⟩ := map_get hd
      have hi := (List.getElem?_eq_some_iff.1 hop).1
      have hop1 := ho op (List.mem_of_getElem? hop)
      obtain ⟨v, h3, ew, hv, hR3⟩ := hR.step hop hR2
      have hI : CI ms (n + (ops.take i).length) h2 := hR2.ci hm (fun o h => ho o (List.mem_of_mem_take h)) hI0
      have hI : CI ms (n + i) h2 := hI.mono (by simp; omega)
      walk_at "go_Choir_batch"
      refine dc_fn (ok_Choir_execute T) (hr.mono (by decide)) ⟨c, pa, un2, sv, ms, h2, n + i, kvs, O', op, rfl, hm, hI, by omega, hop1, rfl, v, h3, ew, fun un' => ?_⟩
      exact ⟨h3, un', rfl, by rw [List.take_add_one, hv]; rfl, hR3⟩
    · rintro acc O1 ⟨h2, un2, rfl, rfl, hR2⟩
      rw [List.length_map] at hR2 ⊢
      have e1 := hR.last hR2
      subst e1
      rw [show vs.take ops.length = vs by rw [← hR.len, List.take_length]]
      exact nl_fz (q un2)
end
set_option hygiene false in
local macro_rules | `(tactic| walk_at "st_law_new") => `(tactic| (with_reducible refine as_DI ?_; (first | (with_reducible refine di_seq ?_))))
set_option hygiene false in
local macro_rules | `(tactic| walk_at "st_law_new") => `(tactic| walk_at "g1")
set_option hygiene false in
local macro_rules | `(tactic| walk_at "st_law_new") => `(tactic| (with_reducible refine own_out ?_))
set_option hygiene false in
local macro_rules | `(tactic| walk_at "st_law_new") => `(tactic| (with_reducible refine as_NL ?_; (first | (with_reducible refine nl_fz ?_))))
set_option hygiene false in
local macro_rules | `(tactic| walk_at "st_law_new") => `(tactic| (with_reducible refine as_DS ?_; (first | (with_reducible refine' ds_setCD (by assumption) (by assumption) ?hi ?_ ?hl; (case hl => ((repeat (with_reducible constructor)); done)); (case hi => (repeat (with_reducible constructor)))) | (with_reducible refine ds_forL (by assumption) Df.po ?_))))
set_option hygiene false in
local macro_rules | `(tactic| walk_at "go_law_new") => `(tactic| (repeat (walk_at "st_law_new")))
section
variable {P : Program} {w : World} {K : PySem.W.Frag} {mg : Str → Option Value} {base : Heap} {a : Adr}
theorem okN_es2 {x : Str} {i : Int} (h : plainD (.str x) = true) : okN 1 (.tup [.str x, .int i]) := okN_tup (n := 0) fun d hd => by
  rcases List.mem_cons.1 hd with rfl | hd
  · exact ⟨h, Nat.le_refl _⟩
  · rw [List.mem_singleton.1 hd]; exact okN_int
theorem ok_law_new (T : Txt K mg a) : DFn P w K mg base 5 a.f_law_new (fun ds O E Q => ∃ r, ds = [.ref r] ∧ At r .src O ∧ ∀ ms, Mel ms → Q (dW ms ⟨⟨0, [], 0, 0⟩, [], []⟩) O) := by
  refine T.law_new.ok sc_law_new (fun ds O E Q h => by obtain ⟨_, e, _⟩ := h; rw [e]; rfl) ?_
  intro X I S0 Df hr ds O E Q hsp; obtain ⟨rfl, rfl, rfl, rfl, rfl, pa⟩ := I; have S : Sc X _ c_law_new := S0; clear S0
  obtain ⟨r, rfl, ha, q⟩ := hsp
  show DSs X _ [some (.ref r)] O _ _
  refine dss_cons ?_
  walk_at "go_law_new"
  refine dc_fn (ok_law_notes T) (hr.mono (by decide)) ⟨r, 6, rfl, by decide, by decide, ha, fun ms hm h6 => ?_⟩
  walk_at "go_law_new"
  exact q ms hm
theorem Fails.snoc {ms : List Note} {h0 : Ch} {ops : List Opn} {j : Nat} {e : Er} (F : Fails ms h0 ops j e) (op : Opn) : Fails ms h0 (ops ++ [op]) j e := by
  obtain ⟨vs, h1, R, op2, ho, hw⟩ := F.run
  have hj := (List.getElem?_eq_some_iff.1 ho).1
  exact ⟨vs, h1, by rw [List.take_append_of_le_length (by omega)]; exact R, op2, by rw [List.getElem?_append_left hj]; exact ho, hw⟩
theorem Fails.new {ms : List Note} {h0 h1 : Ch} {ops : List Opn} {vs : List D} {e : Er} {op : Opn} (R : Run ms h0 ops vs h1) (hw : workR ms h1 op = .bad e) : Fails ms h0 (ops ++ [op]) ops.length e :=
  ⟨vs, h1, by rw [List.take_left]; exact R, op, by rw [List.getElem?_append_right (Nat.le_refl _), Nat.sub_self]; rfl, hw⟩
theorem okN_ops17 (ops : List Opn) : okN 2 (.lst (ops.map dOpn)) := okN_lst fun d hd => by obtain ⟨o, _, rfl⟩ := List.mem_map.1 hd; exact okN_opn o
theorem noBl_ops17 (ops : List Opn) : noBl (.lst (ops.map dOpn)) = true := noBls_of fun d hd => by
  obtain ⟨o, _, rfl⟩ := List.mem_map.1 hd
  cases o <;> rfl
theorem Run.eqd17 {ms : List Note} {h h2 : Ch} {ops : List Opn} {vs : List D} (r : Run ms h ops vs h2) : ∀ v ∈ vs, Eqd 0 v := by
  induction r with
  | nil => exact fun v hv => (nomatch hv)
  | cons e _ ih =>
    intro v hv
    rcases List.mem_cons.1 hv with rfl | hv
    · exact workR_val e
    · exact ih v hv
end
set_option hygiene false in
local macro_rules | `(tactic| walk_at "st_law") => `(tactic| (with_reducible refine as_DI ?_; (first | (with_reducible refine di_seq ?_))))
set_option hygiene false in
local macro_rules | `(tactic| walk_at "st_law") => `(tactic| walk_at "g1")
set_option hygiene false in
local macro_rules | `(tactic| walk_at "st_law") => `(tactic| (with_reducible refine own_out ?_))
set_option hygiene false in
local macro_rules | `(tactic| walk_at "st_law") => `(tactic| (with_reducible refine as_NL ?_; (first | (with_reducible refine nl_fzc ?_) )))
set_option hygiene false in
local macro_rules | `(tactic| walk_at "st_law") => `(tactic| (with_reducible refine as_DS ?_; (first | (with_reducible refine' ds_setCD (by assumption) (by assumption) ?hi ?_ ?hl; (case hl => ((repeat (with_reducible constructor)); done)); (case hi => (repeat (with_reducible constructor)))) | (with_reducible refine ds_forL (by assumption) Df.po ?_))))
set_option hygiene false in
local macro_rules | `(tactic| walk_at "go_law") => `(tactic| (repeat (walk_at "st_law")))
set_option hygiene false in
local macro_rules | `(tactic| walk_at "hs_law") => `(tactic| (with_reducible refine as_DI ?_; (first | (with_reducible refine di_seq ?_))))
set_option hygiene false in
local macro_rules | `(tactic| walk_at "hs_law") => `(tactic| walk_at "h1")
set_option hygiene false in
local macro_rules | `(tactic| walk_at "hs_law") => `(tactic| (with_reducible refine own_out ?_))
set_option hygiene false in
local macro_rules | `(tactic| walk_at "hs_law") => `(tactic| (with_reducible refine as_NL ?_; (first | (with_reducible refine nl_fzc ?_) )))
set_option hygiene false in
local macro_rules | `(tactic| walk_at "hs_law") => `(tactic| (with_reducible refine as_DS ?_; (first | (with_reducible refine' ds_setCD (by assumption) (by assumption) ?hi ?_ ?hl; (case hl => ((repeat (with_reducible constructor)); done)); (case hi => (repeat (with_reducible constructor)))) | (with_reducible refine ds_forL (by assumption) Df.po ?_))))
set_option hygiene false in
local macro_rules | `(tactic| walk_at "ho_law") => `(tactic| (repeat (walk_at "hs_law")))
section
variable {P : Program} {w : World} {K : PySem.W.Frag} {mg : Str → Option Value} {base : Heap} {a : Adr}
set_option maxHeartbeats 40000000 in
theorem ok_law (T : Txt K mg a) (hw : a.wd = w) (TB : LamX.TabB base mg a.cA_law a.PA_law) : BodyOkL P w K mg base 29 ["_law_script", "_law_d", "_law_w", "_law_choir", "_law_turn", "_law_undone", "_law_before", "_law_operations", "_law_results", "_law_bad", "_law_k", "_law_found", "_law_given", "_law_again"] s_law a.cA_law lamQ (spLawL a.PA_law lamQ) := by
  -- intro X I S0 Df hr ds O E Q hsp; obtain ⟨rfl, rfl, rfl, rfl, rfl, pa⟩ := I; have S : Sc X _ c_law := S0; clear S0
  intro X I S0 Df hr ec eq ds O E Q hsp; obtain ⟨rfl, rfl, rfl, rfl, rfl, pa⟩ := I; have S : Sc X _ c_law := S0; clear S0
  obtain ⟨ns, rfl, hl, rfl, q⟩ := hsp
  clear pa
  show DSs X _ [some (.fz (ns.map D.int)), none, none, none, none, none, none, none, none, none, none, none, none, none] [(a.PA_law, .tab lamQ)] _ _
  refine dss_cons ?_
  walk_at "go_law"
  refine dc_fn (ok_random T) (hr.mono (by decide)) ⟨ns, 17, rfl, hl, fun r => ?_⟩
  walk_at "go_law"
  refine dc_fn (ok_law_new T) (hr.mono (by decide)) ⟨r, rfl, .head, fun ms hm => ?_⟩
  walk_at "go_law"
  refine dc_fn (ok_law_melody T) (hr.mono (by decide)) ⟨ms, rfl, hm, ?_⟩
  walk_at "go_law"
  refine dc_make (T.Choir.make T.Choir_init.mt) (ok_Choir_init0 T) (hr.mono (by decide)) fun c => ⟨rfl, c, ms, [1, 2, 6, 10, 11], [(r, .src), (a.PA_law, .tab lamQ)], rfl, sharp_default, rfl, fun pa0 un0 sv => ⟨rfl, .inr ?_⟩⟩
  walk_at "go_law"
  refine ⟨fun i δ' O1 => ∃ h pa1 un1 x4 x5 x6 x7 x8 x9 x10 x11 x12 x13, δ' = [some (.fz (ns.map D.int)), some (.ref r), some (dW ms h), some (.ref c), x4, x5, x6, x7, x8, x9, x10, x11, x12, x13] ∧ O1 = chO a.C_Choir a.C_Melody ms sh0 c pa1 un1 sv h [] [(r, .src), (a.PA_law, .tab lamQ)] ∧ CI ms (9 * i) h, ⟨_, pa0, un0, _, _, _, _, _, _, _, _, _, _, rfl, rfl, CI.start ms⟩, ?_, ?_⟩
  · rintro i d δ' O1 hd ⟨h0, pa1, un1, x4, x5, x6, x7, x8, x9, x10, x11, x12, x13, rfl, rfl, hI⟩
    obtain ⟨rfl, hi⟩ := dInts_get hd
    have hi : i < 4 := by omega
    have hpl := hI.pl
    walk_at "go_law"
    refine dc_fn (ok_law_worked T) (hr.mono (by decide)) ⟨ms, h0, 9 * i, .undo, rfl, hm, hI, by omega, trivial, ?_⟩
    rw [show dWr ms (workR ms h0 .undo) = .tup [.str "", .bl (!h0.past.isEmpty), dW ms h0.undo] from rfl]
    walk_at "ho_law"
    refine dss_via (fun δ2 O2 => ∃ h1, δ2 = [some (.fz (ns.map D.int)), some (.ref r), some (dW ms h1), some (.ref c), some (.int ((0 : Int) + (i : Nat))), some (.tup [.str "", .bl (!h0.past.isEmpty), dW ms h0.undo]), x6, x7, x8, x9, x10, x11, x12, x13] ∧ O2 = chO a.C_Choir a.C_Melody ms sh0 c pa1 un1 sv h1 [] [(r, .src), (a.PA_law, .tab lamQ)] ∧ CI ms (9 * i) h1) ?_ ?_
    · walk_at "go_law"
      intro v v0 v1
      walk_at "go_law"
      (first | with_reducible refine br_d (fun h => ?_) (fun h => ?_) | with_reducible refine rb_d (fun h => ?_) (fun h => ?_) | with_reducible refine br_nd (fun h => ?_) (fun h => ?_) | with_reducible refine rb_nd (fun h => ?_) (fun h => ?_))
      · walk_at "go_law"
        refine dc_fn (ok_Choir_undo T) (hr.mono (by decide)) ⟨c, pa1, un1, sv, ms, sh0, h0, [], _, rfl, by omega, by omega, rfl, ?_⟩
        walk_at "go_law"
        refine dc_eqs T hr (by decide) (by decide) (eqd_bl (n := 0) _) ?_
        walk_at "go_law"
        exact ⟨h0.undo, rfl, rfl, hI.undo⟩
      · walk_at "go_law"
        exact ⟨h0, rfl, rfl, hI⟩
    rintro δ2 O2 ⟨h1, rfl, rfl, hI1⟩
    clear hI hpl
    walk_at "go_law"
    refine nl_own fun fo => ?_
    walk_at "go_law"
    refine nl_fz ?_
    walk_at "go_law"
    intro u u0 u1
    walk_at "go_law"
    obtain ⟨lim, el, hl1, hl2⟩ := at_in (xs := [4, 8]) (Q := fun x => 1 ≤ x ∧ x ≤ 8) u0 (by simpa using u1) (by simp)
    refine dx_lst el ?_
    clear el u0 u1
    walk_at "go_law"
    intro m m0 m1
    walk_at "go_law"
    refine ⟨fun k δ' O1 => ∃ (ops : List Opn) (vs : List D) (h2 : Ch) (bad : D) (xk xf : Option D), δ' = [some (.fz (ns.map D.int)), some (.ref r), some (dW ms h2), some (.ref c), some (.int ((0 : Int) + (i : Nat))), some (.tup [.str "", .bl (!h0.past.isEmpty), dW ms h0.undo]), some (dW ms h1), some (.ref fo), some (.lst vs), some bad, xk, xf, x12, x13] ∧ O1 = (fo, .lst (ops.map dOpn)) :: chO a.C_Choir a.C_Melody ms sh0 c pa1 un1 sv h1 [] [(r, .src), (a.PA_law, .tab lamQ)] ∧ ops.length = k ∧ (∀ op ∈ ops, okOpn op) ∧ CI ms (9 * i + k) h2 ∧ ((bad = .non ∧ Run ms h1 ops vs h2) ∨ ∃ e j, bad = e.d ∧ Fails ms h1 ops j e), ⟨[], [], h1, .non, _, _, rfl, rfl, rfl, fun o h => (nomatch h), hI1, .inl ⟨rfl, .nil⟩⟩, ?_, ?_⟩
    · rintro k d δ' O1 hd ⟨ops, vs, h2, bad, xk, xf, rfl, rfl, hok, hops, hI2, hB⟩
      obtain ⟨rfl, hk⟩ := dInts_get hd
      have hk : k < 7 := by omega
      have hx0 := hI2.st.x0
      have hx1 := hI2.st.x1
      have hpl2 := hI2.pl
      walk_at "go_law"
      refine dc_fn (ok_law_operation T) (hr.mono (by decide)) ⟨r, h2.st.nxt, rfl, hx0, by omega, (by (repeat (first | with_reducible assumption | with_reducible constructor))), fun op ho => ?_⟩
      have hops2 : ∀ o ∈ ops ++ [op], okOpn o := fun o h => by
        rcases List.mem_append.1 h with h | h
        · exact hops o h
        · rw [List.mem_singleton.1 h]; exact ho
      have ee : ops.map dOpn ++ [dOpn op] = (ops ++ [op]).map dOpn := by simp
      rcases hB with ⟨rfl, hR⟩ | ⟨e, j, rfl, hF⟩
      · walk_at "go_law"
        refine dx_own .head (DL.atI_last _ _) ?_
        walk_at "go_law"
        refine dc_fn (ok_law_worked T) (hr.mono (by decide)) ⟨ms, h2, 9 * i + k, op, rfl, hm, hI2, by omega, ho, ?_⟩
        cases hW : workR ms h2 op with
        | bad e =>
          have he : ∃ z, e.d = .tup [.str z, .int 0] ∧ z ≠ "" := by
            rcases workR_bad hW with rfl | rfl | rfl | rfl <;> exact ⟨_, rfl, by decide⟩
          obtain ⟨z, hz, hz0⟩ := he
          rw [show dWr ms (.bad e) = .tup [.str z, .int 0] from hz]
          walk_at "go_law"
          refine ⟨fun _ => ?_, fun h => absurd h (by simp [hz0])⟩
          walk_at "go_law"
          rw [← hz]
          exact lessd ⟨ops ++ [op], vs, h2, e.d, _, _, rfl, by rw [ee], by simp; omega, hops2, hI2.mono (by omega), .inr ⟨e, ops.length, rfl, Fails.new hR hW⟩⟩
        | good v h3 =>
          rw [show dWr ms (.good v h3) = .tup [.str "", v, dW ms h3] from rfl]
          have hvl := hR.len
          walk_at "go_law"
          refine db_cat (by simp; omega) (nl_fz ?_)
          walk_at "go_law"
          exact lessd ⟨ops ++ [op], vs ++ [v], h3, .non, _, _, rfl, by rw [ee], by simp; omega, hops2, hI2.next hm ho hW, .inl ⟨rfl, hR.snoc hW⟩⟩
      · have he : ∃ z, e.d = .tup [.str z, .int 0] := by
          obtain ⟨_, _, _, _, _, hw3⟩ := hF.run
          rcases workR_bad hw3 with rfl | rfl | rfl | rfl <;> exact ⟨_, rfl⟩
        obtain ⟨z, hz⟩ := he
        rw [hz]
        walk_at "go_law"
        rw [← hz]
        exact lessd ⟨ops ++ [op], vs, h2, e.d, _, _, rfl, by rw [ee], by simp; omega, hops2, hI2.mono (by omega), .inr ⟨e, j, rfl, hF.snoc op⟩⟩
    rintro δ' O1 ⟨ops, vs, h2, bad, xk, xf, rfl, rfl, hok, hops, hI2, hB⟩
    rw [dInts_length] at hok hI2
    have hol : ops.length ≤ 7 := by omega
    refine' dss_fz _ ?gm ?gd ?gf ?_; (case gm => (repeat (first | with_reducible exact At.head | with_reducible assumption | with_reducible apply At.tail))); (case gd => (repeat (first | with_reducible exact Del.head | with_reducible apply Del.tail))); (case gf => (repeat (first | with_reducible exact Fz.nil | with_reducible apply Fz.swap | with_reducible apply Fz.keep)))
    refine dss_cons ?_
    walk_at "ho_law"
    refine dc_list (nl_fz ?_)
    walk_at "ho_law"
    refine dss_via (fun δ2 O2 => ∃ h3 pa3 un3, δ2 = [some (.fz (ns.map D.int)), some (.ref r), some (dW ms h3), some (.ref c), some (.int ((0 : Int) + (i : Nat))), some (.tup [.str "", .bl (!h0.past.isEmpty), dW ms h0.undo]), some (dW ms h1), some (.lst (ops.map dOpn)), some (.lst vs), some bad, xk, xf, some (.lst (ops.map dOpn)), x13] ∧ O2 = chO a.C_Choir a.C_Melody ms sh0 c pa3 un3 sv h3 [] [(r, .src), (a.PA_law, .tab lamQ)] ∧ CI ms (9 * i + 7) h3) ?_ ?_
    · rcases hB with ⟨rfl, hR⟩ | ⟨e, j, rfl, hF⟩
      · walk_at "go_law"
        refine dc_fn (ok_Choir_batch T hw) (hr.mono (by decide)) ⟨c, pa1, un1, sv, ms, h1, 9 * i, [], _, ops, vs, h2, rfl, rfl, hm, hI1, by omega, hops, by omega, hR, fun un3 => ?_⟩
        walk_at "go_law"
        refine dc_eqs T (n := 1) hr (by decide) (by decide) (eqd_lst (n := 0) (fun v hv => hR.eqd17 v hv) (by rw [hR.len]; omega)) ?_
        walk_at "go_law"
        exact ⟨h2, pa1, un3, rfl, rfl, hI2.mono (by omega)⟩
      · have he : ∃ z, e.d = .tup [.str z, .int 0] ∧ okN 1 (.tup [.str z, .int 0]) := by
          obtain ⟨_, _, _, _, _, hw3⟩ := hF.run
          rcases workR_bad hw3 with rfl | rfl | rfl | rfl <;> exact ⟨_, rfl, okN_es2 (er_strs _ (by simp))⟩
        obtain ⟨z, hz, hzk⟩ := he
        rw [hz]
        walk_at "go_law"
        intro X2 B2; have T := (show Txt X2.K X2.mg a from by rw [B2.K, B2.mg]; assumption); have S2 := B2.sc; have hr := B2.room
        walk_at "go_law"
        refine dc_fn (ok_Choir_batchE T (by rw [B2.w]; exact hw)) (hr.mono (by decide)) ⟨c, pa1, un1, sv, ms, h1, 9 * i, [], _, ops, j, e, rfl, rfl, hm, hI1, by omega, hops, by omega, hF, fun pa3 un3 => ?_⟩
        refine ⟨e, rfl, ?_⟩
        rw [hz]
        have T : Txt X.K X.mg a := (by assumption); have hr : Room _ X.A := (by assumption); have Df : DL.Df X := (by assumption)
        walk_at "go_law"
        refine db_neSame hr hzk rfl ?_
        walk_at "go_law"
        exact ⟨h1, pa3, un3, rfl, rfl, hI1.mono (by omega)⟩
    rintro δ2 O2 ⟨h3, pa3, un3, rfl, rfl, hI3⟩
    have hpl3 := hI3.pl
    clear hB hI2
    walk_at "go_law"
    refine db_neSame hr (okN_ops17 _) (noBl_ops17 _) ?_
    walk_at "go_law"
    refine dc_fn (ok_law_stands T) (hr.mono (by decide)) ⟨c, pa3, un3, sv, ms, h3, 9 * i + 7, [], _, rfl, hI3, by omega, rfl, ?_⟩
    walk_at "go_law"
    refine dc_fn (ok_law_worked T) (hr.mono (by decide)) ⟨ms, h3, 9 * i + 7, .redo, rfl, hm, hI3, by omega, trivial, ?_⟩
    rw [show dWr ms (workR ms h3 .redo) = .tup [.str "", .bl (!h3.undone.isEmpty), dW ms h3.redo] from rfl]
    walk_at "go_law"
    intro y y0 y1
    walk_at "go_law"
    (first | with_reducible refine br_d (fun h => ?_) (fun h => ?_) | with_reducible refine rb_d (fun h => ?_) (fun h => ?_) | with_reducible refine br_nd (fun h => ?_) (fun h => ?_) | with_reducible refine rb_nd (fun h => ?_) (fun h => ?_))
    · walk_at "go_law"
      refine dc_fn (ok_Choir_redo T) (hr.mono (by decide)) ⟨c, pa3, un3, sv, ms, sh0, h3, [], _, rfl, by omega, by omega, rfl, ?_⟩
      walk_at "go_law"
      refine dc_eqs T hr (by decide) (by decide) (eqd_bl (n := 0) _) ?_
      walk_at "go_law"
      exact lessd ⟨h3.redo, pa3, un3, _, _, _, _, _, _, _, _, _, _, rfl, rfl, hI3.redo.mono (by omega)⟩
    · walk_at "go_law"
      exact lessd ⟨h3, pa3, un3, _, _, _, _, _, _, _, _, _, _, rfl, rfl, hI3.mono (by omega)⟩
  · rintro δ' O1 ⟨h, pa1, un1, x4, x5, x6, x7, x8, x9, x10, x11, x12, x13, rfl, rfl, hI⟩
    walk_at "go_law"
    exact q _
end
end KK
end
section
set_option maxRecDepth 100000
set_option maxHeartbeats 4000000
open PySem PySem.W PyProof.Rows in
set_option maxRecDepth 100000 in
set_option maxHeartbeats 0 in
theorem PySem.Challenge.cw_canonvoices_k17_batches_of_operations_holds : PySem.Challenge.rw_canonvoices_k17_batches_of_operations.Holds := by
  refine KK.fin_of ?_
  intro P w K mg base a T hw TB
  exact KK.ok_law T hw TB
end
